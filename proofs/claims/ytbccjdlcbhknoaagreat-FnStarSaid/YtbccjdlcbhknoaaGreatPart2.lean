/- A small language for the functions of this claim, its soundness, contracts. -/
import Derived.Test.YtbccjdlcbhknoaaGreatPart1
set_option linter.unusedSimpArgs false
set_option linter.unusedVariables false
set_option maxRecDepth 100000
set_option maxHeartbeats 16000000
section
namespace Go.Ml
abbrev bi (z : Int) : Bi:=⟨decide (z < 0),mk z.natAbs⟩
abbrev sg (neg : Bool) (n : Nat) : Int:=if neg = true then -(n : Int) else n
theorem U7 (n : Nat) : n < 1000000000 ^ (mk n).length:=aX.1 (Nat.le_refl _)
theorem DU {m n : Nat} (h : m ≤ n) : (mk m).length ≤ (mk n).length:=aX.2 (Nat.lt_of_le_of_lt h (U7 n))
theorem BL (m n : Nat) : (mk (m * n)).length ≤ (mk m).length + (mk n).length:=by
 rw [aX,Nat.pow_add]
 exact Nat.mul_lt_mul_of_lt_of_lt (U7 m) (U7 n)
theorem XH (m n : Nat) : (mk (m + n)).length ≤ max (mk m).length (mk n).length + 1:=by
 rw [aX,Nat.pow_succ]
 have h1:=Nat.lt_of_lt_of_le (U7 m) (Nat.pow_le_pow_right (n:=1000000000) (by omega) (Nat.le_max_left (mk m).length (mk n).length))
 have h2:=Nat.lt_of_lt_of_le (U7 n) (Nat.pow_le_pow_right (n:=1000000000) (by omega) (Nat.le_max_right (mk m).length (mk n).length))
 omega
theorem SB (m n : Nat) : (mk (m - n)).length ≤ (mk m).length:=DU (Nat.sub_le m n)
theorem KF (m n : Nat) : (mk (m / n)).length ≤ (mk m).length:=DU (Nat.div_le_self m n)
theorem SC : (mk 0).length = 0:=by rw [mk_zero];rfl
theorem y7 {n : Nat} : 0 < (mk n).length ↔ 0 < n:=by
 constructor
 ·intro h;rcases Nat.eq_zero_or_pos n with rfl | h1
  ·rw [mk_zero] at h;simp at h
  ·exact h1
 ·intro h;have:=acC (n:=n) (by omega);omega
theorem aaL {n : Nat} : (mk n).length = 0 ↔ n = 0:=by
 have:=@y7 n;omega
theorem iY (x y : Int) : (mk (x * y).natAbs).length ≤ (mk x.natAbs).length + (mk y.natAbs).length:=by
 rw [Int.natAbs_mul];exact BL _ _
theorem DV (x y : Int) : (mk (x + y).natAbs).length ≤ max (mk x.natAbs).length (mk y.natAbs).length + 1 :=
 Nat.le_trans (DU (Int.natAbs_add_le x y)) (XH _ _)
theorem ac7 (neg : Bool) (n : Nat) (h : 0 < n) : bi (sg neg n) = ⟨neg,mk n⟩:=by
 cases neg
 ·simp [bi,sg]
 ·simp [bi,sg,h]
theorem Y5 : bi 0 = ⟨false,[]⟩:=by simp [bi,mk_zero]
theorem Jp (neg : Bool) : sg neg 0 = 0:=by cases neg <;> simp [sg]
theorem akd (n : Nat) : bi (n : Int) = ⟨false,mk n⟩:=by simp [bi]
theorem Oe (x y : Int) : sg (decide (x < 0) != decide (y < 0)) (x.natAbs * y.natAbs) = x * y:=by
 rw [← Int.natAbs_mul]
 by_cases x0 : x = 0
 ·subst x0;simp [sg]
 by_cases y0 : y = 0
 ·subst y0;simp [sg]
 rcases (show x < 0 ∨ 0 < x by omega) with h | h <;> rcases (show y < 0 ∨ 0 < y by omega) with k | k
 ·have:=Int.mul_pos_of_neg_of_neg h k
  simp only [sg,h,k,decide_true,bne_self_eq_false,Bool.false_eq_true,if_false];omega
 ·have:=Int.mul_neg_of_neg_of_pos h k
  have k' : ¬ y < 0:=by omega
  simp only [sg,h,k',decide_true,decide_false,Bool.bne_false,if_true];omega
 ·have:=Int.mul_neg_of_pos_of_neg h k
  have h' : ¬ x < 0:=by omega
  simp only [sg,h',k,decide_true,decide_false,Bool.false_bne,if_true];omega
 ·have:=Int.mul_pos h k
  have k' : ¬ y < 0:=by omega
  have h' : ¬ x < 0:=by omega
  simp only [sg,h',k',decide_false,bne_self_eq_false,Bool.false_eq_true,if_false];omega
theorem LJ {x y : Int} (h : decide (x < 0) = decide (y < 0)) : sg (decide (x < 0)) (x.natAbs + y.natAbs) = x + y:=by
 have h' : x < 0 ↔ y < 0:=by simpa using h
 by_cases k : x < 0
 ·have:=h'.1 k;simp only [sg,k,decide_true,if_true];omega
 ·have : ¬ y < 0:=fun q=>k (h'.2 q)
  simp only [sg,k,decide_false,Bool.false_eq_true,if_false];omega
theorem Bv {x y : Int} (h : decide (x < 0) ≠ decide (y < 0)) (hl : y.natAbs ≤ x.natAbs) : sg (decide (x < 0)) (x.natAbs - y.natAbs) = x + y:=by
 have h' : ¬ (x < 0 ↔ y < 0):=by simpa using h
 by_cases k : x < 0
 ·have : ¬ y < 0:=fun q=>h' ⟨fun _=>q,fun _=>k⟩
  simp only [sg,k,decide_true,if_true];omega
 ·have : y < 0:=Classical.byContradiction fun q=>h' ⟨fun a=>absurd a k,fun a=>absurd a q⟩
  simp only [sg,k,decide_false,Bool.false_eq_true,if_false];omega
def ru : Fn:=⟨2,39,[.tmp 4,.tmp 5],(sr [oN 4 mN,oN 5 (.iw (cI 0))] (.seq (rf 1 [oK 10 1 (oV 0),oK 11 1 (ln 10),oN 12 (.make Eo 8 (.t 11)),oK 6 1 (oV 12)]) (sr [oN 7 (.iw (cI 0))] (.seq (sr [oW 13 0,oN 14 (ln 13),oN 15 (bc .sub 14 1),oW 8 15] (.block 0 (.loop (.seq (sr [oW 16 8,oN 17 (bc .geq 16 0)] (cd 17 .skip (.exit 0))) (.seq (.block 1 (sr [oW 20 7,oN 21 (bc .mul 20 1000000000),oW 22 0,oW 23 8,oN 24 (ix 1 22 23),oN 25 (lF 1 24),oN 26 (bt .add 21 25),oW 9 26] (sr [oW 27 6,oW 28 8,oW 29 9,oW 30 1,oN 31 (bt .quo 29 30),oN 32 (ix 1 27 28),oS (.store 1 (.t 32) (.t 31))] (rg [oW 33 9,oW 34 1,oN 35 (bt .rem 33 34),oW 7 35])))) (rg [oW 18 8,oN 19 (bc .sub 18 1),oW 8 19])))))) (sr [oW 36 6,oN 37 (cl 71 [36]),oW 38 7,oW 4 37,oW 5 38] .ret)))))⟩
structure y8 (T : Tb) : Prop where
 hT : T 147 = some ru
 bY : iT T
def rC : Fn:=⟨2,27,[.tmp 4],(sr [oN 4 (.iw (cI 0))] (sr [oN 5 (.iw (cI 0))] (sr [oN 6 (.iw (cI 999999999))] (.seq (.block 0 (.loop (.seq (sr [oW 8 5,oW 9 6,oN 10 (bt .lss 8 9)] (cd 10 .skip (.exit 0))) (.block 1 (sr [oW 11 5,oW 12 6,oN 13 (bt .add 11 12),oN 14 (bc .add 13 1),oN 15 (bc .quo 14 2),oW 7 15] (sr [oW 16 1,oW 17 7,oN 18 (cl 67 [17]),oN 19 (cl 150 [16,18]),oW 20 0,oN 21 (cl 146 [19,20]),oN 22 (bc .leq 21 0)] (cd 22 (rg [oW 23 7,oW 5 23]) (rg [oW 24 7,oN 25 (bc .sub 24 1),oW 6 25])))))))) (sr [oW 26 5,oW 4 26] .ret)))))⟩
structure y9 (T : Tb) : Prop where
 hT : T 148 = some rC
 jq : pI T
 kM : ni T
 dP : kL T
def qF : Fn:=⟨2,65,[.tmp 4,.tmp 5],(sr [oN 4 mN,oN 5 mN] (.seq (sr [oW 12 1,oN 13 (ln 12),oN 14 (bc .eql 13 1)] (cd 14 (sr [oW 16 0,oW 17 1,oN 18 (.idx 1 (.t 17) (cI 0)),oN 19 (lF 1 18),oN 20 (cl 147 [16,19]),oW 15 20,oN 21 (ex 0 15),oN 22 (ex 1 15),oW 6 21,oW 7 22] (sr [oW 23 6,oW 24 7,oN 25 (cl 67 [24]),oW 4 23,oW 5 25] .ret)) .skip)) (.seq (rf 1 [oK 26 1 (oV 0),oK 27 1 (ln 26),oN 28 (.make Eo 8 (.t 27)),oK 8 1 (oV 28)]) (.seq (rf 1 [oN 29 (.fE 1 Eo 0 []),oK 9 1 (oV 29)]) (.seq (sr [oW 30 0,oN 31 (ln 30),oN 32 (bc .sub 31 1),oW 10 32] (.block 0 (.loop (.seq (sr [oW 33 10,oN 34 (bc .geq 33 0)] (cd 34 .skip (.exit 0))) (.seq (.block 1 (.seq (rf 2 [oK 37 2 (oV 0),oK 38 2 (oV 10),oK 39 2 (ix 1 37 38),oK 40 2 (lF 1 39),oN 41 (.fE 1 Eo 1 [(0,(.t 40))]),oK 42 2 (oV 9),oK 43 1 (.app 1 8 (.t 41) (.t 42)),oK 44 2 (cl 71 [43]),oK 9 2 (oV 44)]) (.seq (sr [oW 45 9,oW 46 1,oN 47 (cl 146 [45,46]),oN 48 (bc .lss 47 0)] (cd 48 (.exit 1) .skip)) (sr [oW 49 9,oW 50 1,oN 51 (cl 148 [49,50]),oW 11 51] (sr [oW 52 8,oW 53 10,oW 54 11,oN 55 (ix 1 52 53),oS (.store 1 (.t 55) (.t 54))] (rg [oW 56 9,oW 57 1,oW 58 11,oN 59 (cl 67 [58]),oN 60 (cl 150 [57,59]),oN 61 (cl 149 [56,60]),oW 9 61])))))) (rg [oW 35 10,oN 36 (bc .sub 35 1),oW 10 36])))))) (sr [oW 62 8,oN 63 (cl 71 [62]),oW 64 9,oW 4 63,oW 5 64] .ret))))))⟩
structure xK (T : Tb) : Prop where
 hT : T 136 = some qF
 jq : pI T
 bY : iT T
 kM : ni T
 Md : y8 T
 Me : y9 T
 xM : xB T
 dP : kL T
def rD : Fn:=⟨2,15,[.tmp 4],(sr [oN 4 mN] (.seq (.block 0 (.loop (.seq (sr [oW 6 1,oN 7 (bc .gtr 6 0)] (cd 7 .skip (.exit 0))) (.block 1 (sr [oW 8 0,oW 9 1,oN 10 (bt .rem 8 9),oW 5 10] (sr [oW 11 1,oW 0 11] (rg [oW 12 5,oW 1 12]))))))) (sr [oW 13 0,oN 14 (cl 67 [13]),oW 4 14] .ret)))⟩
structure zf (T : Tb) : Prop where
 hT : T 135 = some rD
 jq : pI T
def rF : Fn:=⟨1,30,[.tmp 2,.tmp 3],(sr [oN 2 (.iw (cI 0)),oN 3 mF] (.seq (.seq (rf 1 [oK 6 1 (oV 0),oK 7 1 (cl 121 [6]),oK 8 1 (nt 7),oK 9 1 (oV 8),oH 9 false 10 1 (oV 0) [],oG 9 false 11 (.fE 1 Eo 3 [(0,(cI 854775807)),(1,(cI 223372036)),(2,(cI 9))]),oH 9 false 12 1 (cl 146 [10,11]) [],oH 9 false 13 1 (bc .gtr 12 0) [],oK 14 1 (.pick (.t 9) (.c (.bool true)) (.t 13))]) (cd 14 (sr [oN 2 (.iw (cI 0)),oN 3 mF] .ret) .skip)) (sr [oN 4 (.iw (cI 0))] (.seq (sr [oW 15 0,oN 16 (ln 15),oN 17 (bc .sub 16 1),oW 5 17] (.block 0 (.loop (.seq (sr [oW 18 5,oN 19 (bc .geq 18 0)] (cd 19 .skip (.exit 0))) (.seq (.block 1 (rg [oW 22 4,oN 23 (bc .mul 22 1000000000),oW 24 0,oW 25 5,oN 26 (ix 1 24 25),oN 27 (lF 1 26),oN 28 (bt .add 23 27),oW 4 28])) (rg [oW 20 5,oN 21 (bc .sub 20 1),oW 5 21])))))) (sr [oW 29 4,oW 2 29,oN 3 mT] .ret)))))⟩
structure zh (T : Tb) : Prop where
 hT : T 134 = some rF
 uy : uo T
 kM : ni T
def xO : Fn:=⟨2,52,[.tmp 4],(sr [oN 4 mN] (.seq (rf 2 [oN 13 (.fE 1 Eo 0 []),oK 14 2 (oV 0),oK 15 1 (.app 1 8 (.t 13) (.t 14)),oK 5 2 (oV 15)]) (.seq (rf 2 [oN 16 (.fE 1 Eo 0 []),oK 17 2 (oV 1),oK 18 1 (.app 1 8 (.t 16) (.t 17)),oK 6 2 (oV 18)]) (.seq (.block 0 (.loop (.seq (sr [oW 19 6,oN 20 (ln 19),oN 21 (bc .gtr 20 0)] (cd 21 .skip (.exit 0))) (.block 1 (.seq (sr [oW 22 5,oN 23 (ln 22),oN 24 (bc .lss 23 3),oW 25 24,oG 25 true 26 (oV 6),oG 25 true 27 (ln 26),oG 25 true 28 (bc .lss 27 3),oN 29 (.pick (.t 25) (.t 28) (.c (.bool false)))] (cd 29 (sr [oW 31 5,oN 32 (cl 134 [31]),oW 30 32,oN 33 (ex 0 30),oN 34 (ex 1 30),oW 7 33,oW 8 34] (sr [oW 36 6,oN 37 (cl 134 [36]),oW 35 37,oN 38 (ex 0 35),oN 39 (ex 1 35),oW 9 38,oW 10 39] (sr [oW 40 7,oW 41 9,oN 42 (cl 135 [40,41]),oW 4 42] .ret))) .skip)) (sr [oW 44 5,oW 45 6,oN 46 (cl 136 [44,45]),oW 43 46,oN 47 (ex 0 43),oN 48 (ex 1 43),oW 11 47,oW 12 48] (sr [oW 49 6,oW 5 49] (rg [oW 50 12,oW 6 50])))))))) (sr [oW 51 5,oW 4 51] .ret)))))⟩
structure xP (T : Tb) : Prop where
 hT : T 123 = some xO
 Ew : zh T
 MB : zf T
 xQ : xK T
theorem Og {T : Tb} (h : xB T) {m n : Nat} (hle : n ≤ m) (la : (mk m).length ≤ 1000:=by exact gU) (lb : (mk n).length ≤ 1000:=by exact gU) : PF T 149 [ints (mk m),ints (mk n)] (ints (mk (m - n))):=by
 obtain ⟨a,hA⟩ : ∃ a,mk m = a:=⟨_,rfl⟩
 obtain ⟨b,hB⟩ : ∃ b,mk n = b:=⟨_,rfl⟩
 have hva : val a = m:=by rw [← hA,val_mk]
 have hvb : val b = n:=by rw [← hB,val_mk]
 have hba : Lb a:=hA ▸ jT m
 have hbb : Lb b:=hB ▸ jT n
 have hlen : b.length ≤ a.length:=by
  rcases Nat.lt_or_ge a.length b.length with k | k
  ·have:=mP hba (hB ▸ kJ n) k
   omega
  ·exact k
 rw [hA] at la ⊢
 rw [hB] at lb ⊢
 refine aC nR h.hT ?_
 simp only [xA,Lz]
 refine ev ?_
 refine aS (fun _ _=>false) (α:=Nat × Int × List Int) (fun q=>⟨dX [ints a,ints b,.any,.any,.any,slV q.2.2.length,iv q.2.1,.any,.any,.any,ints a,iv (a.length : Nat),iv (q.1 : Nat)],WI 1 (aH q.2.2),0,0,[],[]⟩) (fun q=>q.1 ≤ a.length ∧ q.2.2.length = q.1 ∧ Lb q.2.2 ∧ (q.2.1 = 0 ∨ q.2.1 = 1) ∧ val q.2.2 + val (b.take q.1) = val (a.take q.1) + q.2.1.toNat * 1000000000 ^ q.1) (fun q=>a.length - q.1) rfl (0,0,[]) ?_ ?_ ?_
 ·exact ⟨by omega,rfl,Xt,.inl rfl,by simp [val]⟩
 ·exact Iy
 ·rintro ⟨i,bo,xs⟩ ⟨hi,hD,Iz,hbo,hv⟩
  dsimp only at hi hD Iz hbo hv
  have ga:=jU hba i
  have gb:=jU hbb i
  have zb : b.length ≤ i → b.getD i 0 = 0:=DT
  have hx : xs.length ≤ 1000:=by omega
  by_cases c1 : (i : Int) < (a.length : Nat)
  ·have key : ∀ d U5 : Int,d + b.getD i 0 + bo = a.getD i 0 + U5 * 1000000000 → 0 ≤ d → d < 1000000000 → (U5 = 0 ∨ U5 = 1) → ∃ a' : Nat × Int × List Int,a' = (i + 1,U5,xs ++ [d]) ∧
     a.length - a'.1 < a.length - i ∧ (a'.1 ≤ a.length ∧ a'.2.2.length = a'.1 ∧ Lb a'.2.2 ∧ (a'.2.1 = 0 ∨ a'.2.1 = 1) ∧ val a'.2.2 + val (b.take a'.1) = val (a.take a'.1) + a'.2.1.toNat * 1000000000 ^ a'.1):=by
    intro d U5 hd d0 d1 hb'
    refine ⟨_,rfl,by dsimp only;omega,by dsimp only;omega,by simp [hD],Sl d0 d1 Iz,hb',?_⟩
    dsimp only
    have e2 : (a.take i).length = i:=by simp;omega
    rw [mD,hD,dK (l:=a) (by omega),mD,e2]
    have e3 : val (b.take (i + 1)) = val (b.take i) + 1000000000 ^ i * (b.getD i 0).toNat:=by
     by_cases hb2 : i < b.length
     ·rw [dK hb2,mD];congr 3;simp;omega
     ·rw [List.take_of_length_le (by omega),List.take_of_length_le (by omega),zb (by omega)];simp
    rw [e3,Nat.pow_succ]
    exact U4 hv (by omega)
   by_cases c2 : (i : Int) < (b.length : Nat)
   ·by_cases c3 : a.getD i 0 - bo - b.getD i 0 < 0
    ·obtain ⟨_,rfl,k1,k2⟩:=key (a.getD i 0 - bo - b.getD i 0 + 1000000000) 1 (by omega) (by omega) (by omega) (.inr rfl)
     clear key hv zb hba hbb Iz
     (rcases xs with _ | ⟨x,xs⟩ <;> simp only [List.length_nil,List.length_cons,kX,ku,fF,dL] at hx ⊢)
     ·refine vU @c1 @c2 @c3 ?_
      exact ⟨by omega,_,k1,k2,by exact Dj⟩
     ·refine vU @c1 @c2 @c3 ?_
      exact ⟨by omega,_,k1,k2,by exact Dk⟩
    ·obtain ⟨_,rfl,k1,k2⟩:=key (a.getD i 0 - bo - b.getD i 0) 0 (by omega) (by omega) (by omega) (.inl rfl)
     clear key hv zb hba hbb Iz
     (rcases xs with _ | ⟨x,xs⟩ <;> simp only [List.length_nil,List.length_cons,kX,ku,fF,dL] at hx ⊢)
     ·refine vU @c1 @c2 @c3 ?_
      exact ⟨by omega,_,k1,k2,by exact Dj⟩
     ·refine vU @c1 @c2 @c3 ?_
      exact ⟨by omega,_,k1,k2,by exact Dk⟩
   ·have z:=zb (by omega)
    by_cases c3 : a.getD i 0 - bo < 0
    ·obtain ⟨_,rfl,k1,k2⟩:=key (a.getD i 0 - bo + 1000000000) 1 (by omega) (by omega) (by omega) (.inr rfl)
     clear key hv zb hba hbb Iz
     (rcases xs with _ | ⟨x,xs⟩ <;> simp only [List.length_nil,List.length_cons,kX,ku,fF,dL] at hx ⊢)
     ·refine vU @c1 @c2 @c3 ?_
      exact ⟨by omega,_,k1,k2,by exact Dj⟩
     ·refine vU @c1 @c2 @c3 ?_
      exact ⟨by omega,_,k1,k2,by exact Dk⟩
    ·obtain ⟨_,rfl,k1,k2⟩:=key (a.getD i 0 - bo) 0 (by omega) (by omega) (by omega) (.inl rfl)
     clear key hv zb hba hbb Iz
     (rcases xs with _ | ⟨x,xs⟩ <;> simp only [List.length_nil,List.length_cons,kX,ku,fF,dL] at hx ⊢)
     ·refine vU @c1 @c2 @c3 ?_
      exact ⟨by omega,_,k1,k2,by exact Dj⟩
     ·refine vU @c1 @c2 @c3 ?_
      exact ⟨by omega,_,k1,k2,by exact Dk⟩
  ·have hi2 : i = a.length:=by omega
   subst hi2
   rw [List.take_length,List.take_of_length_le (by omega)] at hv
   have hlt:=nU Iz
   rw [hD] at hlt
   have hz : bo = 0:=by
    rcases hbo with h | h
    ·exact h
    ·rw [h] at hv
     simp at hv
     omega
   subst hz
   have ct:=tN h.bY (l:=xs) (by omega)
   have e : mk (val xs) = mk (m - n):=by
    congr 1
    simp at hv
    omega
   rw [qV Iz,e] at ct
   (rcases xs with _ | ⟨x,xs⟩ <;> simp only [List.length_nil,List.length_cons,kX,ku,fF,dL] at hx ⊢)
   ·refine ev1 @c1 ?_
    refine agX (as':=[.sl 1 []]) ct (by simp only [KE,KD,fP,and_true]) ?_
    refine ev ?_
    exact au _
   ·refine ev1 @c1 ?_
    refine ah ct ?_
    refine ev ?_
    exact au _
theorem XI {T : Tb} (h : y8 T) {m d : Nat} (d0 : 0 < d) (d1 : d < 1000000000) (la : (mk m).length ≤ 1000:=by exact gU) : PF T 147 [ints (mk m),iv (d : Nat)] (.gq [ints (mk (m / d)),iv (m % d : Nat)]):=by
 obtain ⟨A,hA⟩ : ∃ A,mk m = A:=⟨_,rfl⟩
 have hva : val A = m:=by rw [← hA,val_mk]
 have Y3 : Lb A:=hA ▸ jT m
 rw [hA] at la ⊢
 refine aC nR h.hT ?_
 simp only [ru,Lz]
 refine ev ?_
 refine ⟨by omega,?_⟩
 rw [Ii]
 refine aS (fun _ _=>false) (α:=Nat × List Int × Nat) (fun q=>⟨dX [ints A,iv (d : Nat),.any,.any,.any,.any,.bF 0 0 A.length,iv (q.2.2 : Nat),iv ((q.1 : Nat) - 1)],[some ⟨1,aH q.2.1⟩],0,0,[],[]⟩) (fun q=>q.1 ≤ A.length ∧ q.2.1.length = A.length ∧ Lb q.2.1 ∧ q.2.2 < d ∧ val (A.drop q.1) = val (q.2.1.drop q.1) * d + q.2.2) (fun q=>q.1) rfl (A.length,List.replicate A.length 0,0) ?_ ?_ ?_
 ·exact ⟨by omega,by simp,Il _,d0,by dsimp only;rw [bK (Nat.le_refl _),bK (by simp)];simp⟩
 ·(refine aJ ?_;exact Et)
 ·rintro ⟨k,Q,x⟩ ⟨hk,hQ,hQb,hx,hv⟩
  dsimp only at hk hQ hQb hx hv
  by_cases k0 : k = 0
  ·subst k0
   rw [List.drop_zero,List.drop_zero,hva] at hv
   obtain ⟨q1,q2⟩:=DR hv hx
   have e0 : ¬ (0 : Int) ≤ ((0 : Nat) : Int) - 1:=by omega
   refine ev1 @e0 ?_
   refine ah (tN h.bY (l:=Q) (by omega)) ?_
   refine ev ?_
   rw [qV hQb,← q1,← q2]
   exact au _
  ·obtain ⟨i,rfl⟩ : ∃ i,k = i + 1:=⟨k - 1,by omega⟩
   have e0 : (((i + 1 : Nat) : Int) - 1) = (i : Nat):=by omega
   have e1 : ((i : Nat) : Int) < (A.length : Nat):=by omega
   have e2 : (0 : Int) ≤ (i : Nat):=by omega
   rw [e0]
   have ga:=jU Y3 i
   have hvi:=fQ A i
   obtain ⟨t,ht⟩ : ∃ t : Nat,t = x * 1000000000 + (A.getD i 0).toNat:=⟨_,rfl⟩
   have ht' : (x : Int) * 1000000000 + A.getD i 0 = (t : Nat):=by omega
   have tq : t / d < 1000000000:=by
    have t1 : t < (x + 1) * 1000000000:=by omega
    exact Nat.div_lt_of_lt_mul (Nat.lt_of_lt_of_le t1 (Nat.mul_le_mul_right 1000000000 hx))
   have tr : t % d < d:=Nat.mod_lt _ d0
   have f1 : ((t : Nat) : Int).tdiv (d : Nat) = ((t / d : Nat) : Int):=by rw [Int.tdiv_eq_ediv_of_nonneg (by omega),Int.natCast_ediv]
   have f2 : ((t : Nat) : Int).tmod (d : Nat) = ((t % d : Nat) : Int):=by rw [Int.tmod_eq_emod_of_nonneg (by omega),Int.natCast_emod]
   have hdm:=Nat.div_add_mod t d
   have nz : ¬ ((d : Nat) : Int) = 0:=by omega
   have tb : t < 1000000000000000000:=by
    have t1 : t < (x + 1) * 1000000000:=by omega
    have t2 : (x + 1) * 1000000000 ≤ 1000000000 * 1000000000:=Nat.mul_le_mul_right 1000000000 (by omega)
    exact Nat.lt_of_lt_of_le t1 t2
   generalize t / d = q at *
   generalize t % d = r at *
   have k1:=DK (l:=Q) (i:=i) (d:=((q : Nat) : Int)) (by omega) (by omega) hQb
   have k2 : val (A.drop i) = val ((Q.set i (q : Nat)).drop i) * d + r:=by
    rw [hvi,hv,drop_set_self (by omega),val,Nat.add_mul,Nat.mul_add,Nat.mul_assoc,Nat.mul_comm d q] at *
    rw [show ((q : Nat) : Int).toNat = q by omega]
    omega
   clear hvi hv hdm ht
   simp (disch:=first | omega | assumption | (simp;done) | (simp;omega)) only [↓U1,U2,splice,Nat.reduceAdd,Nat.reduceEqDiff,Nat.reduceMul,Nat.reduceLT,Nat.reduceLeDiff,reduceIte,V.leaf,CY,DC,EY,Bool.true_and,Bool.false_and,Bool.or_false,Bool.false_or,Bool.true_or,reduceCtorEq,e2,e1,ht',f1,f2,nz,hQ]
   exact ⟨(i,Q.set i (q : Nat),r),by dsimp only;omega,⟨by dsimp only;omega,by simp [hQ],k1,tr,k2⟩,by (refine aJ ?_;exact Et)⟩
theorem XJ {T : Tb} (h : y9 T) {r b : Nat} (b0 : 0 < b) (hr : r < b * 1000000000) (la : (mk r).length ≤ 900:=by exact gU) (lb : (mk b).length ≤ 900:=by exact gU) : PF T 148 [ints (mk r),ints (mk b)] (iv (r / b : Nat)):=by
 have hq : r / b < 1000000000:=Nat.div_lt_of_lt_mul (by omega)
 have key : ∀ q,b * q ≤ r ↔ q ≤ r / b:=fun q=>by rw [Nat.le_div_iff_mul_le b0,Nat.mul_comm]
 refine aV nR h.hT ?_
 simp only [rC,Lz]
 refine ev ?_
 generalize r / b = z at *
 refine aS (fun _ _=>false) (α:=Nat × Nat) (fun q=>⟨dX [ints (mk r),ints (mk b),.any,.any,.any,iv (q.1 : Nat),iv (q.2 : Nat)],[],0,0,[],[]⟩) (fun q=>q.1 ≤ z ∧ z ≤ q.2 ∧ q.2 ≤ 999999999) (fun q=>q.2 - q.1) rfl (0,999999999) ?_ ?_ ?_
 ·exact ⟨by omega,by dsimp only;omega,by dsimp only;omega⟩
 ·(refine aJ ?_;exact Et)
 ·rintro ⟨lo,hi⟩ ⟨h1,h2,h3⟩
  dsimp only at h1 h2 h3
  refine ev ?_
  refine aN (fun c1=>?_) fun c1=>?_ <;> (refine ev1 @c1 ?_;try with_reducible exact True.intro)
  ·have e1 : ((lo : Int) + hi + 1).tdiv 2 = (((lo + hi + 1) / 2 : Nat) : Int):=by rw [Int.tdiv_eq_ediv_of_nonneg (by omega)];omega
   have q1 : lo < (lo + hi + 1) / 2:=by omega
   have q2 : (lo + hi + 1) / 2 ≤ hi:=by omega
   generalize (lo + hi + 1) / 2 = q at *
   have cn:=Gn h.jq (n:=((q : Nat) : Int)) (by omega)
   rw [Int.toNat_natCast] at cn
   have lq : (mk q).length ≤ 1:=aX.2 (by omega)
   have lm:=BL b q
   have cc:=Jl h.kM (kJ (b * q)) (kJ r) (by omega) (by omega)
   rw [val_mk,val_mk] at cc
   refine ev1 @e1 ?_
   refine ah cn ?_
   refine ev ?_
   refine ah (uw h.dP (m:=b) (n:=q) (by omega) (by omega)) ?_
   refine ev ?_
   refine ah cc ?_
   refine ev ?_
   have ck : C9 (b * q) r ≤ 0 ↔ b * q ≤ r:=by unfold C9;repeat' split <;> omega
   refine aN (fun c2=>?_) fun c2=>?_ <;> (refine ev1 @c2 ?_;try with_reducible exact True.intro)
   ·have:=(key q).1 (ck.1 c2)
    exact ⟨(q,hi),by dsimp only;omega,⟨by dsimp only;omega,by dsimp only;omega,h3⟩,by (refine aJ ?_;exact Et)⟩
   ·have : ¬ q ≤ z:=fun k=>c2 (ck.2 ((key q).2 k))
    have e2 : ((q : Nat) : Int) - 1 = ((q - 1 : Nat) : Int):=by omega
    exact ⟨(lo,q - 1),by dsimp only;omega,⟨h1,by dsimp only;omega,by dsimp only;omega⟩,by (refine aJ ?_) <;> (try (refine ev1 @e2 ?_;try with_reducible exact True.intro)) <;> (repeat' (first | refine ⟨?_,?_⟩ | exact Gh (by omega) | exact Ij (by simp) | exact Gi _))⟩
  ·have : lo = z:=by omega
   rw [this]
theorem XK {T : Tb} (h : zf T) {x y : Nat} (hx : x < 1000000000000000000:=by exact gU) (hy : y < 1000000000000000000:=by exact gU) : PF T 135 [iv (x : Nat),iv (y : Nat)] (ints (mk (Nat.gcd x y))):=by
 refine aC nR h.hT ?_
 simp only [rD,Lz]
 refine ev ?_
 refine aS (fun _ _=>false) (α:=Nat × Nat) (fun q=>⟨dX [iv (q.1 : Nat),iv (q.2 : Nat)],[],0,0,[],[]⟩) (fun q=>Nat.gcd q.1 q.2 = Nat.gcd x y ∧ q.1 < 1000000000000000000 ∧ q.2 < 1000000000000000000) (fun q=>q.2) rfl (x,y) ?_ ?_ ?_
 ·exact ⟨rfl,hx,hy⟩
 ·exact Iy
 ·rintro ⟨u,v⟩ ⟨hg,su,sv⟩
  dsimp only at hg su sv
  rw [← hg]
  clear hg
  refine ev ?_
  refine aN (fun c4=>?_) fun c4=>?_ <;> (refine ev1 @c4 ?_;try with_reducible exact True.intro)
  ·have v0 : 0 < v:=by omega
   have er : ((u : Nat) : Int).tmod (v : Nat) = ((u % v : Nat) : Int):=by rw [Int.tmod_eq_emod_of_nonneg (by omega),Int.natCast_emod]
   have lr:=Nat.mod_lt u v0
   have eg : Nat.gcd v (u % v) = Nat.gcd u v:=by rw [Nat.gcd_comm u v,Nat.gcd_rec v u,Nat.gcd_comm]
   exact ⟨(v,u % v),lr,⟨eg,sv,by dsimp only;omega⟩,by (refine aJ ?_) <;> (try (refine ev1 @er ?_;try with_reducible exact True.intro)) <;> (repeat' (first | refine ⟨?_,?_⟩ | exact Gh (by omega) | exact Ij (by simp) | exact Gi _))⟩
  ·have v0 : v = 0:=by omega
   have cu:=Gn h.jq (n:=((u : Nat) : Int)) (by omega)
   rw [Int.toNat_natCast] at cu
   refine ah cu ?_
   refine ev ?_
   rw [v0,Nat.gcd_zero_right]
   exact au _
theorem Oh {T : Tb} (h : xK T) {m n : Nat} (hn : 0 < n) (la : (mk m).length ≤ 900:=by exact gU) (lb : (mk n).length ≤ 890:=by exact gU) :
  PF T 136 [ints (mk m),ints (mk n)] (.gq [ints (mk (m / n)),ints (mk (m % n))]):=by
 by_cases big : (mk n).length = 1
 ·have n1 : n < 1000000000:=by have:=(aX (n:=n) (k:=1)).1 (by omega);omega
  have cs:=XI h.Md (m:=m) hn n1 (by omega)
  have lr:=Nat.mod_lt m hn
  have cn:=Gn h.jq (n:=((m % n : Nat) : Int)) (by omega)
  rw [Int.toNat_natCast] at cn
  rw [mk_one hn n1]
  have c0 : ((1 : Nat) : Int) = 1:=rfl
  refine aC nR h.hT ?_
  simp only [qF,Lz]
  refine ev ?_
  refine ev1 @c0 ?_
  refine ah cs ?_
  refine ev ?_
  refine ah cn ?_
  refine ev ?_
  exact au _
 obtain ⟨A,hA⟩ : ∃ A,mk m = A:=⟨_,rfl⟩
 obtain ⟨B,hB⟩ : ∃ B,mk n = B:=⟨_,rfl⟩
 have hva : val A = m:=by rw [← hA,val_mk]
 have Y3 : Lb A:=hA ▸ jT m
 have hbB : Lb B:=hB ▸ jT n
 rw [hA] at la ⊢
 rw [hB] at lb big ⊢
 have c1 : ¬ ((B.length : Nat) : Int) = 1:=by omega
 refine aC nR h.hT ?_
 simp only [qF,Lz]
 refine ev ?_
 refine ev1 @c1 ?_
 refine ⟨by omega,?_⟩
 rw [Ii]
 refine aS (fun _ _=>false) (α:=Nat × List Int × Nat) (fun q=>⟨dX [ints A,ints B,.any,.any,.any,.any,.any,.any,.bF 0 0 A.length,ints (mk q.2.2),iv ((q.1 : Nat) - 1)],[some ⟨1,aH q.2.1⟩],0,0,[],[]⟩) (fun q=>q.1 ≤ A.length ∧ q.2.1.length = A.length ∧ Lb q.2.1 ∧ (∀ j,j < q.1 → q.2.1.getD j 0 = 0) ∧ q.2.2 < n ∧ val (A.drop q.1) = val (q.2.1.drop q.1) * n + q.2.2) (fun q=>q.1) rfl (A.length,List.replicate A.length 0,0) ?_ ?_ ?_
 ·exact ⟨by omega,by simp,Il _,by intro j _;simp [List.getD_eq_getElem?_getD,List.getElem?_replicate];split <;> rfl,hn,by dsimp only;rw [bK (Nat.le_refl _),bK (by simp)];simp⟩
 ·rw [mk_zero]
  exact aaK
 ·rintro ⟨k,Q,x⟩ ⟨hk,hQ,hQb,hz,hx,hv⟩
  dsimp only at hk hQ hQb hz hx hv
  by_cases k0 : k = 0
  ·subst k0
   rw [List.drop_zero,List.drop_zero,hva] at hv
   obtain ⟨q1,q2⟩:=DR hv hx
   have e0 : ¬ (0 : Int) ≤ ((0 : Nat) : Int) - 1:=by omega
   refine ev1 @e0 ?_
   refine ah (tN h.bY (l:=Q) (by omega)) ?_
   refine ev ?_
   rw [qV hQb,← q1,← q2]
   exact au _
  ·obtain ⟨i,rfl⟩ : ∃ i,k = i + 1:=⟨k - 1,by omega⟩
   have e0 : (((i + 1 : Nat) : Int) - 1) = (i : Nat):=by omega
   have e1 : ((i : Nat) : Int) < (A.length : Nat):=by omega
   have e2 : (0 : Int) ≤ (i : Nat):=by omega
   rw [e0]
   have ga:=jU Y3 i
   have hvi:=fQ A i
   obtain ⟨t,ht⟩ : ∃ t,(A.getD i 0).toNat + 1000000000 * x = t:=⟨_,rfl⟩
   have htn : t < n * 1000000000:=by omega
   have lt' : (A.getD i 0 :: mk x).length ≤ 1048576:=by
    have : (mk x).length ≤ B.length:=by rw [aX];exact Nat.lt_trans hx (by have:=nU hbB;rw [← hB,val_mk,hB] at this;exact this)
    simp only [List.length_cons];omega
   have tr : trim (A.getD i 0 :: mk x) = mk t:=by
    rw [qV (by intro y hy;rcases List.mem_cons.1 hy with rfl | hy;exact ga;exact jT x y hy),← ht,val,val_mk]
   have ct:=tN h.bY (l:=A.getD i 0 :: mk x) lt'
   rw [tr] at ct
   have Y4 : ∀ y,y ≤ t → (mk y).length ≤ 891:=by
    intro y hy
    have : (mk y).length ≤ B.length + 1:=by
     rw [aX,Nat.pow_succ]
     have:=nU hbB
     rw [← hB,val_mk,hB] at this
     exact Nat.lt_of_lt_of_le (Nat.lt_of_le_of_lt hy htn) (Nat.mul_le_mul_right _ (Nat.le_of_lt this))
    omega
   have lx:=Y4
   refine qm @e2 @e1 ?_
   refine ⟨fun e3=>?_,fun e3=>?_⟩
   case' refine_1 =>
    have x0 : mk x = []:=by cases hm : mk x with | nil=>rfl | cons a l=>rw [hm] at e3;cases e3
    rw [x0] at ct
    rw [show [[V.int IntKind.i64 (A.getD i 0)]] = aH [A.getD i 0] from rfl]
    (refine ev ?_;try with_reducible exact True.intro)
   case' refine_2 =>
    refine ev1 @e3 ?_
    rw [show [V.int IntKind.i64 (A.getD i 0)] :: aH (mk x) = aH (A.getD i 0 :: mk x) from rfl]
    refine ev ?_
    have lm:=lt'
    simp only [List.length_cons] at lm
    refine ⟨by omega,?_⟩
   all_goals
    clear lt'
    refine ah ct ?_
    refine ev ?_
    have ly:=Y4 t (Nat.le_refl _)
    have cc:=Jl h.kM (kJ t) (kJ n) (by omega) (by rw [hB];omega)
    rw [val_mk,val_mk,hB] at cc
    refine ah cc ?_
    refine ev ?_
    have gk : C9 t n < 0 ↔ t < n:=by unfold C9;repeat' split <;> omega
    have k0:=hz i (by omega)
    have k1:=fQ Q i
    refine aN (fun c3=>?_) fun c3=>?_ <;> (refine ev1 @c3 ?_;try with_reducible exact True.intro)
    ·have hny:=gk.1 c3
     have k2 : val (A.drop i) = val (Q.drop i) * n + t:=by
      rw [hvi,hv,k1,k0,Nat.add_mul,Nat.mul_add,← Nat.mul_assoc];simp only [Int.toNat_zero,Nat.zero_mul,Nat.zero_add,← ht];omega
     exact ⟨(i,Q,t),by dsimp only;omega,⟨by dsimp only;omega,hQ,hQb,fun j hj=>hz j (by dsimp only at hj;omega),hny,k2⟩,by exact aaK⟩
    ·have hny : n ≤ t:=by omega
     have cd:=XJ h.Me (r:=t) (b:=n) hn htn (by omega) (by rw [hB];omega)
     rw [hB] at cd
     have hdm:=Nat.div_add_mod t n
     have hml:=Nat.mod_lt t hn
     have hq : t / n < 1000000000:=Nat.div_lt_of_lt_mul (by omega)
     obtain ⟨d,hd⟩ : ∃ d,t / n = d:=⟨_,rfl⟩
     rw [hd] at cd hdm hq
     have cn:=Gn h.jq (n:=((d : Nat) : Int)) (by omega)
     rw [Int.toNat_natCast] at cn
     have lq : (mk d).length ≤ 1:=aX.2 (by omega)
     have pm:=uw h.dP (m:=n) (n:=d) (by rw [hB];omega) (by omega)
     rw [hB] at pm
     have lnd:=Y4 (n * d) (by omega)
     have ps:=Og h.xM (m:=t) (n:=n * d) (by omega) (by omega) (by omega)
     have k3:=DK (l:=Q) (i:=i) (d:=((d : Nat) : Int)) (by omega) (by omega) hQb
     have k4 : ∀ j,j < i → (Q.set i (d : Nat)).getD j 0 = 0:=by
      intro j hj
      rw [iG,if_neg (by omega)]
      exact hz j (by omega)
     have k5 : val (A.drop i) = val ((Q.set i (d : Nat)).drop i) * n + (t - n * d):=by
      rw [hvi,hv,drop_set_self (by omega),val,Nat.add_mul,Nat.mul_add,← Nat.mul_assoc]
      rw [show ((d : Nat) : Int).toNat = d by omega,Nat.mul_comm d n]
      omega
     have k6 : t - n * d < n:=by omega
     clear hdm hv hvi k1 k0 hz lx Y4 ht hd hml hx
     refine ah cd ?_
     refine qm @e1 @hQ ?_
     refine ah cn ?_
     refine ev ?_
     refine ah pm ?_
     refine ev ?_
     refine ah ps ?_
     refine ev ?_
     exact ⟨(i,Q.set i (d : Nat),t - n * d),by dsimp only;omega,⟨by dsimp only;omega,by simp [hQ],k3,k4,k6,k5⟩,by exact aaK⟩
theorem Oi {T : Tb} (h : zh T) {n : Nat} (hn : n < 1000000000000000000:=by exact gU) : PF T 134 [ints (mk n)] (.gq [iv (n : Nat),.bool true]):=by
 have hl : (mk n).length ≤ 2:=aX.2 (by omega)
 have hv:=val_mk n
 have c1:=N9 h.uy (l:=mk n) (by omega)
 rw [Ji (Nat.lt_of_lt_of_le hn (by omega))] at c1
 have cb : Can [854775807,223372036,9]:=⟨by intro x hx;simp at hx;omega,by simp⟩
 have c2:=Jl h.kM (kJ n) cb (by omega) (by simp)
 have e2 : C9 (val (mk n)) (val [854775807,223372036,9]) = -1:=by
  have : val [854775807,223372036,9] = 9223372036854775807:=by simp [val]
  rw [this,val_mk];unfold C9;rw [if_pos (by omega)]
 rw [e2] at c2
 refine aV nR h.hT ?_
 simp only [rF,Lz]
 refine ev ?_
 refine ah c1 ?_
 refine ev ?_
 refine ah c2 ?_
 have c3 : ¬ (0 : Int) < -1:=by omega
 refine ev1 @c3 ?_
 refine aS (fun _ _=>false) (α:=Nat) (fun k=>⟨dX [ints (mk n),.any,.any,.any,iv (val ((mk n).drop k) : Nat),iv ((k : Int) - 1)],[],0,0,[],[]⟩) (fun k=>k ≤ (mk n).length) (fun k=>k) rfl (mk n).length ?_ ?_ ?_
 ·omega
 ·have e : val ((mk n).drop (mk n).length) = 0:=bK (Nat.le_refl _)
  simp only [e]
  exact Iy
 ·intro k hk
  refine ev ?_
  refine aN (fun h3=>?_) fun h3=>?_ <;> (refine ev1 @h3 ?_;try with_reducible exact True.intro)
  ·obtain ⟨m,rfl⟩ : ∃ m,k = m + 1:=⟨k - 1,by omega⟩
   have e1 : ((m + 1 : Nat) : Int) - 1 = (m : Nat):=by omega
   have e2:=fQ (mk n) m
   have e3:=LH (l:=mk n) m
   have e4:=jU (jT n) m
   refine ev1 @e1 ?_
   exact ⟨m,by omega,by omega,by (refine aJ ?_;exact Et)⟩
  ·have : k = 0:=by omega
   subst this
   rw [List.drop_zero,hv]
theorem U8 {T : Tb} (h : xP T) {m n : Nat} (la : (mk m).length ≤ 800:=by exact gU) (lb : (mk n).length ≤ 800:=by exact gU) :
  PF T 123 [ints (mk m),ints (mk n)] (ints (mk (Nat.gcd m n))):=by
 have em : ∀ k,aH (mk k) = [] → mk k = []:=fun k e=>by cases hm : mk k with | nil=>rfl | cons a l=>rw [hm] at e;cases e
 refine aC nR h.hT ?_
 simp only [xO,Lz]
 refine ev ?_
 refine ⟨fun e1=>⟨fun e2=>?_,fun e2=>?_⟩,fun e1=>⟨by omega,fun e2=>?_,fun e2=>?_⟩⟩
 case' refine_1=>have x0:=em m e1;have y0:=em n e2
 case' refine_2=>have x0:=em m e1;refine ⟨by omega,?_⟩
 case' refine_3=>have y0:=em n e2
 case' refine_4=>refine ⟨by omega,?_⟩
 all_goals
  refine aS (fun _ _=>false) (α:=Nat × Nat) (fun q=>⟨dX [.any,.any,.any,.any,.any,ints (mk q.1),ints (mk q.2)],[],0,0,[],[]⟩) (fun q=>Nat.gcd q.1 q.2 = Nat.gcd m n ∧ (mk q.1).length ≤ 800 ∧ (mk q.2).length ≤ 800) (fun q=>q.2) rfl (m,n) ?_ ?_ ?_
  ·exact ⟨rfl,la,lb⟩
  ·dsimp only
   try rw [x0]
   try rw [y0]
   exact aod
  ·rintro ⟨x,y⟩ ⟨hg,lx,ly⟩
   dsimp only at hg lx ly
   rw [← hg]
   clear hg la lb em e1 e2
   refine ev ?_
   refine aN (fun c1=>?_) fun c1=>?_ <;> (refine ev1 @c1 ?_;try with_reducible exact True.intro)
   ·have hy : 0 < y:=y7.1 (by omega)
    by_cases c2 : (((mk x).length : Nat) : Int) < 3 ∧ (((mk y).length : Nat) : Int) < 3
    ·obtain ⟨c2,c3⟩:=c2
     have sx : x < 1000000000000000000:=by have:=aX (n:=x) (k:=2);omega
     have sy : y < 1000000000000000000:=by have:=aX (n:=y) (k:=2);omega
     refine qm @c2 @c3 ?_
     refine ah (Oi h.Ew sx) ?_
     refine ev ?_
     refine ah (Oi h.Ew sy) ?_
     refine ev ?_
     refine ah (XK h.MB sx sy) ?_
     refine ev ?_
     exact au _
    ·have lr:=Nat.mod_lt x hy
     have lr2 : (mk (x % y)).length ≤ 800:=Nat.le_trans (DU (Nat.le_of_lt lr)) ly
     have eg : Nat.gcd y (x % y) = Nat.gcd x y:=by rw [Nat.gcd_comm x y,Nat.gcd_rec y x,Nat.gcd_comm]
     have big : ((((mk x).length : Nat) : Int) < 3 ∧ ¬ (((mk y).length : Nat) : Int) < 3) ∨ ¬ (((mk x).length : Nat) : Int) < 3:=by omega
     clear c2
     rcases big with ⟨c2,c3⟩ | c2
     case' inl=>(refine qm @c2 @c3 ?_;try with_reducible exact True.intro)
     case' inr=>(refine ev1 @c2 ?_;try with_reducible exact True.intro)
     all_goals
      refine ah (Oh h.xQ hy (by omega) (by omega)) ?_
      refine ev ?_
      exact ⟨(y,x % y),lr,⟨eg,ly,lr2⟩,by (refine aJ ?_;exact Et)⟩
   ·have y0 : y = 0:=by have:=@y7 y;omega
    rw [y0,Nat.gcd_zero_right]
    exact au _
def jG : Fn:=⟨2,17,[.cell 4 2 true],(.seq (rf 1 [oN 4 (.alloc QM)]) (.seq (sr [oW 5 1,oN 6 (ln 5),oN 7 (bc .eql 6 0),oW 8 7,oG 8 false 9 (oV 1),oG 8 false 10 (ln 9),oG 8 false 11 (bc .gtr 10 60),oN 12 (.pick (.t 8) (.c (.bool true)) (.t 11))] (cd 12 (sr [oN 13 (.build QM []),oS (.store 2 (.t 4) (.t 13))] .ret) .skip)) (sr [oW 14 0,oW 15 1,oN 16 (.build QM [(0,1,(.t 14)),(1,1,(.t 15))]),oS (.store 2 (.t 4) (.t 16))] .ret)))⟩
structure eu (T : Tb) : Prop where
 hT : T 68 = some jG
def xU : Fn:=⟨2,16,[.cell 4 2 true],(.seq (rf 3 [oN 2 (.box (.t 0)),oK 3 1 (.box (.t 1)),oK 4 2 (.alloc QM)]) (.seq (rt 0 [oN 5 (fd 0 2),oA 6 0 (lF 1 5) [0],oN 7 (fd 0 3),oA 8 0 (lF 1 7) [2],oA 9 0 (.beq true (.t 6) (.t 8)) [1,3],oN 10 (fd 1 2),oA 11 0 (lF 1 10) [5],oN 12 (fd 1 3),oA 13 0 (lF 1 12) [7],oA 14 0 (cl 155 [11,13]) [6,8],oA 15 0 (cl 68 [9,14]) [4,9,9],⟨none,none,0,.store 2 (.t 4) (.t 15),[10,10,0,1,2,3,4,5,6,7,8,9,10]⟩]) .ret))⟩
structure qG (T : Tb) : Prop where
 hT : T 142 = some xU
 bg : eu T
 xH : xk T
def xW : Fn:=⟨2,40,[.cell 4 2 true],(.seq (rf 3 [oN 2 (.box (.t 0)),oK 3 1 (.box (.t 1)),oK 4 2 (.alloc QM)]) (.seq (sr [oN 5 (fd 0 2),oN 6 (lF 1 5),oN 7 (fd 0 3),oN 8 (lF 1 7),oN 9 (.beq false (.t 6) (.t 8))] (cd 9 (.seq (rt 0 [oN 10 (fd 0 2),oA 11 0 (lF 1 10) [0],oN 12 (fd 1 2),oA 13 0 (lF 1 12) [2],oN 14 (fd 1 3),oA 15 0 (lF 1 14) [4],oA 16 0 (cl 160 [13,15]) [3,5],oA 17 0 (cl 68 [11,16]) [1,6,6],⟨none,none,0,.store 2 (.t 4) (.t 17),[7,7,0,1,2,3,4,5,6,7]⟩]) .ret) .skip)) (.seq (sr [oN 18 (fd 1 2),oN 19 (lF 1 18),oN 20 (fd 1 3),oN 21 (lF 1 20),oN 22 (cl 152 [19,21]),oN 23 (bc .geq 22 0)] (cd 23 (.seq (rt 0 [oN 24 (fd 0 2),oA 25 0 (lF 1 24) [0],oN 26 (fd 1 2),oA 27 0 (lF 1 26) [2],oN 28 (fd 1 3),oA 29 0 (lF 1 28) [4],oA 30 0 (cl 154 [27,29]) [3,5],oA 31 0 (cl 68 [25,30]) [1,6,6],⟨none,none,0,.store 2 (.t 4) (.t 31),[7,7,0,1,2,3,4,5,6,7]⟩]) .ret) .skip)) (.seq (rt 0 [oN 32 (fd 0 3),oA 33 0 (lF 1 32) [0],oN 34 (fd 1 3),oA 35 0 (lF 1 34) [2],oN 36 (fd 1 2),oA 37 0 (lF 1 36) [4],oA 38 0 (cl 154 [35,37]) [3,5],oA 39 0 (cl 68 [33,38]) [1,6,6],⟨none,none,0,.store 2 (.t 4) (.t 39),[7,7,0,1,2,3,4,5,6,7]⟩]) .ret))))⟩
structure BM (T : Tb) : Prop where
 hT : T 141 = some xW
 bg : eu T
 xG : wW T
 qE : wZ T
 P8 : BI T
def rG : Fn:=⟨1,17,[.tmp 2],(.seq (rf 1 [oN 1 (.box (.t 0)),oK 2 1 mF]) (sr [oN 3 (fd 1 1),oN 4 (lF 1 3),oN 5 (cl 126 [4]),oW 6 5,oG 6 true 7 (fd 0 1),oG 6 true 8 (lF 1 7),oG 6 true 9 (oV 8),oG 9 true 10 (fd 1 1),oG 9 true 11 (lF 1 10),oG 9 true 12 (ln 11),oG 9 true 13 (bc .eql 12 0),oG 6 true 14 (.pick (.t 9) (.t 13) (.c (.bool false))),oG 6 true 15 (nt 14),oN 16 (.pick (.t 6) (.t 15) (.c (.bool false))),oW 2 16] .ret))⟩
structure zi (T : Tb) : Prop where
 hT : T 125 = some rG
 DW : zD T
def zI : Fn:=⟨1,6,[.cell 2 2 true],(.seq (rf 2 [oN 1 (.box (.t 0)),oK 2 1 (.alloc QM)]) (sr [oN 3 (fd 2 1),oN 4 (lF 1 3),oN 5 (.build QM [(1,1,(.t 4))]),oS (.store 2 (.t 2) (.t 5))] .ret))⟩
structure pJ (T : Tb) : Prop where
 hT : T 143 = some zI
def Bz : Fn:=⟨1,7,[.tmp 2],(.seq (rf 1 [oN 1 (.box (.t 0)),oK 2 1 mF]) (sr [oN 3 (fd 2 1),oN 4 (lF 1 3),oN 5 (ln 4),oN 6 (bc .gtr 5 0),oW 2 6] .ret))⟩
structure fU (T : Tb) : Prop where
 hT : T 132 = some Bz
theorem SE : bM (LG ⟨false,[]⟩) (.agg [.bool false,.ak]):=by
 show bM (.agg [.bool false,.sl 1 []]) (.agg [.bool false,.ak])
 simp only [Fj,KE,KD,Dh,fP,and_true]
theorem iZ : bM (aQ ⟨false,[],[]⟩) (.agg [.bool false,.ak,.ak]):=by
 show bM (.agg [.bool false,.sl 1 [],.sl 1 []]) (.agg [.bool false,.ak,.ak])
 simp only [Fj,KE,KD,Dh,fP,and_true]
theorem tV {T : Tb} (h : eu T) {neg : Bool} {n : Nat} (hl : (mk n).length ≤ 60:=by exact gU) : PF T 68 [.bool neg,ints (mk n)] (LG (bi (sg neg n))):=by
 refine aC nR h.hT ?_
 simp only [jG,Lz]
 refine ev ?_
 refine aN (fun h1=>?_) fun h1=>?_ <;> (refine ev1 @h1 ?_;try with_reducible exact True.intro)
 ·have n0 : n = 0:=aaL.1 (by omega)
  subst n0
  rw [Jp,Y5]
  exact SE
 ·have h2 : ¬ (60 : Int) < ((mk n).length : Nat):=by omega
  refine ev1 @h2 ?_
  rw [ac7 neg n (y7.1 (by omega))]
  exact au _
theorem agZ {T : Tb} (h : pJ T) {r : R} : PF T 143 [aQ r] (LG ⟨false,r.den⟩):=by
 refine aC nR h.hT ?_
 simp only [zI,Lz]
 refine ev ?_
 exact au _
theorem Jq (a b : Bool) : (!decide (a = b)) = (a != b):=by cases a <;> cases b <;> rfl
theorem mJ {T : Tb} (h : qG T) {x y : Int} (lx : (mk x.natAbs).length ≤ 30:=by exact gU) (ly : (mk y.natAbs).length ≤ 30:=by exact gU) : PF T 142 [LG (bi x),LG (bi y)] (LG (bi (x * y))):=by
 have l1:=BL x.natAbs y.natAbs
 refine aC nR h.hT ?_
 simp only [xU,Lz]
 refine ev ?_
 refine ah (N8 h.xH (by omega) (by omega)) ?_
 refine ev ?_
 refine ah (tV h.bg (by omega)) ?_
 refine ev ?_
 refine ⟨by unfold lU;decide +kernel,?_⟩
 rw [Jq,Oe]
 exact au _
theorem U9 {T : Tb} (h : BM T) {x y : Int} (lx : (mk x.natAbs).length ≤ 59:=by exact gU) (ly : (mk y.natAbs).length ≤ 59:=by exact gU) : PF T 141 [LG (bi x),LG (bi y)] (LG (bi (x + y))):=by
 have l1:=XH x.natAbs y.natAbs
 have l2:=SB x.natAbs y.natAbs
 have l3:=SB y.natAbs x.natAbs
 refine aC nR h.hT ?_
 simp only [xW,Lz]
 refine ev ?_
 refine aN (fun h1=>?_) fun h1=>?_ <;> (refine ev1 @h1 ?_;try with_reducible exact True.intro)
 ·refine ah (ac3 h.P8 (by omega) (by omega)) ?_
  refine ev ?_
  refine ah (tV h.bg (by omega)) ?_
  refine ev ?_
  refine ⟨by unfold lU;decide +kernel,?_⟩
  rw [← h1,LJ h1]
  exact au _
 ·have cc:=N7 h.xG (kJ x.natAbs) (kJ y.natAbs) (by omega) (by omega)
  rw [val_mk,val_mk] at cc
  refine ah cc ?_
  refine ev ?_
  refine aN (fun h2=>?_) fun h2=>?_ <;> (refine ev1 @h2 ?_;try with_reducible exact True.intro)
  ·have h3:=lQ.1 h2
   refine ah (Jk h.qE h3 (by omega) (by omega)) ?_
   refine ev ?_
   refine ah (tV h.bg (by omega)) ?_
   refine ev ?_
   refine ⟨by unfold lU;decide +kernel,?_⟩
   rw [Bv h1 h3]
   exact au _
  ·have h3 : x.natAbs ≤ y.natAbs:=by have:=@lQ x.natAbs y.natAbs;omega
   refine ah (Jk h.qE h3 (by omega) (by omega)) ?_
   refine ev ?_
   refine ah (tV h.bg (by omega)) ?_
   refine ev ?_
   refine ⟨by unfold lU;decide +kernel,?_⟩
   rw [Bv (fun e=>h1 e.symm) h3,Int.add_comm]
   exact au _
theorem XL {T : Tb} (h : zi T) {z : Bi} (hl : z.mag.length ≤ 9223372036854775807:=by exact gU) : PF T 125 [LG z] (.bool (kT z.mag && !(z.neg && z.mag.isEmpty))):=by
 obtain ⟨neg,mag⟩:=z
 have cn:=Y2 h.DW hl
 dsimp only at cn ⊢
 cases hn : kT mag <;> rw [hn] at cn <;> cases neg
 all_goals
  refine aV nR h.hT ?_
  simp only [rG,Lz]
  refine ev ?_
  refine ah cn ?_
  (refine ev ?_;try with_reducible exact True.intro)
 all_goals
  cases mag <;> simp <;> omega
theorem ake {T : Tb} (h : fU T) {r : R} : PF T 132 [aQ r] (.bool (!r.den.isEmpty)):=by
 refine aV nR h.hT ?_
 simp only [Bz,Lz]
 refine ev ?_
 cases r.den <;> simp
def oJ : Fn:=⟨2,18,[.cell 4 2 true],(.seq (rf 1 [oN 4 (.alloc QM)]) (sr [oW 6 1,oN 7 (cl 70 [6]),oW 5 7] (.seq (rf 2 [oK 8 2 (oV 0),oK 9 2 (oV 8),oH 9 true 10 2 (oV 5) [],oH 9 true 11 2 (ln 10) [],oH 9 true 12 2 (bc .gtr 11 0) [],oK 13 2 (.pick (.t 9) (.t 12) (.c (.bool false))),oN 14 (.fE 1 Eo 0 []),oK 15 2 (oV 5),oK 16 1 (.app 1 8 (.t 14) (.t 15)),oK 17 2 (.build QM [(0,1,(.t 13)),(1,1,(.t 16))]),⟨none,none,2,.store 2 (.t 4) (.t 17),[]⟩]) .ret)))⟩
structure jH (T : Tb) : Prop where
 hT : T 66 = some oJ
 P9 : BK T
def xX : Fn:=⟨2,40,[.cell 4 2 true],(.seq (rf 3 [oN 2 (.box (.t 0)),oK 3 1 (.box (.t 1)),oK 4 2 (.alloc QM)]) (.seq (sr [oN 5 (fd 0 2),oN 6 (lF 1 5),oN 7 (fd 0 3),oN 8 (lF 1 7),oN 9 (.beq false (.t 6) (.t 8))] (cd 9 (.seq (rt 0 [oN 10 (fd 0 2),oA 11 0 (lF 1 10) [0],oN 12 (fd 1 2),oA 13 0 (lF 1 12) [2],oN 14 (fd 1 3),oA 15 0 (lF 1 14) [4],oA 16 0 (cl 209 [13,15]) [3,5],oA 17 0 (cl 66 [11,16]) [1,6,6],⟨none,none,0,.store 2 (.t 4) (.t 17),[7,7,0,1,2,3,4,5,6,7]⟩]) .ret) .skip)) (.seq (sr [oN 18 (fd 1 2),oN 19 (lF 1 18),oN 20 (fd 1 3),oN 21 (lF 1 20),oN 22 (cl 146 [19,21]),oN 23 (bc .geq 22 0)] (cd 23 (.seq (rt 0 [oN 24 (fd 0 2),oA 25 0 (lF 1 24) [0],oN 26 (fd 1 2),oA 27 0 (lF 1 26) [2],oN 28 (fd 1 3),oA 29 0 (lF 1 28) [4],oA 30 0 (cl 149 [27,29]) [3,5],oA 31 0 (cl 66 [25,30]) [1,6,6],⟨none,none,0,.store 2 (.t 4) (.t 31),[7,7,0,1,2,3,4,5,6,7]⟩]) .ret) .skip)) (.seq (rt 0 [oN 32 (fd 0 3),oA 33 0 (lF 1 32) [0],oN 34 (fd 1 3),oA 35 0 (lF 1 34) [2],oN 36 (fd 1 2),oA 37 0 (lF 1 36) [4],oA 38 0 (cl 149 [35,37]) [3,5],oA 39 0 (cl 66 [33,38]) [1,6,6],⟨none,none,0,.store 2 (.t 4) (.t 39),[7,7,0,1,2,3,4,5,6,7]⟩]) .ret))))⟩
structure BN (T : Tb) : Prop where
 hT : T 205 = some xX
 bZ : jH T
 kM : ni T
 xM : xB T
 Qa : BJ T
def rH : Fn:=⟨1,17,[.tmp 2],(.seq (rf 1 [oN 1 (.box (.t 0)),oK 2 1 mF]) (sr [oN 3 (fd 1 1),oN 4 (lF 1 3),oN 5 (cl 121 [4]),oW 6 5,oG 6 true 7 (fd 0 1),oG 6 true 8 (lF 1 7),oG 6 true 9 (nt 8),oG 6 true 10 (oV 9),oG 10 false 11 (fd 1 1),oG 10 false 12 (lF 1 11),oG 10 false 13 (ln 12),oG 10 false 14 (bc .gtr 13 0),oG 6 true 15 (.pick (.t 10) (.c (.bool true)) (.t 14)),oN 16 (.pick (.t 6) (.t 15) (.c (.bool false))),oW 2 16] .ret))⟩
structure rJ (T : Tb) : Prop where
 hT : T 120 = some rH
 uy : uo T
def qH : Fn:=⟨1,12,[.tmp 2],(sr [oN 2 mF] (sr [oW 3 0,oN 4 (ln 3),oN 5 (bc .eql 4 1),oW 6 5,oG 6 true 7 (oV 0),oG 6 true 8 (.idx 1 (.t 7) (cI 0)),oG 6 true 9 (lF 1 8),oG 6 true 10 (bc .eql 9 1),oN 11 (.pick (.t 6) (.t 10) (.c (.bool false))),oW 2 11] .ret))⟩
structure qI (T : Tb) : Prop where
 hT : T 122 = some qH
theorem pK {T : Tb} (h : jH T) {neg : Bool} {n : Nat} (hl : (mk n).length ≤ 60:=by exact gU) : PF T 66 [.bool neg,ints (mk n)] (LG (bi (sg neg n))):=by
 have ct:=ac5 h.P9 (n:=n) (by omega)
 by_cases n0 : n = 0
 ·subst n0
  rw [mk_zero] at *
  rw [Jp,Y5]
  refine aC nR h.hT ?_
  simp only [oJ,Lz]
  refine ev ?_
  refine ah ct ?_
  cases neg
  ·refine ev ?_
   exact ⟨fun _=>SE,fun e=>absurd rfl e⟩
  ·refine ev ?_
   exact ⟨fun _=>SE,fun e=>absurd rfl e⟩
 ·have hp:=y7.2 (Nat.pos_of_ne_zero n0)
  have ne : aH (mk n) ≠ []:=by intro e;rw [← yV,e] at hp;simp at hp
  rw [ac7 neg n (by omega)]
  refine aC nR h.hT ?_
  simp only [oJ,Lz]
  refine ev ?_
  refine ah ct ?_
  cases neg
  ·refine ev1 @ne ?_
   exact ⟨by omega,au _⟩
  ·have c1 : (0 : Int) < ((mk n).length : Nat):=by omega
   refine qm @ne @c1 ?_
   exact ⟨by omega,au _⟩
theorem Va {T : Tb} (h : BN T) {x y : Int} (lx : (mk x.natAbs).length ≤ 59:=by exact gU) (ly : (mk y.natAbs).length ≤ 59:=by exact gU) : PF T 205 [LG (bi x),LG (bi y)] (LG (bi (x + y))):=by
 have l1:=XH x.natAbs y.natAbs
 have l2:=SB x.natAbs y.natAbs
 have l3:=SB y.natAbs x.natAbs
 refine aC nR h.hT ?_
 simp only [xX,Lz]
 refine ev ?_
 refine aN (fun h1=>?_) fun h1=>?_ <;> (refine ev1 @h1 ?_;try with_reducible exact True.intro)
 ·refine ah (ac6 h.Qa (by omega) (by omega)) ?_
  refine ev ?_
  refine ah (pK h.bZ (by omega)) ?_
  refine ev ?_
  refine ⟨by unfold lU;decide +kernel,?_⟩
  rw [← h1,LJ h1]
  exact au _
 ·have cc:=Jl h.kM (kJ x.natAbs) (kJ y.natAbs) (by omega) (by omega)
  rw [val_mk,val_mk] at cc
  refine ah cc ?_
  refine ev ?_
  refine aN (fun h2=>?_) fun h2=>?_ <;> (refine ev1 @h2 ?_;try with_reducible exact True.intro)
  ·have h3:=lQ.1 h2
   refine ah (Og h.xM h3 (by omega) (by omega)) ?_
   refine ev ?_
   refine ah (pK h.bZ (by omega)) ?_
   refine ev ?_
   refine ⟨by unfold lU;decide +kernel,?_⟩
   rw [Bv h1 h3]
   exact au _
  ·have h3 : x.natAbs ≤ y.natAbs:=by have:=@lQ x.natAbs y.natAbs;omega
   refine ah (Og h.xM h3 (by omega) (by omega)) ?_
   refine ev ?_
   refine ah (pK h.bZ (by omega)) ?_
   refine ev ?_
   refine ⟨by unfold lU;decide +kernel,?_⟩
   rw [Bv (fun e=>h1 e.symm) h3,Int.add_comm]
   exact au _
theorem Fq {T : Tb} (h : rJ T) {z : Bi} (hl : z.mag.length ≤ 9223372036854775807:=by exact gU) : PF T 120 [LG z] (.bool (kT z.mag && !(z.neg && z.mag.isEmpty))):=by
 obtain ⟨neg,mag⟩:=z
 have cn:=N9 h.uy hl
 dsimp only at cn ⊢
 cases hn : kT mag <;> rw [hn] at cn <;> cases neg
 all_goals
  refine aV nR h.hT ?_
  simp only [rH,Lz]
  refine ev ?_
  refine ah cn ?_
  (refine ev ?_;try with_reducible exact True.intro)
 all_goals
  cases mag <;> simp <;> omega
theorem Fv {T : Tb} (h : qI T) {n : Nat} : PF T 122 [ints (mk n)] (.bool (decide (n = 1))):=by
 by_cases n1 : n = 1
 ·subst n1
  rw [mk_one (by omega) (by omega)]
  have c0 : ((1 : Nat) : Int) = 1:=rfl
  refine aV nR h.hT ?_
  simp only [qH,Lz]
  refine ev ?_
  refine ev1 @c0 ?_
  rfl
 ·have key : ¬ ((mk n).length = 1 ∧ (mk n).getD 0 0 = 1):=by
   rintro ⟨k,e⟩
   have:=val_mk n
   cases hm : mk n with
   | nil=>rw [hm] at k;simp at k
   |
    cons x l =>
    rw [hm] at k e this
    have : l = []:=by simpa using k
    subst this
    simp [val] at *
    omega
  refine aV nR h.hT ?_
  simp only [qH,Lz]
  refine ev ?_
  by_cases k : (((mk n).length : Nat) : Int) = 1
  ·have k':=iff_true_intro k
   have e : ¬ (mk n).getD 0 0 = 1:=fun e=>key ⟨by omega,e⟩
   refine qm @k' @e ?_
   simp [n1]
  ·refine ev1 @k ?_
   simp [n1]
theorem Jr {q : Rat} : fits q = true ↔ (mk q.num.natAbs).length ≤ 24 ∧ (mk q.den).length ≤ 24:=by
 rw [aX,aX];simp [fits]
theorem Dl (neg : Bool) (m : Nat) : (sg neg m).natAbs = m:=by cases neg <;> simp [sg]
theorem SG {n d : Int} (hd : d ≠ 0) : Q.raw (Io n d) =
  if (mk (n.natAbs / Nat.gcd n.natAbs d.natAbs)).length ≤ 24 ∧ (mk (d.natAbs / Nat.gcd n.natAbs d.natAbs)).length ≤ 24 then
   ⟨(bi (sg (decide (n < 0) != decide (d < 0)) (n.natAbs / Nat.gcd n.natAbs d.natAbs))).neg,mk (n.natAbs / Nat.gcd n.natAbs d.natAbs),mk (d.natAbs / Nat.gcd n.natAbs d.natAbs)⟩
  else ⟨false,[],[]⟩:=by
 obtain ⟨h1,h2,h3⟩:=Xw (n:=n) hd
 unfold Io
 rw [if_neg hd]
 have hg : 0 < Nat.gcd n.natAbs d.natAbs:=Nat.gcd_pos_of_pos_right _ (by omega)
 have h4 : n.natAbs / Nat.gcd n.natAbs d.natAbs = 0 ↔ n = 0:=by
  constructor
  ·intro h
   have:=Nat.div_mul_cancel (Nat.gcd_dvd_left n.natAbs d.natAbs)
   rw [h] at this;omega
  ·intro h;subst h;simp
 have h5 : decide ((Rat.divInt n d).num < 0) = decide (sg (decide (n < 0) != decide (d < 0)) (n.natAbs / Nat.gcd n.natAbs d.natAbs) < 0):=by
  rw [h3]
  generalize n.natAbs / Nat.gcd n.natAbs d.natAbs = m at h4
  cases hb : (decide (n < 0) != decide (d < 0))
  ·simp [sg]
  ·by_cases hn : n = 0
   ·have:=h4.2 hn
    subst this;simp [sg,hn]
   ·have : m ≠ 0:=fun e=>hn (h4.1 e)
    simp [sg,hn];omega
 by_cases hf : fits (Rat.divInt n d) = true
 ·have hf2:=Jr.1 hf
  rw [h1,h2] at hf2
  rw [jX hf,if_pos hf2]
  simp only [Q.raw,h1,h2,h5]
 ·have hf2:=fun h=>hf (Jr.2 h)
  rw [h1,h2] at hf2
  rw [QJ (by simpa using hf),if_neg hf2]
  rfl
def jI : Fn:=⟨2,52,[.cell 4 3 true],(.seq (rf 3 [oN 2 (.box (.t 0)),oK 3 1 (.box (.t 1)),oK 4 2 (.alloc mV)]) (.seq (sr [oN 10 (fd 1 3),oN 11 (lF 1 10),oN 12 (ln 11),oN 13 (bc .eql 12 0)] (cd 13 (sr [oN 14 (.build mV []),oS (.store 3 (.t 4) (.t 14))] .ret) .skip)) (sr [oN 15 (fd 1 2),oN 16 (lF 1 15),oN 17 (fd 1 3),oN 18 (lF 1 17),oN 19 (cl 127 [16,18]),oW 5 19] (sr [oN 21 (fd 1 2),oN 22 (lF 1 21),oW 23 5,oN 24 (cl 138 [22,23]),oW 20 24,oN 25 (ex 0 20),oN 26 (ex 1 20),oW 6 25,oW 7 26] (sr [oN 28 (fd 1 3),oN 29 (lF 1 28),oW 30 5,oN 31 (cl 138 [29,30]),oW 27 31,oN 32 (ex 0 27),oN 33 (ex 1 27),oW 8 32,oW 9 33] (.seq (sr [oW 34 6,oN 35 (ln 34),oN 36 (bc .gtr 35 24),oW 37 36,oG 37 false 38 (oV 8),oG 37 false 39 (ln 38),oG 37 false 40 (bc .gtr 39 24),oN 41 (.pick (.t 37) (.c (.bool true)) (.t 40))] (cd 41 (sr [oN 42 (.build mV []),oS (.store 3 (.t 4) (.t 42))] .ret) .skip)) (sr [oN 43 (fd 0 2),oN 44 (lF 1 43),oN 45 (fd 0 3),oN 46 (lF 1 45),oN 47 (.beq true (.t 44) (.t 46)),oW 48 6,oN 49 (cl 68 [47,48]),oW 50 8,oN 51 (.build mV [(0,2,(.t 49)),(2,1,(.t 50))]),oS (.store 3 (.t 4) (.t 51))] .ret)))))))⟩
structure lC (T : Tb) : Prop where
 hT : T 144 = some jI
 bg : eu T
 xY : xJ T
 nC : qC T
def iH : Fn:=⟨2,33,[.cell 4 3 true],(.seq (rf 3 [oN 2 (.box (.t 0)),oK 3 1 (.box (.t 1)),oK 4 2 (.alloc mV)]) (.seq (sr [oN 6 (lT 3 2),oN 7 (cl 132 [6]),oN 8 (nt 7),oW 9 8,oG 9 false 10 (lT 3 3),oG 9 false 11 (cl 132 [10]),oG 9 false 12 (nt 11),oN 13 (.pick (.t 9) (.c (.bool true)) (.t 12))] (cd 13 (sr [oN 14 (.build mV []),oS (.store 3 (.t 4) (.t 14))] .ret) .skip)) (.seq (rt 1 [oK 15 1 (fd 0 2),oA 16 1 (lT 2 15) [0],oK 17 1 (lT 3 3),oA 18 1 (cl 143 [17]) [2],oA 19 1 (cl 142 [16,18]) [1,3,3],oK 20 1 (fd 0 3),oA 21 1 (lT 2 20) [5],oK 22 1 (lT 3 2),oA 23 1 (cl 143 [22]) [7,4],oA 24 1 (cl 142 [21,23]) [6,8,8],oA 25 1 (cl 141 [19,24]) [4,9,9],oN 5 (.alloc QM),⟨none,none,1,.store 2 (.t 5) (.t 25),[11,10,10,0,1,2,3,4,5,6,7,8,9,10,11]⟩]) (.seq (rt 0 [oN 26 (lT 2 5),oN 27 (lT 3 2),oA 28 0 (cl 143 [27]) [1],oN 29 (lT 3 3),oA 30 0 (cl 143 [29]) [3,2],oA 31 0 (cl 142 [28,30]) [2,4,4],oA 32 0 (cl 144 [26,31]) [0,5,5],⟨none,none,0,.store 3 (.t 4) (.t 32),[6,6,0,1,2,3,4,5,6]⟩]) .ret))))⟩
structure eH (T : Tb) : Prop where
 hT : T 131 = some iH
 aK : fU T
 He : BM T
 dh : qG T
 bV : pJ T
 jJ : lC T
def qJ : Fn:=⟨1,20,[.cell 2 3 true],(.seq (rf 2 [oN 1 (.box (.t 0)),oK 2 1 (.alloc mV)]) (.seq (sr [oN 3 (lT 3 1),oN 4 (cl 132 [3]),oN 5 (nt 4)] (cd 5 (sr [oN 6 (.build mV []),oS (.store 3 (.t 2) (.t 6))] .ret) .skip)) (.seq (rt 0 [oN 7 (fd 0 1),oA 8 0 (fd 0 7) [0],oA 9 0 (lF 1 8) [1],oA 10 0 (nt 9) [2],oN 11 (fd 0 1),oA 12 0 (fd 1 11) [4],oA 13 0 (lF 1 12) [5],oA 14 0 (cl 139 [13]) [6],oA 15 0 (cl 68 [10,14]) [3,7,7],oN 16 (fd 2 1),oA 17 0 (lF 1 16) [9],oA 18 0 (cl 139 [17]) [10,8],oA 19 0 (.build mV [(0,2,(.t 15)),(2,1,(.t 18))]) [8,11],⟨none,none,0,.store 3 (.t 2) (.t 19),[12,11,0,1,2,3,4,5,6,7,8,9,10,11,12]⟩]) .ret)))⟩
structure qK (T : Tb) : Prop where
 hT : T 161 = some qJ
 bg : eu T
 aK : fU T
 jf : jY T
def xZ : Fn:=⟨2,9,[.cell 4 3 true],(.seq (rf 3 [oN 2 (.box (.t 0)),oK 3 1 (.box (.t 1)),oK 4 2 (.alloc mV)]) (.seq (rt 0 [oN 5 (lT 3 2),oN 6 (lT 3 3),oA 7 0 (cl 161 [6]) [1],oA 8 0 (cl 131 [5,7]) [0,2,2],⟨none,none,0,.store 3 (.t 4) (.t 8),[3,3,0,1,2,3]⟩]) .ret))⟩
structure qL (T : Tb) : Prop where
 hT : T 159 = some xZ
 bG : eH T
 x9 : qK T
def iI : Fn:=⟨2,25,[.cell 4 3 true],(.seq (rf 3 [oN 2 (.box (.t 0)),oK 3 1 (.box (.t 1)),oK 4 2 (.alloc mV)]) (.seq (sr [oN 5 (lT 3 2),oN 6 (cl 132 [5]),oN 7 (nt 6),oW 8 7,oG 8 false 9 (lT 3 3),oG 8 false 10 (cl 132 [9]),oG 8 false 11 (nt 10),oN 12 (.pick (.t 8) (.c (.bool true)) (.t 11))] (cd 12 (sr [oN 13 (.build mV []),oS (.store 3 (.t 4) (.t 13))] .ret) .skip)) (.seq (rt 0 [oN 14 (fd 0 2),oA 15 0 (lT 2 14) [0],oN 16 (fd 0 3),oA 17 0 (lT 2 16) [2],oA 18 0 (cl 142 [15,17]) [1,3],oN 19 (lT 3 2),oA 20 0 (cl 143 [19]) [5,4],oN 21 (lT 3 3),oA 22 0 (cl 143 [21]) [7,6],oA 23 0 (cl 142 [20,22]) [6,8,8],oA 24 0 (cl 144 [18,23]) [4,9,9],⟨none,none,0,.store 3 (.t 4) (.t 24),[10,10,0,1,2,3,4,5,6,7,8,9,10]⟩]) .ret)))⟩
structure iJ (T : Tb) : Prop where
 hT : T 157 = some iI
 aK : fU T
 dh : qG T
 bV : pJ T
 jJ : lC T
def nD : Fn:=⟨2,25,[.cell 4 3 true],(.seq (rf 3 [oN 2 (.box (.t 0)),oK 3 1 (.box (.t 1)),oK 4 2 (.alloc mV)]) (.seq (sr [oN 5 (lT 3 2),oN 6 (cl 132 [5]),oN 7 (nt 6),oW 8 7,oG 8 false 9 (lT 3 3),oG 8 false 10 (cl 132 [9]),oG 8 false 11 (nt 10),oN 12 (.pick (.t 8) (.c (.bool true)) (.t 11))] (cd 12 (sr [oN 13 (.build mV []),oS (.store 3 (.t 4) (.t 13))] .ret) .skip)) (.seq (rt 0 [oN 14 (fd 0 2),oA 15 0 (lT 2 14) [0],oN 16 (lT 3 3),oA 17 0 (cl 143 [16]) [2],oA 18 0 (cl 142 [15,17]) [1,3,3],oN 19 (fd 0 3),oA 20 0 (lT 2 19) [5],oN 21 (lT 3 2),oA 22 0 (cl 143 [21]) [7,4],oA 23 0 (cl 142 [20,22]) [6,8,8],oA 24 0 (cl 144 [18,23]) [4,9,9],⟨none,none,0,.store 3 (.t 4) (.t 24),[10,10,0,1,2,3,4,5,6,7,8,9,10]⟩]) .ret)))⟩
structure yc (T : Tb) : Prop where
 hT : T 156 = some nD
 aK : fU T
 dh : qG T
 bV : pJ T
 jJ : lC T
def oL : Fn:=⟨1,16,[.tmp 2],(.seq (rf 1 [oN 1 (.box (.t 0)),oK 2 1 (.iw (cI 0))]) (.seq (sr [oN 3 (lT 3 1),oN 4 (cl 132 [3]),oN 5 (nt 4),oW 6 5,oG 6 false 7 (fd 0 1),oG 6 false 8 (fd 1 7),oG 6 false 9 (lF 1 8),oG 6 false 10 (ln 9),oG 6 false 11 (bc .eql 10 0),oN 12 (.pick (.t 6) (.c (.bool true)) (.t 11))] (cd 12 (sr [oN 2 (.iw (cI 0))] .ret) .skip)) (.seq (sr [oN 13 (fd 0 1),oN 14 (fd 0 13),oN 15 (lF 1 14)] (cd 15 (sr [oN 2 (.iw (cI (-1)))] .ret) .skip)) (sr [oN 2 (.iw (cI 1))] .ret))))⟩
structure Aq (T : Tb) : Prop where
 hT : T 124 = some oL
 aK : fU T
def jr : Fn:=⟨1,46,[.tmp 2],(.seq (rf 1 [oN 1 (.box (.t 0)),oK 2 1 mF]) (.seq (sr [oN 4 (fd 0 1),oN 5 (lT 2 4),oN 6 (cl 125 [5]),oN 7 (nt 6),oW 8 7,oG 8 false 9 (fd 2 1),oG 8 false 10 (lF 1 9),oG 8 false 11 (cl 126 [10]),oG 8 false 12 (nt 11),oN 13 (.pick (.t 8) (.c (.bool true)) (.t 12)),oW 14 13,oG 14 false 15 (fd 2 1),oG 14 false 16 (lF 1 15),oG 14 false 17 (ln 16),oG 14 false 18 (bc .eql 17 0),oN 19 (.pick (.t 14) (.c (.bool true)) (.t 18))] (cd 19 (sr [oN 2 mF] .ret) .skip)) (.seq (sr [oN 20 (fd 0 1),oN 21 (fd 1 20),oN 22 (lF 1 21),oN 23 (ln 22),oN 24 (bc .gtr 23 24),oW 25 24,oG 25 false 26 (fd 2 1),oG 25 false 27 (lF 1 26),oG 25 false 28 (ln 27),oG 25 false 29 (bc .gtr 28 24),oN 30 (.pick (.t 25) (.c (.bool true)) (.t 29))] (cd 30 (sr [oN 2 mF] .ret) .skip)) (sr [oN 31 (fd 0 1),oN 32 (fd 1 31),oN 33 (lF 1 32),oN 34 (fd 2 1),oN 35 (lF 1 34),oN 36 (cl 127 [33,35]),oW 3 36] (sr [oW 37 3,oN 38 (ln 37),oN 39 (bc .eql 38 1),oW 40 39,oG 40 true 41 (oV 3),oG 40 true 42 (.idx 1 (.t 41) (cI 0)),oG 40 true 43 (lF 1 42),oG 40 true 44 (bc .eql 43 1),oN 45 (.pick (.t 40) (.t 44) (.c (.bool false))),oW 2 45] .ret)))))⟩
structure lW (T : Tb) : Prop where
 hT : T 102 = some jr
 Ey : zi T
 DW : zD T
 xY : xJ T
theorem uz {T : Tb} (h : pJ T) {q : Rat} : PF T 143 [aQ (Q.raw (some q))] (LG (bi q.den)):=by
 have:=agZ h (r:=Q.raw (some q))
 rw [akd]
 exact this
theorem SH {T : Tb} (h : fU T) {a : Q} : PF T 132 [aQ (Q.raw a)] (.bool a.isSome):=by
 have:=ake h (r:=Q.raw a)
 cases a with
 | none=>exact this
 |
  some q =>
  have hp:=y7.2 q.den_pos
  have e : (Q.raw (some q)).den.isEmpty = false:=by
   show (mk q.den).isEmpty = false
   cases hm : mk q.den with
   | nil=>rw [hm] at hp;simp at hp
   | cons x l=>rfl
  rw [e] at this
  exact this
theorem kC {T : Tb} (h : fU T) {q : Rat} : PF T 132 [aQ (Q.raw (some q))] (.bool true):=SH h (a:=some q)
theorem rM {T : Tb} (h : fU T) : PF T 132 [aQ (Q.raw none)] (.bool false):=SH h (a:=none)
theorem KG {T : Tb} (h : lC T) {n d : Int} (ln : (mk n.natAbs).length ≤ 60:=by exact gU) (ld : (mk d.natAbs).length ≤ 60:=by exact gU) :
  PF T 144 [LG (bi n),LG (bi d)] (aQ (Q.raw (Io n d))):=by
 by_cases hd : d = 0
 ·subst hd
  have e : Io n 0 = none:=rfl
  rw [e]
  refine aC nR h.hT ?_
  simp only [jI,Lz]
  refine ev ?_
  have c1 : (((mk (0 : Int).natAbs).length : Nat) : Int) = 0:=by
   show (((mk 0).length : Nat) : Int) = 0
   rw [SC];rfl
  refine ev1 @c1 ?_
  exact iZ
 ·rw [SG hd]
  have hg : 0 < Nat.gcd n.natAbs d.natAbs:=Nat.gcd_pos_of_pos_right _ (by omega)
  have cg:=Oc h.xY (m:=n.natAbs) (n:=d.natAbs) (by omega) (by omega)
  have lg : (mk (Nat.gcd n.natAbs d.natAbs)).length ≤ 60:=Nat.le_trans (DU (Nat.le_of_dvd (by omega) (Nat.gcd_dvd_right _ _))) ld
  have l1:=KF n.natAbs (Nat.gcd n.natAbs d.natAbs)
  have l2:=KF d.natAbs (Nat.gcd n.natAbs d.natAbs)
  have cn:=Ob h.nC (m:=n.natAbs) hg (by omega) (by omega)
  have cd:=Ob h.nC (m:=d.natAbs) hg (by omega) (by omega)
  have c1 : ¬ (((mk d.natAbs).length : Nat) : Int) = 0:=by have:=@aaL d.natAbs;omega
  clear hg lg
  generalize n.natAbs / Nat.gcd n.natAbs d.natAbs = u at *
  generalize d.natAbs / Nat.gcd n.natAbs d.natAbs = v at *
  have cm:=tV h.bg (neg:=!decide (decide (n < 0) = decide (d < 0))) (n:=u) (by omega)
  refine aC nR h.hT ?_
  simp only [jI,Lz]
  refine ev ?_
  refine ev1 @c1 ?_
  refine ah cg ?_
  refine ev ?_
  refine ah cn ?_
  refine ev ?_
  refine ah cd ?_
  refine ev ?_
  by_cases k1 : (24 : Int) < ((mk u).length : Nat)
  ·refine ev1 @k1 ?_
   rw [if_neg (by omega)]
   exact iZ
  ·by_cases k2 : (24 : Int) < ((mk v).length : Nat)
   ·refine qm @k1 @k2 ?_
    rw [if_neg (by omega)]
    exact iZ
   ·refine qm @k1 @k2 ?_
    refine ah cm ?_
    refine ev ?_
    rw [if_pos (by omega),Jq]
    rw [Dl]
    exact au _
theorem EJ {q : Rat} (h : Q.ok (some q)) : (mk q.num.natAbs).length ≤ 24 ∧ (mk q.den).length ≤ 24:=Jr.1 h
theorem Vb {T : Tb} (h : eH T) {a b : Q} (ha : a.ok:=by assumption) (hb : b.ok:=by assumption) : PF T 131 [aQ (Q.raw a),aQ (Q.raw b)] (aQ (Q.raw (EI a b))):=by
 cases a with
 |
  none =>
  refine aC nR h.hT ?_
  simp only [iH,Lz]
  refine ev ?_
  refine ah (rM h.aK) ?_
  refine ev ?_
  exact iZ
 |
  some q=>cases b with
  |
   none =>
   refine aC nR h.hT ?_
   simp only [iH,Lz]
   refine ev ?_
   refine ah (kC h.aK) ?_
   refine ev ?_
   refine ah (rM h.aK) ?_
   refine ev ?_
   exact iZ
  |
   some s =>
   obtain ⟨l1,l2⟩:=EJ ha
   obtain ⟨l3,l4⟩:=EJ hb
   have e : EI (some q) (some s) = Io (q.num * s.den + s.num * q.den) (q.den * s.den):=(Sv q s).symm
   rw [e]
   have t1:=iY q.num s.den
   have t2:=iY s.num q.den
   have t3:=iY q.den s.den
   have t5:=iY q.num s.num
   have t4:=DV (q.num * s.den) (s.num * q.den)
   have n1 : (mk (q.den : Int).natAbs).length ≤ 24:=by rw [Int.natAbs_natCast];exact l2
   have n2 : (mk (s.den : Int).natAbs).length ≤ 24:=by rw [Int.natAbs_natCast];exact l4
   refine aC nR h.hT ?_
   simp only [iH,Lz]
   refine ev ?_
   refine ah (kC h.aK) ?_
   refine ev ?_
   refine ah (kC h.aK) ?_
   refine ev ?_
   refine ah (uz h.bV (q:=s)) ?_
   refine ev ?_
   refine ah (mJ h.dh (x:=q.num) (y:=s.den) (by omega) (by omega)) ?_
   refine ev ?_
   refine ah (uz h.bV (q:=q)) ?_
   refine ev ?_
   refine ah (mJ h.dh (x:=s.num) (y:=q.den) (by omega) (by omega)) ?_
   refine ev ?_
   refine ah (U9 h.He (x:=q.num * s.den) (y:=s.num * q.den) (by omega) (by omega)) ?_
   refine ev ?_
   refine ⟨by unfold lU;decide +kernel,?_⟩
   refine ah (uz h.bV (q:=q)) ?_
   refine ev ?_
   refine ah (uz h.bV (q:=s)) ?_
   refine ev ?_
   refine ah (mJ h.dh (x:=q.den) (y:=s.den) (by omega) (by omega)) ?_
   refine ev ?_
   refine ah (KG h.jJ (n:=q.num * s.den + s.num * q.den) (d:=q.den * s.den) (by omega) (by omega)) ?_
   refine ev ?_
   refine ⟨by unfold lU;decide +kernel,?_⟩
   exact au _
theorem ac8 {T : Tb} (h : iJ T) {a b : Q} (ha : a.ok:=by assumption) (hb : b.ok:=by assumption) : PF T 157 [aQ (Q.raw a),aQ (Q.raw b)] (aQ (Q.raw (KC a b))):=by
 cases a with
 |
  none =>
  refine aC nR h.hT ?_
  simp only [iI,Lz]
  refine ev ?_
  refine ah (rM h.aK) ?_
  refine ev ?_
  exact iZ
 |
  some q=>cases b with
  |
   none =>
   refine aC nR h.hT ?_
   simp only [iI,Lz]
   refine ev ?_
   refine ah (kC h.aK) ?_
   refine ev ?_
   refine ah (rM h.aK) ?_
   refine ev ?_
   exact iZ
  |
   some s =>
   obtain ⟨l1,l2⟩:=EJ ha
   obtain ⟨l3,l4⟩:=EJ hb
   have e : KC (some q) (some s) = Io (q.num * s.num) (q.den * s.den):=(Sz q s).symm
   rw [e]
   have t1:=iY q.num s.den
   have t2:=iY s.num q.den
   have t3:=iY q.den s.den
   have t5:=iY q.num s.num
   have t4:=DV (q.num * s.den) (s.num * q.den)
   have n1 : (mk (q.den : Int).natAbs).length ≤ 24:=by rw [Int.natAbs_natCast];exact l2
   have n2 : (mk (s.den : Int).natAbs).length ≤ 24:=by rw [Int.natAbs_natCast];exact l4
   refine aC nR h.hT ?_
   simp only [iI,Lz]
   refine ev ?_
   refine ah (kC h.aK) ?_
   refine ev ?_
   refine ah (kC h.aK) ?_
   refine ev ?_
   refine ah (mJ h.dh (x:=q.num) (y:=s.num) (by omega) (by omega)) ?_
   refine ev ?_
   refine ah (uz h.bV (q:=q)) ?_
   refine ev ?_
   refine ah (uz h.bV (q:=s)) ?_
   refine ev ?_
   refine ah (mJ h.dh (x:=q.den) (y:=s.den) (by omega) (by omega)) ?_
   refine ev ?_
   refine ah (KG h.jJ (n:=q.num * s.num) (d:=q.den * s.den) (by omega) (by omega)) ?_
   refine ev ?_
   refine ⟨by unfold lU;decide +kernel,?_⟩
   exact au _
theorem ac9 {T : Tb} (h : yc T) {a b : Q} (ha : a.ok:=by assumption) (hb : b.ok:=by assumption) : PF T 156 [aQ (Q.raw a),aQ (Q.raw b)] (aQ (Q.raw (P6 a b))):=by
 cases a with
 |
  none =>
  refine aC nR h.hT ?_
  simp only [nD,Lz]
  refine ev ?_
  refine ah (rM h.aK) ?_
  refine ev ?_
  exact iZ
 |
  some q=>cases b with
  |
   none =>
   refine aC nR h.hT ?_
   simp only [nD,Lz]
   refine ev ?_
   refine ah (kC h.aK) ?_
   refine ev ?_
   refine ah (rM h.aK) ?_
   refine ev ?_
   exact iZ
  |
   some s =>
   obtain ⟨l1,l2⟩:=EJ ha
   obtain ⟨l3,l4⟩:=EJ hb
   have e : P6 (some q) (some s) = Io (q.num * s.den) (s.num * q.den):=(YZ q s).symm
   rw [e]
   have t1:=iY q.num s.den
   have t2:=iY s.num q.den
   have t3:=iY q.den s.den
   have t5:=iY q.num s.num
   have t4:=DV (q.num * s.den) (s.num * q.den)
   have n1 : (mk (q.den : Int).natAbs).length ≤ 24:=by rw [Int.natAbs_natCast];exact l2
   have n2 : (mk (s.den : Int).natAbs).length ≤ 24:=by rw [Int.natAbs_natCast];exact l4
   refine aC nR h.hT ?_
   simp only [nD,Lz]
   refine ev ?_
   refine ah (kC h.aK) ?_
   refine ev ?_
   refine ah (kC h.aK) ?_
   refine ev ?_
   refine ah (uz h.bV (q:=s)) ?_
   refine ev ?_
   refine ah (mJ h.dh (x:=q.num) (y:=s.den) (by omega) (by omega)) ?_
   refine ev ?_
   refine ah (uz h.bV (q:=q)) ?_
   refine ev ?_
   refine ah (mJ h.dh (x:=s.num) (y:=q.den) (by omega) (by omega)) ?_
   refine ev ?_
   refine ah (KG h.jJ (n:=q.num * s.den) (d:=s.num * q.den) (by omega) (by omega)) ?_
   refine ev ?_
   refine ⟨by unfold lU;decide +kernel,?_⟩
   exact au _
theorem Vd {T : Tb} (h : qK T) {a : Q} (ha : a.ok:=by assumption) : PF T 161 [aQ (Q.raw a)] (aQ (Q.raw (negQ a))):=by
 cases a with
 |
  none =>
  refine aC nR h.hT ?_
  simp only [qJ,Lz]
  refine ev ?_
  refine ah (rM h.aK) ?_
  refine ev ?_
  exact iZ
 |
  some q =>
  obtain ⟨l1,l2⟩:=EJ ha
  refine aC nR h.hT ?_
  simp only [qJ,Lz]
  refine ev ?_
  refine ah (kC h.aK) ?_
  refine ev ?_
  refine ah (IB h.jf (l:=mk q.num.natAbs) (by omega)) ?_
  refine ev ?_
  refine ah (tV h.bg (neg:=!decide (q.num < 0)) (n:=q.num.natAbs) (by omega)) ?_
  refine ev ?_
  refine ah (IB h.jf (l:=mk q.den) (by omega)) ?_
  refine ev ?_
  refine ⟨by unfold lU;decide +kernel,?_⟩
  have e : Q.raw (negQ (some q)) = ⟨(bi (sg (!decide (q.num < 0)) q.num.natAbs)).neg,mk q.num.natAbs,mk q.den⟩:=by
   simp only [negQ,Q.raw,Rat.neg_num,Rat.neg_den,Int.natAbs_neg,R.mk.injEq,and_true]
   have e2 : sg (!decide (q.num < 0)) q.num.natAbs = -q.num:=by
    by_cases h1 : q.num < 0
    ·simp [sg,h1];omega
    ·simp [sg,h1];omega
   rw [e2]
  rw [e,Dl]
  exact au _
theorem ada {T : Tb} (h : qL T) {a b : Q} (ha : a.ok:=by assumption) (hb : b.ok:=by assumption) : PF T 159 [aQ (Q.raw a),aQ (Q.raw b)] (aQ (Q.raw (Xv a b))):=by
 have hn:=MQ hb
 refine aC nR h.hT ?_
 simp only [xZ,Lz]
 refine ev ?_
 refine ah (Vd h.x9 hb) ?_
 refine ev ?_
 refine ah (Vb h.bG ha hn) ?_
 refine ev ?_
 refine ⟨by unfold lU;decide +kernel,?_⟩
 exact au _
theorem aaM {T : Tb} (h : Aq T) {a : Q} : PF T 124 [aQ (Q.raw a)] (iv (nY a)):=by
 cases a with
 |
  none =>
  refine aV nR h.hT ?_
  simp only [oL,Lz]
  refine ev ?_
  refine ah (rM h.aK) ?_
  refine ev ?_
  rfl
 |
  some q =>
  refine aV nR h.hT ?_
  simp only [oL,Lz]
  refine ev ?_
  refine ah (kC h.aK) ?_
  refine ev ?_
  have e : ((((mk q.num.natAbs).length : Nat) : Int) = 0) ↔ q.num = 0:=by have:=@aaL q.num.natAbs;omega
  refine aN (fun h1=>?_) fun h1=>?_ <;> (refine ev1 @h1 ?_;try with_reducible exact True.intro)
  ·have:=e.1 h1
   simp [nY,WH,this]
  ·have h2 : ¬ q.num = 0:=fun k=>h1 (e.2 k)
   by_cases h3 : q.num < 0
   ·have e3 : (Q.raw (some q)).neg = true:=by simp [Q.raw,h3]
    refine ev1 @e3 ?_
    simp [nY,WH,h3]
   ·have e3 : (Q.raw (some q)).neg = false:=by simp [Q.raw,h3]
    refine ev1 @e3 ?_
    simp [nY,WH,h3,h2]
theorem uD {T : Tb} (h : lW T) {r : R} (hw : r.wf:=by exact gU) : PF T 102 [aQ r] (.bool r.ok):=by
 obtain ⟨neg,mag,den⟩:=r
 have w1 : mag.length ≤ 9223372036854775807:=hw.1
 have w2 : den.length ≤ 9223372036854775807:=hw.2
 clear hw
 have cb:=XL h.Ey (z:=⟨neg,mag⟩) w1
 have cn:=Y2 h.Ey.DW (l:=den) w2
 dsimp only at cb
 unfold R.ok
 dsimp only
 cases h1 : (kT mag && !(neg && mag.isEmpty))
 ·rw [h1] at cb
  refine aV nR h.hT ?_
  simp only [jr,Lz]
  refine ev ?_
  refine ah cb ?_
  (refine ev ?_;try with_reducible exact True.intro)
 rw [h1] at cb
 cases h2 : kT den
 ·rw [h2] at cn
  refine aV nR h.hT ?_
  simp only [jr,Lz]
  refine ev ?_
  refine ah cb ?_
  refine ev ?_
  refine ah cn ?_
  (refine ev ?_;try with_reducible exact True.intro)
 rw [h2] at cn
 by_cases h3 : ((den.length : Nat) : Int) = 0
 ·have : den = []:=List.eq_nil_of_length_eq_zero (by omega)
  refine aV nR h.hT ?_
  simp only [jr,Lz]
  refine ev ?_
  refine ah cb ?_
  refine ev ?_
  refine ah cn ?_
  refine ev1 @h3 ?_
  subst this
  rfl
 have h3' : den.isEmpty = false:=by cases den with | nil=>simp at h3 | cons=>rfl
 by_cases h4 : (24 : Int) < ((mag.length : Nat) : Int)
 ·have h4' : ¬ mag.length ≤ 24:=by omega
  refine aV nR h.hT ?_
  simp only [jr,Lz]
  refine ev ?_
  refine ah cb ?_
  refine ev ?_
  refine ah cn ?_
  refine qm @h3 @h4 ?_
  simp [h4']
 by_cases h5 : (24 : Int) < ((den.length : Nat) : Int)
 ·have h5' : ¬ den.length ≤ 24:=by omega
  refine aV nR h.hT ?_
  simp only [jr,Lz]
  refine ev ?_
  refine ah cb ?_
  refine ev ?_
  refine ah cn ?_
  refine vU @h3 @h4 @h5 ?_
  simp [h5']
 have h4' : mag.length ≤ 24:=by omega
 have h5' : den.length ≤ 24:=by omega
 have h6 : kT mag = true:=by simp only [Bool.and_eq_true] at h1;exact h1.1
 have em:=Df h6
 have ed:=Df h2
 have cg:=Oc h.xY (m:=val mag) (n:=val den) (by rw [← em];omega) (by rw [← ed];omega)
 rw [← em,← ed] at cg
 obtain ⟨g,hg⟩ : ∃ g,Nat.gcd (val mag) (val den) = g:=⟨_,rfl⟩
 have hdec : ∀ (inst : Decidable (Nat.gcd (val mag) (val den) = 1)),@decide _ inst = decide (g = 1):=by
  intro inst
  subst hg
  congr
 rw [hg] at cg
 have key : (decide (((mk g).length : Int) = 1) && (decide ((mk g).getD 0 0 = 1))) = decide (g = 1):=by
  by_cases g1 : g = 1
  ·subst g1;rw [mk_one (by omega) (by omega)];rfl
  ·simp only [g1,decide_false,Bool.and_eq_false_iff,decide_eq_false_iff_not]
   by_cases k : (mk g).length = 1
   ·right
    intro e
    have:=val_mk g
    cases hm : mk g with
    | nil=>rw [hm] at k;simp at k
    |
     cons x l =>
     rw [hm] at k e this
     have : l = []:=by simpa using k
     subst this
     simp [val] at *
     omega
   ·left;omega
 simp only [h3',h4',h5',decide_true,Bool.and_true,Bool.not_false,Bool.true_and]
 rw [hdec,← key]
 clear key
 refine aV nR h.hT ?_
 simp only [jr,Lz]
 refine ev ?_
 refine ah cb ?_
 refine ev ?_
 refine ah cn ?_
 refine vU @h3 @h4 @h5 ?_
 refine ah cg ?_
 refine ev ?_
 by_cases k : (((mk g).length : Nat) : Int) = 1
 ·(refine ev1 @k ?_;try with_reducible exact True.intro)
 ·(refine ev1 @k ?_;try with_reducible exact True.intro)
def jv : Fn:=⟨1,39,[.tmp 2],(.seq (rf 1 [oN 1 (.box (.t 0)),oK 2 1 mF]) (.seq (sr [oN 3 (fd 0 1),oN 4 (lT 2 3),oN 5 (cl 120 [4]),oN 6 (nt 5),oW 7 6,oG 7 false 8 (fd 2 1),oG 7 false 9 (lF 1 8),oG 7 false 10 (cl 121 [9]),oG 7 false 11 (nt 10),oN 12 (.pick (.t 7) (.c (.bool true)) (.t 11)),oW 13 12,oG 13 false 14 (fd 2 1),oG 13 false 15 (lF 1 14),oG 13 false 16 (ln 15),oG 13 false 17 (bc .eql 16 0),oN 18 (.pick (.t 13) (.c (.bool true)) (.t 17)),oW 19 18,oG 19 false 20 (fd 2 1),oG 19 false 21 (lF 1 20),oG 19 false 22 (ln 21),oG 19 false 23 (bc .gtr 22 24),oN 24 (.pick (.t 19) (.c (.bool true)) (.t 23)),oW 25 24,oG 25 false 26 (fd 0 1),oG 25 false 27 (fd 1 26),oG 25 false 28 (lF 1 27),oG 25 false 29 (ln 28),oG 25 false 30 (bc .gtr 29 24),oN 31 (.pick (.t 25) (.c (.bool true)) (.t 30))] (cd 31 (sr [oN 2 mF] .ret) .skip)) (sr [oN 32 (fd 0 1),oN 33 (fd 1 32),oN 34 (lF 1 33),oN 35 (fd 2 1),oN 36 (lF 1 35),oN 37 (cl 123 [34,36]),oN 38 (cl 122 [37]),oW 2 38] .ret)))⟩
structure iK (T : Tb) : Prop where
 hT : T 100 = some jv
 mM : rJ T
 uy : uo T
 kN : qI T
 BO : xP T
def kP : Fn:=⟨3,55,[.cell 6 3 true],(.seq (rf 1 [oN 6 (.alloc mV)]) (sr [oW 10 1,oN 11 (cl 71 [10]),oW 7 11] (sr [oW 12 2,oN 13 (cl 71 [12]),oW 8 13] (.seq (sr [oW 14 8,oN 15 (ln 14),oN 16 (bc .eql 15 0)] (cd 16 (sr [oN 17 (.build mV []),oS (.store 3 (.t 6) (.t 17))] .ret) .skip)) (.seq (sr [oW 18 8,oN 19 (cl 122 [18]),oN 20 (nt 19)] (cd 20 (sr [oW 21 7,oW 22 8,oN 23 (cl 123 [21,22]),oW 9 23] (sr [oW 24 9,oN 25 (cl 122 [24]),oN 26 (nt 25)] (cd 26 (sr [oW 28 7,oW 29 9,oN 30 (cl 136 [28,29]),oW 27 30,oN 31 (ex 0 27),oN 32 (ex 1 27),oW 7 31] (rg [oW 34 8,oW 35 9,oN 36 (cl 136 [34,35]),oW 33 36,oN 37 (ex 0 33),oN 38 (ex 1 33),oW 8 37])) .skip))) .skip)) (.seq (sr [oW 39 7,oN 40 (ln 39),oN 41 (bc .gtr 40 24),oW 42 41,oG 42 false 43 (oV 8),oG 42 false 44 (ln 43),oG 42 false 45 (bc .gtr 44 24),oN 46 (.pick (.t 42) (.c (.bool true)) (.t 45))] (cd 46 (sr [oN 47 (.build mV []),oS (.store 3 (.t 6) (.t 47))] .ret) .skip)) (.seq (rf 2 [oK 48 2 (oV 0),oK 49 2 (oV 7),oK 50 2 (cl 66 [48,49]),oN 51 (.fE 1 Eo 0 []),oK 52 2 (oV 8),oK 53 1 (.app 1 8 (.t 51) (.t 52)),oK 54 2 (.build mV [(0,2,(.t 50)),(2,1,(.t 53))]),⟨none,none,2,.store 3 (.t 6) (.t 54),[]⟩]) .ret)))))))⟩
structure nG (T : Tb) : Prop where
 hT : T 206 = some kP
 bZ : jH T
 bY : iT T
 kN : qI T
 BO : xP T
 xQ : xK T
def yg : Fn:=⟨2,25,[.cell 4 3 true],(.seq (rf 3 [oN 2 (.box (.t 0)),oK 3 1 (.box (.t 1)),oK 4 2 (.alloc mV)]) (.seq (rt 0 [oN 5 (fd 0 2),oA 6 0 (fd 0 5) [0],oA 7 0 (lF 1 6) [1],oN 8 (fd 0 3),oA 9 0 (fd 0 8) [3],oA 10 0 (lF 1 9) [4],oA 11 0 (.beq true (.t 7) (.t 10)) [2,5],oN 12 (fd 0 2),oA 13 0 (fd 1 12) [7],oA 14 0 (lF 1 13) [8],oN 15 (fd 0 3),oA 16 0 (fd 1 15) [10],oA 17 0 (lF 1 16) [11],oA 18 0 (cl 150 [14,17]) [9,12],oN 19 (fd 2 2),oA 20 0 (lF 1 19) [14],oN 21 (fd 2 3),oA 22 0 (lF 1 21) [16],oA 23 0 (cl 150 [20,22]) [15,17,13],oA 24 0 (cl 206 [11,18,23]) [6,13,18,18],⟨none,none,0,.store 3 (.t 4) (.t 24),[19,19,0,1,2,3,4,5,6,7,8,9,10,11,12,13,14,15,16,17,18,19]⟩]) .ret))⟩
structure BP (T : Tb) : Prop where
 hT : T 207 = some yg
 dP : kL T
 jy : nG T
def nH : Fn:=⟨2,61,[.cell 4 3 true],(.seq (rf 3 [oN 2 (.box (.t 0)),oK 3 1 (.box (.t 1)),oK 4 2 (.alloc mV)]) (.seq (sr [oN 9 (fd 2 2),oN 10 (lF 1 9),oN 11 (cl 122 [10]),oW 12 11,oG 12 true 13 (fd 2 3),oG 12 true 14 (lF 1 13),oG 12 true 15 (cl 122 [14]),oN 16 (.pick (.t 12) (.t 15) (.c (.bool false)))] (cd 16 (.seq (rf 1 [oK 17 1 (fd 0 2),oK 18 1 (lT 2 17),oK 19 1 (fd 0 3),oK 20 1 (lT 2 19),oK 21 1 (cl 205 [18,20]),oN 5 (.alloc QM),⟨none,none,1,.store 2 (.t 5) (.t 21),[]⟩]) (.seq (rf 1 [oK 22 1 (fd 0 5),oK 23 1 (lF 1 22),oK 24 1 (fd 1 5),oK 25 1 (lF 1 24),oN 26 (.fE 1 Eo 1 [(0,(cI 1))]),oK 27 1 (cl 206 [23,25,26]),⟨none,none,1,.store 3 (.t 4) (.t 27),[]⟩]) .ret)) .skip)) (.seq (rt 1 [oK 28 1 (fd 0 2),oA 29 1 (fd 0 28) [0],oA 30 1 (lF 1 29) [1],oK 31 1 (fd 0 2),oA 32 1 (fd 1 31) [3],oA 33 1 (lF 1 32) [4],oK 34 1 (fd 2 3),oA 35 1 (lF 1 34) [6],oA 36 1 (cl 150 [33,35]) [5,7],oA 37 1 (cl 66 [30,36]) [2,8,8],oN 6 (.alloc QM),⟨none,none,1,.store 2 (.t 6) (.t 37),[10,9,9,0,1,2,3,4,5,6,7,8,9,10]⟩]) (.seq (rt 1 [oK 38 1 (fd 0 3),oA 39 1 (fd 0 38) [0],oA 40 1 (lF 1 39) [1],oK 41 1 (fd 0 3),oA 42 1 (fd 1 41) [3],oA 43 1 (lF 1 42) [4],oK 44 1 (fd 2 2),oA 45 1 (lF 1 44) [6],oA 46 1 (cl 150 [43,45]) [5,7],oA 47 1 (cl 66 [40,46]) [2,8,8],oN 7 (.alloc QM),⟨none,none,1,.store 2 (.t 7) (.t 47),[10,9,9,0,1,2,3,4,5,6,7,8,9,10]⟩]) (.seq (rf 1 [oK 48 1 (lT 2 6),oK 49 1 (lT 2 7),oK 50 1 (cl 205 [48,49]),oN 8 (.alloc QM),⟨none,none,1,.store 2 (.t 8) (.t 50),[]⟩]) (.seq (rt 0 [oN 51 (fd 0 8),oA 52 0 (lF 1 51) [0],oN 53 (fd 1 8),oA 54 0 (lF 1 53) [2],oN 55 (fd 2 2),oA 56 0 (lF 1 55) [4],oN 57 (fd 2 3),oA 58 0 (lF 1 57) [6],oA 59 0 (cl 150 [56,58]) [5,7],oA 60 0 (cl 206 [52,54,59]) [1,3,8,8],⟨none,none,0,.store 3 (.t 4) (.t 60),[9,9,0,1,2,3,4,5,6,7,8,9]⟩]) .ret))))))⟩
structure yh (T : Tb) : Prop where
 hT : T 198 = some nH
 bZ : jH T
 kN : qI T
 dP : kL T
 Hf : BN T
 jy : nG T
def yj : Fn:=⟨1,16,[.cell 2 3 true],(.seq (rf 2 [oN 1 (.box (.t 0)),oK 2 1 (.alloc mV)]) (.seq (rt 2 [oK 3 2 (fd 0 1),oA 4 2 (fd 0 3) [0],oA 5 2 (lF 1 4) [1],oA 6 2 (nt 5) [2],oK 7 2 (fd 0 1),oA 8 2 (fd 1 7) [4],oA 9 2 (lF 1 8) [5],oA 10 2 (cl 66 [6,9]) [3,6],oN 11 (.fE 1 Eo 0 []),oK 12 2 (fd 2 1),oA 13 2 (lF 1 12) [9],oA 14 1 (.app 1 8 (.t 11) (.t 13)) [8,10,7],oA 15 2 (.build mV [(0,2,(.t 10)),(2,1,(.t 14))]) [7,11],⟨none,none,2,.store 3 (.t 2) (.t 15),[12,11,0,1,2,3,4,5,6,7,8,9,10,11,12]⟩]) .ret))⟩
structure BQ (T : Tb) : Prop where
 hT : T 208 = some yj
 bZ : jH T
def nI : Fn:=⟨2,17,[.cell 4 3 true],(.seq (rf 3 [oN 2 (.box (.t 0)),oK 3 1 (.box (.t 1)),oK 4 2 (.alloc mV)]) (.seq (sr [oN 5 (lT 3 2),oN 6 (cl 100 [5]),oN 7 (nt 6),oW 8 7,oG 8 false 9 (lT 3 3),oG 8 false 10 (cl 100 [9]),oG 8 false 11 (nt 10),oN 12 (.pick (.t 8) (.c (.bool true)) (.t 11))] (cd 12 (sr [oN 13 (.build mV []),oS (.store 3 (.t 4) (.t 13))] .ret) .skip)) (sr [oN 14 (lT 3 2),oN 15 (lT 3 3),oN 16 (cl 198 [14,15]),oS (.store 3 (.t 4) (.t 16))] .ret)))⟩
structure qM (T : Tb) : Prop where
 hT : T 189 = some nI
 bn : iK T
 BR : yh T
def nJ : Fn:=⟨2,18,[.cell 4 3 true],(.seq (rf 3 [oN 2 (.box (.t 0)),oK 3 1 (.box (.t 1)),oK 4 2 (.alloc mV)]) (.seq (sr [oN 5 (lT 3 2),oN 6 (cl 100 [5]),oN 7 (nt 6),oW 8 7,oG 8 false 9 (lT 3 3),oG 8 false 10 (cl 100 [9]),oG 8 false 11 (nt 10),oN 12 (.pick (.t 8) (.c (.bool true)) (.t 11))] (cd 12 (sr [oN 13 (.build mV []),oS (.store 3 (.t 4) (.t 13))] .ret) .skip)) (.seq (rt 0 [oN 14 (lT 3 2),oN 15 (lT 3 3),oA 16 0 (cl 208 [15]) [1],oA 17 0 (cl 198 [14,16]) [0,2,2],⟨none,none,0,.store 3 (.t 4) (.t 17),[3,3,0,1,2,3]⟩]) .ret)))⟩
structure BU (T : Tb) : Prop where
 hT : T 203 = some nJ
 bn : iK T
 BR : yh T
 Qb : BQ T
def nK : Fn:=⟨2,17,[.cell 4 3 true],(.seq (rf 3 [oN 2 (.box (.t 0)),oK 3 1 (.box (.t 1)),oK 4 2 (.alloc mV)]) (.seq (sr [oN 5 (lT 3 2),oN 6 (cl 100 [5]),oN 7 (nt 6),oW 8 7,oG 8 false 9 (lT 3 3),oG 8 false 10 (cl 100 [9]),oG 8 false 11 (nt 10),oN 12 (.pick (.t 8) (.c (.bool true)) (.t 11))] (cd 12 (sr [oN 13 (.build mV []),oS (.store 3 (.t 4) (.t 13))] .ret) .skip)) (sr [oN 14 (lT 3 2),oN 15 (lT 3 3),oN 16 (cl 207 [14,15]),oS (.store 3 (.t 4) (.t 16))] .ret)))⟩
structure yu (T : Tb) : Prop where
 hT : T 201 = some nK
 bn : iK T
 Qc : BP T
def nM : Fn:=⟨2,34,[.cell 4 3 true],(.seq (rf 3 [oN 2 (.box (.t 0)),oK 3 1 (.box (.t 1)),oK 4 2 (.alloc mV)]) (.seq (sr [oN 5 (lT 3 2),oN 6 (cl 100 [5]),oN 7 (nt 6),oW 8 7,oG 8 false 9 (lT 3 3),oG 8 false 10 (cl 100 [9]),oG 8 false 11 (nt 10),oN 12 (.pick (.t 8) (.c (.bool true)) (.t 11))] (cd 12 (sr [oN 13 (.build mV []),oS (.store 3 (.t 4) (.t 13))] .ret) .skip)) (.seq (rt 0 [oN 14 (fd 0 2),oA 15 0 (fd 0 14) [0],oA 16 0 (lF 1 15) [1],oN 17 (fd 0 3),oA 18 0 (fd 0 17) [3],oA 19 0 (lF 1 18) [4],oA 20 0 (.beq true (.t 16) (.t 19)) [2,5],oN 21 (fd 0 2),oA 22 0 (fd 1 21) [7],oA 23 0 (lF 1 22) [8],oN 24 (fd 2 3),oA 25 0 (lF 1 24) [10],oA 26 0 (cl 150 [23,25]) [9,11],oN 27 (fd 2 2),oA 28 0 (lF 1 27) [13],oN 29 (fd 0 3),oA 30 0 (fd 1 29) [15],oA 31 0 (lF 1 30) [16],oA 32 0 (cl 150 [28,31]) [14,17,12],oA 33 0 (cl 206 [20,26,32]) [6,12,18,18],⟨none,none,0,.store 3 (.t 4) (.t 33),[19,19,0,1,2,3,4,5,6,7,8,9,10,11,12,13,14,15,16,17,18,19]⟩]) .ret)))⟩
structure BX (T : Tb) : Prop where
 hT : T 200 = some nM
 bn : iK T
 dP : kL T
 jy : nG T
def oM : Fn:=⟨1,18,[.tmp 2],(.seq (rf 1 [oN 1 (.box (.t 0)),oK 2 1 (.iw (cI 0))]) (.seq (.block 0 (sr [oN 4 (lT 3 1),oN 5 (cl 100 [4]),oN 6 (nt 5),oW 7 6,oG 7 false 8 (fd 0 1),oG 7 false 9 (fd 1 8),oG 7 false 10 (lF 1 9),oG 7 false 11 (ln 10),oG 7 false 12 (bc .eql 11 0),oN 13 (.pick (.t 7) (.c (.bool true)) (.t 12)),oW 3 13] (cd 3 (sr [oN 2 (.iw (cI 0))] .ret) (sr [oN 15 (fd 0 1),oN 16 (fd 0 15),oN 17 (lF 1 16),oW 14 17] (cd 14 (sr [oN 2 (.iw (cI (-1)))] .ret) .skip))))) (sr [oN 2 (.iw (cI 1))] .ret)))⟩
structure Ar (T : Tb) : Prop where
 hT : T 99 = some oM
 bn : iK T
theorem lD {T : Tb} (h : iK T) {r : R} (hw : r.wf:=by exact gU) : PF T 100 [aQ r] (.bool r.ok):=by
 obtain ⟨neg,mag,den⟩:=r
 have w1 : mag.length ≤ 9223372036854775807:=hw.1
 have w2 : den.length ≤ 9223372036854775807:=hw.2
 clear hw
 have cb:=Fq h.mM (z:=⟨neg,mag⟩) w1
 have cn:=N9 h.mM.uy (l:=den) w2
 dsimp only at cb
 unfold R.ok
 dsimp only
 cases h1 : (kT mag && !(neg && mag.isEmpty))
 ·rw [h1] at cb
  refine aV nR h.hT ?_
  simp only [jv,Lz]
  refine ev ?_
  refine ah cb ?_
  (refine ev ?_;try with_reducible exact True.intro)
 rw [h1] at cb
 cases h2 : kT den
 ·rw [h2] at cn
  refine aV nR h.hT ?_
  simp only [jv,Lz]
  refine ev ?_
  refine ah cb ?_
  refine ev ?_
  refine ah cn ?_
  (refine ev ?_;try with_reducible exact True.intro)
 rw [h2] at cn
 by_cases h3 : ((den.length : Nat) : Int) = 0
 ·have : den = []:=List.eq_nil_of_length_eq_zero (by omega)
  refine aV nR h.hT ?_
  simp only [jv,Lz]
  refine ev ?_
  refine ah cb ?_
  refine ev ?_
  refine ah cn ?_
  refine ev1 @h3 ?_
  subst this
  rfl
 have h3' : den.isEmpty = false:=by cases den with | nil=>simp at h3 | cons=>rfl
 by_cases h5 : (24 : Int) < ((den.length : Nat) : Int)
 ·have h5' : ¬ den.length ≤ 24:=by omega
  refine aV nR h.hT ?_
  simp only [jv,Lz]
  refine ev ?_
  refine ah cb ?_
  refine ev ?_
  refine ah cn ?_
  refine qm @h3 @h5 ?_
  simp [h5']
 by_cases h4 : (24 : Int) < ((mag.length : Nat) : Int)
 ·have h4' : ¬ mag.length ≤ 24:=by omega
  refine aV nR h.hT ?_
  simp only [jv,Lz]
  refine ev ?_
  refine ah cb ?_
  refine ev ?_
  refine ah cn ?_
  refine vU @h3 @h4 @h5 ?_
  simp [h4']
 have h4' : mag.length ≤ 24:=by omega
 have h5' : den.length ≤ 24:=by omega
 have h6 : kT mag = true:=by simp only [Bool.and_eq_true] at h1;exact h1.1
 have em:=Df h6
 have ed:=Df h2
 have cg:=U8 h.BO (m:=val mag) (n:=val den) (by rw [← em];omega) (by rw [← ed];omega)
 rw [← em,← ed] at cg
 obtain ⟨g,hg⟩ : ∃ g,Nat.gcd (val mag) (val den) = g:=⟨_,rfl⟩
 have hdec : ∀ (inst : Decidable (Nat.gcd (val mag) (val den) = 1)),@decide _ inst = decide (g = 1):=by
  intro inst
  subst hg
  congr
 rw [hg] at cg
 have co:=Fv h.kN (n:=g)
 simp only [h3',h4',h5',decide_true,Bool.and_true,Bool.not_false,Bool.true_and]
 rw [hdec]
 refine aV nR h.hT ?_
 simp only [jv,Lz]
 refine ev ?_
 refine ah cb ?_
 refine ev ?_
 refine ah cn ?_
 refine vU @h3 @h4 @h5 ?_
 refine ah cg ?_
 refine ev ?_
 refine ah co ?_
 (refine ev ?_;try with_reducible exact True.intro)
def R.cn (r : R) : Prop:=Q.raw r.q = r
abbrev R0 : R:=⟨false,[],[]⟩
theorem IC {q : Q} (h : q.ok) : (Q.raw q).cn:=by unfold R.cn;rw [qA h]
theorem kD {r : R} (h : r.ok = true) : r.cn:=an7 h
theorem Ve : R0.cn:=IC (q:=none) trivial
theorem q_0 : R0.q = none:=qA (q:=none) trivial
def dZ (r s : R) : R:=Q.raw (EI r.q s.q)
def iC (r s : R) : R:=Q.raw (Xv r.q s.q)
def mulR (r s : R) : R:=Q.raw (KC r.q s.q)
def wI (r s : R) : R:=Q.raw (P6 r.q s.q)
def negR (r : R) : R:=Q.raw (negQ r.q)
def bQ (n : Int) : R:=Q.raw (ajR n)
def tZ (r : R) : Int:=nY r.q
theorem Fz (r s : R) : (dZ r s).q = EI r.q s.q:=qA (Sr _ _)
theorem Oj (r s : R) : (iC r s).q = Xv r.q s.q:=qA (YU _ _)
theorem KH (r s : R) : (mulR r s).q = KC r.q s.q:=qA (YV _ _)
theorem SI (r s : R) : (wI r s).q = P6 r.q s.q:=qA (YW _ _)
theorem akf (r : R) : (negR r).q = negQ r.q:=qA (MQ (Fb r))
theorem FB {n : Int} (h : n.natAbs < 1000000000 ^ 24) : (bQ n).q = ajR n:=qA (YX h)
theorem nZ (r s : R) : (dZ r s).cn:=IC (Sr _ _)
theorem MS (r s : R) : (iC r s).cn:=IC (YU _ _)
theorem Js (r s : R) : (mulR r s).cn:=IC (YV _ _)
theorem DX (r s : R) : (wI r s).cn:=IC (YW _ _)
theorem SK (r : R) : (negR r).cn:=IC (MQ (Fb r))
theorem rO {n : Int} (h : n.natAbs < 1000000000 ^ 24) : (bQ n).cn:=IC (YX h)
theorem zk {r : R} : r.ok = true ↔ r.q ≠ none:=by
 rw [← Xx];cases r.q <;> simp
theorem jS {r : R} : r.ok = false ↔ r.q = none:=by
 rw [← Xx];cases r.q <;> simp
theorem SL {r : R} (h : r.cn) (hq : r.q = none) : r = R0:=by
 unfold R.cn at h;rw [hq] at h;exact h.symm
theorem akg {r s : R} (hr : r.cn) (hs : s.cn) (h : r.q = s.q) : r = s:=by
 rw [← hr,← hs,h]
theorem Ol {r : R} (h : r.cn) : r.mag.length ≤ 24 ∧ r.den.length ≤ 24:=by
 cases hq : r.q with
 | none=>rw [SL h hq];simp
 |
  some q =>
  have hk : Q.ok (some q):=by rw [← hq];exact Fb r
  have:=Jr.1 hk
  rw [← h,hq]
  exact this
theorem gI {r : R} (h : r.cn) : r.wf:=by have:=Ol h;exact ⟨by omega,by omega⟩
theorem LK (a : Q) : EI none a = none:=rfl
theorem FC (a : Q) : EI a none = none:=by cases a <;> rfl
theorem Vf (a : Q) : KC none a = none:=rfl
theorem FH (a : Q) : KC a none = none:=by cases a <;> rfl
theorem LM (a : Q) : P6 a none = none:=by cases a <;> rfl
theorem Vg (a : Q) : Xv none a = none:=rfl
theorem LP (a : Q) : Xv a none = none:=by cases a <;> rfl
theorem aaN (a b : Q) : EI a b = EI b a:=by
 cases a <;> cases b <;> first | rfl | (simp only [EI];rw [Rat.add_comm])
theorem aaO (a b : R) : dZ a b = dZ b a:=by unfold dZ;rw [aaN]
theorem adb (x : Int) : [[V.int .i64 x]] = aH [x]:=rfl
theorem akh (neg : Bool) (m k : Nat) (h : m = 0 → k = 0) : bi (sg (decide (sg neg m < 0)) k) = bi (sg neg k):=by
 by_cases hm : m = 0
 ·rw [h hm,Jp,Jp]
 ·have e : decide (sg neg m < 0) = neg:=by
   cases neg
   ·simp [sg]
   ·simp [sg];omega
  rw [e]
theorem FI {T : Tb} (h : nG T) {neg : Bool} {m n : Nat} (la : (mk m).length ≤ 60:=by exact gU) (lb : (mk n).length ≤ 60:=by exact gU) :
  PF T 206 [.bool neg,ints (mk m),ints (mk n)] (aQ (Q.raw (Io (sg neg m) n))):=by
 have ct1:=tN h.bY (l:=mk m) (by omega)
 have Vh:=tN h.bY (l:=mk n) (by omega)
 rw [NU (kJ m)] at ct1
 rw [NU (kJ n)] at Vh
 by_cases hn : n = 0
 ·subst hn
  have e : Io (sg neg m) ((0 : Nat) : Int) = none:=rfl
  rw [e]
  have c1 : (((mk 0).length : Nat) : Int) = 0:=by rw [SC];rfl
  refine aC nR h.hT ?_
  simp only [kP,Lz]
  refine ev ?_
  refine ah ct1 ?_
  refine ev ?_
  refine ah Vh ?_
  refine ev1 @c1 ?_
  exact iZ
 have hd : (n : Int) ≠ 0:=by omega
 rw [SG hd]
 have hpos : ¬ ((n : Int) < 0):=by omega
 have e0 : (decide (sg neg m < 0) != decide ((n : Int) < 0)) = decide (sg neg m < 0):=by simp [hpos]
 rw [e0,Dl,Int.natAbs_natCast]
 have hg : 0 < Nat.gcd m n:=Nat.gcd_pos_of_pos_right _ (by omega)
 have c1 : ¬ (((mk n).length : Nat) : Int) = 0:=by have:=@aaL n;omega
 have hz : m = 0 → m / Nat.gcd m n = 0:=fun e=>by rw [e];simp
 rw [akh neg m _ hz]
 have fin : ∀ (u v : Nat),u = m / Nat.gcd m n → v = n / Nat.gcd m n → (mk u).length ≤ 60 ∧ (mk v).length ≤ 60:=by
  intro u v hu hv
  have l1:=KF m (Nat.gcd m n)
  have l2:=KF n (Nat.gcd m n)
  rw [hu,hv]
  omega
 have co:=Fv h.kN (n:=n)
 have cg:=U8 h.BO (m:=m) (n:=n) (by omega) (by omega)
 have lg : (mk (Nat.gcd m n)).length ≤ 60:=Nat.le_trans (DU (Nat.le_of_dvd (by omega) (Nat.gcd_dvd_right _ _))) lb
 have co2:=Fv h.kN (n:=Nat.gcd m n)
 have cd1:=Oh h.xQ (m:=m) hg (by omega) (by omega)
 have cd2:=Oh h.xQ (m:=n) hg (by omega) (by omega)
 obtain ⟨g,hgd⟩ : ∃ g,Nat.gcd m n = g:=⟨_,rfl⟩
 obtain ⟨u,hu⟩ : ∃ u,m / Nat.gcd m n = u:=⟨_,rfl⟩
 obtain ⟨v,hv⟩ : ∃ v,n / Nat.gcd m n = v:=⟨_,rfl⟩
 obtain ⟨lu,lv⟩:=fin u v hu.symm hv.symm
 have cm:=pK h.bZ (neg:=neg) (n:=u) (by omega)
 have ecm : LG (bi (sg neg u)) = .agg [.bool (bi (sg neg u)).neg,ints (mk u)]:=by
  show V.agg [.bool (bi (sg neg u)).neg,ints (mk (sg neg u).natAbs)] = _
  rw [Dl]
 rw [ecm] at cm
 have un : n = 1 → u = m ∧ v = n:=by
  intro e;subst e;rw [Nat.gcd_one_right] at hu hv;simp at hu hv;omega
 have ug : g = 1 → u = m ∧ v = n:=by
  intro e;rw [hgd,e] at hu hv;simp at hu hv;omega
 rw [hu,hv]
 rw [hgd] at cg co2
 rw [hu] at cd1
 rw [hv] at cd2
 rw [hgd] at cd1 cd2
 have fin2 : bM (aQ (if (mk u).length ≤ 24 ∧ (mk v).length ≤ 24 then ⟨(bi (sg neg u)).neg,mk u,mk v⟩ else ⟨false,[],[]⟩))
   (if (mk u).length ≤ 24 ∧ (mk v).length ≤ 24 then aQ ⟨(bi (sg neg u)).neg,mk u,mk v⟩ else .agg [.bool false,.ak,.ak]):=by
  split
  ·exact au _
  ·exact iZ
 have v0 : v ≠ 0:=by
  rw [← hv]
  exact Nat.ne_of_gt (Nat.div_pos (Nat.le_of_dvd (by omega) (Nat.gcd_dvd_right _ _)) hg)
 have ne : aH (mk v) ≠ []:=by
  have hp:=y7.2 (Nat.pos_of_ne_zero v0)
  intro e;rw [← yV,e] at hp;simp at hp
 clear fin hz hg e0 hpos hd hgd hu hv
 by_cases n1 : n = 1
 ·rw [show decide (n = 1) = true from decide_eq_true n1] at co
  obtain ⟨rfl,rfl⟩:=un n1
  refine aC nR h.hT ?_
  simp only [kP,Lz]
  refine ev ?_
  refine ah ct1 ?_
  refine ev ?_
  refine ah Vh ?_
  refine ev1 @c1 ?_
  refine ah co ?_
  refine ev ?_
  by_cases k1 : (24 : Int) < ((mk u).length : Nat)
  ·refine ev1 @k1 ?_
   rw [if_neg (by omega)]
   exact iZ
  by_cases k2 : (24 : Int) < ((mk v).length : Nat)
  ·refine qm @k1 @k2 ?_
   rw [if_neg (by omega)]
   exact iZ
  refine qm @k1 @k2 ?_
  refine ah cm ?_
  refine ev1 @ne ?_
  rw [if_pos (by omega)]
  exact ⟨by omega,au _⟩
 rw [show decide (n = 1) = false from decide_eq_false n1] at co
 by_cases g1 : g = 1
 ·rw [show decide (g = 1) = true from decide_eq_true g1] at co2
  obtain ⟨rfl,rfl⟩:=ug g1
  refine aC nR h.hT ?_
  simp only [kP,Lz]
  refine ev ?_
  refine ah ct1 ?_
  refine ev ?_
  refine ah Vh ?_
  refine ev1 @c1 ?_
  refine ah co ?_
  refine ev ?_
  refine ah cg ?_
  refine ev ?_
  refine ah co2 ?_
  refine ev ?_
  by_cases k1 : (24 : Int) < ((mk u).length : Nat)
  ·refine ev1 @k1 ?_
   rw [if_neg (by omega)]
   exact iZ
  by_cases k2 : (24 : Int) < ((mk v).length : Nat)
  ·refine qm @k1 @k2 ?_
   rw [if_neg (by omega)]
   exact iZ
  refine qm @k1 @k2 ?_
  refine ah cm ?_
  refine ev1 @ne ?_
  rw [if_pos (by omega)]
  exact ⟨by omega,au _⟩
 rw [show decide (g = 1) = false from decide_eq_false g1] at co2
 refine aC nR h.hT ?_
 simp only [kP,Lz]
 refine ev ?_
 refine ah ct1 ?_
 refine ev ?_
 refine ah Vh ?_
 refine ev1 @c1 ?_
 refine ah co ?_
 refine ev ?_
 refine ah cg ?_
 refine ev ?_
 refine ah co2 ?_
 refine ev ?_
 refine ah cd1 ?_
 refine ev ?_
 refine ah cd2 ?_
 refine ev ?_
 by_cases k1 : (24 : Int) < ((mk u).length : Nat)
 ·refine ev1 @k1 ?_
  rw [if_neg (by omega)]
  exact iZ
 by_cases k2 : (24 : Int) < ((mk v).length : Nat)
 ·refine qm @k1 @k2 ?_
  rw [if_neg (by omega)]
  exact iZ
 refine qm @k1 @k2 ?_
 refine ah cm ?_
 refine ev1 @ne ?_
 rw [if_pos (by omega)]
 exact ⟨by omega,au _⟩
def oO : Fn:=⟨1,8,[.tmp 2],(.seq (rf 1 [oN 1 (.box (.t 0)),oK 2 1 (.iw (cI 0))]) (.seq (sr [oN 3 (lT 3 1),oN 4 (cl 102 [3]),oN 5 (nt 4)] (cd 5 (sr [oN 2 (.iw (cI 0))] .ret) .skip)) (sr [oN 6 (lT 3 1),oN 7 (cl 124 [6]),oW 2 7] .ret)))⟩
structure uF (T : Tb) : Prop where
 hT : T 101 = some oO
 dG : lW T
 Om : Aq T
def yw : Fn:=⟨1,9,[.tmp 2],(sr [oN 2 mF] (sr [oW 3 0,oN 4 (bc .geq 3 0),oW 5 4,oG 5 true 6 (oV 0),oG 5 true 7 (bc .lss 6 10),oN 8 (.pick (.t 5) (.t 7) (.c (.bool false))),oW 2 8] .ret))⟩
structure yx (T : Tb) : Prop where
 hT : T 37 = some yw
def uG : Fn:=⟨1,5,[.tmp 2],(sr [oN 2 mF] (sr [oW 3 0,oN 4 (.call 35 [(.t 3),(cI 0),(cI 9)]),oW 2 4] .ret))⟩
structure uH (T : Tb) : Prop where
 hT : T 34 = some uG
 lV : um T
def lX : Fn:=⟨1,34,[.tmp 2],(.seq (rf 1 [oN 1 (.box (.t 0)),oK 2 1 mF]) (sr [oN 3 (fd 0 1),oN 4 (lF 1 3),oN 5 (cl 37 [4]),oW 6 5,oG 6 true 7 (fd 1 1),oG 6 true 8 (lF 1 7),oG 6 true 9 (cl 37 [8]),oN 10 (.pick (.t 6) (.t 9) (.c (.bool false))),oW 11 10,oG 11 true 12 (fd 0 1),oG 11 true 13 (lF 1 12),oG 11 true 14 (fd 1 1),oG 11 true 15 (lF 1 14),oG 11 true 16 (bt .lss 13 15),oN 17 (.pick (.t 11) (.t 16) (.c (.bool false))),oW 18 17,oG 18 true 19 (fd 2 1),oG 18 true 20 (lT 3 19),oG 18 true 21 (cl 101 [20]),oG 18 true 22 (bc .gtr 21 0),oN 23 (.pick (.t 18) (.t 22) (.c (.bool false))),oW 24 23,oG 24 true 25 (fd 5 1),oG 24 true 26 (lT 3 25),oG 24 true 27 (cl 102 [26]),oN 28 (.pick (.t 24) (.t 27) (.c (.bool false))),oW 29 28,oG 29 true 30 (fd 8 1),oG 29 true 31 (lT 3 30),oG 29 true 32 (cl 102 [31]),oN 33 (.pick (.t 29) (.t 32) (.c (.bool false))),oW 2 33] .ret))⟩
structure jK (T : Tb) : Prop where
 hT : T 84 = some lX
 yA : yx T
 uI : uF T
 dG : lW T
def lY : Fn:=⟨1,34,[.tmp 2],(.seq (rf 1 [oN 1 (.box (.t 0)),oK 2 1 mF]) (sr [oN 3 (fd 0 1),oN 4 (lF 1 3),oN 5 (cl 34 [4]),oW 6 5,oG 6 true 7 (fd 1 1),oG 6 true 8 (lF 1 7),oG 6 true 9 (cl 34 [8]),oN 10 (.pick (.t 6) (.t 9) (.c (.bool false))),oW 11 10,oG 11 true 12 (fd 0 1),oG 11 true 13 (lF 1 12),oG 11 true 14 (fd 1 1),oG 11 true 15 (lF 1 14),oG 11 true 16 (bt .lss 13 15),oN 17 (.pick (.t 11) (.t 16) (.c (.bool false))),oW 18 17,oG 18 true 19 (fd 2 1),oG 18 true 20 (lT 3 19),oG 18 true 21 (cl 99 [20]),oG 18 true 22 (bc .gtr 21 0),oN 23 (.pick (.t 18) (.t 22) (.c (.bool false))),oW 24 23,oG 24 true 25 (fd 5 1),oG 24 true 26 (lT 3 25),oG 24 true 27 (cl 100 [26]),oN 28 (.pick (.t 24) (.t 27) (.c (.bool false))),oW 29 28,oG 29 true 30 (fd 8 1),oG 29 true 31 (lT 3 30),oG 29 true 32 (cl 100 [31]),oN 33 (.pick (.t 29) (.t 32) (.c (.bool false))),oW 2 33] .ret))⟩
structure jL (T : Tb) : Prop where
 hT : T 83 = some lY
 oP : uH T
 Oo : Ar T
 bn : iK T
theorem XM {T : Tb} (h : Ar T) {r : R} (hw : r.wf:=by exact gU) : PF T 99 [aQ r] (iv (nY r.q)):=by
 have co:=lD h.bn hw
 cases ho : r.ok
 ·rw [ho] at co
  have e : r.q = none:=by unfold R.q;rw [if_neg (by simp [ho])]
  rw [e]
  refine aV nR h.hT ?_
  simp only [oM,Lz]
  refine ev ?_
  refine ah co ?_
  refine ev ?_
  rfl
 ·rw [ho] at co
  obtain ⟨q,hq,rfl⟩:=yX ho
  rw [qA (q:=some q) hq]
  refine aV nR h.hT ?_
  simp only [oM,Lz]
  refine ev ?_
  refine ah co ?_
  refine ev ?_
  have e : ((((mk q.num.natAbs).length : Nat) : Int) = 0) ↔ q.num = 0:=by have:=@aaL q.num.natAbs;omega
  refine aN (fun h1=>?_) fun h1=>?_ <;> (refine ev1 @h1 ?_;try with_reducible exact True.intro)
  ·have:=e.1 h1
   simp [nY,WH,this]
  ·have h2 : ¬ q.num = 0:=fun k=>h1 (e.2 k)
   by_cases h3 : q.num < 0
   ·have e3 : (Q.raw (some q)).neg = true:=by simp [Q.raw,h3]
    refine ev1 @e3 ?_
    simp [nY,WH,h3]
   ·have e3 : (Q.raw (some q)).neg = false:=by simp [Q.raw,h3]
    refine ev1 @e3 ?_
    simp [nY,WH,h3,h2]
theorem IE {T : Tb} (h : uF T) {r : R} (hw : r.wf:=by exact gU) : PF T 101 [aQ r] (iv (nY r.q)):=by
 have co:=uD h.dG hw
 cases ho : r.ok
 ·rw [ho] at co
  have e : r.q = none:=by unfold R.q;rw [if_neg (by simp [ho])]
  rw [e]
  refine aV nR h.hT ?_
  simp only [oO,Lz]
  refine ev ?_
  refine ah co ?_
  refine ev ?_
  rfl
 ·rw [ho] at co
  obtain ⟨q,hq,rfl⟩:=yX ho
  rw [qA (q:=some q) hq]
  have cs:=aaM h.Om (a:=some q)
  refine aV nR h.hT ?_
  simp only [oO,Lz]
  refine ev ?_
  refine ah co ?_
  refine ev ?_
  refine ah cs ?_
  (refine ev ?_;try with_reducible exact True.intro)
def nd (a : Int) : Bool:=decide (0 ≤ a) && decide (a ≤ 9)
theorem Gp {T : Tb} (h : uH T) {a : Int} : PF T 34 [iv a] (.bool (nd a)):=by
 refine aV nR h.hT ?_
 simp only [uG,Lz]
 refine ev ?_
 refine ah (Jo h.lV) ?_
 refine ev ?_
 rfl
theorem Oq {T : Tb} (h : yx T) {a : Int} : PF T 37 [iv a] (.bool (nd a)):=by
 unfold nd
 have e : decide (a ≤ 9) = decide (a < 10):=by simp;omega
 rw [e]
 refine aV nR h.hT ?_
 simp only [yw,Lz]
 refine ev ?_
 by_cases h1 : 0 ≤ a
 ·(refine ev1 @h1 ?_;try with_reducible exact True.intro)
 ·(refine ev1 @h1 ?_;try with_reducible exact True.intro)
def fJ (l : Lk) : Bool:=nd l.a && nd l.b && decide (l.a < l.b) && decide (0 < nY l.w.q) && l.dx.ok && l.dy.ok
theorem oQ {T : Tb} (h : jL T) {l : Lk} (hw : l.wf:=by exact gU) : PF T 83 [NV l] (.bool (fJ l)):=by
 have c1:=Gp h.oP (a:=l.a)
 have c2:=Gp h.oP (a:=l.b)
 have c3:=XM h.Oo hw.1
 have c4:=lD h.bn hw.2.1
 have c5:=lD h.bn hw.2.2
 unfold fJ
 refine aV nR h.hT ?_
 simp only [lY,Lz]
 refine ev ?_
 refine ah c1 ?_
 cases nd l.a
 ·(refine ev ?_;try with_reducible exact True.intro)
 refine ev ?_
 refine ah c2 ?_
 cases nd l.b
 ·(refine ev ?_;try with_reducible exact True.intro)
 refine ev ?_
 by_cases h3 : l.a < l.b
 rotate_left
 ·(refine ev1 @h3 ?_;try with_reducible exact True.intro)
 refine ev1 @h3 ?_
 refine ah c3 ?_
 by_cases h6 : 0 < nY l.w.q
 rotate_left
 ·(refine qm @h3 @h6 ?_;try with_reducible exact True.intro)
 refine qm @h3 @h6 ?_
 refine ah c4 ?_
 cases l.dx.ok
 ·(refine qm @h3 @h6 ?_;try with_reducible exact True.intro)
 refine qm @h3 @h6 ?_
 refine ah c5 ?_
 cases l.dy.ok
 ·(refine qm @h3 @h6 ?_;try with_reducible exact True.intro)
 (refine qm @h3 @h6 ?_;try with_reducible exact True.intro)
theorem Au {T : Tb} (h : jK T) {l : Lk} (hw : l.wf:=by exact gU) : PF T 84 [NV l] (.bool (fJ l)):=by
 have c1:=Oq h.yA (a:=l.a)
 have c2:=Oq h.yA (a:=l.b)
 have c3:=IE h.uI hw.1
 have c4:=uD h.dG hw.2.1
 have c5:=uD h.dG hw.2.2
 unfold fJ
 refine aV nR h.hT ?_
 simp only [lX,Lz]
 refine ev ?_
 refine ah c1 ?_
 cases nd l.a
 ·(refine ev ?_;try with_reducible exact True.intro)
 refine ev ?_
 refine ah c2 ?_
 cases nd l.b
 ·(refine ev ?_;try with_reducible exact True.intro)
 refine ev ?_
 by_cases h3 : l.a < l.b
 rotate_left
 ·(refine ev1 @h3 ?_;try with_reducible exact True.intro)
 refine ev1 @h3 ?_
 refine ah c3 ?_
 by_cases h6 : 0 < nY l.w.q
 rotate_left
 ·(refine qm @h3 @h6 ?_;try with_reducible exact True.intro)
 refine qm @h3 @h6 ?_
 refine ah c4 ?_
 cases l.dx.ok
 ·(refine qm @h3 @h6 ?_;try with_reducible exact True.intro)
 refine qm @h3 @h6 ?_
 refine ah c5 ?_
 cases l.dy.ok
 ·(refine qm @h3 @h6 ?_;try with_reducible exact True.intro)
 (refine qm @h3 @h6 ?_;try with_reducible exact True.intro)
theorem aaP {n d k : Int} (hk : k ≠ 0) : Io (n * k) (d * k) = Io n d:=by
 unfold Io
 by_cases hd : d = 0
 ·subst hd;simp
 ·have : d * k ≠ 0:=fun e=>by rcases Int.mul_eq_zero.1 e with h | h <;> omega
  rw [if_neg hd,if_neg this,Rat.divInt_mul_right hk]
theorem XO (q : Rat) : Q.raw (some q) = ⟨decide (q.num < 0),mk q.num.natAbs,mk q.den⟩:=rfl
theorem Y6 (x : Int) : sg (decide (x < 0)) x.natAbs = x:=by
 by_cases h : x < 0
 ·simp only [sg,h,decide_true,if_true];omega
 ·simp only [sg,h,decide_false,Bool.false_eq_true,if_false];omega
theorem aki (x : Int) : sg (!decide (x < 0)) x.natAbs = -x:=by
 by_cases h : x < 0
 ·simp only [sg,h,decide_true,Bool.not_true,Bool.false_eq_true,if_false];omega
 ·simp only [sg,h,decide_false,Bool.not_false,if_true];omega
theorem ade {n : Nat} (h : 0 < n) : aH (mk n) ≠ []:=by
 have hp:=y7.2 h
 intro e;rw [← yV,e] at hp;simp at hp
theorem adf {T : Tb} (h : BQ T) {q : Rat} (hq : Q.ok (some q)) : PF T 208 [aQ (Q.raw (some q))] (aQ (Q.raw (negQ (some q)))):=by
 obtain ⟨l1,l2⟩:=EJ hq
 have cm:=pK h.bZ (neg:=!decide (q.num < 0)) (n:=q.num.natAbs) (by omega)
 rw [aki] at cm
 have ne:=ade q.den_pos
 rw [XO]
 have e : Q.raw (negQ (some q)) = ⟨decide (-q.num < 0),mk (-q.num).natAbs,mk q.den⟩:=rfl
 rw [e]
 generalize q.num.natAbs = m at *
 refine aC nR h.hT ?_
 simp only [yj,Lz]
 refine ev ?_
 refine ah cm ?_
 refine ev1 @ne ?_
 refine ⟨by omega,?_⟩
 refine ⟨by unfold lU;decide +kernel,?_⟩
 exact au _
theorem adg {T : Tb} (h : BP T) {a b : Rat} (ha : Q.ok (some a)) (hb : Q.ok (some b)) : PF T 207 [aQ (Q.raw (some a)),aQ (Q.raw (some b))] (aQ (Q.raw (KC (some a) (some b)))):=by
 obtain ⟨l1,l2⟩:=EJ ha
 obtain ⟨l3,l4⟩:=EJ hb
 have e : KC (some a) (some b) = Io (a.num * b.num) (a.den * b.den):=(Sz a b).symm
 rw [e,XO,XO]
 have c1:=uw h.dP (m:=a.num.natAbs) (n:=b.num.natAbs) (by omega) (by omega)
 have c2:=uw h.dP (m:=a.den) (n:=b.den) (by omega) (by omega)
 have t1:=BL a.num.natAbs b.num.natAbs
 have t2:=BL a.den b.den
 have c3:=FI h.jy (neg:=decide (a.num < 0) != decide (b.num < 0)) (m:=a.num.natAbs * b.num.natAbs) (n:=a.den * b.den) (by omega) (by omega)
 rw [Oe,Int.natCast_mul,← Jq] at c3
 refine aC nR h.hT ?_
 simp only [yg,Lz]
 refine ev ?_
 refine ah c1 ?_
 refine ev ?_
 refine ah c2 ?_
 refine ev ?_
 refine ah c3 ?_
 refine ev ?_
 refine ⟨by unfold lU;decide +kernel,?_⟩
 exact au _
theorem Vj {T : Tb} (h : yh T) {a b : Rat} (ha : Q.ok (some a)) (hb : Q.ok (some b)) : PF T 198 [aQ (Q.raw (some a)),aQ (Q.raw (some b))] (aQ (Q.raw (EI (some a) (some b)))):=by
 obtain ⟨l1,l2⟩:=EJ ha
 obtain ⟨l3,l4⟩:=EJ hb
 have e : EI (some a) (some b) = Io (a.num * b.den + b.num * a.den) (a.den * b.den):=(Sv a b).symm
 rw [e,XO,XO]
 have o1:=Fv h.kN (n:=a.den)
 have o2:=Fv h.kN (n:=b.den)
 by_cases hd : a.den = 1 ∧ b.den = 1
 ·have m1 : mk 1 = [1]:=mk_one (by omega) (by omega)
  have c1:=Va h.Hf (x:=a.num) (y:=b.num) (by omega) (by omega)
  have t1:=DV a.num b.num
  have c2:=FI h.jy (neg:=decide (a.num + b.num < 0)) (m:=(a.num + b.num).natAbs) (n:=1) (by omega) (by rw [m1];simp)
  rw [Y6,m1] at c2
  have e2 : Io (a.num * b.den + b.num * a.den) (a.den * b.den) = Io (a.num + b.num) ((1 : Nat) : Int):=by
   rw [hd.1,hd.2];simp
  rw [e2]
  rw [show decide (a.den = 1) = true from decide_eq_true hd.1] at o1
  rw [show decide (b.den = 1) = true from decide_eq_true hd.2] at o2
  refine aC nR h.hT ?_
  simp only [nH,Lz]
  refine ev ?_
  refine ah o1 ?_
  refine ev ?_
  refine ah o2 ?_
  refine ev ?_
  refine ah c1 ?_
  refine ev ?_
  simp only [adb]
  refine ev ?_
  refine ah c2 ?_
  refine ev ?_
  exact au _
 ·have c1:=uw h.dP (m:=a.num.natAbs) (n:=b.den) (by omega) (by omega)
  have c2:=uw h.dP (m:=b.num.natAbs) (n:=a.den) (by omega) (by omega)
  have c3:=uw h.dP (m:=a.den) (n:=b.den) (by omega) (by omega)
  have t1:=BL a.num.natAbs b.den
  have t2:=BL b.num.natAbs a.den
  have t3:=BL a.den b.den
  have c4:=pK h.bZ (neg:=decide (a.num < 0)) (n:=a.num.natAbs * b.den) (by omega)
  have c5:=pK h.bZ (neg:=decide (b.num < 0)) (n:=b.num.natAbs * a.den) (by omega)
  have e4 : ∀ (x : Int) (n : Nat),sg (decide (x < 0)) (x.natAbs * n) = x * n:=by
   intro x n
   have:=Oe x n
   rw [show decide ((n : Int) < 0) = false from decide_eq_false (by omega),Bool.bne_false,Int.natAbs_natCast] at this
   exact this
  rw [e4] at c4 c5
  have t4 : (mk (a.num * b.den).natAbs).length ≤ 48:=by rw [Int.natAbs_mul,Int.natAbs_natCast];omega
  have t5 : (mk (b.num * a.den).natAbs).length ≤ 48:=by rw [Int.natAbs_mul,Int.natAbs_natCast];omega
  have c6:=Va h.Hf (x:=a.num * b.den) (y:=b.num * a.den) (by omega) (by omega)
  have t6:=DV (a.num * b.den) (b.num * a.den)
  have c7:=FI h.jy (neg:=decide (a.num * b.den + b.num * a.den < 0)) (m:=(a.num * b.den + b.num * a.den).natAbs) (n:=a.den * b.den) (by omega) (by omega)
  rw [Y6,Int.natCast_mul] at c7
  clear t1 t2 t3 t4 t5 t6 e4 e l1 l2 l3 l4
  have fin : ∀ {P : Prop},(a.den = 1 → ¬ b.den = 1 → P) → (¬ a.den = 1 → P) → P:=by
   intro P p1 p2
   by_cases k : a.den = 1
   ·exact p1 k fun k2=>hd ⟨k,k2⟩
   ·exact p2 k
  refine fin (fun k1 k2=>?_) (fun k1=>?_)
  ·rw [show decide (a.den = 1) = true from decide_eq_true k1] at o1
   rw [show decide (b.den = 1) = false from decide_eq_false k2] at o2
   refine aC nR h.hT ?_
   simp only [nH,Lz]
   refine ev ?_
   refine ah o1 ?_
   refine ev ?_
   refine ah o2 ?_
   refine ev ?_
   refine ah c1 ?_
   refine ev ?_
   refine ah c4 ?_
   refine ev ?_
   refine ⟨by unfold lU;decide +kernel,?_⟩
   refine ah c2 ?_
   refine ev ?_
   refine ah c5 ?_
   refine ev ?_
   refine ⟨by unfold lU;decide +kernel,?_⟩
   refine ah c6 ?_
   refine ev ?_
   refine ah c3 ?_
   refine ev ?_
   refine ah c7 ?_
   refine ev ?_
   refine ⟨by unfold lU;decide +kernel,?_⟩
   exact au _
  ·rw [show decide (a.den = 1) = false from decide_eq_false k1] at o1
   refine aC nR h.hT ?_
   simp only [nH,Lz]
   refine ev ?_
   refine ah o1 ?_
   refine ev ?_
   refine ah c1 ?_
   refine ev ?_
   refine ah c4 ?_
   refine ev ?_
   refine ⟨by unfold lU;decide +kernel,?_⟩
   refine ah c2 ?_
   refine ev ?_
   refine ah c5 ?_
   refine ev ?_
   refine ⟨by unfold lU;decide +kernel,?_⟩
   refine ah c6 ?_
   refine ev ?_
   refine ah c3 ?_
   refine ev ?_
   refine ah c7 ?_
   refine ev ?_
   refine ⟨by unfold lU;decide +kernel,?_⟩
   exact au _
theorem Dn {T : Tb} (h : qM T) {r s : R} (hr : r.wf:=by exact gU) (hs : s.wf:=by exact gU) : PF T 189 [aQ r,aQ s] (aQ (dZ r s)):=by
 have o1:=lD h.bn hr
 have o2:=lD h.bn hs
 cases hro : r.ok
 ·have e : dZ r s = R0:=by unfold dZ;rw [jS.1 hro];rfl
  rw [e];rw [hro] at o1
  refine aC nR h.hT ?_
  simp only [nI,Lz]
  refine ev ?_
  refine ah o1 ?_
  refine ev ?_
  exact iZ
 cases hso : s.ok
 ·have e : dZ r s = R0:=by unfold dZ;rw [jS.1 hso,FC];rfl
  rw [e];rw [hro] at o1;rw [hso] at o2
  refine aC nR h.hT ?_
  simp only [nI,Lz]
  refine ev ?_
  refine ah o1 ?_
  refine ev ?_
  refine ah o2 ?_
  refine ev ?_
  exact iZ
 rw [hro] at o1;rw [hso] at o2
 obtain ⟨a,ha,rfl⟩:=yX hro
 obtain ⟨b,hb,rfl⟩:=yX hso
 have e : dZ (Q.raw (some a)) (Q.raw (some b)) = Q.raw (EI (some a) (some b)):=by unfold dZ;rw [qA (q:=some a) ha,qA (q:=some b) hb]
 have c:=Vj h.BR (a:=a) (b:=b) ha hb
 rw [e]
 refine aC nR h.hT ?_
 simp only [nI,Lz]
 refine ev ?_
 refine ah o1 ?_
 refine ev ?_
 refine ah o2 ?_
 refine ev ?_
 refine ah c ?_
 refine ev ?_
 exact au _
def mO : Fn:=⟨1,16,[.cell 2 2 true],(.seq (rf 1 [oN 2 (.alloc QM)]) (.seq (sr [oW 3 0,oN 4 (.bin .eql (.t 3) (cI (-9223372036854775808)))] (cd 4 (.seq (rf 1 [oN 5 (.fE 1 Eo 3 [(0,(cI 854775808)),(1,(cI 223372036)),(2,(cI 9))]),oK 6 1 (.call 66 [(.c (.bool true)),(.t 5)]),⟨none,none,1,.store 2 (.t 2) (.t 6),[]⟩]) .ret) .skip)) (.seq (sr [oW 7 0,oN 8 (bc .lss 7 0)] (cd 8 (sr [oW 9 0,oN 10 (.un .neg (.t 9)),oN 11 (cl 67 [10]),oN 12 (.call 66 [(.c (.bool true)),(.t 11)]),oS (.store 2 (.t 2) (.t 12))] .ret) .skip)) (sr [oW 13 0,oN 14 (cl 67 [13]),oN 15 (.call 66 [(.c (.bool false)),(.t 14)]),oS (.store 2 (.t 2) (.t 15))] .ret))))⟩
structure rP (T : Tb) : Prop where
 hT : T 53 = some mO
 bZ : jH T
 jq : pI T
def og : Fn:=⟨1,7,[.cell 2 3 true],(.seq (rf 1 [oN 2 (.alloc mV)]) (.seq (rf 1 [oK 3 1 (oV 0),oK 4 1 (cl 53 [3]),oN 5 (.fE 1 Eo 1 [(0,(cI 1))]),oK 6 1 (.build mV [(0,2,(.t 4)),(2,1,(.t 5))]),⟨none,none,1,.store 3 (.t 2) (.t 6),[]⟩]) .ret))⟩
structure kE (T : Tb) : Prop where
 hT : T 36 = some og
 rQ : rP T
def jg : Fn:=⟨1,16,[.cell 2 2 true],(.seq (rf 1 [oN 2 (.alloc QM)]) (.seq (sr [oW 3 0,oN 4 (bc .lss 3 0)] (cd 4 (sr [oW 5 0,oN 6 (bc .add 5 1),oN 7 (.un .neg (.t 6)),oN 8 (.conv .u64 (.t 7)),oN 9 (.bin .add (.t 8) (.c (.int .u64 1))),oN 10 (cl 69 [9]),oN 11 (.call 68 [(.c (.bool true)),(.t 10)]),oS (.store 2 (.t 2) (.t 11))] .ret) .skip)) (sr [oW 12 0,oN 13 (.conv .u64 (.t 12)),oN 14 (cl 69 [13]),oN 15 (.call 68 [(.c (.bool false)),(.t 14)]),oS (.store 2 (.t 2) (.t 15))] .ret)))⟩
structure rU (T : Tb) : Prop where
 hT : T 54 = some jg
 bg : eu T
 bP : jB T
def kF : Fn:=⟨1,7,[.cell 2 3 true],(.seq (rf 1 [oN 2 (.alloc mV)]) (.seq (rf 1 [oK 3 1 (oV 0),oK 4 1 (cl 54 [3]),oN 5 (.fE 1 Eo 1 [(0,(cI 1))]),oK 6 1 (.build mV [(0,2,(.t 4)),(2,1,(.t 5))]),⟨none,none,1,.store 3 (.t 2) (.t 6),[]⟩]) .ret))⟩
structure fB (T : Tb) : Prop where
 hT : T 39 = some kF
 Ez : rU T
theorem tX {T : Tb} (h : yu T) {r s : R} (hr : r.wf:=by exact gU) (hs : s.wf:=by exact gU) : PF T 201 [aQ r,aQ s] (aQ (mulR r s)):=by
 have o1:=lD h.bn hr
 have o2:=lD h.bn hs
 cases hro : r.ok
 ·have e : mulR r s = R0:=by unfold mulR;rw [jS.1 hro];rfl
  rw [e];rw [hro] at o1
  refine aC nR h.hT ?_
  simp only [nK,Lz]
  refine ev ?_
  refine ah o1 ?_
  refine ev ?_
  exact iZ
 cases hso : s.ok
 ·have e : mulR r s = R0:=by unfold mulR;rw [jS.1 hso,FH];rfl
  rw [e];rw [hro] at o1;rw [hso] at o2
  refine aC nR h.hT ?_
  simp only [nK,Lz]
  refine ev ?_
  refine ah o1 ?_
  refine ev ?_
  refine ah o2 ?_
  refine ev ?_
  exact iZ
 rw [hro] at o1;rw [hso] at o2
 obtain ⟨a,ha,rfl⟩:=yX hro
 obtain ⟨b,hb,rfl⟩:=yX hso
 have e : mulR (Q.raw (some a)) (Q.raw (some b)) = Q.raw (KC (some a) (some b)):=by unfold mulR;rw [qA (q:=some a) ha,qA (q:=some b) hb]
 rw [e]
 have c:=adg h.Qc (a:=a) (b:=b) ha hb
 refine aC nR h.hT ?_
 simp only [nK,Lz]
 refine ev ?_
 refine ah o1 ?_
 refine ev ?_
 refine ah o2 ?_
 refine ev ?_
 refine ah c ?_
 refine ev ?_
 exact au _
theorem QN {T : Tb} (h : BU T) {r s : R} (hr : r.wf:=by exact gU) (hs : s.wf:=by exact gU) : PF T 203 [aQ r,aQ s] (aQ (iC r s)):=by
 have o1:=lD h.bn hr
 have o2:=lD h.bn hs
 cases hro : r.ok
 ·have e : iC r s = R0:=by unfold iC;rw [jS.1 hro];rfl
  rw [e];rw [hro] at o1
  refine aC nR h.hT ?_
  simp only [nJ,Lz]
  refine ev ?_
  refine ah o1 ?_
  refine ev ?_
  exact iZ
 cases hso : s.ok
 ·have e : iC r s = R0:=by unfold iC;rw [jS.1 hso,LP];rfl
  rw [e];rw [hro] at o1;rw [hso] at o2
  refine aC nR h.hT ?_
  simp only [nJ,Lz]
  refine ev ?_
  refine ah o1 ?_
  refine ev ?_
  refine ah o2 ?_
  refine ev ?_
  exact iZ
 rw [hro] at o1;rw [hso] at o2
 obtain ⟨a,ha,rfl⟩:=yX hro
 obtain ⟨b,hb,rfl⟩:=yX hso
 have e : iC (Q.raw (some a)) (Q.raw (some b)) = Q.raw (Xv (some a) (some b)):=by unfold iC;rw [qA (q:=some a) ha,qA (q:=some b) hb]
 rw [e]
 have c:=adf h.Qb (q:=b) hb
 have c2:=Vj h.BR (a:=a) (b:=-b) ha (MQ (a:=some b) hb)
 refine aC nR h.hT ?_
 simp only [nJ,Lz]
 refine ev ?_
 refine ah o1 ?_
 refine ev ?_
 refine ah o2 ?_
 refine ev ?_
 refine ah c ?_
 refine ev ?_
 refine ah c2 ?_
 refine ev ?_
 refine ⟨by unfold lU;decide +kernel,?_⟩
 exact au _
theorem KI {T : Tb} (h : BX T) {r s : R} (hr : r.wf:=by exact gU) (hs : s.wf:=by exact gU) : PF T 200 [aQ r,aQ s] (aQ (wI r s)):=by
 have o1:=lD h.bn hr
 have o2:=lD h.bn hs
 cases hro : r.ok
 ·have e : wI r s = R0:=by unfold wI;rw [jS.1 hro];rfl
  rw [e];rw [hro] at o1
  refine aC nR h.hT ?_
  simp only [nM,Lz]
  refine ev ?_
  refine ah o1 ?_
  refine ev ?_
  exact iZ
 cases hso : s.ok
 ·have e : wI r s = R0:=by unfold wI;rw [jS.1 hso,LM];rfl
  rw [e];rw [hro] at o1;rw [hso] at o2
  refine aC nR h.hT ?_
  simp only [nM,Lz]
  refine ev ?_
  refine ah o1 ?_
  refine ev ?_
  refine ah o2 ?_
  refine ev ?_
  exact iZ
 rw [hro] at o1;rw [hso] at o2
 obtain ⟨a,ha,rfl⟩:=yX hro
 obtain ⟨b,hb,rfl⟩:=yX hso
 have e : wI (Q.raw (some a)) (Q.raw (some b)) = Q.raw (P6 (some a) (some b)):=by unfold wI;rw [qA (q:=some a) ha,qA (q:=some b) hb]
 rw [e]
 obtain ⟨l1,l2⟩:=EJ (q:=a) ha
 obtain ⟨l3,l4⟩:=EJ (q:=b) hb
 have c1:=uw h.dP (m:=a.num.natAbs) (n:=b.den) (by omega) (by omega)
 have c2:=uw h.dP (m:=a.den) (n:=b.num.natAbs) (by omega) (by omega)
 have t1:=BL a.num.natAbs b.den
 have t2:=BL a.den b.num.natAbs
 have c3:=FI h.jy (neg:=decide (a.num < 0) != decide (b.num < 0)) (m:=a.num.natAbs * b.den) (n:=a.den * b.num.natAbs) (by omega) (by omega)
 have e3 : Io (sg (decide (a.num < 0) != decide (b.num < 0)) (a.num.natAbs * b.den)) ((a.den * b.num.natAbs : Nat) : Int) = P6 (some a) (some b):=by
  have e4 : P6 (some a) (some b) = Io (a.num * b.den) (b.num * a.den):=(YZ a b).symm
  rw [e4]
  have hden : 0 < b.den:=b.den_pos
  rcases Int.lt_trichotomy b.num 0 with k | k | k
  ·have e5 : ((a.den * b.num.natAbs : Nat) : Int) = (b.num * a.den) * (-1):=by
    rw [Int.natCast_mul,Int.mul_comm b.num,Int.mul_assoc];congr 1;omega
   have e6 : sg (decide (a.num < 0) != decide (b.num < 0)) (a.num.natAbs * b.den) = (a.num * b.den) * (-1):=by
    have:=Oe a.num (-(b.den : Int))
    rw [show decide (-(b.den : Int) < 0) = true from decide_eq_true (by omega),Int.natAbs_neg,Int.natAbs_natCast] at this
    rw [show decide (b.num < 0) = true from decide_eq_true k,this,Int.mul_neg,Int.mul_neg,Int.mul_one]
   rw [e5,e6,aaP (by omega)]
  ·rw [k];simp [Io]
  ·have e5 : ((a.den * b.num.natAbs : Nat) : Int) = b.num * a.den:=by
    rw [Int.natCast_mul,Int.mul_comm b.num];congr 1;omega
   have e6 : sg (decide (a.num < 0) != decide (b.num < 0)) (a.num.natAbs * b.den) = a.num * b.den:=by
    have:=Oe a.num (b.den : Int)
    rw [show decide ((b.den : Int) < 0) = false from decide_eq_false (by omega),Int.natAbs_natCast] at this
    rw [show decide (b.num < 0) = false from decide_eq_false (by omega),this]
   rw [e5,e6]
 rw [e3,← Jq] at c3
 clear e3 l1 l2 l3 l4 t1 t2
 rw [XO] at *
 rw [XO] at *
 refine aC nR h.hT ?_
 simp only [nM,Lz]
 refine ev ?_
 refine ah o1 ?_
 refine ev ?_
 refine ah o2 ?_
 refine ev ?_
 refine ah c1 ?_
 refine ev ?_
 refine ah c2 ?_
 refine ev ?_
 refine ah c3 ?_
 refine ev ?_
 refine ⟨by unfold lU;decide +kernel,?_⟩
 exact au _
theorem FK {n : Nat} (h : n < 1000000000000000000) : (mk n).length ≤ 2:=aX.2 (by simpa using h)
theorem Ot (n : Int) : bQ n = ⟨decide (n < 0),mk n.natAbs,[1]⟩:=by
 show (⟨decide ((n : Rat).num < 0),mk (n : Rat).num.natAbs,mk (n : Rat).den⟩ : R) = _
 have m1 : mk 1 = [1]:=mk_one (by omega) (by omega)
 rw [Rat.num_intCast,Rat.den_intCast,m1]
theorem FM {T : Tb} (h : rP T) {n : Int} (hn : -1000000000000000000 < n ∧ n < 1000000000000000000:=by exact gU) : PF T 53 [iv n] (LG (bi n)):=by
 have hl : (mk n.natAbs).length ≤ 2:=FK (by omega)
 by_cases hneg : n < 0
 ·have c1:=Gn h.jq (n:=-n) (by omega)
  have c2:=pK h.bZ (neg:=true) (n:=n.natAbs) (by omega)
  rw [show (-n).toNat = n.natAbs by omega] at c1
  rw [show sg true n.natAbs = n by simp only [sg,if_true];omega] at c2
  have c0 : ¬ n = -9223372036854775808:=by omega
  refine aC nR h.hT ?_
  simp only [mO,Lz]
  refine ev ?_
  refine qm @c0 @hneg ?_
  rw [show (0 : Int) - n = -n by omega]
  refine ah c1 ?_
  refine ev ?_
  refine ah c2 ?_
  refine ev ?_
  exact au _
 ·have c1:=Gn h.jq (n:=n) (by omega)
  have c2:=pK h.bZ (neg:=false) (n:=n.natAbs) (by omega)
  rw [show n.toNat = n.natAbs by omega] at c1
  rw [show sg false n.natAbs = n by simp only [sg,Bool.false_eq_true,if_false];omega] at c2
  have c0 : ¬ n = -9223372036854775808:=by omega
  refine aC nR h.hT ?_
  simp only [mO,Lz]
  refine ev ?_
  refine qm @c0 @hneg ?_
  refine ah c1 ?_
  refine ev ?_
  refine ah c2 ?_
  refine ev ?_
  exact au _
theorem Vk {T : Tb} (h : rU T) {n : Int} (hn : -1000000000000000000 < n ∧ n < 1000000000000000000:=by exact gU) : PF T 54 [iv n] (LG (bi n)):=by
 have hl : (mk n.natAbs).length ≤ 2:=FK (by omega)
 by_cases hneg : n < 0
 ·have c1:=oI h.bP (n:=-(n + 1) + 1) (by omega)
  have c2:=tV h.bg (neg:=true) (n:=n.natAbs) (by omega)
  rw [show (-(n + 1) + 1).toNat = n.natAbs by omega] at c1
  rw [show sg true n.natAbs = n by simp only [sg,if_true];omega] at c2
  refine aC nR h.hT ?_
  simp only [jg,Lz]
  refine ev ?_
  refine ev1 @hneg ?_
  rw [show (0 : Int) - (n + 1) + 1 = -(n + 1) + 1 by omega]
  refine ah c1 ?_
  refine ev ?_
  refine ah c2 ?_
  refine ev ?_
  exact au _
 ·have c1:=oI h.bP (n:=n) (by omega)
  have c2:=tV h.bg (neg:=false) (n:=n.natAbs) (by omega)
  rw [show n.toNat = n.natAbs by omega] at c1
  rw [show sg false n.natAbs = n by simp only [sg,Bool.false_eq_true,if_false];omega] at c2
  refine aC nR h.hT ?_
  simp only [jg,Lz]
  refine ev ?_
  refine ev1 @hneg ?_
  refine ah c1 ?_
  refine ev ?_
  refine ah c2 ?_
  refine ev ?_
  exact au _
theorem gy {T : Tb} (h : kE T) {n : Int} (hn : -1000000000000000000 < n ∧ n < 1000000000000000000:=by exact gU) : PF T 36 [iv n] (aQ (bQ n)):=by
 have c:=FM h.rQ hn
 rw [Ot]
 refine aC nR h.hT ?_
 simp only [og,Lz]
 refine ev ?_
 refine ah c ?_
 refine ev ?_
 simp only [adb]
 refine ev ?_
 exact au _
theorem yB {T : Tb} (h : fB T) {n : Int} (hn : -1000000000000000000 < n ∧ n < 1000000000000000000:=by exact gU) : PF T 39 [iv n] (aQ (bQ n)):=by
 have c:=Vk h.Ez hn
 rw [Ot]
 refine aC nR h.hT ?_
 simp only [kF,Lz]
 refine ev ?_
 refine ah c ?_
 refine ev ?_
 simp only [adb]
 refine ev ?_
 exact au _
def kQ : Fn:=⟨2,17,[.cell 4 3 true],(.seq (rf 3 [oN 2 (.box (.t 0)),oK 3 1 (.box (.t 1)),oK 4 2 (.alloc mV)]) (.seq (sr [oN 5 (lT 3 2),oN 6 (cl 102 [5]),oN 7 (nt 6),oW 8 7,oG 8 false 9 (lT 3 3),oG 8 false 10 (cl 102 [9]),oG 8 false 11 (nt 10),oN 12 (.pick (.t 8) (.c (.bool true)) (.t 11))] (cd 12 (sr [oN 13 (.build mV []),oS (.store 3 (.t 4) (.t 13))] .ret) .skip)) (sr [oN 14 (lT 3 2),oN 15 (lT 3 3),oN 16 (cl 131 [14,15]),oS (.store 3 (.t 4) (.t 16))] .ret)))⟩
structure qN (T : Tb) : Prop where
 hT : T 178 = some kQ
 dG : lW T
 bG : eH T
theorem Qd {r : R} (h : r.cn:=by
 first | with_reducible assumption | with_reducible exact nZ _ _ | with_reducible exact MS _ _ | with_reducible exact Js _ _ | with_reducible exact DX _ _ | with_reducible exact SK _ | with_reducible exact Ve | with_reducible exact rO (by decide)) : r.cn:=h
theorem zY {T : Tb} (h : eH T) {r s : R} (hr : r.cn:=by exact Qd) (hs : s.cn:=by exact Qd) : PF T 131 [aQ r,aQ s] (aQ (dZ r s)):=by
 have:=Vb h (a:=r.q) (b:=s.q) (Fb r) (Fb s)
 rw [hr,hs] at this;exact this
theorem Aa {T : Tb} (h : qL T) {r s : R} (hr : r.cn:=by exact Qd) (hs : s.cn:=by exact Qd) : PF T 159 [aQ r,aQ s] (aQ (iC r s)):=by
 have:=ada h (a:=r.q) (b:=s.q) (Fb r) (Fb s)
 rw [hr,hs] at this;exact this
theorem Dp {T : Tb} (h : iJ T) {r s : R} (hr : r.cn:=by exact Qd) (hs : s.cn:=by exact Qd) : PF T 157 [aQ r,aQ s] (aQ (mulR r s)):=by
 have:=ac8 h (a:=r.q) (b:=s.q) (Fb r) (Fb s)
 rw [hr,hs] at this;exact this
theorem QO {T : Tb} (h : yc T) {r s : R} (hr : r.cn:=by exact Qd) (hs : s.cn:=by exact Qd) : PF T 156 [aQ r,aQ s] (aQ (wI r s)):=by
 have:=ac9 h (a:=r.q) (b:=s.q) (Fb r) (Fb s)
 rw [hr,hs] at this;exact this
theorem QS {T : Tb} (h : qK T) {r : R} (hr : r.cn:=by exact Qd) : PF T 161 [aQ r] (aQ (negR r)):=by
 have:=Vd h (a:=r.q) (Fb r)
 rw [hr] at this;exact this
theorem SN {T : Tb} (h : fU T) {r : R} (hr : r.cn:=by exact Qd) : PF T 132 [aQ r] (.bool r.ok):=by
 have:=SH h (a:=r.q)
 rw [hr,Xx] at this;exact this
theorem QT {T : Tb} (h : qN T) {r s : R} (hr : r.wf:=by exact gU) (hs : s.wf:=by exact gU) : PF T 178 [aQ r,aQ s] (aQ (dZ r s)):=by
 have o1:=uD h.dG hr
 have o2:=uD h.dG hs
 cases hro : r.ok
 ·have e : dZ r s = R0:=by unfold dZ;rw [jS.1 hro];rfl
  rw [e];rw [hro] at o1
  refine aC nR h.hT ?_
  simp only [kQ,Lz]
  refine ev ?_
  refine ah o1 ?_
  refine ev ?_
  exact iZ
 cases hso : s.ok
 ·have e : dZ r s = R0:=by unfold dZ;rw [jS.1 hso,FC];rfl
  rw [e];rw [hro] at o1;rw [hso] at o2
  refine aC nR h.hT ?_
  simp only [kQ,Lz]
  refine ev ?_
  refine ah o1 ?_
  refine ev ?_
  refine ah o2 ?_
  refine ev ?_
  exact iZ
 rw [hro] at o1;rw [hso] at o2
 have c:=zY h.bG (kD hro) (kD hso)
 refine aC nR h.hT ?_
 simp only [kQ,Lz]
 refine ev ?_
 refine ah o1 ?_
 refine ev ?_
 refine ah o2 ?_
 refine ev ?_
 refine ah c ?_
 refine ev ?_
 exact au _
mutual
def bI (σ : Store) : V → V → List Nat → Prop
 | v,.sl sz rows,os=>(rows = [] ∧ v = .sl sz [] ∧ os = []) ∨ ∃ o rows' os',v = .bF o 0 rows.length ∧ aj σ o = some ⟨sz,rows'⟩ ∧ os = o :: os' ∧ jV σ rows' rows os'
 | v,.agg cs,os=>∃ cs',v = .agg cs' ∧ bT σ cs' cs os
 | v,.gq cs,os=>∃ cs',v = .gq cs' ∧ bT σ cs' cs os
 | v,.any,os=>False
 | v,.one,os=>False
 | v,.int k n,os=>v = .int k n ∧ os = []
 | v,.bool b,os=>v = .bool b ∧ os = []
 | v,.str s,os=>v = .str s ∧ os = []
 | v,.ak,os=>False
 | v,.bF _ _ _,os=>False
 | v,.ptr _ _ _,os=>False
 | v,.eU _ _,os=>False
def bT (σ : Store) : List V → List V → List Nat → Prop
 | vs,[],os=>vs = [] ∧ os = []
 | vs,t :: ts,os=>∃ v vs' o1 o2,vs = v :: vs' ∧ os = o1 ++ o2 ∧ bI σ v t o1 ∧ bT σ vs' ts o2
def jV (σ : Store) : List (List V) → List (List V) → List Nat → Prop
 | vs,[],os=>vs = [] ∧ os = []
 | vs,t :: ts,os=>∃ v vs' o1 o2,vs = v :: vs' ∧ os = o1 ++ o2 ∧ bT σ v t o1 ∧ jV σ vs' ts o2
end
section
variable {σ σ' : Store}
theorem aG {o : Nat} {ob : Obj} (h : aj σ o = some ob) : o < σ.length:=by
 rcases Nat.lt_or_ge o σ.length with k | k
 ·exact k
 ·rw [aj,List.getElem?_eq_none k] at h;cases h
mutual
theorem bI.lt : ∀ {t v : V} {os : List Nat},bI σ v t os → ∀ o ∈ os,o < σ.length
 |
  .sl sz rows,v,os,h=>by
  simp only [bI] at h
  rcases h with ⟨_,_,rfl⟩ | ⟨o,rows',os',_,h2,rfl,h3⟩
  ·intro o ho;cases ho
  ·intro q hq
   rcases List.mem_cons.1 hq with rfl | hq
   ·exact aG h2
   ·exact jV.lt h3 q hq
 | .agg cs,v,os,h=>by simp only [bI] at h;obtain ⟨cs',_,h⟩:=h;exact bT.lt h
 | .gq cs,v,os,h=>by simp only [bI] at h;obtain ⟨cs',_,h⟩:=h;exact bT.lt h
 | .any,v,os,h=>by simp [bI] at h
 | .one,v,os,h=>by simp [bI] at h
 | .int ..,v,os,h=>by simp only [bI] at h;rw [h.2];intro o ho;cases ho
 | .bool _,v,os,h=>by simp only [bI] at h;rw [h.2];intro o ho;cases ho
 | .str _,v,os,h=>by simp only [bI] at h;rw [h.2];intro o ho;cases ho
 | .ak,v,os,h=>by simp [bI] at h
 | .bF ..,v,os,h=>by simp [bI] at h
 | .ptr ..,v,os,h=>by simp [bI] at h
 | .eU ..,v,os,h=>by simp [bI] at h
theorem bT.lt : ∀ {ts vs : List V} {os : List Nat},bT σ vs ts os → ∀ o ∈ os,o < σ.length
 | [],vs,os,h=>by simp only [bT] at h;rw [h.2];intro o ho;cases ho
 |
  t :: ts,vs,os,h=>by
  simp only [bT] at h
  obtain ⟨v,vs',o1,o2,_,rfl,h1,h2⟩:=h
  intro o ho
  rcases List.mem_append.1 ho with ho | ho
  ·exact bI.lt h1 o ho
  ·exact bT.lt h2 o ho
theorem jV.lt : ∀ {ts vs : List (List V)} {os : List Nat},jV σ vs ts os → ∀ o ∈ os,o < σ.length
 | [],vs,os,h=>by simp only [jV] at h;rw [h.2];intro o ho;cases ho
 |
  t :: ts,vs,os,h=>by
  simp only [jV] at h
  obtain ⟨v,vs',o1,o2,_,rfl,h1,h2⟩:=h
  intro o ho
  rcases List.mem_append.1 ho with ho | ho
  ·exact bT.lt h1 o ho
  ·exact jV.lt h2 o ho
end
mutual
theorem bI.frame : ∀ {t v : V} {os : List Nat},bI σ v t os → (∀ o ∈ os,aj σ' o = aj σ o) → bI σ' v t os
 |
  .sl sz rows,v,os,h,hf=>by
  simp only [bI] at h ⊢
  rcases h with h | ⟨o,rows',os',h1,h2,rfl,h3⟩
  ·exact .inl h
  ·exact .inr ⟨o,rows',os',h1,by rw [hf o (by simp)];exact h2,rfl,jV.frame h3 fun q hq=>hf q (by simp [hq])⟩
 | .agg cs,v,os,h,hf=>by simp only [bI] at h ⊢;obtain ⟨cs',e,h⟩:=h;exact ⟨cs',e,bT.frame h hf⟩
 | .gq cs,v,os,h,hf=>by simp only [bI] at h ⊢;obtain ⟨cs',e,h⟩:=h;exact ⟨cs',e,bT.frame h hf⟩
 | .any,v,os,h,_=>by simp [bI] at h
 | .one,v,os,h,_=>by simp [bI] at h
 | .int ..,v,os,h,_=>by simpa only [bI] using h
 | .bool _,v,os,h,_=>by simpa only [bI] using h
 | .str _,v,os,h,_=>by simpa only [bI] using h
 | .ak,v,os,h,_=>by simp [bI] at h
 | .bF ..,v,os,h,_=>by simp [bI] at h
 | .ptr ..,v,os,h,_=>by simp [bI] at h
 | .eU ..,v,os,h,_=>by simp [bI] at h
theorem bT.frame : ∀ {ts vs : List V} {os : List Nat},bT σ vs ts os → (∀ o ∈ os,aj σ' o = aj σ o) → bT σ' vs ts os
 | [],vs,os,h,_=>by simpa only [bT] using h
 |
  t :: ts,vs,os,h,hf=>by
  simp only [bT] at h ⊢
  obtain ⟨v,vs',o1,o2,e,rfl,h1,h2⟩:=h
  exact ⟨v,vs',o1,o2,e,rfl,bI.frame h1 fun q hq=>hf q (by simp [hq]),bT.frame h2 fun q hq=>hf q (by simp [hq])⟩
theorem jV.frame : ∀ {ts vs : List (List V)} {os : List Nat},jV σ vs ts os → (∀ o ∈ os,aj σ' o = aj σ o) → jV σ' vs ts os
 | [],vs,os,h,_=>by simpa only [jV] using h
 |
  t :: ts,vs,os,h,hf=>by
  simp only [jV] at h ⊢
  obtain ⟨v,vs',o1,o2,e,rfl,h1,h2⟩:=h
  exact ⟨v,vs',o1,o2,e,rfl,bT.frame h1 fun q hq=>hf q (by simp [hq]),jV.frame h2 fun q hq=>hf q (by simp [hq])⟩
end
theorem bI.leaf {t v : V} {os : List Nat} (h : bI σ v t os) (hl : t.leaf = true) : v.leaf = true:=by
 cases t <;> simp only [V.leaf] at hl <;> first | (cases hl;done) | skip
 all_goals simp only [bI] at h
 all_goals first | (cases h;done) | skip
 case int=>rw [h.1];rfl
 case bool=>rw [h.1];rfl
 case str=>rw [h.1];rfl
 case sl=>rcases h with ⟨_,rfl,_⟩ | ⟨_,_,_,rfl,_⟩ <;> rfl
theorem jV.len : ∀ {ts vs : List (List V)} {os : List Nat},jV σ vs ts os → vs.length = ts.length
 | [],vs,os,h=>by simp only [jV] at h;simp [h.1]
 |
  t :: ts,vs,os,h=>by
  simp only [jV] at h
  obtain ⟨v,vs',o1,o2,rfl,_,_,h2⟩:=h
  simp [jV.len h2]
mutual
theorem bI.shift {n : Nat} (hn : ∀ o,aj σ' (n + o) = (aj σ o).map (gu (bD n))) : ∀ {t v : V} {os : List Nat},bI σ v t os → bI σ' (aP (bD n) v) t (os.map (n + ·))
 |
  .sl sz rows,v,os,h=>by
  simp only [bI] at h ⊢
  rcases h with ⟨h1,rfl,rfl⟩ | ⟨o,rows',os',rfl,h2,rfl,h3⟩
  ·exact .inl ⟨h1,rfl,rfl⟩
  ·exact .inr ⟨n + o,_,os'.map (n + ·),rfl,by rw [hn,h2];rfl,rfl,jV.shift hn h3⟩
 | .agg cs,v,os,h=>by simp only [bI] at h ⊢;obtain ⟨cs',rfl,h⟩:=h;exact ⟨_,rfl,bT.shift hn h⟩
 | .gq cs,v,os,h=>by simp only [bI] at h ⊢;obtain ⟨cs',rfl,h⟩:=h;exact ⟨_,rfl,bT.shift hn h⟩
 | .any,v,os,h=>by simp [bI] at h
 | .one,v,os,h=>by simp [bI] at h
 | .int ..,v,os,h=>by simp only [bI] at h ⊢;obtain ⟨rfl,rfl⟩:=h;exact ⟨rfl,rfl⟩
 | .bool _,v,os,h=>by simp only [bI] at h ⊢;obtain ⟨rfl,rfl⟩:=h;exact ⟨rfl,rfl⟩
 | .str _,v,os,h=>by simp only [bI] at h ⊢;obtain ⟨rfl,rfl⟩:=h;exact ⟨rfl,rfl⟩
 | .ak,v,os,h=>by simp [bI] at h
 | .bF ..,v,os,h=>by simp [bI] at h
 | .ptr ..,v,os,h=>by simp [bI] at h
 | .eU ..,v,os,h=>by simp [bI] at h
theorem bT.shift {n : Nat} (hn : ∀ o,aj σ' (n + o) = (aj σ o).map (gu (bD n))) : ∀ {ts vs : List V} {os : List Nat},bT σ vs ts os → bT σ' (aP.Ad (bD n) vs) ts (os.map (n + ·))
 | [],vs,os,h=>by simp only [bT] at h ⊢;obtain ⟨rfl,rfl⟩:=h;exact ⟨rfl,rfl⟩
 |
  t :: ts,vs,os,h=>by
  simp only [bT] at h ⊢
  obtain ⟨v,vs',o1,o2,rfl,rfl,h1,h2⟩:=h
  exact ⟨_,_,_,_,rfl,by rw [List.map_append],bI.shift hn h1,bT.shift hn h2⟩
theorem jV.shift {n : Nat} (hn : ∀ o,aj σ' (n + o) = (aj σ o).map (gu (bD n))) : ∀ {ts vs : List (List V)} {os : List Nat},jV σ vs ts os → jV σ' (vs.map fun r=>r.map (aP (bD n))) ts (os.map (n + ·))
 | [],vs,os,h=>by simp only [jV] at h ⊢;obtain ⟨rfl,rfl⟩:=h;exact ⟨rfl,rfl⟩
 |
  t :: ts,vs,os,h=>by
  simp only [jV] at h ⊢
  obtain ⟨v,vs',o1,o2,rfl,rfl,h1,h2⟩:=h
  have hm : ∀ l : List V,aP.Ad (bD n) l = l.map (aP (bD n)):=by
   intro l
   induction l with
   | nil=>rfl
   | cons x l ih=>simp only [aP.Ad,List.map_cons,ih]
  exact ⟨_,_,_,_,rfl,by rw [List.map_append],by rw [show (fun r=>List.map (aP (bD n)) r) v = aP.Ad (bD n) v from (hm v).symm];exact bT.shift hn h1,jV.shift hn h2⟩
end
def eF : Nat → V → Prop
 | 0,_=>False
 | n + 1,.sl _ rows=>∀ r ∈ rows,∀ c ∈ r,eF n c
 | n + 1,.agg cs=>∀ c ∈ cs,eF n c
 | n + 1,.gq cs=>∀ c ∈ cs,eF n c
 | _ + 1,_=>True
theorem FN : ∀ (n : Nat) {t v : V} {os : List Nat},bI σ v t os → eF n t → resolve σ n v = some t
 | 0,t,v,os,_,hd=>by simp [eF] at hd
 |
  n + 1,t,v,os,h,hd=>by
  have hl : ∀ (ts vs : List V) (os : List Nat),bT σ vs ts os → (∀ c ∈ ts,eF n c) → vs.mapM (resolve σ n) = some ts:=by
   intro ts
   induction ts with
   | nil=>intro vs os h _;simp only [bT] at h;rw [h.1];rfl
   |
    cons t ts ih =>
    intro vs os h hd
    simp only [bT] at h
    obtain ⟨v,vs',o1,o2,rfl,rfl,h1,h2⟩:=h
    rw [List.mapM_cons,FN n h1 (hd t (by simp)),ih vs' o2 h2 fun c hc=>hd c (by simp [hc])]
    rfl
  have hr : ∀ (ts vs : List (List V)) (os : List Nat),jV σ vs ts os → (∀ r ∈ ts,∀ c ∈ r,eF n c) → (vs.mapM fun (r : List V)=>r.mapM (resolve σ n)) = some ts:=by
   intro ts
   induction ts with
   | nil=>intro vs os h _;simp only [jV] at h;rw [h.1];rfl
   |
    cons t ts ih =>
    intro vs os h hd
    simp only [jV] at h
    obtain ⟨v,vs',o1,o2,rfl,rfl,h1,h2⟩:=h
    rw [List.mapM_cons,hl t v o1 h1 (hd t (by simp)),ih vs' o2 h2 fun c hc=>hd c (by simp [hc])]
    rfl
  cases t with
  |
   sl sz rows =>
   simp only [bI] at h
   simp only [eF] at hd
   rcases h with ⟨rfl,rfl,_⟩ | ⟨o,rows',os',rfl,h2,_,h3⟩
   ·rfl
   ·rw [resolve]
    simp only [h2]
    have:=h3.len
    rw [if_pos (by omega),List.drop_zero,List.take_of_length_le (by omega),hr rows rows' os' h3 hd];rfl
  |
   agg cs =>
   simp only [bI] at h
   obtain ⟨cs',rfl,h⟩:=h
   rw [resolve]
   rw [hl cs cs' os h hd];rfl
  |
   gq cs =>
   simp only [bI] at h
   obtain ⟨cs',rfl,h⟩:=h
   rw [resolve]
   rw [hl cs cs' os h hd];rfl
  | any=>simp [bI] at h
  | one=>simp [bI] at h
  | int k i=>simp only [bI] at h;rw [h.1];rfl
  | bool b=>simp only [bI] at h;rw [h.1];rfl
  | str s=>simp only [bI] at h;rw [h.1];rfl
  | ak=>simp [bI] at h
  | bF=>simp [bI] at h
  | ptr=>simp [bI] at h
  | eU=>simp [bI] at h
mutual
theorem bI.dH : ∀ {t v : V} {os : List Nat},bI σ v t os → dH v = true
 |
  .sl sz rows,v,os,h=>by
  simp only [bI] at h
  rcases h with ⟨rfl,rfl,_⟩ | ⟨o,rows',os',rfl,_⟩ <;> rfl
 | .agg cs,v,os,h=>by simp only [bI] at h;obtain ⟨cs',rfl,h⟩:=h;simp only [Ml.dH];exact bT.dH h
 | .gq cs,v,os,h=>by simp only [bI] at h;obtain ⟨cs',rfl,h⟩:=h;simp only [Ml.dH];exact bT.dH h
 | .any,v,os,h=>by simp [bI] at h
 | .one,v,os,h=>by simp [bI] at h
 | .int ..,v,os,h=>by simp only [bI] at h;rw [h.1];rfl
 | .bool _,v,os,h=>by simp only [bI] at h;rw [h.1];rfl
 | .str _,v,os,h=>by simp only [bI] at h;rw [h.1];rfl
 | .ak,v,os,h=>by simp [bI] at h
 | .bF ..,v,os,h=>by simp [bI] at h
 | .ptr ..,v,os,h=>by simp [bI] at h
 | .eU ..,v,os,h=>by simp [bI] at h
theorem bT.dH : ∀ {ts vs : List V} {os : List Nat},bT σ vs ts os → dH.kV vs = true
 | [],vs,os,h=>by simp only [bT] at h;rw [h.1];rfl
 |
  t :: ts,vs,os,h=>by
  simp only [bT] at h
  obtain ⟨v,vs',o1,o2,rfl,rfl,h1,h2⟩:=h
  simp only [dH.kV,bI.dH h1,bT.dH h2,Bool.and_self]
end
end
end Go.Ml
end
section
namespace Go.Ml
mutual
theorem Vl {w : World} {D : DM} {X X' : Nat → Prop} : ∀ (x : V) (v : Value),dH x = true → rd w D X x v → rd w D X' x v
 |
  .sl sz rows,v,h,hr=>by
  simp only [dH,List.isEmpty_iff] at h
  subst h
  simp only [rd] at hr ⊢
  obtain ⟨a,cap,h1,h2,_⟩:=hr
  exact ⟨a,cap,h1,h2,.inl (by trivial)⟩
 |
  .agg cs,v,h,hr=>by
  simp only [dH] at h
  simp only [rd] at hr ⊢
  obtain ⟨a,rfl,hr⟩:=hr
  exact ⟨a,rfl,KJ cs _ h hr⟩
 |
  .gq cs,v,h,hr=>by
  simp only [dH] at h
  simp only [rd] at hr ⊢
  obtain ⟨a,rfl,hr⟩:=hr
  exact ⟨a,rfl,KJ cs _ h hr⟩
 | .eU ..,v,h,hr=>by simp [dH] at h
 | .any,_,_,_=>by simp [rd]
 | .one,v,h,hr=>by simpa only [rd] using hr
 | .int ..,v,h,hr=>by simpa only [rd] using hr
 | .bool _,v,h,hr=>by simpa only [rd] using hr
 | .str _,v,h,hr=>by simpa only [rd] using hr
 | .ak,v,h,hr=>by simpa only [rd] using hr
 | .bF ..,v,h,hr=>by simpa only [rd] using hr
 | .ptr ..,v,h,hr=>by simpa only [rd] using hr
theorem KJ {w : World} {D : DM} {X X' : Nat → Prop} : ∀ (xs : List V) (vs : List Value),dH.kV xs = true → fD w D X xs vs → fD w D X' xs vs
 | [],vs,_,hr=>by simpa only [fD] using hr
 |
  x :: xs,vs,h,hr=>by
  simp only [dH.kV,Bool.and_eq_true] at h
  simp only [fD] at hr ⊢
  obtain ⟨v,vs',rfl,k1,k2⟩:=hr
  exact ⟨v,vs',rfl,Vl x v h.1 k1,KJ xs vs' h.2 k2⟩
end
mutual
theorem KL {g : Nat → Option Nat} : ∀ (x : V),dH x = true → dH (aP g x) = true
 | .sl sz rows,h=>by simpa only [aP] using h
 | .agg cs,h=>by simp only [dH,aP] at h ⊢;exact DY cs h
 | .gq cs,h=>by simp only [dH,aP] at h ⊢;exact DY cs h
 | .eU ..,h=>by simp [dH] at h
 | .bF o s l,_=>by simp only [aP];split <;> rfl
 | .ptr o s l,_=>by simp only [aP];split <;> rfl
 | .any,_=>rfl
 | .one,_=>rfl
 | .int ..,_=>rfl
 | .bool _,_=>rfl
 | .str _,_=>rfl
 | .ak,_=>rfl
theorem DY {g : Nat → Option Nat} : ∀ (xs : List V),dH.kV xs = true → dH.kV (aP.Ad g xs) = true
 | [],_=>rfl
 |
  x :: xs,h=>by
  simp only [dH.kV,Bool.and_eq_true,aP.Ad] at h ⊢
  exact ⟨KL x h.1,DY xs h.2⟩
end
theorem jM {σ σ' : Store} {o : Nat} : aj (pF σ σ') o = if o < σ.length then aj σ o else (aj σ' (o - σ.length)).map (gu (bD σ.length)):=by
 unfold pF aj
 by_cases h : o < σ.length
 ·rw [if_pos h,List.getElem?_append_left h]
 ·rw [if_neg h,List.getElem?_append_right (by omega),List.getElem?_map]
  cases σ'[o - σ.length]? <;> rfl
section
variable {P : Program} {ν : Nat → Option Nat} {nt : Nat} {M : Nat → Prop} {w0 : World} {D0 : DM} {st : St} {D : DM} {a : Act} {w : World}
theorem XP {x : fM} {f : Nat} {as : List Src} {as' : List V} {r : V} {σ' : Store} {R : List Nat} (hg : ∀ g want,x.g = some (g,want) → st.env g = .bool want) (hi : x.i = .call f as)
  (ha : as.mapM (fun s=>resolve st.objs FD (s.ev st.env)) = some as') (ih : H9 P ν f as' [] r σ')
  (hR : R = if dH r && Ae σ' then [] else as.flatMap fun s=>reach st.objs FD (s.ev st.env)) :
  Ux P ν x st { st with env:=dS st.env x.dst (aP (bD st.objs.length) r),objs:=pF (cO st.objs R) σ' }:=by
 have hlk : (cO st.objs R).length = st.objs.length:=Jc R _
 refine ⟨rfl,rfl,by simp [pF,hlk],?_⟩
 intro ops dr nt m k o htr M w0 D0 D a w hs _ K Q hK
 obtain ⟨t1,t2,t3,t4⟩:=zW htr
 rw [if_pos ((wz hs t4).1 hg)]
 rw [hi] at t1
 obtain ⟨fid,xs,c1,c2,c3⟩:=Bl t1
 have hrd:=Kr hs.store hs.env xs c2 ha (R:=as.flatMap fun s=>reach st.objs FD (s.ev st.env)) (fun o h=>h)
 let X' : Nat → Prop:=fun b=>M b ∨ ∃ o d,D o = .live d ∧ d.blk = b ∧ o ∉ as.flatMap fun s=>reach st.objs FD (s.ev st.env)
 have hX : ∀ b,XS X' DM.none b → X' b:=by
  rintro b (h | ⟨o,d,h,_⟩)
  ·exact h
  ·simp [DM.none] at h
 have hlt : ∀ b,X' b → b < w.heap.size:=by
  rintro b (h | ⟨o,d,h,rfl,_⟩)
  ·exact hs.store.mlt b h
  ·obtain ⟨_,_,_,_,_,_,_,_,h6,_⟩:=hs.store.live o d h
   exact h6
 have hcall:=ih fid c1 w X' DM.none (xs.map a.eval).toArray (by simpa using Kt hrd hX)
  ⟨fun o d h=>by simp [DM.none] at h,fun o ob h=>by simp [aj] at h,fun o o' d d' h=>by simp [DM.none] at h,fun _ _=>rfl,hlt⟩
 refine Jd (c3 a w) (R:=fun v w'=>∃ Dc,rd w' Dc (XS X' Dc) r v ∧ jk w' Dc X' σ' ∧ Gr (Own DM.none) w w' ∧ ∀ o d,Dc o = .live d → w.heap.size ≤ d.blk) (hcall.mono ?_) ?_
 ·rintro e w' ⟨v,D',rfl,h1,h2,h3,h4,_⟩
  refine ⟨v,rfl,D',h1,h2,h3,fun o d ho=>?_⟩
  rcases h4 o d ho with ⟨_,_,h,_⟩ | h
  ·simp [DM.none] at h
  ·exact h
 ·rintro v w' ⟨Dc,h1,h2,h3,h4⟩
  have hsame : ∀ b,b < w.heap.size → w'.heap[b]? = w.heap[b]?:=fun b hb=>h3.block b hb (by rintro ⟨o,d,h,_⟩;simp [DM.none] at h)
  let n:=st.objs.length
  let D' : DM:=fun o=>if o < n then D.kill R o else Dc (o - n)
  have PY : ∀ o,o < n → D' o = D.kill R o:=fun o h=>by simp only [D',if_pos h]
  have dNew : ∀ j,D' (n + j) = Dc j:=fun j=>by simp only [D'];rw [if_neg (by omega)];congr 1;omega
  have Em : ∀ o d,D' o = .live d → (o < n ∧ o ∉ R ∧ D o = .live d) ∨ (n ≤ o ∧ Dc (o - n) = .live d):=by
   intro o d ho
   by_cases hon : o < n
   ·rw [PY o hon] at ho
    obtain ⟨k1,k2⟩:=wB ho
    exact .inl ⟨hon,k2,k1⟩
   ·simp only [D',if_neg hon] at ho
    exact .inr ⟨by omega,ho⟩
  have E : Ext w D (XS M D) w' D' (XS M D'):=by
   refine ⟨h3.size,fun b hb _=>hsame b hb,?_,?_⟩
   ·rintro b hb (h | ⟨o,d,ho,rfl⟩)
    ·exact .inl h
    ·rcases Em o d ho with ⟨_,_,k⟩ | ⟨_,k⟩
     ·exact .inr ⟨o,d,k,rfl⟩
     ·have:=h4 _ d k;omega
   ·intro o
    by_cases hon : o < n
    ·rw [PY o hon];exact RJ D R o
    ·rw [hs.store.far o (by omega)];trivial
  have Uy : ∀ {x : V} {v : Value},((dH r && Ae σ') = true → dH x = true) → rd w' Dc (XS X' Dc) x v → rd w' D' (XS M D') (aP (bD n) x) v:=by
   intro x v hx hr
   have h:=Ko (D':=D') (g:=bD n) (fun j j' hj=>by simp only [bD,Option.some.injEq] at hj;subst hj;rw [dNew];exact jF.refl _) x v hr
   by_cases hf : (dH r && Ae σ') = true
   ·exact Vl _ _ (KL _ (hx hf)) h
   ·rw [if_neg hf] at hR
    refine dD _ _ ⟨Nat.le_refl _,fun _ _ _=>rfl,fun b _ hb=>?_,fun _=>jF.refl _⟩ h
    rcases hb with hb | ⟨o,d,ho,rfl⟩
    ·exact .inl (.inl hb)
    ·rcases Em o d ho with ⟨_,k2,k⟩ | ⟨_,k⟩
     ·exact .inl (.inr ⟨o,d,k,rfl,by rw [← hR];exact k2⟩)
     ·exact .inr ⟨_,d,k,rfl⟩
  have hcell : ∀ {j : Nat} {ob : Obj},aj σ' j = some ob → ∀ x ∈ ob.rows.flatten,((dH r && Ae σ') = true → dH x = true):=by
   intro j ob hj x hx hf
   simp only [Bool.and_eq_true,Ae,List.all_eq_true] at hf
   have hmem : some ob ∈ σ':=by
    unfold aj at hj
    cases hc : σ'[j]? with
    | none=>rw [hc] at hj;cases hj
    | some z=>rw [hc] at hj;simp at hj;subst hj;exact List.mem_of_getElem? hc
   obtain ⟨rw',hr1,hr2⟩:=List.mem_flatten.1 hx
   have:=hf.2 _ hmem
   simp only [List.all_eq_true] at this
   exact this rw' hr1 x hr2
  have hst : jk w' D' M (pF (cO st.objs R) σ'):=by
   refine ⟨?_,?_,?_,?_,fun b hb=>Nat.lt_of_lt_of_le (hs.store.mlt b hb) h3.size⟩
   ·intro o d ho
    rcases Em o d ho with ⟨k1,k2,k⟩ | ⟨k1,k⟩
    ·obtain ⟨ob,c,e,g1,g2,g3,g4,g5,g6,g7,g8,g9,g10,g11⟩:=hs.store.live o d k
     refine ⟨ob,c,e,by rw [jM,hlk,if_pos k1,Aj,if_neg k2];exact g1,g2,g3,g4,g5,Nat.lt_of_lt_of_le g6 h3.size,by rw [hsame _ g6];exact g7,g8,g9,g10,fun i x hi=>?_⟩
     obtain ⟨k0,y,j1,j2⟩:=g11 i x hi
     exact ⟨k0,y,j1,dD _ _ E j2⟩
    ·obtain ⟨ob,c,e,g1,g2,g3,g4,g5,g6,g7,g8,g9,g10,g11⟩:=h2.live _ d k
     refine ⟨gu (bD n) ob,c,e,by rw [jM,hlk,if_neg (by omega),g1];rfl,g2,by simp [gu,g3],g4,fun hm=>g5 (.inl hm),g6,g7,g8,g9,?_,fun i x hi=>?_⟩
     ·intro rr hrr
      simp only [gu,List.mem_map] at hrr
      obtain ⟨r0,hr0,rfl⟩:=hrr
      simpa [gu] using g10 r0 hr0
     ·rw [Dz,List.getElem?_map,Option.map_eq_some_iff] at hi
      obtain ⟨x0,hx0,rfl⟩:=hi
      obtain ⟨k0,y,j1,j2⟩:=g11 i x0 hx0
      exact ⟨Nz k0,y,j1,Uy (hcell g1 x0 (List.mem_of_getElem? hx0)) j2⟩
   ·intro o ob ho
    rw [jM,hlk] at ho
    split at ho
    ·rename_i hon
     rw [Aj] at ho
     split at ho
     ·cases ho
     ·rename_i hR'
      obtain ⟨d,hd⟩:=hs.store.alive o ob ho
      exact ⟨d,by rw [PY o hon];simp only [DM.kill,if_neg hR'];exact hd⟩
    ·rename_i hon
     simp only [Option.map_eq_some_iff] at ho
     obtain ⟨ob0,ho,_⟩:=ho
     obtain ⟨d,hd⟩:=h2.alive _ ob0 ho
     refine ⟨d,?_⟩
     show (if o < n then _ else _) = _
     rw [if_neg hon];exact hd
   ·intro o o' d d' ho ho' hb
    rcases Em o d ho with ⟨a1,a2,a3⟩ | ⟨a1,a3⟩ <;> rcases Em o' d' ho' with ⟨b1,b2,b3⟩ | ⟨b1,b3⟩
    ·exact hs.store.inj o o' d d' a3 b3 hb
    ·obtain ⟨_,_,_,_,_,_,_,_,g6,_⟩:=hs.store.live o d a3
     have:=h4 _ d' b3;omega
    ·obtain ⟨_,_,_,_,_,_,_,_,g6,_⟩:=hs.store.live o' d' b3
     have:=h4 _ d a3;omega
    ·have:=h2.inj _ _ d d' a3 b3 hb
     omega
   ·intro o ho
    have hlo : n + σ'.length ≤ o:=by simpa [pF,hlk] using ho
    simp only [D']
    rw [if_neg (by omega)]
    exact h2.far _ (by omega)
  rw [t2]
  refine hK D' _ w' ⟨J9 (fun t=>dD _ _ E (hs.env t)) (fun d hd=>by rw [hs.tm];exact t3 d (t2.trans hd)) (Uy (fun hf=>by simp only [Bool.and_eq_true] at hf;exact hf.1) h1),?_,?_,hst,?_,?_,fun o ho=>(hs.kp o ho).trans (E.ds o)⟩ ?_
  ·rw [← hs.tm];cases x.dst <;> simp [Act.put]
  ·rw [← hs.df];cases x.dst <;> rfl
  ·exact hs.gr.trans (h3.mono fun b _ ⟨o,d,h,_⟩=>by simp [DM.none] at h)
  ·intro o d ho
   rcases Em o d ho with ⟨_,_,k⟩ | ⟨_,k⟩
   ·exact hs.fr o d k
   ·exact .inr (Nat.le_trans hs.gr.size (h4 _ d k))
  ·intro o _ ho hu _
   rw [PY o ho]
   simp only [DM.kill,hu];split <;> rfl
theorem QU {X : Nat → Prop} {env : Nat → V} (he : ∀ t,rd w D X (env t) (a.tmps.getD t undef)) :
  ∀ (xs : List Operand) {as : List Src},yU xs = some as → fD w D X (as.map fun s=>s.ev env) (xs.map a.eval)
 | [],as,h=>by simp only [yU,Option.some.injEq] at h;subst h;simp [fD]
 |
  x :: xs,as,h=>by
  simp only [yU] at h
  split at h <;> first | (cases h;done) | skip
  rename_i s r h1 h2
  simp only [Option.some.injEq] at h;subst h
  simp only [List.map_cons,fD]
  exact ⟨_,_,rfl,dF he h1,QU he xs h2⟩
theorem XQ {x : fM} {f : Nat} {as : List Src} {r : V} {σ' : Store} (hg : ∀ g want,x.g = some (g,want) → st.env g = .bool want) (hi : x.i = .call f as)
  (ih : H9 P ν f (as.map fun s=>s.ev st.env) st.objs r σ') (hl : st.objs.length ≤ σ'.length) (hb : st.objs.length ≤ st.base) :
  Ux P ν x st { st with env:=dS st.env x.dst r,objs:=σ' }:=by
 refine ⟨rfl,rfl,hl,?_⟩
 intro ops dr nt m k o htr M w0 D0 D a w hs _ K Q hK
 obtain ⟨t1,t2,t3,t4⟩:=zW htr
 rw [if_pos ((wz hs t4).1 hg)]
 rw [hi] at t1
 obtain ⟨fid,xs,c1,c2,c3⟩:=Bl t1
 have hcall:=ih fid c1 w M D (xs.map a.eval).toArray (by simpa using QU hs.env xs c2) hs.store
 refine Jd (c3 a w) (R:=fun v w'=>∃ D',rd w' D' (XS M D') r v ∧ jk w' D' M σ' ∧ Gr (Own D) w w' ∧ (∀ o d,D' o = .live d → Own D d.blk ∨ w.heap.size ≤ d.blk) ∧ ∀ j,j < st.objs.length → jF (D j) (D' j)) (hcall.mono ?_) ?_
 ·rintro e w' ⟨v,D',rfl,h1,h2,h3,h4,h5⟩
  exact ⟨v,rfl,D',h1,h2,h3,h4,h5⟩
 ·rintro v w' ⟨D',h1,h2,h3,h4,h5⟩
  have E : Ext w D (XS M D) w' D' (XS M D'):=by
   refine ⟨h3.size,fun b hb hx=>h3.block b hb (fun ho=>hx (.inr ho)),?_,?_⟩
   ·rintro b hb (h | ⟨o,d,ho,rfl⟩)
    ·exact .inl h
    ·rcases h4 o d ho with h | h
     ·exact .inr h
     ·omega
   ·intro o
    rcases Nat.lt_or_ge o st.objs.length with h | h
    ·exact h5 o h
    ·rw [hs.store.far o h];trivial
  rw [t2]
  refine hK D' _ w' ⟨J9 (fun t=>dD _ _ E (hs.env t)) (fun d hd=>by rw [hs.tm];exact t3 d (t2.trans hd)) h1,?_,?_,h2,?_,?_,fun o ho=>(hs.kp o ho).trans (E.ds o)⟩ ?_
  ·rw [← hs.tm];cases x.dst <;> simp [Act.put]
  ·rw [← hs.df];cases x.dst <;> rfl
  ·exact hs.gr.trans (h3.mono fun b _ ho=>by obtain ⟨o,d,h,hb⟩:=ho;rw [← hb];exact hs.fr o d h)
  ·intro o d ho
   rcases h4 o d ho with ⟨q,d',hq,hb⟩ | h
   ·rw [← hb];exact hs.fr q d' hq
   ·exact .inr (Nat.le_trans hs.gr.size h)
  ·intro o h1 h2 _ _
   omega
theorem adh {W : Hz} {f : Nat} {args args2 : List V} {σ' σ2 : Store} {r r2 : V} (ha : nN args args2) (hs : ReS W σ' σ2) (hr : qo W σ' r r2) (ih : H9 P ν f args [] r σ') : H9 P ν f args2 [] r2 σ2:=by
 intro fid hf w M D vals h1 h2
 refine (ih fid hf w M D vals (Jg _ _ _ _ _ ha h1) h2).mono ?_
 rintro e w' ⟨v,D',rfl,k1,k2,k3,k4,k5⟩
 refine ⟨v,D'.win W 0,rfl,RZ k2 hs.some _ _ _ hr k1,k2.re hs (Nat.zero_le _),k3,?_,fun o ho=>by simp at ho⟩
 intro k d hk
 obtain ⟨o,s,l,d0,_,e2,rfl⟩:=Ak hk
 exact k4 o d0 e2
theorem aaQ {f : Nat} {args args2 : List V} {σ σ' : Store} {r r2 : V} (ha : nN args args2) (hr : bM r2 r) (ih : H9 P ν f args σ r σ') : H9 P ν f args2 σ r2 σ':=by
 intro fid hf w M D vals h1 h2
 refine (ih fid hf w M D vals (Jg _ _ _ _ _ ha h1) h2).mono ?_
 rintro e w' ⟨v,D',rfl,k1,k2⟩
 exact ⟨v,D',rfl,KA _ _ _ _ _ hr k1,k2⟩
end
end Go.Ml
end
section
namespace Go.Ml
section
variable {σ : Store} {ρ : List Nat}
mutual
theorem bI.gc {g : Nat → Nat} : ∀ {t v : V} {os : List Nat},bI σ v t os → (∀ o ∈ os,place ρ o = some (g o) ∧ o ∈ ρ) → bI (zA ρ σ) (aP (place ρ) v) t (os.map g)
 |
  .sl sz rows,v,os,h,hg=>by
  simp only [bI] at h ⊢
  rcases h with ⟨h1,rfl,rfl⟩ | ⟨o,rows',os',rfl,h2,rfl,h3⟩
  ·exact .inl ⟨h1,rfl,rfl⟩
  ·obtain ⟨g1,g2⟩:=hg o (by simp)
   refine .inr ⟨g o,rows'.map fun r=>r.map (aP (place ρ)),os'.map g,by simp only [aP,g1],?_,rfl,jV.gc h3 fun q hq=>hg q (by simp [hq])⟩
   rw [CW,iy g1]
   simp only [h2,Option.map_some];rfl
 | .agg cs,v,os,h,hg=>by simp only [bI] at h ⊢;obtain ⟨cs',rfl,h⟩:=h;exact ⟨_,rfl,bT.gc h hg⟩
 | .gq cs,v,os,h,hg=>by simp only [bI] at h ⊢;obtain ⟨cs',rfl,h⟩:=h;exact ⟨_,rfl,bT.gc h hg⟩
 | .any,v,os,h,_=>by simp [bI] at h
 | .one,v,os,h,_=>by simp [bI] at h
 | .int ..,v,os,h,_=>by simp only [bI] at h ⊢;obtain ⟨rfl,rfl⟩:=h;exact ⟨rfl,rfl⟩
 | .bool _,v,os,h,_=>by simp only [bI] at h ⊢;obtain ⟨rfl,rfl⟩:=h;exact ⟨rfl,rfl⟩
 | .str _,v,os,h,_=>by simp only [bI] at h ⊢;obtain ⟨rfl,rfl⟩:=h;exact ⟨rfl,rfl⟩
 | .ak,v,os,h,_=>by simp [bI] at h
 | .bF ..,v,os,h,_=>by simp [bI] at h
 | .ptr ..,v,os,h,_=>by simp [bI] at h
 | .eU ..,v,os,h,_=>by simp [bI] at h
theorem bT.gc {g : Nat → Nat} : ∀ {ts vs : List V} {os : List Nat},bT σ vs ts os → (∀ o ∈ os,place ρ o = some (g o) ∧ o ∈ ρ) → bT (zA ρ σ) (aP.Ad (place ρ) vs) ts (os.map g)
 | [],vs,os,h,_=>by simp only [bT] at h ⊢;obtain ⟨rfl,rfl⟩:=h;exact ⟨rfl,rfl⟩
 |
  t :: ts,vs,os,h,hg=>by
  simp only [bT] at h ⊢
  obtain ⟨v,vs',o1,o2,rfl,rfl,h1,h2⟩:=h
  exact ⟨_,_,_,_,rfl,by rw [List.map_append],bI.gc h1 fun q hq=>hg q (by simp [hq]),bT.gc h2 fun q hq=>hg q (by simp [hq])⟩
theorem jV.gc {g : Nat → Nat} : ∀ {ts vs : List (List V)} {os : List Nat},jV σ vs ts os → (∀ o ∈ os,place ρ o = some (g o) ∧ o ∈ ρ) → jV (zA ρ σ) (vs.map fun r=>r.map (aP (place ρ))) ts (os.map g)
 | [],vs,os,h,_=>by simp only [jV] at h ⊢;obtain ⟨rfl,rfl⟩:=h;exact ⟨rfl,rfl⟩
 |
  t :: ts,vs,os,h,hg=>by
  simp only [jV] at h ⊢
  obtain ⟨v,vs',o1,o2,rfl,rfl,h1,h2⟩:=h
  have hm : ∀ l : List V,aP.Ad (place ρ) l = l.map (aP (place ρ)):=by
   intro l
   induction l with
   | nil=>rfl
   | cons x l ih=>simp only [aP.Ad,List.map_cons,ih]
  exact ⟨_,_,_,_,rfl,by rw [List.map_append],by rw [show (fun r=>List.map (aP (place ρ)) r) v = aP.Ad (place ρ) v from (hm v).symm];exact bT.gc h1 fun q hq=>hg q (by simp [hq]),jV.gc h2 fun q hq=>hg q (by simp [hq])⟩
end
theorem SQ {cs : List V} : dH.kV cs = true ↔ ∀ c ∈ cs,dH c = true:=by
 induction cs with
 | nil=>simp [dH.kV]
 | cons c cs ih=>simp [dH.kV,ih]
mutual
theorem bI.objs : ∀ {t v : V} {os : List Nat},bI σ v t os → ∀ o ∈ os,∃ ob,aj σ o = some ob ∧ ∀ r ∈ ob.rows,∀ c ∈ r,dH c = true
 |
  .sl sz rows,v,os,h=>by
  simp only [bI] at h
  rcases h with ⟨_,_,rfl⟩ | ⟨o,rows',os',_,h2,rfl,h3⟩
  ·intro o ho;cases ho
  ·intro q hq
   rcases List.mem_cons.1 hq with rfl | hq
   ·exact ⟨_,h2,jV.dH h3⟩
   ·exact jV.objs h3 q hq
 | .agg cs,v,os,h=>by simp only [bI] at h;obtain ⟨cs',_,h⟩:=h;exact bT.objs h
 | .gq cs,v,os,h=>by simp only [bI] at h;obtain ⟨cs',_,h⟩:=h;exact bT.objs h
 | .any,v,os,h=>by simp [bI] at h
 | .one,v,os,h=>by simp [bI] at h
 | .int ..,v,os,h=>by simp only [bI] at h;rw [h.2];intro o ho;cases ho
 | .bool _,v,os,h=>by simp only [bI] at h;rw [h.2];intro o ho;cases ho
 | .str _,v,os,h=>by simp only [bI] at h;rw [h.2];intro o ho;cases ho
 | .ak,v,os,h=>by simp [bI] at h
 | .bF ..,v,os,h=>by simp [bI] at h
 | .ptr ..,v,os,h=>by simp [bI] at h
 | .eU ..,v,os,h=>by simp [bI] at h
theorem bT.objs : ∀ {ts vs : List V} {os : List Nat},bT σ vs ts os → ∀ o ∈ os,∃ ob,aj σ o = some ob ∧ ∀ r ∈ ob.rows,∀ c ∈ r,dH c = true
 | [],vs,os,h=>by simp only [bT] at h;rw [h.2];intro o ho;cases ho
 |
  t :: ts,vs,os,h=>by
  simp only [bT] at h
  obtain ⟨v,vs',o1,o2,_,rfl,h1,h2⟩:=h
  intro o ho
  rcases List.mem_append.1 ho with ho | ho
  ·exact bI.objs h1 o ho
  ·exact bT.objs h2 o ho
theorem jV.objs : ∀ {ts vs : List (List V)} {os : List Nat},jV σ vs ts os → ∀ o ∈ os,∃ ob,aj σ o = some ob ∧ ∀ r ∈ ob.rows,∀ c ∈ r,dH c = true
 | [],vs,os,h=>by simp only [jV] at h;rw [h.2];intro o ho;cases ho
 |
  t :: ts,vs,os,h=>by
  simp only [jV] at h
  obtain ⟨v,vs',o1,o2,_,rfl,h1,h2⟩:=h
  intro o ho
  rcases List.mem_append.1 ho with ho | ho
  ·exact bT.objs h1 o ho
  ·exact jV.objs h2 o ho
theorem jV.dH : ∀ {ts vs : List (List V)} {os : List Nat},jV σ vs ts os → ∀ r ∈ vs,∀ c ∈ r,Ml.dH c = true
 | [],vs,os,h=>by simp only [jV] at h;rw [h.1];intro r hr;cases hr
 |
  t :: ts,vs,os,h=>by
  simp only [jV] at h
  obtain ⟨v,vs',o1,o2,rfl,_,h1,h2⟩:=h
  intro r hr
  rcases List.mem_cons.1 hr with rfl | hr
  ·exact SQ.1 (bT.dH h1)
  ·exact jV.dH h2 r hr
end
def PO (T : Tb) (f : Nat) (args : List V) (t : V) : Prop :=
 ∃ r σ' os,Run T (.fn f args []) (.fn r σ') ∧ bI σ' r t os ∧ os.Nodup ∧ Ae σ' = true
theorem PO.of {T : Tb} {f : Nat} {args : List V} {t r : V} {σ' : Store} {os : List Nat} (h : Run T (.fn f args []) (.fn r σ')) (ho : bI σ' r t os) (hn : os.Nodup) : PO T f args t:=by
 have hg : ∀ o ∈ os,place os o = some ((place os o).getD 0) ∧ o ∈ os:=by
  intro o hm
  refine ⟨?_,hm⟩
  cases hp : place os o with
  | none=>exact absurd hm (sK hp)
  | some j=>rfl
 refine ⟨_,_,_,.gcF os hn (fun i hi=>by simp at hi) h,ho.gc hg,?_,?_⟩
 ·refine (List.pairwise_map.2 ?_)
  refine List.Pairwise.imp_of_mem (fun {a b} ha hb hne e=>hne ?_) hn
  have e1:=iy (hg a ha).1
  have e2:=iy (hg b hb).1
  rw [e,e2] at e1
  exact (Option.some.inj e1).symm
 ·simp only [Ae,List.all_eq_true]
  intro x hx
  obtain ⟨o,hm,rfl⟩:=List.mem_map.1 hx
  obtain ⟨ob,h1,h2⟩:=ho.objs o hm
  rw [h1]
  simp only [Option.map_some,gu,List.all_eq_true]
  intro r hr c hc
  obtain ⟨r0,hr0,rfl⟩:=List.mem_map.1 hr
  obtain ⟨c0,hc0,rfl⟩:=List.mem_map.1 hc
  exact KL _ (h2 r0 hr0 c0 hc0)
theorem PO.WU {T : Tb} {f : Nat} {args : List V} {t : V} (h : PO T f args t) (hd : eF FD t) : PF T f args t:=by
 obtain ⟨r,σ',os,h1,h2,_,_⟩:=h
 exact .WU h1 (FN FD h2 hd)
theorem adi {T : Tb} {f : Nat} {as : List Src} {dst : Option Nat} {env : Nat → V} {σ : Store} {kp bs : Nat} {rs ms : List Nat} {k : St → Prop} {as' : List V} {t : V} (h : PO T f as' t)
  (ha : EG env σ as (· = as'))
  (hk : ∀ r σ2 os,bI σ2 r t os → os.Nodup → (∀ o ∈ os,σ.length ≤ o) → (∀ o,o < σ.length → aj σ2 o = aj σ o) → σ.length ≤ σ2.length → k ⟨dS env dst r,σ2,kp,bs,rs,ms⟩) :
  Ib T f as dst ⟨env,σ,kp,bs,rs,ms⟩ k:=by
 obtain ⟨r,σ',os,h1,h2,h3,h4⟩:=h
 obtain ⟨vs,e,rfl⟩:=tJ ha
 refine ⟨_,.own e h1 (R:=[]) (by rw [if_pos];simp [h2.dH,h4]),?_⟩
 have key : ∀ o,aj (pF (cO σ []) σ') (σ.length + o) = (aj σ' o).map (gu (bD σ.length)):=by
  intro o
  show aj (pF σ σ') _ = _
  rw [jM,if_neg (by omega)]
  congr 2;omega
 refine hk _ _ (os.map (σ.length + ·)) (h2.shift key) ?_ ?_ ?_ ?_
 ·exact List.pairwise_map.2 (h3.imp fun hne e=>hne (by omega))
 ·intro o ho
  obtain ⟨q,_,rfl⟩:=List.mem_map.1 ho
  omega
 ·intro o ho
  show aj (pF σ σ') _ = _
  rw [jM,if_pos ho]
 ·simp [pF,cO]
theorem adk {T : Tb} {f : Nat} {as : List Src} {dst : Option Nat} {env : Nat → V} {σ σ' : Store} {kp bs : Nat} {rs ms : List Nat} {k : St → Prop} {r : V}
  (h : Run T (.fn f (as.map fun s=>s.ev env) σ) (.fn r σ')) (hl : σ.length ≤ σ'.length) (hb : σ.length ≤ bs) (hk : k ⟨dS env dst r,σ',kp,bs,rs,ms⟩) : Ib T f as dst ⟨env,σ,kp,bs,rs,ms⟩ k :=
 ⟨_,.idn h hl hb,hk⟩
def outW : List EF → List V → St → (V → Store → Prop) → Prop
 | [],acc,st,k=>vT (jR acc.reverse) fun v=>k v st.objs
 | r :: rs,acc,st,k=>dI (r.get st) fun v=>vT v fun v=>outW rs (v :: acc) st k
theorem QV {st : St} {k : V → Store → Prop} : ∀ (rs : List EF) (acc : List V),outW rs acc st k → dI (rs.mapM (EF.get st)) fun vs=>k (jR (acc.reverse ++ vs)) st.objs
 | [],acc,h=>by simpa [dI,outW,vT] using h
 |
  r :: rs,acc,h=>by
  obtain ⟨v,e,h⟩:=bf h
  have:=QV rs (v :: acc) h
  obtain ⟨vs,e2,h⟩:=bf this
  simp only [List.mapM_cons,e,e2]
  simpa [dI,wr] using h
def endW (rs : List EF) (e : Ex) (k : V → Store → Prop) (st : St) : Prop:=match e with
 | .normal=>outW rs [] st k
 | .ret=>outW rs [] st k
 | .exit _=>False
theorem akj (rs : List EF) (k : V → Store → Prop) (st : St) : endW rs .normal k st = outW rs [] st k:=nr rfl
theorem akk (rs : List EF) (k : V → Store → Prop) (st : St) : endW rs .ret k st = outW rs [] st k:=nr rfl
theorem akl (acc : List V) (st : St) (k : V → Store → Prop) : outW [] acc st k = vT (jR acc.reverse) fun v=>k v st.objs:=nr rfl
theorem akm (t : Nat) (rs : List EF) (acc : List V) (st : St) (k : V → Store → Prop) : outW (.tmp t :: rs) acc st k = vT (st.env t) fun v=>outW rs (v :: acc) st k:=nr rfl
theorem ag0 (t n : Nat) (rs : List EF) (acc : List V) (st : St) (k : V → Store → Prop) : outW (.cell t n false :: rs) acc st k = dI (rowAt st.objs (st.env t)) fun p=>dI p.1[p.2]? fun v=>vT v fun v=>outW rs (v :: acc) st k:=by
 simp only [outW,EF.get]
 cases rowAt st.objs (st.env t) <;> rfl
theorem ag1 (t n : Nat) (rs : List EF) (acc : List V) (st : St) (k : V → Store → Prop) : outW (.cell t n true :: rs) acc st k = dI (rowAt st.objs (st.env t)) fun p=>if p.2 + n ≤ p.1.length then vT (.agg ((p.1.drop p.2).take n)) fun v=>outW rs (v :: acc) st k else False:=by
 simp only [outW,EF.get]
 cases e : rowAt st.objs (st.env t) with
 | none=>rfl
 |
  some p =>
  by_cases h : p.2 + n ≤ p.1.length
  ·simp only [dI,if_true,vT,gG,if_pos h]
  ·simp only [dI,if_true,vT,gG,if_neg h]
theorem run_end {T : Tb} {f : Nat} {F : Fn} {args : List V} {σ : Store} {k : V → Store → Prop} (rf : Nat → Nat → Bool) (hT : T f = some F)
  (h : wp T rf F.body (fun e st=>endW F.res e k st) (St.enter args σ)) (hl : args.length = F.nargs:=by rfl) (hk : F.body.Ud = true:=by rfl) : ∃ r σ',Run T (.fn f args σ) (.fn r σ') ∧ k r σ':=by
 obtain ⟨e,st',h1,h2⟩:=qx hk h
 have h3 : (e = .normal ∨ e = .ret) ∧ outW F.res [] st' k:=by
  cases e with
  | normal=>exact ⟨.inl rfl,h2⟩
  | ret=>exact ⟨.inr rfl,h2⟩
  | exit id=>exact h2.elim
 obtain ⟨he,h3⟩:=h3
 obtain ⟨rs,e1,h4⟩:=bf (QV _ _ h3)
 exact ⟨_,_,.fn hT hl h1 he e1,h4⟩
end
end Go.Ml
end
section
namespace Go.Ml
section
variable {σ : Store}
theorem bT.len : ∀ {ts vs : List V} {os : List Nat},bT σ vs ts os → vs.length = ts.length
 | [],vs,os,h=>by simp only [bT] at h;simp [h.1]
 |
  t :: ts,vs,os,h=>by
  simp only [bT] at h
  obtain ⟨v,vs',o1,o2,rfl,_,_,h2⟩:=h
  simp [bT.len h2]
theorem bT.focus : ∀ {ts vs : List V} {os : List Nat} (c : Nat) (t : V),bT σ vs ts os → os.Nodup → ts[c]? = some t →
  ∃
   vc oc,vs[c]? = some vc ∧ bI σ vc t oc ∧ oc.Nodup ∧ (∀ q ∈ oc,q ∈ os) ∧
   ∀ σ' vc' WJ,bI σ' vc' WJ oc → (∀ q ∈ os,q ∉ oc → aj σ' q = aj σ q) → bT σ' (vs.set c vc') (ts.set c WJ) os
 | [],vs,os,c,t,_,_,hc=>by simp at hc
 |
  x :: ts,vs,os,0,t,h,hn,hc=>by
  simp only [bT] at h
  obtain ⟨v,vs',o1,o2,rfl,rfl,h1,h2⟩:=h
  simp at hc;subst hc
  rw [List.nodup_append] at hn
  refine ⟨v,o1,rfl,h1,hn.1,fun q hq=>by simp [hq],fun σ' vc' WJ hv hf=>?_⟩
  simp only [List.set_cons_zero,bT]
  exact ⟨vc',vs',o1,o2,rfl,rfl,hv,h2.frame fun q hq=>hf q (by simp [hq]) fun h=>hn.2.2 q h q hq rfl⟩
 |
  x :: ts,vs,os,c + 1,t,h,hn,hc=>by
  simp only [bT] at h
  obtain ⟨v,vs',o1,o2,rfl,rfl,h1,h2⟩:=h
  rw [List.nodup_append] at hn
  obtain ⟨vc,oc,k1,k2,k3,k4,k5⟩:=bT.focus c t h2 hn.2.1 (by simpa using hc)
  refine ⟨vc,oc,by simpa using k1,k2,k3,fun q hq=>by simp [k4 q hq],fun σ' vc' WJ hv hf=>?_⟩
  simp only [List.set_cons_succ,bT]
  exact ⟨v,_,o1,o2,rfl,rfl,h1.frame fun q hq=>hf q (by simp [hq]) fun h=>hn.2.2 q hq q (k4 q h) rfl,k5 σ' vc' WJ hv fun q hq hnq=>hf q (by simp [hq]) hnq⟩
theorem jV.focus : ∀ {ts vs : List (List V)} {os : List Nat} (c : Nat) (t : List V),jV σ vs ts os → os.Nodup → ts[c]? = some t →
  ∃
   vc oc,vs[c]? = some vc ∧ bT σ vc t oc ∧ oc.Nodup ∧ (∀ q ∈ oc,q ∈ os) ∧
   ∀ σ' vc' WJ,bT σ' vc' WJ oc → (∀ q ∈ os,q ∉ oc → aj σ' q = aj σ q) → jV σ' (vs.set c vc') (ts.set c WJ) os
 | [],vs,os,c,t,_,_,hc=>by simp at hc
 |
  x :: ts,vs,os,0,t,h,hn,hc=>by
  simp only [jV] at h
  obtain ⟨v,vs',o1,o2,rfl,rfl,h1,h2⟩:=h
  simp at hc;subst hc
  rw [List.nodup_append] at hn
  refine ⟨v,o1,rfl,h1,hn.1,fun q hq=>by simp [hq],fun σ' vc' WJ hv hf=>?_⟩
  simp only [List.set_cons_zero,jV]
  exact ⟨vc',vs',o1,o2,rfl,rfl,hv,h2.frame fun q hq=>hf q (by simp [hq]) fun h=>hn.2.2 q h q hq rfl⟩
 |
  x :: ts,vs,os,c + 1,t,h,hn,hc=>by
  simp only [jV] at h
  obtain ⟨v,vs',o1,o2,rfl,rfl,h1,h2⟩:=h
  rw [List.nodup_append] at hn
  obtain ⟨vc,oc,k1,k2,k3,k4,k5⟩:=jV.focus c t h2 hn.2.1 (by simpa using hc)
  refine ⟨vc,oc,by simpa using k1,k2,k3,fun q hq=>by simp [k4 q hq],fun σ' vc' WJ hv hf=>?_⟩
  simp only [List.set_cons_succ,jV]
  exact ⟨v,_,o1,o2,rfl,rfl,h1.frame fun q hq=>hf q (by simp [hq]) fun h=>hn.2.2 q hq q (k4 q h) rfl,k5 σ' vc' WJ hv fun q hq hnq=>hf q (by simp [hq]) hnq⟩
theorem bI.focus {v : V} {sz : Nat} {rows : List (List V)} {os : List Nat} {i c : Nat} {row : List V} {t : V} (h : bI σ v (.sl sz rows) os) (hn : os.Nodup) (hi : rows[i]? = some row) (hc : row[c]? = some t) :
  ∃
   o rows' row' vc oc,v = .bF o 0 rows.length ∧ aj σ o = some ⟨sz,rows'⟩ ∧ rows'.length = rows.length ∧ rows'[i]? = some row' ∧ row'.length = row.length ∧ row'[c]? = some vc ∧ bI σ vc t oc ∧ oc.Nodup ∧ (∀ q ∈ oc,q ∈ os) ∧ o ∈ os ∧ o ∉ oc ∧
   (∀ σ' WJ,bI σ' vc WJ oc → (∀ q ∈ os,q ∉ oc → aj σ' q = aj σ q) → bI σ' v (.sl sz (rows.set i (row.set c WJ))) os) ∧
   (∀ x,oc = [] → (x.leaf = true) → (∃ k n,x = .int k n) ∨ (∃ b,x = .bool b) → bI (σ.set o (some ⟨sz,rows'.set i (row'.set c x)⟩)) v (.sl sz (rows.set i (row.set c x))) os):=by
 simp only [bI] at h
 rcases h with ⟨rfl,_,_⟩ | ⟨o,rows',os',rfl,h2,rfl,h3⟩
 ·simp at hi
 rw [List.nodup_cons] at hn
 obtain ⟨row',oi,k1,k2,k3,k4,k5⟩:=h3.focus i row hn.2 hi
 obtain ⟨vc,oc,j1,j2,j3,j4,j5⟩:=k2.focus c t k3 hc
 have hno : o ∉ oc:=fun h=>hn.1 (k4 o (j4 o h))
 have hset : rows'.set i (row'.set c vc) = rows':=by
  have : row'.set c vc = row':=by
   apply List.ext_getElem?
   intro n
   rw [List.getElem?_set]
   split
   ·subst_vars
    split
    ·exact j1.symm
    ·rename_i hlt
     rw [List.getElem?_eq_none (by omega)]
   ·rfl
  rw [this]
  apply List.ext_getElem?
  intro n
  rw [List.getElem?_set]
  split
  ·subst_vars
   split
   ·exact k1.symm
   ·rename_i hlt
    rw [List.getElem?_eq_none (by omega)]
  ·rfl
 refine ⟨o,rows',row',vc,oc,rfl,h2,h3.len,k1,k2.len,j1,j2,j3,fun q hq=>by simp [k4 q (j4 q hq)],by simp,hno,?_,?_⟩
 ·intro σ' WJ hv hf
  simp only [bI]
  refine .inr ⟨o,rows',os',by simp,by rw [hf o (by simp) hno];exact h2,rfl,?_⟩
  have h6:=j5 σ' vc WJ hv fun q hq hnq=>hf q (by simp [k4 q hq]) hnq
  have h7:=k5 σ' _ _ h6 fun q hq hnq=>hf q (by simp [hq]) fun h=>hnq (j4 q h)
  rwa [hset] at h7
 ·intro x hoc hl hx
  have hlt:=aG h2
  have hf : ∀ q,q ≠ o → aj (σ.set o (some ⟨sz,rows'.set i (row'.set c x)⟩)) q = aj σ q:=fun q hq=>by
   rw [jA hlt,if_neg (fun e=>hq e.symm)]
  simp only [bI]
  refine .inr ⟨o,rows'.set i (row'.set c x),os',by simp,by rw [jA hlt,if_pos rfl],rfl,?_⟩
  have hno' : ∀ q ∈ os',q ≠ o:=fun q hq e=>hn.1 (e ▸ hq)
  have hx' : bI (σ.set o (some ⟨sz,rows'.set i (row'.set c x)⟩)) x x oc:=by
   rw [hoc]
   rcases hx with ⟨k,n,rfl⟩ | ⟨b,rfl⟩ <;> simp [bI]
  have h6:=j5 (σ.set o (some ⟨sz,rows'.set i (row'.set c x)⟩)) x x hx' fun q hq _=>hf q (hno' q (k4 q hq))
  exact k5 _ _ _ h6 fun q hq _=>hf q (hno' q hq)
def Ou (σ : Store) (vs ts : List V) : Prop:=∃ os,bT σ vs ts os ∧ os.Nodup
theorem dU : ∀ {ts vs ts' vs' : List V} {os os' : List Nat},bT σ vs ts os → bT σ vs' ts' os' → bT σ (vs ++ vs') (ts ++ ts') (os ++ os')
 | [],vs,ts',vs',os,os',h,h'=>by simp only [bT] at h;obtain ⟨rfl,rfl⟩:=h;simpa using h'
 |
  t :: ts,vs,ts',vs',os,os',h,h'=>by
  simp only [bT] at h
  obtain ⟨v,vs1,o1,o2,rfl,rfl,h1,h2⟩:=h
  simp only [List.cons_append,bT]
  exact ⟨v,vs1 ++ vs',o1,o2 ++ os',rfl,by simp,h1,dU h2 h'⟩
theorem Ou.push {σ2 : Store} {vs ts : List V} {r t : V} {os : List Nat} (h : Ou σ vs ts) (h1 : bI σ2 r t os) (h2 : os.Nodup) (h3 : ∀ o ∈ os,σ.length ≤ o) (h4 : ∀ o,o < σ.length → aj σ2 o = aj σ o) :
  Ou σ2 (vs ++ [r]) (ts ++ [t]):=by
 obtain ⟨os0,k1,k2⟩:=h
 refine ⟨os0 ++ os,dU (k1.frame fun o ho=>h4 o (bT.lt k1 o ho)) ?_,?_⟩
 ·simp only [bT];exact ⟨r,[],os,[],rfl,by simp,h1,rfl,rfl⟩
 ·rw [List.nodup_append]
  refine ⟨k2,h2,fun a ha b hb e=>?_⟩
  have:=bT.lt k1 a ha
  have:=h3 b hb
  omega
theorem Ou.frame {σ2 : Store} {vs ts : List V} (h : Ou σ vs ts) (h4 : ∀ o,o < σ.length → aj σ2 o = aj σ o) : Ou σ2 vs ts:=by
 obtain ⟨os0,k1,k2⟩:=h
 exact ⟨os0,k1.frame fun o ho=>h4 o (bT.lt k1 o ho),k2⟩
theorem Ou.res {vs ts : List V} (h : Ou σ vs ts) {i : Nat} {v t : V} (hv : vs[i]? = some v) (ht : ts[i]? = some t) (hd : eF FD t) : resolve σ FD v = some t:=by
 obtain ⟨os,k1,k2⟩:=h
 obtain ⟨vc,oc,j1,j2,_⟩:=k1.focus i t k2 ht
 rw [hv] at j1
 cases j1
 exact FN FD j2 hd
def Mk (T : Tb) (f : Nat) (t : V) (k : Int) (t' : V) (k' : Int) : Prop :=
 ∀ σ v os,bI σ v t os → os.Nodup → ∃ σ',Run T (.fn f [v,.int .i64 k] σ) (.fn (.int .i64 k') σ') ∧ bI σ' v t' os ∧ (∀ o,o < σ.length → o ∉ os → aj σ' o = aj σ o) ∧ σ.length ≤ σ'.length
end
end Go.Ml
end
section
namespace Go.Ml
theorem EVw : (∀ (rs : List EF) (k : V → Store → Prop) (st : St),endW rs .normal k st = outW rs [] st k) ∧ (∀ (rs : List EF) (k : V → Store → Prop) (st : St),endW rs .ret k st = outW rs [] st k) ∧
  (∀ (acc : List V) (st : St) (k : V → Store → Prop),outW [] acc st k = vT (jR acc.reverse) fun v=>k v st.objs) ∧
  (∀ (t : Nat) (rs : List EF) (acc : List V) (st : St) (k : V → Store → Prop),outW (.tmp t :: rs) acc st k = vT (st.env t) fun v=>outW rs (v :: acc) st k) ∧
  (∀ (t n : Nat) (rs : List EF) (acc : List V) (st : St) (k : V → Store → Prop),outW (.cell t n false :: rs) acc st k = dI (rowAt st.objs (st.env t)) fun p=>dI p.1[p.2]? fun v=>vT v fun v=>outW rs (v :: acc) st k) ∧
  (∀ (t n : Nat) (rs : List EF) (acc : List V) (st : St) (k : V → Store → Prop),outW (.cell t n true :: rs) acc st k = dI (rowAt st.objs (st.env t)) fun p=>if p.2 + n ≤ p.1.length then vT (.agg ((p.1.drop p.2).take n)) fun v=>outW rs (v :: acc) st k else False) :=
 ⟨akj,akk,akl,akm,ag0,ag1⟩
theorem Aw (σ : Store) (a : Option Obj) : aj (σ ++ [a]) σ.length = a:=by simp [aj]
theorem SS (σ : Store) (o : Nat) : aj (σ ++ [none]) o = aj σ o:=by
 unfold aj
 rcases Nat.lt_trichotomy o σ.length with h | h | h
 ·rw [List.getElem?_append_left h]
 ·subst h;simp
 ·rw [List.getElem?_eq_none (by simp;omega),List.getElem?_eq_none (by omega)]
theorem aI {σ : Store} {a : Option Obj} {o : Nat} (h : o < σ.length) : aj (σ ++ [a]) o = aj σ o:=by
 unfold aj;rw [List.getElem?_append_left h]
theorem adl (σ : Store) (a b : Option Obj) : (σ ++ [a]).set σ.length b = σ ++ [b]:=by
 rw [List.set_append_right _ _ (Nat.le_refl _)];simp
theorem Vm {σ : Store} {a b : Option Obj} {o : Nat} (h : o < σ.length) : (σ ++ [a]).set o b = σ.set o b ++ [a]:=List.set_append_left _ _ h
theorem aY {σ : Store} {o : Nat} {x : Option Obj} (h : o < σ.length) : aj (σ.set o x) o = x:=by
 rw [jA h,if_pos rfl]
theorem aB {σ : Store} {o p : Nat} {x : Option Obj} (h : o ≠ p) : aj (σ.set p x) o = aj σ o:=by
 unfold aj
 rw [List.getElem?_set,if_neg (fun e=>h e.symm)]
theorem adn (σ : Store) (k : Store → Prop) : Ky σ k = k σ:=nr rfl
theorem Hg : (∀ (σ : Store) (k : Store → Prop),Ky σ k = k σ) ∧ (∀ (σ : Store) (a : Option Obj),aj (σ ++ [a]) σ.length = a) ∧ (∀ (σ : Store) (o : Nat),aj (σ ++ [none]) o = aj σ o) ∧
  (∀ {σ : Store} {a : Option Obj} {o : Nat},o < σ.length → aj (σ ++ [a]) o = aj σ o) ∧ (∀ (σ : Store) (a b : Option Obj),(σ ++ [a]).set σ.length b = σ ++ [b]) ∧
  (∀ {σ : Store} {a b : Option Obj} {o : Nat},o < σ.length → (σ ++ [a]).set o b = σ.set o b ++ [a]) ∧ (∀ {σ : Store} {o : Nat} {x : Option Obj},o < σ.length → aj (σ.set o x) o = x) ∧
  (∀ {σ : Store} {o p : Nat} {x : Option Obj},o ≠ p → aj (σ.set p x) o = aj σ o) ∧ (∀ (σ : Store) (a : Option Obj),(σ ++ [a]).length = σ.length + 1) ∧ (∀ (σ : Store) (o : Nat) (x : Option Obj),(σ.set o x).length = σ.length) :=
 ⟨adn,Aw,SS,fun h=>aI h,adl,fun h=>Vm h,fun h=>aY h,fun h=>aB h,fun σ a=>by simp,fun σ o x=>by simp⟩
structure Got (σ σ2 : Store) (r t : V) (os : List Nat) : Prop where
 ow : bI σ2 r t os
 nd : os.Nodup
 fresh : ∀ o ∈ os,σ.length ≤ o
 old : ∀ o,o < σ.length → aj σ2 o = aj σ o
 len : σ.length ≤ σ2.length
theorem iU {T : Tb} {f : Nat} {as : List Src} {dst : Option Nat} {env : Nat → V} {σ : Store} {kp bs : Nat} {rs ms : List Nat} {k : St → Prop} {as' : List V} {t : V} (h : PO T f as' t)
  (ha : EG env σ as (· = as')) (hk : ∀ r σ2 os,Got σ σ2 r t os → k ⟨dS env dst r,σ2,kp,bs,rs,ms⟩) : Ib T f as dst ⟨env,σ,kp,bs,rs,ms⟩ k :=
 adi h ha fun r σ2 os h1 h2 h3 h4 h5=>hk r σ2 os ⟨h1,h2,h3,h4,h5⟩
theorem Jt {T : Tb} {f : Nat} {as : List Src} {dst : Option Nat} {env : Nat → V} {σ : Store} {kp bs : Nat} {rs ms : List Nat} {k : List Nat → List Nat → Bool → St → Prop} {as' : List V} {t : V} (h : PO T f as' t)
  (ha : EG env σ as (· = as')) (hk : ∀ r σ2 os,Got σ σ2 r t os → k (fO env σ as) [] true ⟨dS env dst r,σ2,kp,bs,rs,ms⟩) : Xg T f as dst ⟨env,σ,kp,bs,rs,ms⟩ k:=by
 obtain ⟨r,σ',os,h1,h2,h3,h4⟩:=h
 obtain ⟨vs,e,rfl⟩:=tJ ha
 refine .inl ⟨_,r,σ',e,h1,by simp [h2.dH,h4],?_⟩
 have key : ∀ o,aj (pF σ σ') (σ.length + o) = (aj σ' o).map (gu (bD σ.length)):=by
  intro o
  rw [jM,if_neg (by omega)]
  congr 2;omega
 refine hk _ _ (os.map (σ.length + ·)) ⟨h2.shift key,?_,?_,?_,?_⟩
 ·exact List.pairwise_map.2 (h3.imp fun hne e=>hne (by omega))
 ·intro o ho
  obtain ⟨q,_,rfl⟩:=List.mem_map.1 ho
  omega
 ·intro o ho
  rw [jM,if_pos ho]
 ·simp [pF]
theorem Ou.got {σ σ2 : Store} {vs ts : List V} {r t : V} {os : List Nat} (h : Ou σ vs ts) (g : Got σ σ2 r t os) : Ou σ2 (vs ++ [r]) (ts ++ [t]):=h.push g.ow g.nd g.fresh g.old
theorem Ju {σ : Store} {q : IntKind} {n : Int} {vs ts : List V} {os : List Nat} (h : bT σ vs ts os) : bT σ (.int q n :: vs) (.int q n :: ts) os:=by
 simp only [bT];exact ⟨_,vs,[],os,rfl,rfl,by simp [bI],h⟩
theorem qO {σ : Store} {b : Bool} {vs ts : List V} {os : List Nat} (h : bT σ vs ts os) : bT σ (.bool b :: vs) (.bool b :: ts) os:=by
 simp only [bT];exact ⟨_,vs,[],os,rfl,rfl,by simp [bI],h⟩
theorem tY {σ : Store} {v t : V} {vs ts : List V} {o1 o2 : List Nat} (h1 : bI σ v t o1) (h : bT σ vs ts o2) : bT σ (v :: vs) (t :: ts) (o1 ++ o2):=by
 simp only [bT];exact ⟨v,vs,o1,o2,rfl,rfl,h1,h⟩
theorem kG {σ : Store} : bT σ [] [] []:=by simp [bT]
theorem uJ {σ : Store} {cs ts : List V} {os : List Nat} (h : bT σ cs ts os) : bI σ (.agg cs) (.agg ts) os:=by simp only [bI];exact ⟨cs,rfl,h⟩
theorem SV {σ : Store} {cs ts : List V} {os : List Nat} (h : bT σ cs ts os) : bI σ (.gq cs) (.gq ts) os:=by simp only [bI];exact ⟨cs,rfl,h⟩
theorem Jv {σ : Store} {o : Nat} {l : List Int} (h : aj σ o = some ⟨1,aH l⟩) : bI σ (.bF o 0 l.length) (ints l) [o]:=by
 simp only [bI]
 refine .inr ⟨o,aH l,[],by rw [yV],h,rfl,?_⟩
 have : ∀ (l : List Int),jV σ (aH l) (aH l) []:=by
  intro l
  induction l with
  | nil=>simp [aH,jV]
  | cons x l ih=>simp only [NZ,jV];exact ⟨_,_,[],[],rfl,rfl,Ju kG,ih⟩
 exact this _
theorem jC {σ : Store} : bI σ (.sl 1 []) (ints []) []:=by simp [bI,aH]
theorem bI.yN {σ : Store} {v : V} {l : List Int} {os : List Nat} (h : bI σ v (ints l) os) : (l = [] ∧ v = .sl 1 [] ∧ os = []) ∨ ∃ o,v = .bF o 0 l.length ∧ aj σ o = some ⟨1,aH l⟩ ∧ os = [o]:=by
 simp only [bI] at h
 rcases h with ⟨h1,h2,h3⟩ | ⟨o,rows',os',h1,h2,h3,h4⟩
 ·left;exact ⟨by simpa [aH] using h1,h2,h3⟩
 ·right
  have key : ∀ (l : List Int) (rows' : List (List V)) (os' : List Nat),jV σ rows' (aH l) os' → rows' = aH l ∧ os' = []:=by
   intro l
   induction l with
   | nil=>intro rows' os' h;simp only [aaI,jV] at h;exact h
   |
    cons x l ih =>
    intro rows' os' h
    simp only [NZ,jV] at h
    obtain ⟨v,vs',o1,o2,rfl,rfl,h1,h2⟩:=h
    obtain ⟨rfl,rfl⟩:=ih _ _ h2
    simp only [bT,bI] at h1
    obtain ⟨v1,vs1,a1,a2,rfl,rfl,⟨rfl,rfl⟩,rfl,rfl⟩:=h1
    exact ⟨rfl,rfl⟩
  obtain ⟨rfl,rfl⟩:=key l rows' os' h4
  exact ⟨o,by rw [h1,yV],h2,h3⟩
structure Fr (os : List Nat) (σ σ' : Store) : Prop where
 old : ∀ o,o < σ.length → o ∉ os → aj σ' o = aj σ o
 len : σ.length ≤ σ'.length
theorem Fr.refl (os : List Nat) (σ : Store) : Fr os σ σ:=⟨fun _ _ _=>rfl,Nat.le_refl _⟩
theorem Fr.trans {os : List Nat} {a b c : Store} (h : Fr os a b) (k : Fr os b c) : Fr os a c:=⟨fun o hl ho=>(k.old o (Nat.lt_of_lt_of_le hl h.len) ho).trans (h.old o hl ho),Nat.le_trans h.len k.len⟩
theorem Fr.mono {os os' : List Nat} {a b : Store} (h : Fr os a b) (hs : ∀ o ∈ os,o ∈ os') : Fr os' a b:=⟨fun o hl ho=>h.old o hl fun k=>ho (hs o k),h.len⟩
def Fin (σ : Store) (r t : V) : Prop:=∃ r' os,bM r' r ∧ bI σ r' t os ∧ os.Nodup
theorem oU {σ : Store} {r t : V} {os : List Nat} (h : bI σ r t os) (hn : os.Nodup) : Fin σ r t:=⟨r,os,au _,h,hn⟩
theorem ag3 {σ σ2 : Store} {r t : V} {os : List Nat} (g : Got σ σ2 r t os) : Fin σ2 r t:=oU g.ow g.nd
theorem Jw {σ : Store} {sz : Nat} : Fin σ .ak (.sl sz []):=⟨.sl sz [],[],by simp [bM],by simp [bI],.nil⟩
theorem Ov {σ : Store} {o : Nat} {l : List Int} (h : aj σ o = some ⟨1,aH l⟩) : Fin σ (.bF o 0 l.length) (ints l):=oU (Jv h) (by simp)
theorem aaS {σ : Store} {l : List Int} (h : aH l = []) : Fin σ .ak (ints l):=by
 have : l = []:=XG.1 h
 subst this;exact Jw
theorem dw {T : Tb} {f : Nat} {F : Fn} {args : List V} {t : V} (rf : Nat → Nat → Bool) (hT : T f = some F)
  (h : wp T rf F.body (fun e st=>endW F.res e (fun r σ=>Fin σ r t) st) (St.enter args [])) (hl : args.length = F.nargs:=by rfl) (hk : F.body.Ud = true:=by rfl) : PO T f args t:=by
 obtain ⟨r,σ',h1,r',os,h2,h3,h4⟩:=run_end rf hT h hl hk
 exact .of (.Z9 (pG _) h1 h2) h3 h4
theorem Vo {v : V} (h : v.leaf = true) (k : List V → Prop) : iQ v k = k [v]:=by
 cases v <;> first | rfl | (simp [V.leaf] at h)
theorem Got.lf {σ σ2 : Store} {r t : V} {os : List Nat} (g : Got σ σ2 r t os) (h : t.leaf = true) (k : List V → Prop) : iQ r k = k [r]:=Vo (g.ow.leaf h) k
theorem Got.at {σ σ2 : Store} {r t : V} {os : List Nat} (g : Got σ σ2 r t os) (o : Nat) {x : Option Obj} (h : o < σ.length) (hx : aj σ o = x) : aj σ2 o = x:=(g.old o h).trans hx
theorem EVl : V.leaf .one = true ∧ (∀ k n,V.leaf (.int k n) = true) ∧ (∀ b,V.leaf (.bool b) = true) ∧ (∀ b,V.leaf (.str b) = true) ∧ V.leaf .ak = true ∧ (∀ a b,V.leaf (.sl a b) = true) ∧ (∀ a b c,V.leaf (.bF a b c) = true) ∧
  (∀ a b c,V.leaf (.ptr a b c) = true) ∧ (∀ a b,V.leaf (.eU a b) = true) ∧ (∀ a,V.leaf (.agg a) = false) ∧ (∀ a,V.leaf (.gq a) = false) ∧ V.leaf .any = false :=
 ⟨rfl,fun _ _=>rfl,fun _=>rfl,fun _=>rfl,rfl,fun _ _=>rfl,fun _ _ _=>rfl,fun _ _ _=>rfl,fun _ _=>rfl,fun _=>rfl,fun _=>rfl,rfl⟩
theorem Got.lfb {σ σ2 : Store} {r t : V} {os : List Nat} (g : Got σ σ2 r t os) (h : t.leaf = true) : r.leaf = true:=g.ow.leaf h
theorem bI.fG {σ : Store} {r : V} {ts : List V} {os : List Nat} (h : bI σ r (.agg ts) os) : ∃ cs,r = .agg cs ∧ bT σ cs ts os:=by simpa only [bI] using h
theorem bI.SX {σ : Store} {r : V} {ts : List V} {os : List Nat} (h : bI σ r (.gq ts) os) : ∃ cs,r = .gq cs ∧ bT σ cs ts os:=by simpa only [bI] using h
theorem bT.SY {σ : Store} {vs ts : List V} {q : IntKind} {n : Int} {os : List Nat} (h : bT σ vs (.int q n :: ts) os) : ∃ vs',vs = .int q n :: vs' ∧ bT σ vs' ts os:=by
 simp only [bT,bI] at h
 obtain ⟨v,vs',o1,o2,rfl,rfl,⟨rfl,rfl⟩,h⟩:=h
 exact ⟨vs',rfl,h⟩
theorem bT.lG {σ : Store} {vs ts : List V} {b : Bool} {os : List Nat} (h : bT σ vs (.bool b :: ts) os) : ∃ vs',vs = .bool b :: vs' ∧ bT σ vs' ts os:=by
 simp only [bT,bI] at h
 obtain ⟨v,vs',o1,o2,rfl,rfl,⟨rfl,rfl⟩,h⟩:=h
 exact ⟨vs',rfl,h⟩
theorem bT.inv {σ : Store} {vs ts : List V} {t : V} {os : List Nat} (h : bT σ vs (t :: ts) os) : ∃ v vs' o1 o2,vs = v :: vs' ∧ os = o1 ++ o2 ∧ bI σ v t o1 ∧ bT σ vs' ts o2:=by
 simpa only [bT] using h
theorem bT.zJ {σ : Store} {vs : List V} {os : List Nat} (h : bT σ vs [] os) : vs = [] ∧ os = []:=by simpa only [bT] using h
theorem bT.leaf : ∀ {σ : Store} {ts vs : List V} {os : List Nat},bT σ vs ts os → ts.all V.leaf = true → vs.all V.leaf = true
 | _,[],vs,os,h,_=>by obtain ⟨rfl,_⟩:=h.zJ;rfl
 |
  σ,t :: ts,vs,os,h,hl=>by
  obtain ⟨v,vs',o1,o2,rfl,rfl,h1,h2⟩:=h.inv
  simp only [List.all_cons,Bool.and_eq_true] at hl ⊢
  exact ⟨h1.leaf hl.1,h2.leaf hl.2⟩
theorem pO {cs : List V} (h : cs.all V.leaf = true) (k : List V → Prop) : iQ (.agg cs) k = k cs:=by
 unfold iQ
 simp only [V.cells?]
 rw [if_pos h];rfl
theorem bI.akn {σ : Store} {v : V} {n : Bool} {l : List Int} {os : List Nat} (h : bI σ v (.agg [.bool n,ints l]) os) : ∃ v1,v = .agg [.bool n,v1] ∧ bI σ v1 (ints l) os:=by
 obtain ⟨cs,rfl,a⟩:=h.fG
 obtain ⟨cs,rfl,b⟩:=a.lG
 obtain ⟨v1,cs,o1,o2,rfl,rfl,c,d⟩:=b.inv
 obtain ⟨rfl,rfl⟩:=d.zJ
 exact ⟨v1,rfl,by simpa using c⟩
theorem bI.Gq {σ : Store} {v : V} {n : Bool} {l m : List Int} {os : List Nat} (h : bI σ v (.agg [.bool n,ints l,ints m]) os) :
  ∃ v1 v2 o1 o2,v = .agg [.bool n,v1,v2] ∧ os = o1 ++ o2 ∧ bI σ v1 (ints l) o1 ∧ bI σ v2 (ints m) o2:=by
 obtain ⟨cs,rfl,a⟩:=h.fG
 obtain ⟨cs,rfl,b⟩:=a.lG
 obtain ⟨v1,cs,o1,o2,rfl,rfl,c,d⟩:=b.inv
 obtain ⟨v2,cs,o3,o4,rfl,rfl,e,f⟩:=d.inv
 obtain ⟨rfl,rfl⟩:=f.zJ
 exact ⟨v1,v2,o1,o3,rfl,by simp,c,e⟩
structure Ow (n : Nat) (σ : Store) (vs ts : List V) : Prop where
 ex : ∃ os,bT σ vs ts os ∧ os.Nodup ∧ ∀ o ∈ os,n ≤ o
theorem ado {n : Nat} {σ : Store} : Ow n σ [] []:=⟨[],kG,.nil,by simp⟩
theorem Ow.set {n : Nat} {σ : Store} {vs ts : List V} (h : Ow n σ vs ts) {o : Nat} {x : Option Obj} (ho : o < n) : Ow n (σ.set o x) vs ts:=by
 obtain ⟨os,a,b,c⟩:=h.ex
 exact ⟨os,a.frame fun q hq=>aB (by have:=c q hq;omega),b,c⟩
theorem Ow.snoc {n : Nat} {σ : Store} {vs ts : List V} (h : Ow n σ vs ts) {x : Option Obj} : Ow n (σ ++ [x]) vs ts:=by
 obtain ⟨os,a,b,c⟩:=h.ex
 exact ⟨os,a.frame fun q hq=>aI (a.lt q hq),b,c⟩
theorem Ow.got {n : Nat} {σ σ2 : Store} {vs ts : List V} {r t : V} {os : List Nat} (h : Ow n σ vs ts) (g : Got σ σ2 r t os) (hn : n ≤ σ.length) : Ow n σ2 (vs ++ [r]) (ts ++ [t]):=by
 obtain ⟨os0,a,b,c⟩:=h.ex
 refine ⟨os0 ++ os,dU (a.frame fun o ho=>g.old o (a.lt o ho)) ?_,?_,fun o ho=>?_⟩
 ·simpa using tY g.ow kG
 ·rw [List.nodup_append]
  refine ⟨b,g.nd,fun x hx y hy e=>?_⟩
  have:=a.lt x hx
  have:=g.fresh y hy
  omega
 ·rcases List.mem_append.1 ho with ho | ho
  ·exact c o ho
  ·have:=g.fresh o ho;omega
theorem Ow.int {n : Nat} {σ : Store} {vs ts : List V} (h : Ow n σ vs ts) (q : IntKind) (k : Int) : Ow n σ (vs ++ [.int q k]) (ts ++ [.int q k]):=by
 obtain ⟨os0,a,b,c⟩:=h.ex
 exact ⟨os0,by simpa using dU a (Ju (q:=q) (n:=k) kG),b,c⟩
theorem Ow.bool {n : Nat} {σ : Store} {vs ts : List V} (h : Ow n σ vs ts) (k : Bool) : Ow n σ (vs ++ [.bool k]) (ts ++ [.bool k]):=by
 obtain ⟨os0,a,b,c⟩:=h.ex
 exact ⟨os0,by simpa using dU a (qO (b:=k) kG),b,c⟩
theorem jc : ∀ {σ : Store} {ts ts' vs : List V} {os : List Nat},bT σ vs (ts ++ ts') os → ∃ v1 v2 o1 o2,vs = v1 ++ v2 ∧ os = o1 ++ o2 ∧ bT σ v1 ts o1 ∧ bT σ v2 ts' o2
 | σ,[],ts',vs,os,h=>⟨[],vs,[],os,rfl,rfl,kG,h⟩
 |
  σ,t :: ts,ts',vs,os,h=>by
  obtain ⟨v,vs',o1,o2,rfl,rfl,h1,h2⟩:=bT.inv h
  obtain ⟨a,b,c,d,rfl,rfl,h3,h4⟩:=jc h2
  exact ⟨v :: a,b,o1 ++ c,d,rfl,by simp,tY h1 h3,h4⟩
theorem Ow.flat {n : Nat} {σ : Store} {vs ts cs Y7 : List V} (h : Ow n σ (vs ++ [.agg cs]) (ts ++ [.agg Y7])) (hl : vs.length = ts.length) : Ow n σ (vs ++ cs) (ts ++ Y7):=by
 obtain ⟨os0,a,b,c⟩:=h.ex
 obtain ⟨v1,v2,o1,o2,e,rfl,h1,h2⟩:=jc a
 have hl1:=h1.len
 obtain ⟨rfl,rfl⟩:=List.append_inj e (by omega)
 obtain ⟨v,vs',o3,o4,e2,rfl,h3,h4⟩:=h2.inv
 simp only [List.cons.injEq] at e2
 obtain ⟨rfl,rfl⟩:=e2
 obtain ⟨_,rfl⟩:=h4.zJ
 obtain ⟨cs',e3,h5⟩:=h3.fG
 cases e3
 exact ⟨o1 ++ o3,dU h1 h5,by simpa using b,fun o ho=>c o (by simpa using ho)⟩
theorem Ow.fin {n : Nat} {σ : Store} {vs ts : List V} (h : Ow n σ vs ts) : Fin σ (.agg vs) (.agg ts):=by
 obtain ⟨os0,a,b,c⟩:=h.ex
 exact oU (uJ a) b
theorem Az : ∀ {σ : Store} {ts vs ts' vs' : List (List V)} {os os' : List Nat},jV σ vs ts os → jV σ vs' ts' os' → jV σ (vs ++ vs') (ts ++ ts') (os ++ os')
 | σ,[],vs,ts',vs',os,os',h,h'=>by simp only [jV] at h;obtain ⟨rfl,rfl⟩:=h;simpa using h'
 |
  σ,t :: ts,vs,ts',vs',os,os',h,h'=>by
  simp only [jV] at h
  obtain ⟨v,vs1,o1,o2,rfl,rfl,h1,h2⟩:=h
  simp only [List.cons_append,jV]
  exact ⟨v,vs1 ++ vs',o1,o2 ++ os',rfl,by simp,h1,Az h2 h'⟩
theorem Y8 {σ : Store} {v t : List V} {os : List Nat} (h : bT σ v t os) : jV σ [v] [t] os:=by
 simp only [jV];exact ⟨v,[],os,[],rfl,by simp,h,rfl,rfl⟩
structure Vp (n : Nat) (σ : Store) (vs ts : List (List V)) : Prop where
 ex : ∃ os,jV σ vs ts os ∧ os.Nodup ∧ ∀ o ∈ os,n ≤ o
theorem Vp.set {n : Nat} {σ : Store} {vs ts : List (List V)} (h : Vp n σ vs ts) {o : Nat} {x : Option Obj} (ho : o < n) : Vp n (σ.set o x) vs ts:=by
 obtain ⟨os,a,b,c⟩:=h.ex
 exact ⟨os,a.frame fun q hq=>aB (by have:=c q hq;omega),b,c⟩
theorem Vp.got {n : Nat} {σ σ2 : Store} {vs ts : List (List V)} {cs Y7 : List V} {os : List Nat} (h : Vp n σ vs ts) (g : Got σ σ2 (.agg cs) (.agg Y7) os) (hn : n ≤ σ.length) : Vp n σ2 (vs ++ [cs]) (ts ++ [Y7]):=by
 obtain ⟨os0,a,b,c⟩:=h.ex
 obtain ⟨cs',e,h5⟩:=g.ow.fG
 cases e
 refine ⟨os0 ++ os,Az (a.frame fun o ho=>g.old o (a.lt o ho)) (Y8 h5),?_,fun o ho=>?_⟩
 ·rw [List.nodup_append]
  refine ⟨b,g.nd,fun x hx y hy e=>?_⟩
  have:=a.lt x hx
  have:=g.fresh y hy
  omega
 ·rcases List.mem_append.1 ho with ho | ho
  ·exact c o ho
  ·have:=g.fresh o ho;omega
theorem Vp.fin {n o sz : Nat} {σ : Store} {vs ts : List (List V)} (h : Vp n σ vs ts) (ho : aj σ o = some ⟨sz,vs⟩) (hn : o < n) : Fin σ (.bF o 0 ts.length) (.sl sz ts):=by
 obtain ⟨os0,a,b,c⟩:=h.ex
 refine oU (os:=o :: os0) ?_ (List.nodup_cons.2 ⟨fun k=>by have:=c o k;omega,b⟩)
 simp only [bI]
 exact .inr ⟨o,vs,os0,rfl,ho,rfl,a⟩
theorem ew {P Q : Prop} (h : Q) (e : P = Q:=by conv=>lhs;simp (maxSteps:=1000000) (disch:=first | omega | assumption | (simp;done) | (simp;omega)) only [↓U1,↓EVw,Hg,EVl,U2,splice,Nat.reduceAdd,Nat.reduceEqDiff,Nat.reduceMul,Nat.reduceLT,Nat.reduceLeDiff,Nat.reduceBEq,reduceIte,CY,DC,EY,Bool.true_and,Bool.false_and,Bool.or_false,Bool.false_or,Bool.true_or,reduceCtorEq]) : P:=Eq.mpr (e) h
theorem CQ {P Q A1 : Prop} (x1 : A1) (h : Q) (e : A1 → P = Q:=by intro x1;conv=>lhs;simp (maxSteps:=1000000) (disch:=first | omega | assumption | (simp;done) | (simp;omega)) only [↓U1,↓EVw,Hg,EVl,U2,splice,Nat.reduceAdd,Nat.reduceEqDiff,Nat.reduceMul,Nat.reduceLT,Nat.reduceLeDiff,Nat.reduceBEq,reduceIte,CY,DC,EY,Bool.true_and,Bool.false_and,Bool.or_false,Bool.false_or,Bool.true_or,reduceCtorEq,x1]) : P:=Eq.mpr (e x1) h
theorem yS {P Q A1 A2 : Prop} (x1 : A1) (x2 : A2) (h : Q) (e : A1 → A2 → P = Q:=by intro x1 x2;conv=>lhs;simp (maxSteps:=1000000) (disch:=first | omega | assumption | (simp;done) | (simp;omega)) only [↓U1,↓EVw,Hg,EVl,U2,splice,Nat.reduceAdd,Nat.reduceEqDiff,Nat.reduceMul,Nat.reduceLT,Nat.reduceLeDiff,Nat.reduceBEq,reduceIte,CY,DC,EY,Bool.true_and,Bool.false_and,Bool.or_false,Bool.false_or,Bool.true_or,reduceCtorEq,x1,x2]) : P:=Eq.mpr (e x1 x2) h
theorem IG {P Q A1 A2 A3 : Prop} (x1 : A1) (x2 : A2) (x3 : A3) (h : Q) (e : A1 → A2 → A3 → P = Q:=by intro x1 x2 x3;conv=>lhs;simp (maxSteps:=1000000) (disch:=first | omega | assumption | (simp;done) | (simp;omega)) only [↓U1,↓EVw,Hg,EVl,U2,splice,Nat.reduceAdd,Nat.reduceEqDiff,Nat.reduceMul,Nat.reduceLT,Nat.reduceLeDiff,Nat.reduceBEq,reduceIte,CY,DC,EY,Bool.true_and,Bool.false_and,Bool.or_false,Bool.false_or,Bool.true_or,reduceCtorEq,x1,x2,x3]) : P:=Eq.mpr (e x1 x2 x3) h
theorem MC {P Q A1 A2 A3 A4 : Prop} (x1 : A1) (x2 : A2) (x3 : A3) (x4 : A4) (h : Q) (e : A1 → A2 → A3 → A4 → P = Q:=by intro x1 x2 x3 x4;conv=>lhs;simp (maxSteps:=1000000) (disch:=first | omega | assumption | (simp;done) | (simp;omega)) only [↓U1,↓EVw,Hg,EVl,U2,splice,Nat.reduceAdd,Nat.reduceEqDiff,Nat.reduceMul,Nat.reduceLT,Nat.reduceLeDiff,Nat.reduceBEq,reduceIte,CY,DC,EY,Bool.true_and,Bool.false_and,Bool.or_false,Bool.false_or,Bool.true_or,reduceCtorEq,x1,x2,x3,x4]) : P:=Eq.mpr (e x1 x2 x3 x4) h
theorem JZ {P Q A1 A2 A3 A4 A5 : Prop} (x1 : A1) (x2 : A2) (x3 : A3) (x4 : A4) (x5 : A5) (h : Q) (e : A1 → A2 → A3 → A4 → A5 → P = Q:=by intro x1 x2 x3 x4 x5;conv=>lhs;simp (maxSteps:=1000000) (disch:=first | omega | assumption | (simp;done) | (simp;omega)) only [↓U1,↓EVw,Hg,EVl,U2,splice,Nat.reduceAdd,Nat.reduceEqDiff,Nat.reduceMul,Nat.reduceLT,Nat.reduceLeDiff,Nat.reduceBEq,reduceIte,CY,DC,EY,Bool.true_and,Bool.false_and,Bool.or_false,Bool.false_or,Bool.true_or,reduceCtorEq,x1,x2,x3,x4,x5]) : P:=Eq.mpr (e x1 x2 x3 x4 x5) h
theorem Ue {P Q A1 A2 A3 A4 A5 A6 : Prop} (x1 : A1) (x2 : A2) (x3 : A3) (x4 : A4) (x5 : A5) (x6 : A6) (h : Q) (e : A1 → A2 → A3 → A4 → A5 → A6 → P = Q:=by intro x1 x2 x3 x4 x5 x6;conv=>lhs;simp (maxSteps:=1000000) (disch:=first | omega | assumption | (simp;done) | (simp;omega)) only [↓U1,↓EVw,Hg,EVl,U2,splice,Nat.reduceAdd,Nat.reduceEqDiff,Nat.reduceMul,Nat.reduceLT,Nat.reduceLeDiff,Nat.reduceBEq,reduceIte,CY,DC,EY,Bool.true_and,Bool.false_and,Bool.or_false,Bool.false_or,Bool.true_or,reduceCtorEq,x1,x2,x3,x4,x5,x6]) : P:=Eq.mpr (e x1 x2 x3 x4 x5 x6) h
theorem WL {P Q A1 A2 A3 A4 A5 A6 A7 : Prop} (x1 : A1) (x2 : A2) (x3 : A3) (x4 : A4) (x5 : A5) (x6 : A6) (x7 : A7) (h : Q) (e : A1 → A2 → A3 → A4 → A5 → A6 → A7 → P = Q:=by intro x1 x2 x3 x4 x5 x6 x7;conv=>lhs;simp (maxSteps:=1000000) (disch:=first | omega | assumption | (simp;done) | (simp;omega)) only [↓U1,↓EVw,Hg,EVl,U2,splice,Nat.reduceAdd,Nat.reduceEqDiff,Nat.reduceMul,Nat.reduceLT,Nat.reduceLeDiff,Nat.reduceBEq,reduceIte,CY,DC,EY,Bool.true_and,Bool.false_and,Bool.or_false,Bool.false_or,Bool.true_or,reduceCtorEq,x1,x2,x3,x4,x5,x6,x7]) : P:=Eq.mpr (e x1 x2 x3 x4 x5 x6 x7) h
theorem ew8 {P Q A1 A2 A3 A4 A5 A6 A7 A8 : Prop} (x1 : A1) (x2 : A2) (x3 : A3) (x4 : A4) (x5 : A5) (x6 : A6) (x7 : A7) (x8 : A8) (h : Q) (e : A1 → A2 → A3 → A4 → A5 → A6 → A7 → A8 → P = Q:=by intro x1 x2 x3 x4 x5 x6 x7 x8;conv=>lhs;simp (maxSteps:=1000000) (disch:=first | omega | assumption | (simp;done) | (simp;omega)) only [↓U1,↓EVw,Hg,EVl,U2,splice,Nat.reduceAdd,Nat.reduceEqDiff,Nat.reduceMul,Nat.reduceLT,Nat.reduceLeDiff,Nat.reduceBEq,reduceIte,CY,DC,EY,Bool.true_and,Bool.false_and,Bool.or_false,Bool.false_or,Bool.true_or,reduceCtorEq,x1,x2,x3,x4,x5,x6,x7,x8]) : P:=Eq.mpr (e x1 x2 x3 x4 x5 x6 x7 x8) h
end Go.Ml
end
namespace Go.Ml
theorem zy {l : List V} {env : Nat → V} (h : En l 0 env:=by (try (refine ew ?_;try with_reducible exact True.intro)) <;> (repeat' (first | refine ⟨?_,?_⟩ | exact Gh (by omega) | exact Ij (by simp) | exact Gi _))) : En l 0 env:=h
end Go.Ml
namespace Go.Ml
theorem GL {a b : Option Obj} (h : a = b:=by simp (disch:=first | omega | (simp only [List.length_append,List.length_set,List.length_cons,List.length_nil];omega)) only [Hg]) : a = b:=h
end Go.Ml
section
namespace Go.Ml
theorem Mk.go {T : Tb} {f : Nat} {t t' : V} {k k' : Int} (h : Mk T f t k t' k') {σ : Store} {v : V} {os : List Nat} (ho : bI σ v t os) (hn : os.Nodup) :
  ∃ σ',Run T (.fn f [v,.int .i64 k] σ) (.fn (.int .i64 k') σ') ∧ bI σ' v t' os ∧ Fr os σ σ':=by
 obtain ⟨σ',a,b,c,d⟩:=h σ v os ho hn
 exact ⟨σ',a,b,⟨c,d⟩⟩
structure Cs (σ : Store) (cs ts : List V) (os : List Nat) : Prop where
 ow : bT σ cs ts os
 nd : os.Nodup
theorem ako {α : Type} {l : List α} {i : Nat} {x : α} (h : l[i]? = some x) : l.set i x = l:=by
 apply List.ext_getElem?
 intro n
 rw [List.getElem?_set]
 split
 ·subst_vars
  split
  ·exact h.symm
  ·rename_i hlt;rw [List.getElem?_eq_none (by omega)]
 ·rfl
section
variable {σ σ' : Store} {cs ts : List V} {os : List Nat}
theorem Cs.lt (h : Cs σ cs ts os) : ∀ q ∈ os,q < σ.length:=h.ow.lt
theorem Cs.frame (h : Cs σ cs ts os) (f : ∀ q ∈ os,aj σ' q = aj σ q) : Cs σ' cs ts os:=⟨h.ow.frame f,h.nd⟩
theorem Cs.fr {os' : List Nat} (h : Cs σ cs ts os) (f : Fr os' σ σ') (hd : ∀ q ∈ os,q ∉ os') : Cs σ' cs ts os:=h.frame fun q hq=>f.old q (h.lt q hq) (hd q hq)
theorem Cs.snoc (h : Cs σ cs ts os) {x : Option Obj} : Cs (σ ++ [x]) cs ts os:=h.frame fun q hq=>aI (h.lt q hq)
theorem Cs.set (h : Cs σ cs ts os) {o : Nat} {x : Option Obj} (ho : o ∉ os) : Cs (σ.set o x) cs ts os:=h.frame fun q hq=>aB fun e=>ho (e ▸ hq)
theorem Cs.call {T : Tb} {f : Nat} {t t' v : V} {k k' : Int} (h : Cs σ cs ts os) (c : Nat) (hm : Mk T f t k t' k') (hv : cs[c]? = some v) (ht : ts[c]? = some t) :
  ∃ σ',Run T (.fn f [v,.int .i64 k] σ) (.fn (.int .i64 k') σ') ∧ Cs σ' cs (ts.set c t') os ∧ Fr os σ σ':=by
 obtain ⟨vc,oc,j1,j2,j3,j4,j5⟩:=h.ow.focus c t h.nd ht
 rw [hv] at j1
 cases j1
 obtain ⟨σ',m1,m2,m3⟩:=hm.go j2 j3
 refine ⟨σ',m1,⟨?_,h.nd⟩,m3.mono j4⟩
 have:=j5 σ' v t' m2 fun q hq' hq=>m3.old q (h.lt q hq') hq
 rwa [ako hv] at this
theorem Cs.part {T : Tb} {f : Nat} {t2 t2' : List V} {k k' : Int} (h : Cs σ cs ts os) (n m : Nat) (hm : Mk T f (.agg t2) k (.agg t2') k') (ht : (ts.drop n).take m = t2) (hn : n + m ≤ ts.length) :
  ∃ σ',Run T (.fn f [.agg ((cs.drop n).take m),.int .i64 k] σ) (.fn (.int .i64 k') σ') ∧ Cs σ' cs (ts.take n ++ t2' ++ ts.drop (n + m)) os ∧ Fr os σ σ':=by
 have e : ts = ts.take n ++ (t2 ++ ts.drop (n + m)):=by
  rw [← ht]
  conv=>lhs;rw [← List.take_append_drop n ts,← List.take_append_drop m (ts.drop n),List.drop_drop]
 have lt2 : t2.length = m:=by rw [← ht];simp;omega
 have h1:=h.ow
 rw [e] at h1
 obtain ⟨c1,c2,o1,o2,rfl,rfl,a1,a2⟩:=jc h1
 have l1:=a1.len
 obtain ⟨c3,c4,o3,o4,rfl,rfl,a3,a4⟩:=jc a2
 have l2:=a3.len
 have nd:=h.nd
 have l1' : c1.length = n:=by rw [l1];simp;omega
 have e2 : ((c1 ++ (c3 ++ c4)).drop n).take m = c3:=by
  rw [← l1',List.drop_left,← lt2,← l2,List.take_left]
 rw [e2]
 simp only [List.nodup_append,List.mem_append] at nd
 obtain ⟨nd1,⟨nd3,nd4,d34⟩,d1⟩:=nd
 obtain ⟨σ',m1,m2,m3⟩:=hm.go (uJ a3) nd3
 obtain ⟨cs',e3,m4⟩:=m2.fG
 cases e3
 have lt:=h.lt
 refine ⟨σ',m1,⟨?_,h.nd⟩,m3.mono (by simp +contextual)⟩
 rw [List.append_assoc]
 refine dU (a1.frame fun q hq=>m3.old q (lt q (by simp [hq])) fun hk=>d1 q hq q (.inl hk) rfl) (dU m4 (a4.frame fun q hq=>m3.old q (lt q (by simp [hq])) fun hk=>d34 q hk q hq rfl))
theorem Cs.got {σ2 : Store} {r t : V} {os2 : List Nat} (h : Cs σ cs ts os) (g : Got σ σ2 r t os2) : Cs σ2 (cs ++ [r]) (ts ++ [t]) (os ++ os2):=by
 refine ⟨dU (h.ow.frame fun q hq=>g.old q (h.lt q hq)) (by simpa using tY g.ow kG),?_⟩
 rw [List.nodup_append]
 refine ⟨h.nd,g.nd,fun x hx y hy e=>?_⟩
 have:=h.lt x hx
 have:=g.fresh y hy
 omega
theorem Ox : Cs σ [] [] []:=⟨kG,.nil⟩
theorem Cs.res (h : Cs σ cs ts os) (c : Nat) {v t : V} (hv : cs[c]? = some v) (ht : ts[c]? = some t) (hd : eF FD t) : resolve σ FD v = some t:=by
 obtain ⟨vc,oc,j1,j2,_⟩:=h.ow.focus c t h.nd ht
 rw [hv] at j1
 cases j1
 exact FN FD j2 hd
end
theorem MV {T : Tb} {f : Nat} {as : List Src} {dst : Option Nat} {env : Nat → V} {σ σ' : Store} {kp bs : Nat} {rs ms : List Nat} {k : St → Prop} {as' : List V} {r : V}
  (h : Run T (.fn f as' σ) (.fn r σ')) (ha : (as.map fun s=>s.ev env) = as') (hl : σ.length ≤ σ'.length) (hb : σ.length ≤ bs) (hk : k ⟨dS env dst r,σ',kp,bs,rs,ms⟩) : Ib T f as dst ⟨env,σ,kp,bs,rs,ms⟩ k:=by
 subst ha
 exact adk h hl hb hk
def cnL {α : Type} (c : α → Nat) (l : List α) (i : Nat) : Nat:=((l.take i).map c).sum
end Go.Ml
end
section
namespace Go.Ml
theorem MW (g : Nat → Option Nat) : ∀ l : List V,aP.Ad g l = l.map (aP g)
 | []=>rfl
 | x :: l=>by simp only [aP.Ad,List.map_cons,MW g l]
section
variable {σ σ2 : Store} {m : Nat}
theorem AA {n : Nat} (ih : ∀ v t : V,resolve σ n v = some t → resolve σ2 n (aP (bD m) v) = some t) : ∀ (l l' : List V),l.mapM (resolve σ n) = some l' → (l.map (aP (bD m))).mapM (resolve σ2 n) = some l'
 | [],l',h=>by simpa using h
 |
  x :: l,l',h=>by
  simp only [List.mapM_cons,Option.pure_def,Option.bind_eq_bind,Option.bind_eq_some_iff,List.map_cons] at h ⊢
  obtain ⟨a,ha,b,hb,e⟩:=h
  exact ⟨a,ih x a ha,b,AA ih l b hb,e⟩
theorem LQ {n : Nat} (ih : ∀ v t : V,resolve σ n v = some t → resolve σ2 n (aP (bD m) v) = some t) : ∀ (l : List (List V)) (l' : List (List V)),(l.mapM fun (r : List V)=>r.mapM (resolve σ n)) = some l' →
  ((l.map fun r=>r.map (aP (bD m))).mapM fun (r : List V)=>r.mapM (resolve σ2 n)) = some l'
 | [],l',h=>by simpa using h
 |
  x :: l,l',h=>by
  simp only [List.mapM_cons,Option.pure_def,Option.bind_eq_bind,Option.bind_eq_some_iff,List.map_cons] at h ⊢
  obtain ⟨a,ha,b,hb,e⟩:=h
  exact ⟨a,AA ih x a ha,b,LQ ih l b hb,e⟩
theorem QW (hs : ∀ o,aj σ2 (m + o) = (aj σ o).map (gu (bD m))) : ∀ (n : Nat) (v t : V),resolve σ n v = some t → resolve σ2 n (aP (bD m) v) = some t
 | 0,_,_,h=>by simp [resolve] at h
 |
  n + 1,v,t,h=>by
  have ih:=QW hs n
  cases v with
  |
   bF o s l =>
   simp only [aP,bD,resolve,hs] at h ⊢
   cases ho : aj σ o with
   | none=>rw [ho] at h;cases h
   |
    some ob =>
    rw [ho] at h
    simp only [Option.map_some,gu,List.length_map] at h ⊢
    split at h
    ·rename_i hl
     rw [if_pos hl]
     obtain ⟨rows,h1,rfl⟩:=Option.map_eq_some_iff.1 h
     rw [Option.map_eq_some_iff]
     refine ⟨rows,?_,rfl⟩
     rw [← List.map_drop,← List.map_take]
     exact LQ ih _ _ h1
    ·cases h
  |
   ptr o r off =>
   simp only [aP,bD,resolve,hs] at h ⊢
   cases ho : aj σ o with
   | none=>rw [ho] at h;cases h
   |
    some ob =>
    rw [ho] at h
    simp only [Option.map_some,gu,List.getElem?_map] at h ⊢
    cases hr : ob.rows[r]? with
    | none=>rw [hr] at h;cases h
    |
     some row =>
     rw [hr] at h
     simp only [Option.map_some] at h ⊢
     obtain ⟨row',h1,rfl⟩:=Option.map_eq_some_iff.1 h
     rw [Option.map_eq_some_iff]
     exact ⟨row',AA ih _ _ h1,rfl⟩
  |
   agg cs =>
   simp only [aP,resolve] at h ⊢
   obtain ⟨cs',h1,rfl⟩:=Option.map_eq_some_iff.1 h
   rw [Option.map_eq_some_iff,MW]
   exact ⟨cs',AA ih _ _ h1,rfl⟩
  |
   gq cs =>
   simp only [aP,resolve] at h ⊢
   obtain ⟨cs',h1,rfl⟩:=Option.map_eq_some_iff.1 h
   rw [Option.map_eq_some_iff,MW]
   exact ⟨cs',AA ih _ _ h1,rfl⟩
  | any=>simp [resolve] at h
  | one=>simpa only [aP,resolve] using h
  | int k n=>simpa only [aP,resolve] using h
  | bool b=>simpa only [aP,resolve] using h
  | str b=>simpa only [aP,resolve] using h
  | ak=>simpa only [aP,resolve] using h
  | sl a b=>simpa only [aP,resolve] using h
  | eU a b=>simpa only [aP,resolve] using h
end
def Vq (σ : Store) : List V → List (Bool × V) → List Nat → Prop
 | vs,[],os=>vs = [] ∧ os = []
 | vs,(b,t) :: ts,os=>∃ v vs' o1 o2,vs = v :: vs' ∧ os = o1 ++ o2 ∧ (if b = true then bI σ v t o1 else resolve σ FD v = some t ∧ o1 = []) ∧ Vq σ vs' ts o2
theorem Vq.shift {σ σ2 : Store} {n : Nat} (hs : ∀ o,aj σ2 (n + o) = (aj σ o).map (gu (bD n))) : ∀ {ts : List (Bool × V)} {vs : List V} {os : List Nat},Vq σ vs ts os → Vq σ2 (vs.map (aP (bD n))) ts (os.map (n + ·))
 | [],vs,os,h=>by simp only [Vq] at h ⊢;obtain ⟨rfl,rfl⟩:=h;exact ⟨rfl,rfl⟩
 |
  (b,t) :: ts,vs,os,h=>by
  simp only [Vq] at h ⊢
  obtain ⟨v,vs',o1,o2,rfl,rfl,h1,h2⟩:=h
  refine ⟨_,_,o1.map (n + ·),o2.map (n + ·),rfl,by rw [List.map_append],?_,Vq.shift hs h2⟩
  cases b with
  | true=>simp only [if_true] at h1 ⊢;exact bI.shift hs h1
  |
   false =>
   simp only [Bool.false_eq_true,if_false] at h1 ⊢
   exact ⟨QW hs _ _ _ h1.1,by rw [h1.2];rfl⟩
def PX (T : Tb) (f : Nat) (args : List V) (ts : List (Bool × V)) : Prop:=∃ vs σ' os,Run T (.fn f args []) (.fn (.gq vs) σ') ∧ Vq σ' vs ts os ∧ os.Nodup
structure akq (σ σ2 : Store) (vs : List V) (ts : List (Bool × V)) (os : List Nat) : Prop where
 ow : Vq σ2 vs ts os
 nd : os.Nodup
 fresh : ∀ o ∈ os,σ.length ≤ o
 old : ∀ o,o < σ.length → aj σ2 o = aj σ o
 len : σ.length ≤ σ2.length
theorem QX {T : Tb} {f : Nat} {as : List Src} {dst : Option Nat} {env : Nat → V} {σ : Store} {kp bs : Nat} {rs ms : List Nat} {k : St → Prop} {as' : List V} {ts : List (Bool × V)} (h : PX T f as' ts)
  (ha : EG env σ as (· = as')) (hr : fO env σ as = []) (hk : ∀ vs σ2 os,akq σ σ2 vs ts os → k ⟨dS env dst (.gq vs),σ2,kp,bs,rs,ms⟩) : Ib T f as dst ⟨env,σ,kp,bs,rs,ms⟩ k:=by
 obtain ⟨vs,σ',os,h1,h2,h3⟩:=h
 obtain ⟨as2,e,rfl⟩:=tJ ha
 refine ⟨_,.own e h1 (R:=[]) (by split;rfl;exact hr.symm),?_⟩
 have key : ∀ o,aj (pF (cO σ []) σ') (σ.length + o) = (aj σ' o).map (gu (bD σ.length)):=by
  intro o
  show aj (pF σ σ') _ = _
  rw [jM,if_neg (by omega)]
  congr 2;omega
 have:=hk (vs.map (aP (bD σ.length))) (pF (cO σ []) σ') (os.map (σ.length + ·)) ⟨h2.shift key,?_,?_,?_,?_⟩
 ·simpa only [aP,MW] using this
 ·exact List.pairwise_map.2 (h3.imp fun hne e=>hne (by omega))
 ·intro o ho
  obtain ⟨q,_,rfl⟩:=List.mem_map.1 ho
  omega
 ·intro o ho
  show aj (pF σ σ') _ = _
  rw [jM,if_pos ho]
 ·simp [pF,cO]
theorem akq.of1 {σ σ2 : Store} {vs : List V} {t u : V} {os : List Nat} (g : akq σ σ2 vs [(true,t),(false,u)] os) : ∃ v w,vs = [v,w] ∧ resolve σ2 FD w = some u ∧ Got σ σ2 v t os:=by
 obtain ⟨v,vs',o1,o2,rfl,rfl,h1,h2⟩:=(by simpa only [Vq] using g.ow : ∃ v vs' o1 o2,_)
 obtain ⟨w,vs2,o3,o4,rfl,rfl,h3,h4⟩:=h2
 obtain ⟨rfl,rfl⟩:=h4
 simp only [if_true,Bool.false_eq_true,if_false] at h1 h3
 obtain ⟨h3,rfl⟩:=h3
 refine ⟨v,w,rfl,h3,⟨by simpa using h1,g.nd,g.fresh,g.old,g.len⟩⟩
def aoh (σ : Store) (r : V) (ts : List (Bool × V)) : Prop:=∃ vs os,bM (.gq vs) r ∧ Vq σ vs ts os ∧ os.Nodup
theorem jD {T : Tb} {f : Nat} {as : List Src} {dst : Option Nat} {env : Nat → V} {σ : Store} {kp bs : Nat} {rs ms : List Nat} {k : List Nat → List Nat → Bool → St → Prop} {as' : List V} {t : V} (h : PO T f as' t)
  (ha : EG env σ as (· = as')) (hr : fO env σ as = []) (hk : ∀ r σ2 os,Got σ σ2 r t os → k [] [] true ⟨dS env dst r,σ2,kp,bs,rs,ms⟩) : Xg T f as dst ⟨env,σ,kp,bs,rs,ms⟩ k :=
 Jt h ha fun r σ2 os g=>by rw [hr];exact hk r σ2 os g
theorem Got.S9 {σ σ2 : Store} {r t : V} {b : Bool} {os : List Nat} (g : Got σ σ2 r (.gq [t,.bool b]) os) : ∃ v,r = .gq [v,.bool b] ∧ Got σ σ2 v t os:=by
 obtain ⟨cs,rfl,h⟩:=g.ow.SX
 obtain ⟨v,vs,o1,o2,rfl,rfl,h1,h2⟩:=h.inv
 obtain ⟨vs,rfl,h3⟩:=h2.lG
 obtain ⟨rfl,rfl⟩:=h3.zJ
 exact ⟨v,rfl,by simpa using h1,g.nd,g.fresh,g.old,g.len⟩
theorem Fin.S9 {σ : Store} {v t : V} {b : Bool} (h : Fin σ v t) : Fin σ (.gq [v,.bool b]) (.gq [t,.bool b]):=by
 obtain ⟨r',os,h1,h2,h3⟩:=h
 refine ⟨.gq [r',.bool b],os,?_,SV (by simpa using tY h2 (qO kG)),h3⟩
 simp only [bM,nN]
 exact ⟨_,rfl,_,_,rfl,h1,_,_,rfl,rfl,rfl⟩
end Go.Ml
end
section
namespace Go.Ml
theorem MX (n : Nat) (q : IntKind) (k : Int) : eF (n + 1) (.int q k):=by simp [eF]
theorem qP (n : Nat) (b : Bool) : eF (n + 1) (.bool b):=by simp [eF]
theorem aT (n : Nat) (l : List Int) : eF (n + 2) (ints l):=by
 simp only [eF]
 intro r hr c hc
 simp only [aH,List.mem_map] at hr
 obtain ⟨x,_,rfl⟩:=hr
 simp only [List.mem_cons,List.not_mem_nil,or_false] at hc
 subst hc;simp [eF]
theorem adp {α : Type} {f : α → List V} {n k : Nat} {l : List α} (h : ∀ x,∀ c ∈ f x,eF n c) : eF (n + 1) (.sl k (l.map f)):=by
 simp only [eF]
 intro r hr c hc
 obtain ⟨x,_,rfl⟩:=List.mem_map.1 hr
 exact h x c hc
theorem Y9 {n : Nat} {cs : List V} (h : ∀ c ∈ cs,eF n c) : eF (n + 1) (.agg cs):=by simpa only [eF] using h
theorem akr (n : Nat) (x : R) : ∀ c ∈ x.cells,eF (n + 2) c:=by
 simp only [List.forall_mem_cons];exact ⟨qP _ _,aT _ _,aT _ _,by simp⟩
theorem aoi (n : Nat) (x : Lk) : ∀ c ∈ x.cells,eF (n + 2) c:=by
 simp only [List.forall_mem_cons];exact ⟨MX _ _ _,MX _ _ _,qP _ _,aT _ _,aT _ _,qP _ _,aT _ _,aT _ _,qP _ _,aT _ _,aT _ _,by simp⟩
theorem aoj (n : Nat) (x : Pa) : ∀ c ∈ x.cells,eF (n + 2) c:=by
 simp only [List.forall_mem_cons];exact ⟨MX _ _ _,qP _ _,aT _ _,aT _ _,qP _ _,aT _ _,aT _ _,qP _ _,aT _ _,aT _ _,by simp⟩
theorem ag5 (n : Nat) (l : List Lk) : eF (n + 3) (iq l):=adp fun x=>aoi n x
theorem ag6 (n : Nat) (l : List Pa) : eF (n + 3) (Ip l):=adp fun x=>aoj n x
theorem ag7 (n : Nat) (x : R) : eF (n + 3) (aQ x):=Y9 (akr n x)
theorem aok (n : Nat) (x : Cd) : ∀ c ∈ x.cells,eF (n + 3) c:=by
 simp only [List.forall_mem_cons];exact ⟨MX _ _ _,qP _ _,aT _ _,aT _ _,ag6 _ _,by simp⟩
theorem aks (n : Nat) (x : Cd) : eF (n + 4) (SA x):=Y9 (aok n x)
theorem adq {n : Nat} {a b c : V} (h1 : eF n a) (h2 : eF n b) (h3 : eF n c) : eF (n + 1) (.gq [a,b,c]):=by
 simp only [eF,List.forall_mem_cons];exact ⟨h1,h2,h3,by simp⟩
structure Grow (s : Store) (v : V) (sz : Nat) (A ts : List (List V)) : Prop where
 ex : ∃ os,jV s A ts os ∧ os.Nodup ∧ ((A = [] ∧ v = .ak) ∨ ∃ o,v = .bF o 0 A.length ∧ aj s o = some ⟨sz,A⟩ ∧ o ∉ os)
section
variable {s s1 σ2 S : Store} {v : V} {sz : Nat} {A ts : List (List V)}
theorem adr : Grow s .ak sz [] []:=⟨[],by simp [jV],.nil,.inl ⟨rfl,rfl⟩⟩
theorem Grow.len (h : Grow s v sz A ts) : A.length = ts.length:=by obtain ⟨os,a,_⟩:=h.ex;exact a.len
theorem Grow.cases (h : Grow s v sz A ts) : (A = [] ∧ ts = [] ∧ v = .ak) ∨ ∃ o,v = .bF o 0 A.length ∧ aj s o = some ⟨sz,A⟩ ∧ o < s.length:=by
 have hl:=h.len
 obtain ⟨os,a,b,c⟩:=h.ex
 rcases c with ⟨rfl,rfl⟩ | ⟨o,rfl,h1,h2⟩
 ·exact .inl ⟨rfl,List.eq_nil_of_length_eq_zero (by simpa using hl.symm),rfl⟩
 ·exact .inr ⟨o,rfl,h1,aG h1⟩
theorem Grow.frame (h : Grow s v sz A ts) (f : ∀ o,o < s.length → aj S o = aj s o) : Grow S v sz A ts:=by
 obtain ⟨os,a,b,c⟩:=h.ex
 refine ⟨os,a.frame fun q hq=>f q (a.lt q hq),b,?_⟩
 rcases c with c | ⟨o,rfl,h1,h2⟩
 ·exact .inl c
 ·exact .inr ⟨o,rfl,(f o (aG h1)).trans h1,h2⟩
theorem Grow.fin (h : Grow s v sz A ts) : Fin s v (.sl sz ts):=by
 have hl:=h.len
 obtain ⟨os,a,b,c⟩:=h.ex
 rcases c with ⟨rfl,rfl⟩ | ⟨o,rfl,h1,h2⟩
 ·have : ts = []:=List.eq_nil_of_length_eq_zero (by simpa using hl.symm)
  subst this;exact Jw
 ·rw [hl]
  refine oU (os:=o :: os) ?_ (List.nodup_cons.2 ⟨h2,b⟩)
  simp only [bI]
  exact .inr ⟨o,A,os,rfl,h1,rfl,a⟩
theorem Grow.app {cs Y7 : List V} {os2 : List Nat} {id2 : Nat} (h : Grow s v sz A ts) (hs : ∀ o,o < s.length → aj s1 o = aj s o) (hl : s.length ≤ s1.length) (g : Got s1 σ2 (.agg cs) (.agg Y7) os2)
  (h0 : s.length ≤ id2) (hid : id2 < s1.length) (h2 : aj S id2 = some ⟨sz,A ++ [cs]⟩)
  (hf : ∀ q,q ≠ id2 → (q < s.length ∨ s1.length ≤ q) → (∀ n,v ≠ .bF q 0 n) → aj S q = aj σ2 q) : Grow S (.bF id2 0 (A.length + 1)) sz (A ++ [cs]) (ts ++ [Y7]):=by
 obtain ⟨os,a,b,c⟩:=h.ex
 have a':=a.frame (σ':=σ2) fun q hq=>by
  have:=a.lt q hq
  rw [g.old q (by omega),hs q this]
 obtain ⟨cs',e,hc⟩:=g.ow.fG
 cases e
 have hlt:=a.lt
 have hv : ∀ q ∈ os ++ os2,∀ n,v ≠ .bF q 0 n:=by
  intro q hq n
  rcases c with ⟨_,rfl⟩ | ⟨o,rfl,h1,h2⟩
  ·simp
  ·intro e
   have e2 : o = q:=by injection e
   rw [e2] at h1 h2
   rcases List.mem_append.1 hq with hq | hq
   ·exact h2 hq
   ·have:=g.fresh q hq
    have:=aG h1
    omega
 have hne : ∀ q ∈ os ++ os2,q ≠ id2 ∧ (q < s.length ∨ s1.length ≤ q):=by
  intro q hq
  rcases List.mem_append.1 hq with hq | hq
  ·have:=hlt q hq;exact ⟨by omega,by omega⟩
  ·have:=g.fresh q hq;exact ⟨by omega,by omega⟩
 have fr : ∀ q ∈ os ++ os2,aj S q = aj σ2 q:=fun q hq=>hf q (hne q hq).1 (hne q hq).2 (hv q hq)
 refine ⟨os ++ os2,Az (a'.frame fun q hq=>fr q (List.mem_append_left _ hq)) (Y8 (hc.frame fun q hq=>fr q (List.mem_append_right _ hq))),?_,.inr ⟨id2,by simp,h2,fun hm=>(hne id2 hm).1 rfl⟩⟩
 rw [List.nodup_append]
 refine ⟨b,g.nd,fun x hx y hy e=>?_⟩
 have:=hlt x hx
 have:=g.fresh y hy
 omega
theorem iL {s t : Store} {o : Nat} (h : o < s.length) : aj (s ++ t) o = aj s o:=by
 unfold aj;rw [List.getElem?_append_left h]
theorem Grow.asb {cs Y7 : List V} {os2 : List Nat} {id1 id2 : Nat} {x : Option Obj} (h : Grow s .ak sz [] ts) (hs : ∀ o,o < s.length → aj s1 o = aj s o) (hl : s.length ≤ s1.length) (g : Got s1 σ2 (.agg cs) (.agg Y7) os2)
  (h0 : s.length ≤ id1) (h1 : id1 < s1.length) (h2 : s.length ≤ id2) (h3 : id2 < s1.length) (hne : id1 ≠ id2) : Grow ((σ2.set id1 x).set id2 (some ⟨sz,[cs]⟩)) (.bF id2 0 1) sz [cs] (ts ++ [Y7]):=by
 have hlen:=g.len
 refine h.app hs hl g h2 h3 (aY (by simp;omega)) fun q hq hr _=>?_
 rw [aB hq,aB (by omega)]
theorem Grow.ase {cs Y7 : List V} {os2 : List Nat} {id1 id2 o : Nat} {x : Option Obj} (h : Grow s (.bF o 0 A.length) sz A ts) (hs : ∀ o,o < s.length → aj s1 o = aj s o) (hl : s.length ≤ s1.length) (g : Got s1 σ2 (.agg cs) (.agg Y7) os2)
  (h0 : s.length ≤ id1) (h1 : id1 < s1.length) (h2 : s.length ≤ id2) (h3 : id2 < s1.length) (hne : id1 ≠ id2) :
  Grow (((σ2.set id1 x).set o none).set id2 (some ⟨sz,A ++ [cs]⟩)) (.bF id2 0 (A.length + 1)) sz (A ++ [cs]) (ts ++ [Y7]):=by
 have hlen:=g.len
 refine h.app hs hl g h2 h3 (aY (by simp;omega)) fun q hq hr hv=>?_
 rw [aB hq,aB (fun e=>hv A.length (by rw [e])),aB (by omega)]
end
theorem Got.XR {s σ2 : Store} {r t : V} {os : List Nat} (g : Got s σ2 r t os) {o : Nat} {x : Option Obj} (h : o < s.length) : Fin (σ2.set o x) r t :=
 oU (g.ow.frame fun q hq=>aB (by have:=g.fresh q hq;omega)) g.nd
theorem Za : dJ []:=fun r hr=>by cases hr
theorem Vr {r : List V} {rs : List (List V)} : dJ (r :: rs) ↔ (∀ v ∈ r,v.still = true) ∧ dJ rs:=by simp [dJ]
theorem Zb {a b : List (List V)} : dJ (a ++ b) ↔ dJ a ∧ dJ b:=by
 unfold dJ
 constructor
 ·exact fun h=>⟨fun r hr=>h r (List.mem_append_left _ hr),fun r hr=>h r (List.mem_append_right _ hr)⟩
 ·intro h r hr
  rcases List.mem_append.1 hr with k | k
  ·exact h.1 r k
  ·exact h.2 r k
theorem ads (x : Lk) : ∀ v ∈ x.cells,v.still = true:=fun v hv=>Fh [x] _ (by simp) v hv
end Go.Ml
end
section
namespace Go.Ml
structure Ep (s : Store) (cs ts : List V) (os : List Nat) (L : List (Nat × Obj)) : Prop where
 c : Cs s cs ts os
 l : ∀ q ∈ L,aj s q.1 = some q.2 ∧ q.1 ∉ os
section
variable {s σ2 : Store} {cs ts : List V} {os os2 : List Nat} {L : List (Nat × Obj)}
theorem Ep.lt (E : Ep s cs ts os L) : ∀ q ∈ L,q.1 < s.length:=fun q hq=>aG (E.l q hq).1
theorem Ep.snoc (E : Ep s cs ts os L) {x : Option Obj} : Ep (s ++ [x]) cs ts os L:=⟨E.c.snoc,fun q hq=>⟨(aI (E.lt q hq)).trans (E.l q hq).1,(E.l q hq).2⟩⟩
theorem Ep.res (E : Ep s cs ts os L) (c : Nat) {v t : V} (hv : cs[c]? = some v) (ht : ts[c]? = some t) (hd : eF FD t) : resolve s FD v = some t:=E.c.res c hv ht hd
theorem Ep.res1 (E : Ep s cs ts os L) (c : Nat) {v t : V} (hv : cs[c]? = some v) (ht : ts[c]? = some t) (hd : eF 11 t) : resolve s 11 v = some t:=by
 obtain ⟨vc,oc,j1,j2,_⟩:=E.c.ow.focus c t E.c.nd ht
 rw [hv] at j1
 cases j1
 exact FN 11 j2 hd
theorem Ep.leaf (E : Ep s cs ts os L) (c : Nat) {v t : V} (hv : cs[c]? = some v) (ht : ts[c]? = some t) (hl : t.leaf = true:=by rfl) : v.leaf = true:=by
 obtain ⟨vc,oc,j1,j2,_⟩:=E.c.ow.focus c t E.c.nd ht
 rw [hv] at j1
 cases j1
 exact j2.leaf hl
theorem Ep.got {s1 : Store} {rs XT : List V} (E : Ep s cs ts os L) (h1 : ∀ o,o < s.length → aj s1 o = aj s o) (hl : s.length ≤ s1.length) (ho : bT σ2 rs XT os2) (hn : os2.Nodup) (hf : ∀ o ∈ os2,s1.length ≤ o)
  (old : ∀ o,o < s1.length → aj σ2 o = aj s1 o) : Ep σ2 (cs ++ rs) (ts ++ XT) (os ++ os2) L:=by
 have hlt:=E.c.lt
 refine ⟨⟨dU (E.c.ow.frame fun q hq=>?_) ho,?_⟩,fun q hq=>⟨?_,?_⟩⟩
 ·have:=hlt q hq
  rw [old q (by omega),h1 q this]
 ·rw [List.nodup_append]
  refine ⟨E.c.nd,hn,fun x hx y hy e=>?_⟩
  have:=hlt x hx
  have:=hf y hy
  omega
 ·have:=E.lt q hq
  rw [old _ (by omega),h1 _ this];exact (E.l q hq).1
 ·intro hm
  have:=E.lt q hq
  rcases List.mem_append.1 hm with hm | hm
  ·exact (E.l q hq).2 hm
  ·have:=hf _ hm;omega
theorem Ep.free {s1 : Store} (E : Ep s cs ts os L) {p : Nat} (hf : ∀ o ∈ os2,s1.length ≤ o) (h0 : s.length ≤ p) (h1 : p < s1.length) : p ∉ os ++ os2:=by
 intro hm
 rcases List.mem_append.1 hm with hm | hm
 ·have:=E.c.lt p hm;omega
 ·have:=hf p hm;omega
theorem Ep.call {T : Tb} {f : Nat} {t t' v : V} {k k' : Int} (E : Ep s cs ts os L) (c : Nat) (hm : Mk T f t k t' k') (hv : cs[c]? = some v) (ht : ts[c]? = some t) :
  ∃ s',Run T (.fn f [v,.int .i64 k] s) (.fn (.int .i64 k') s') ∧ Ep s' cs (ts.set c t') os L ∧ s.length ≤ s'.length:=by
 obtain ⟨s',h1,h2,h3⟩:=E.c.call c hm hv ht
 exact ⟨s',h1,⟨h2,fun q hq=>⟨(h3.old _ (E.lt q hq) (E.l q hq).2).trans (E.l q hq).1,(E.l q hq).2⟩⟩,h3.len⟩
theorem Ep.part {T : Tb} {f : Nat} {t2 t2' r2 : List V} {k k' : Int} (E : Ep s cs ts os L) (n m : Nat) (hm : Mk T f (.agg t2) k (.agg t2') k') (hr : (cs.drop n).take m = r2) (ht : (ts.drop n).take m = t2) (hn : n + m ≤ ts.length) :
  ∃ s',Run T (.fn f [.agg r2,.int .i64 k] s) (.fn (.int .i64 k') s') ∧ Ep s' cs (ts.take n ++ t2' ++ ts.drop (n + m)) os L ∧ s.length ≤ s'.length:=by
 obtain ⟨s',h1,h2,h3⟩:=E.c.part n m hm ht hn
 rw [hr] at h1
 exact ⟨s',h1,⟨h2,fun q hq=>⟨(h3.old _ (E.lt q hq) (E.l q hq).2).trans (E.l q hq).1,(E.l q hq).2⟩⟩,h3.len⟩
theorem Ep.at0 {p : Nat} {ob : Obj} (E : Ep s cs ts os L) (h : (p,ob) ∈ L) : aj s p = some ob ∧ p < s.length:=⟨(E.l _ h).1,E.lt _ h⟩
end
section
variable {σ : Store} {os : List Nat}
theorem bT.rat {cs : List V} {x : R} (h : bT σ cs x.cells os) : ∃ c1 c2,cs = [.bool x.neg,c1,c2]:=by
 obtain ⟨cs,rfl,h1⟩:=h.lG
 match cs,h1.len with
 | [a,b],_=>exact ⟨a,b,rfl⟩
theorem bT.pt {cs : List V} {x : Pt} (h : bT σ cs x.cells os) : ∃ c1 c2 c4 c5,cs = [.bool x.x.neg,c1,c2,.bool x.y.neg,c4,c5]:=by
 obtain ⟨cs,rfl,h1⟩:=h.lG
 obtain ⟨a,cs,_,_,rfl,rfl,_,h2⟩:=h1.inv
 obtain ⟨b,cs,_,_,rfl,rfl,_,h3⟩:=h2.inv
 obtain ⟨cs,rfl,h4⟩:=h3.lG
 match cs,h4.len with
 | [c,d],_=>exact ⟨a,b,c,d,rfl⟩
theorem bT.lk {cs : List V} {x : Lk} (h : bT σ cs x.cells os) : ∃ c3 c4 c6 c7 c9 c10,cs = [iv x.a,iv x.b,.bool x.w.neg,c3,c4,.bool x.dx.neg,c6,c7,.bool x.dy.neg,c9,c10]:=by
 obtain ⟨cs,rfl,h1⟩:=h.SY
 obtain ⟨cs,rfl,h2⟩:=h1.SY
 obtain ⟨cs,rfl,h3⟩:=h2.lG
 obtain ⟨a,cs,_,_,rfl,rfl,_,h4⟩:=h3.inv
 obtain ⟨b,cs,_,_,rfl,rfl,_,h5⟩:=h4.inv
 obtain ⟨cs,rfl,h6⟩:=h5.lG
 obtain ⟨c,cs,_,_,rfl,rfl,_,h7⟩:=h6.inv
 obtain ⟨d,cs,_,_,rfl,rfl,_,h8⟩:=h7.inv
 obtain ⟨cs,rfl,h9⟩:=h8.lG
 match cs,h9.len with
 | [e,f],_=>exact ⟨a,b,c,d,e,f,rfl⟩
theorem bT.cd {cs : List V} {x : Cd} (h : bT σ cs x.cells os) : ∃ c2 c3 c4,cs = [iv x.node,.bool x.total.neg,c2,c3,c4]:=by
 obtain ⟨cs,rfl,h1⟩:=h.SY
 obtain ⟨cs,rfl,h2⟩:=h1.lG
 match cs,h2.len with
 | [a,b,c],_=>exact ⟨a,b,c,rfl⟩
theorem bT.tr {cs : List V} {x : List Tn} (h : bT σ cs [ar2 x] os) : ∃ c0,cs = [c0]:=by
 match cs,h.len with
 | [a],_=>exact ⟨a,rfl⟩
theorem adt {v t : V} (h : bI σ v t os) : bT σ [v] [t] os:=by simpa using tY h kG
end
end Go.Ml
namespace Go.Ml
theorem aO (l : List Nat) (k : List Nat → Prop) : Jf l k = k l:=nr rfl
theorem dQ (p : Prop) : (p ∨ True) = True:=by simp
theorem Ep.LU {s : Store} {cs ts : List V} {os : List Nat} {L L' : List (Nat × Obj)} {p : Nat} {ob : Obj} (E : Ep s cs ts os L) (hp : p ∉ os) (hl : p < s.length) (h : ∀ q ∈ L',(q.1 ≠ p ∧ q ∈ L) ∨ q = (p,ob)) :
  Ep (s.set p (some ob)) cs ts os L':=by
 refine ⟨E.c.set hp,fun q hq=>?_⟩
 rcases h q hq with ⟨h1,h2⟩ | rfl
 ·exact ⟨(aB h1).trans (E.l q h2).1,(E.l q h2).2⟩
 ·exact ⟨aY hl,hp⟩
end Go.Ml
namespace Go.Ml
def sh (n0 n x : Nat) : Nat:=if x < n0 then x else x + (n - n0)
theorem aol {n0 n x y : Nat} : sh n0 n x < sh n0 n y ↔ x < y:=by
 unfold sh;split <;> split <;> omega
theorem aio {n0 n x y : Nat} : sh n0 n x = sh n0 n y ↔ x = y:=by
 unfold sh;split <;> split <;> omega
def shA (n0 n : Nat) (a : Acc) : Acc:=⟨a.i,a.R.map (sh n0 n),a.W.map (sh n0 n),a.n⟩
theorem Vt {n0 n : Nat} (l : List Nat) (p : Nat) : (l.map (sh n0 n)).contains (sh n0 n p) = l.contains p:=by
 rw [Bool.eq_iff_iff,List.contains_iff_mem,List.contains_iff_mem,List.mem_map]
 constructor
 ·rintro ⟨q,h1,h2⟩
  rw [aio.1 h2] at h1;exact h1
 ·exact fun h=>⟨p,h,rfl⟩
theorem Vu {n0 n L : Nat} (a b : Acc) : wC (sh n0 n L) (shA n0 n a) (shA n0 n b) = wC L a b:=by
 unfold wC shA
 simp only [List.all_map,Function.comp_def]
 simp only [aol]
theorem adu {n0 n L : Nat} (d e : fM) (a b : Acc) : nS (sh n0 n L) d e (shA n0 n a) (shA n0 n b) = nS L d e a b:=by
 unfold nS
 rw [Vu,Vu]
 simp only [shA,List.all_map,Function.comp_def]
 simp only [Vt]
 congr 6
 ·congr 1
  funext p
  congr 2
  funext q
  rw [bne,bne]
  congr 1
  rw [Bool.eq_iff_iff,beq_iff_eq,beq_iff_eq];exact aio
theorem adv {n0 n L : Nat} {B : Nat → List Nat} {ops : List fM} : ∀ l : List Acc,okA (sh n0 n L) B ops (l.map (shA n0 n)) = okA L B ops l
 | []=>rfl
 |
  a :: l=>by
  simp only [List.map_cons,okA,List.all_map,Function.comp_def]
  rw [adv l]
  congr 2
  funext b
  have h1 : (shA n0 n a).i = a.i:=rfl
  have h2 : (shA n0 n b).i = b.i:=rfl
  rw [adu,h1,h2]
theorem aaU {ops : List fM} {LF : Nat → Nat} {aF : Nat → List Acc} (n0 n : Nat) (hL : LF n = sh n0 n (LF n0)) (ha : aF n = (aF n0).map (shA n0 n)) (hk : lU (LF n0) ops (aF n0)) : lU (LF n) ops (aF n):=by
 unfold lU at hk ⊢
 rw [hL,ha,← List.map_reverse,adv]
 exact hk
end Go.Ml
namespace Go.Ml
theorem Vw {ops : List fM} (LF : Nat → Nat) (aF : Nat → List Acc) (n0 : Nat) (hL : ∀ n,n0 ≤ n → LF n = sh n0 n (LF n0)) (ha : ∀ n,n0 ≤ n → aF n = (aF n0).map (shA n0 n)) (hk : lU (LF n0) ops (aF n0)) :
  ∀ n,n0 ≤ n → lU (LF n) ops (aF n):=fun n h=>aaU n0 n (hL n h) (ha n h) hk
end Go.Ml
end
section
namespace Go.Ml
def aom (σ : Store) (r : V) (ts : List (Bool × V)) : Prop:=∃ W σ2 vs os,ReS W σ σ2 ∧ qo W σ r (.gq vs) ∧ Vq σ2 vs ts os ∧ os.Nodup
theorem ag8 {T : Tb} {f : Nat} {F : Fn} {args : List V} {ts : List (Bool × V)} (rf : Nat → Nat → Bool) (hT : T f = some F)
  (h : wp T rf F.body (fun e st=>endW F.res e (fun r σ=>aoh σ r ts ∨ aom σ r ts) st) (St.enter args [])) (hl : args.length = F.nargs:=by rfl) (hk : F.body.Ud = true:=by rfl) : PX T f args ts:=by
 obtain ⟨r,σ',h1,h2⟩:=run_end rf hT h hl hk
 rcases h2 with ⟨vs,os,h2,h3,h4⟩ | ⟨W,σ2,vs,os,h2,h3,h4,h5⟩
 ·exact ⟨vs,σ',os,.Z9 (pG _) h1 h2,h3,h4⟩
 ·exact ⟨vs,σ2,os,.reF W (pG _) h1 h2 h3,h4,h5⟩
theorem ag9 {σ : Store} {v w t u : V} {os : List Nat} (h : bI σ v t os) (hn : os.Nodup) (hr : resolve σ FD w = some u) : aoh σ (.gq [v,w]) [(true,t),(false,u)]:=by
 refine ⟨[v,w],os,au _,?_,hn⟩
 simp only [Vq,if_true,Bool.false_eq_true,if_false]
 exact ⟨v,[w],os,[],rfl,by simp,h,w,[],[],[],rfl,rfl,⟨hr,rfl⟩,rfl,rfl⟩
theorem QY (l : List Int) : trim l = l.take (trim l).length ∧ (trim l).length ≤ l.length:=by
 have h:=UW l l.length
 have e2 : (trim l).length = lN l l.length:=by unfold trim;rw [List.length_take];omega
 exact ⟨by rw [e2];rfl,by omega⟩
theorem aha {Q : List Int} {n : Nat} (h : n ≤ Q.length) : ReS [some (0,0,n)] [some ⟨1,aH Q⟩] [some ⟨1,aH (Q.take n)⟩]:=by
 refine ⟨rfl,fun i j o s l s' l' h1 h2=>?_,fun k o s l hk=>?_,fun k hk=>?_⟩
 ·cases i with
  |
   zero=>cases j with
   | zero=>rfl
   | succ j=>simp at h2
  | succ i=>simp at h1
 ·cases k with
  | succ k=>simp at hk
  |
   zero =>
   simp only [List.getElem?_cons_zero,Option.some.injEq,Prod.mk.injEq] at hk
   obtain ⟨rfl,rfl,rfl⟩:=hk
   refine ⟨⟨1,aH Q⟩,⟨1,aH (Q.take n)⟩,rfl,by rw [yV];omega,rfl,rfl,by rw [yV,List.length_take];omega,fun i r r2 h1 h2=>?_⟩
   have hi : i < n:=by
    have:=(List.getElem?_eq_some_iff.1 h2).1
    rw [yV,List.length_take] at this;omega
   have e : r2 = r:=by
    rw [Nat.zero_add] at h1
    simp only [aH,List.getElem?_map] at h1 h2
    rw [List.getElem?_take_of_lt hi,h1] at h2
    exact (Option.some.inj h2).symm
   subst e
   refine DF fun v hv=>l9 Q r2 ?_ v hv
   exact List.mem_of_getElem? h1
 ·cases k <;> simp at hk
theorem adw {Q : List Int} {n : Nat} {t u : V} (h : n ≤ Q.length) (ht : t = ints (Q.take n)) (hu : u.still = true) : aom [some ⟨1,aH Q⟩] (.gq [.bF 0 0 n,u]) [(true,t),(false,u)]:=by
 subst ht
 refine ⟨[some (0,0,n)],[some ⟨1,aH (Q.take n)⟩],[.bF 0 0 n,u],[0],aha h,?_,?_,by simp⟩
 ·simp only [qo,CS]
  exact ⟨_,rfl,_,_,rfl,.inl ⟨0,0,n,rfl,Nat.le_refl _,by omega,rfl⟩,_,_,rfl,Ik hu,rfl⟩
 ·simp only [Vq,if_true,Bool.false_eq_true,if_false]
  refine ⟨_,[u],[0],[],rfl,rfl,?_,u,[],[],[],rfl,rfl,⟨QD (n:=11) hu,rfl⟩,rfl,rfl⟩
  have:=Jv (σ:=[some ⟨1,aH (Q.take n)⟩]) (o:=0) (l:=Q.take n) rfl
  rwa [List.length_take,Nat.min_eq_left h] at this
theorem KN (g : Nat → Option Nat) (l : List Int) : gu g ⟨1,aH l⟩ = ⟨1,aH l⟩:=by
 unfold gu
 congr 1
 simp only [aH,List.map_map]
 rfl
theorem KO {T : Tb} {f : Nat} {as : List Src} {dst : Option Nat} {env : Nat → V} {σ : Store} {kp bs : Nat} {rs ms : List Nat} {k : St → Prop} {ρ : List Nat} {as' : List V} {r : V} {σ' : Store} (hn : ρ.Nodup)
  (hρ : ∀ o,o ∈ ρ → ∃ l,aj σ o = some ⟨1,aH l⟩) (ha : (as.map fun s=>aP (place ρ) (s.ev env)) = as') (hr : Run T (.fn f as' (zA ρ σ)) (.fn r σ'))
  (hold : ∀ q,q < ρ.length → aj σ' q = aj (zA ρ σ) q) (hk : ∀ σ2 : Store,(∀ q,q < σ.length → aj σ2 q = aj σ q) → σ.length ≤ σ2.length → k ⟨dS env dst (aP (back ρ σ.length) r),σ2,kp,bs,rs,ms⟩) :
  Ib T f as dst ⟨env,σ,kp,bs,rs,ms⟩ k:=by
 subst ha
 refine ⟨_,.ref ρ hn (fun o ho=>by obtain ⟨l,h⟩:=hρ o ho;rw [h];rfl) hr,?_⟩
 refine hk _ (fun q hq=>?_) (by simp [iF])
 have e1 : aj (iF ρ σ σ') q = ((σ.mapIdx fun o ob=>match place ρ o with
   | some j=>(aj σ' j).map (gu (back ρ σ.length))
   | none=>ob)[q]?).getD none:=by
  show ((iF ρ σ σ')[q]?).getD none = _
  unfold iF
  rw [List.getElem?_append_left (by simpa using hq)]
  rfl
 show aj (iF ρ σ σ') q = _
 rw [e1,List.getElem?_mapIdx,List.getElem?_eq_getElem hq]
 simp only [Option.map_some,Option.getD_some]
 cases hp : place ρ q with
 | none=>simp [aj,List.getElem?_eq_getElem hq]
 |
  some j =>
  have hj:=iy hp
  have hlt:=(List.getElem?_eq_some_iff.1 hj).1
  simp only []
  rw [hold j hlt,CW,hj]
  obtain ⟨l,hl⟩:=hρ q (List.mem_of_getElem? hj)
  simp only [hl,Option.map_some,KN]
end Go.Ml
namespace Go.Ml
theorem XU {σ : Store} {v : V} {l : List Int} {os : List Nat} (h : bI σ v (ints l) os) : ∀ n,∀ o ∈ reach σ n v,o ∈ os:=by
 intro n o ho
 rcases h.yN with ⟨_,rfl,_⟩ | ⟨q,rfl,h1,rfl⟩
 ·cases n <;> simp [reach] at ho
 ·cases n with
  | zero=>simp [reach] at ho
  |
   succ n =>
   simp only [reach,h1,List.mem_cons,List.mem_flatMap] at ho
   rcases ho with rfl | ⟨r,hr,c,hc,ho⟩
   ·simp
   ·have hs:=l9 l r hr c hc
    cases n with
    | zero=>simp [reach] at ho
    | succ n=>rw [Bo hs] at ho;cases ho
theorem Gs {σ : Store} {n : Nat} {cs : List V} {o : Nat} : o ∈ reach σ (n + 1) (.agg cs) ↔ ∃ c ∈ cs,o ∈ reach σ n c:=by
 simp [reach,List.mem_flatMap]
theorem KP {T : Tb} {f : Nat} {as : List Src} {dst : Option Nat} {env : Nat → V} {σ : Store} {kp bs : Nat} {rs ms : List Nat} {k : List Nat → List Nat → Bool → St → Prop} {as' : List V} {t : V} (P : Nat → Prop) (h : PO T f as' t)
  (ha : EG env σ as (· = as')) (hr : ∀ o ∈ fO env σ as,P o) (hk : ∀ R r σ2 os,(∀ o ∈ R,P o) → Got σ σ2 r t os → k R [] true ⟨dS env dst r,σ2,kp,bs,rs,ms⟩) : Xg T f as dst ⟨env,σ,kp,bs,rs,ms⟩ k :=
 Jt h ha fun r σ2 os g=>hk _ r σ2 os hr g
end Go.Ml
namespace Go.Ml
theorem Ep.push {s : Store} {cs ts : List V} {os : List Nat} {L : List (Nat × Obj)} {ob : Obj} (E : Ep s cs ts os L) : Ep (s ++ [some ob]) cs ts os (L ++ [(s.length,ob)]):=by
 refine ⟨E.c.snoc,fun q hq=>?_⟩
 rcases List.mem_append.1 hq with hq | hq
 ·exact E.snoc.l q hq
 ·simp only [List.mem_cons,List.not_mem_nil,or_false] at hq
  subst hq
  exact ⟨Aw _ _,fun hm=>absurd (E.c.lt _ hm) (Nat.lt_irrefl _)⟩
theorem Ep.reach {s : Store} {cs ts : List V} {os : List Nat} {L : List (Nat × Obj)} (E : Ep s cs ts os L) (c : Nat) {v : V} {l : List Int} (hv : cs[c]? = some v) (ht : ts[c]? = some (ints l)) (n : Nat) : ∀ o ∈ reach s n v,o ∈ os:=by
 intro o ho
 obtain ⟨vc,oc,j1,j2,_,j4,_⟩:=E.c.ow.focus c _ E.c.nd ht
 rw [hv] at j1
 cases j1
 exact j4 o (XU j2 n o ho)
theorem LV {T : Tb} (h : jY T) {l : List Int} (hl : l.length ≤ 1048576:=by exact gU) : PO T 139 [ints l] (ints l):=by
 refine dw nR h.hT ?_
 simp only [mG,Lz,St.enter,List.length_cons,List.length_nil,Nat.zero_add]
 refine ew ?_
 exact ⟨fun e=>aaS e,fun _=>⟨by omega,Ov rfl⟩⟩
def cnt (n : Nat) (k : Int) : List Int:=(List.range n).map fun i=>k + ((i : Nat) : Int)
theorem adx {a b : St} (h : Fg a b:=by
 (refine NS [] (by simp) (by intro p hp;cases hp) rfl ?_) <;> (try (refine ew ?_;try with_reducible exact True.intro)) <;> (repeat' (first | exact True.intro | omega | exact yL rfl (by simp) | refine ⟨?_,?_⟩ | exact of_eq_true (Am _ _ _) | exact jo rfl (by simp;done) | exact jo rfl rfl | (refine jZ rfl ?_ rfl;simp [aH];done) | (refine jZ rfl ?_ rfl;simp [aH];omega) | (refine CZ ?_ ?_;(focus ((refine ew ?_;try with_reducible exact True.intro);done));(intro q hq k s0 l0;simp;done))))) : Fg a b:=h
theorem ady {a b : St} (h : Fg a b:=by
 (simp only [← wG];refine DN (k:=2) (yM _ _) rfl ?_;(try (refine ew ?_;try with_reducible exact True.intro));(repeat' (first | exact True.intro | omega | exact wF (by simp) (by simp) (by simp) | refine ⟨?_,?_⟩ | exact jo rfl (by simp))))) : Fg a b:=h
theorem DZ {T : Tb} (h : jB T) {n : Int} (hn : 0 ≤ n ∧ n < 18446744073709551616:=by exact gU) : PO T 69 [.int .u64 n] (ints (mk n.toNat)):=by
 have hlen : (mk n.toNat).length ≤ 3:=aX.2 (by omega)
 refine dw nR h.hT ?_
 simp only [kY,Lz,St.enter,List.length_cons,List.length_nil,Nat.zero_add]
 refine ew ?_
 refine aS (fun _ _=>false) (α:=Nat × List Int) (fun q=>⟨dX [.int .u64 (q.1 : Nat),.any,.any,slV q.2.length],WI 1 (aH q.2),0,0,[],[]⟩) (fun q=>q.2 ++ mk q.1 = mk n.toNat ∧ q.1 ≤ n.toNat) (fun q=>q.1) rfl (n.toNat,[]) ?_ ?_ ?_
 ·exact ⟨rfl,Nat.le_refl _⟩
 ·first | ((refine aJ ?_;exact zy);done) | (exact adx;done)
 ·rintro ⟨m,xs⟩ ⟨hm,hle⟩
  dsimp only at hm hle
  have hx : xs.length ≤ 3:=by
   have:=congrArg List.length hm
   simp at this;omega
  have e1 : ((m : Int).tmod 1000000000) = ((m % 1000000000 : Nat) : Int):=by rw [Iu (by omega)];omega
  have e2 : ((m : Int).tdiv 1000000000) = ((m / 1000000000 : Nat) : Int):=by rw [Iw (by omega)];omega
  have key : 0 < m → (xs ++ [((m % 1000000000 : Nat) : Int)]) ++ mk (m / 1000000000) = mk n.toNat:=fun h=>by
   rw [← hm,mk_pos (n:=m) (by omega)];simp
  (rcases xs with _ | ⟨x,xs⟩ <;> simp only [List.length_nil,List.length_cons,kX,ku,fF,dL] at hx ⊢)
  ·refine ew ?_
   refine aN (fun hb=>?_) fun hb=>?_ <;> (refine IG @hb @e1 @e2 ?_;try with_reducible exact True.intro)
   ·exact ⟨by omega,(m / 1000000000,[] ++ [((m % 1000000000 : Nat) : Int)]),by dsimp only;omega,⟨key (by omega),by dsimp only;omega⟩,by (simp only [← wG];refine DN (k:=1) (yM _ _) rfl ?_;(try (refine ew ?_;try with_reducible exact True.intro));(repeat' (first | exact True.intro | omega | exact wF (by simp) (by simp) (by simp) | refine ⟨?_,?_⟩ | exact jo rfl (by simp))))⟩
   ·have e : mk n.toNat = []:=by rw [← hm,show m = 0 by omega,mk_zero];rfl
    rw [e];exact Jw
  ·refine ew ?_
   refine aN (fun hb=>?_) fun hb=>?_ <;> (refine IG @hb @e1 @e2 ?_;try with_reducible exact True.intro)
   ·refine ⟨by omega,(m / 1000000000,(x :: xs) ++ [((m % 1000000000 : Nat) : Int)]),by dsimp only;omega,⟨key (by omega),by dsimp only;omega⟩,by exact ady⟩
   ·have e : x :: xs = mk n.toNat:=by rw [← hm,show m = 0 by omega,mk_zero];simp
    rw [← e];exact Ov (o:=0) (l:=x :: xs) rfl
theorem XV {T : Tb} (h : kZ T) {l : List Int} {σ : Store} {o : Nat} (h0 : aj σ o = some ⟨1,aH l⟩) (hl : l.length ≤ 1048576:=by exact gU) :
  Run T (.fn 151 [.bF o 0 l.length] σ) (.fn (.bF o 0 (trim l).length) σ):=by
 have : ∃ r σ',Run T (.fn 151 [.bF o 0 l.length] σ) (.fn r σ') ∧ (r = .bF o 0 (trim l).length ∧ σ' = σ):=by
  have htl : ∀ n,n ≤ l.length → lN l l.length = lN l n → (n = 0 ∨ l.getD (n - 1) 0 ≠ 0) → (trim l).length = n:=by
   intro n hn h1 h2
   unfold trim
   rw [h1,List.length_take]
   cases n with
   | zero=>simp [lN]
   |
    succ m =>
    simp only [Nat.add_sub_cancel] at h2
    simp only [lN]
    rw [if_neg (by omega)]
    omega
  refine run_end nR h.hT ?_
  simp only [oD,Lz,St.enter,List.length_cons,List.length_nil,Nat.zero_add]
  refine ew ?_
  refine CQ @h0 ?_
  refine aS (fun _ _=>false) (α:=Nat) (fun n=>⟨dX [.bF o 0 l.length,.any,.any,iv (n : Nat)],σ,σ.length,0,[],[]⟩) (fun n=>n ≤ l.length ∧ lN l l.length = lN l n) (fun n=>n) rfl l.length ?_ ?_ ?_
  ·exact ⟨by omega,rfl⟩
  ·(refine aJ ?_;exact zy)
  ·rintro n ⟨hn,ht⟩
   refine CQ @h0 ?_
   refine aN (fun hb=>?_) fun hb=>?_
   ·obtain ⟨m,rfl⟩ : ∃ m,n = m + 1:=⟨n - 1,by omega⟩
    have e1 : ((m + 1 : Nat) : Int) - 1 = (m : Nat):=by omega
    refine IG @h0 @e1 @hb ?_
    refine aN (fun hc=>?_) fun hc=>?_ <;> (refine yS @hc @h0 ?_;try with_reducible exact True.intro)
    ·refine ⟨m,by omega,⟨by omega,?_⟩,by (refine aJ ?_;exact zy)⟩
     rw [ht];simp only [lN,hc,if_true]
    ·rw [htl (m + 1) hn ht (by simp only [Nat.add_sub_cancel];omega)]
   ·have : n = 0:=by omega
    subst this
    rw [htl 0 hn ht (by omega)]
    (refine yS @h0 @hb ?_;try with_reducible exact True.intro)
 obtain ⟨r,σ',h1,rfl,rfl⟩:=this
 exact h1
theorem Oy {T : Tb} (h : eu T) {neg : Bool} {n : Nat} {σ : Store} {o : Nat} (h0 : aj σ o = some ⟨1,aH (mk n)⟩) (hn : 0 < n) (hl : (mk n).length ≤ 60:=by exact gU) :
  ∃ σ',Run T (.fn 68 [.bool neg,.bF o 0 (mk n).length] σ) (.fn (.agg [.bool neg,.bF o 0 (mk n).length]) σ') ∧ (∀ q,q < σ.length → aj σ' q = aj σ q) ∧ σ.length ≤ σ'.length:=by
 have : ∃ r σ',Run T (.fn 68 [.bool neg,.bF o 0 (mk n).length] σ) (.fn r σ') ∧ (r = .agg [.bool neg,.bF o 0 (mk n).length] ∧ (∀ q,q < σ.length → aj σ' q = aj σ q) ∧ σ.length ≤ σ'.length):=by
  have hp:=y7.2 hn
  refine run_end nR h.hT ?_
  simp only [jG,Lz,St.enter,List.length_cons,List.length_nil,Nat.zero_add]
  refine ew ?_
  have hlt:=aG h0
  have c1 : ¬ (((mk n).length : Nat) : Int) = 0:=by omega
  have c2 : ¬ (60 : Int) < ((mk n).length : Nat):=by omega
  refine MC @h0 @hlt @c1 @c2 ?_
  exact ⟨fun q hq=>aI hq,by omega⟩
 obtain ⟨r,σ',h1,rfl,h2,h3⟩:=this
 exact ⟨σ',h1,h2,h3⟩
theorem adz {a b : St} (h : Fg a b:=by
 (refine NS [(0,_)] (by simp) (by intro p hp;simp only [List.mem_cons,List.not_mem_nil,or_false] at hp;rcases hp with rfl <;> refine ⟨rfl,?_⟩ <;> first | exact l9 _ | simp [dJ,V.still]) rfl ?_) <;> (try (refine ew ?_;try with_reducible exact True.intro)) <;> (repeat' (first | exact True.intro | omega | exact yL rfl (by simp) | refine ⟨?_,?_⟩ | exact of_eq_true (Am _ _ _) | exact jo rfl (by simp;done) | exact jo rfl rfl | (refine jZ rfl ?_ rfl;simp [aH];done) | (refine jZ rfl ?_ rfl;simp [aH];omega) | (refine CZ ?_ ?_;(focus ((refine ew ?_;try with_reducible exact True.intro);done));(intro q hq k s0 l0;simp;done))))) : Fg a b:=h
theorem QZ {T : Tb} (h : qC T) {m n : Nat} (hn : 0 < n) (la : (mk m).length ≤ 900:=by exact gU) (lb : (mk n).length ≤ 900:=by exact gU) :
  PX T 138 [ints (mk m),ints (mk n)] [(true,ints (mk (m / n))),(false,ints (mk (m % n)))]:=by
 obtain ⟨A,hA⟩ : ∃ A,mk m = A:=⟨_,rfl⟩
 obtain ⟨B,hB⟩ : ∃ B,mk n = B:=⟨_,rfl⟩
 have hva : val A = m:=by rw [← hA,val_mk]
 have Y3 : Lb A:=hA ▸ jT m
 have hbB : Lb B:=hB ▸ jT n
 rw [hA] at la ⊢
 rw [hB] at lb ⊢
 refine ag8 (fun x d=>(x == 69 && d == 28) || (x == 151 && d == 74)) h.hT ?_
 simp only [qB,Lz,St.enter,List.length_cons,List.length_nil,Nat.zero_add]
 refine ew ?_
 have cas : (((A.length : Nat) : Int) ≤ 2 ∧ ((B.length : Nat) : Int) ≤ 2) ∨ ((((A.length : Nat) : Int) ≤ 2 ∧ ¬ ((B.length : Nat) : Int) ≤ 2) ∨ ¬ ((A.length : Nat) : Int) ≤ 2):=by omega
 rcases cas with ⟨c1,c2⟩ | big
 ·have sm : m < 1000000000000000000:=by
   have:=nU Y3
   rw [hva] at this
   exact Nat.lt_of_lt_of_le this (Nat.le_trans (Nat.pow_le_pow_right (by omega) (show A.length ≤ 2 by omega)) (by omega))
  have sn : n < 1000000000000000000:=by
   have:=nU hbB
   rw [← hB,val_mk] at this
   exact Nat.lt_of_lt_of_le this (Nat.le_trans (Nat.pow_le_pow_right (by omega) (show (mk n).length ≤ 2 by rw [hB];omega)) (by omega))
  have cs:=wH h.je sm
  have ct:=wH h.je sn
  rw [hA] at cs
  rw [hB] at ct
  have e1 : ((m : Nat) : Int).tdiv (n : Nat) = ((m / n : Nat) : Int):=by rw [Int.tdiv_eq_ediv_of_nonneg (by omega),Int.natCast_ediv]
  have e2 : ((m : Nat) : Int).tmod (n : Nat) = ((m % n : Nat) : Int):=by rw [Int.tmod_eq_emod_of_nonneg (by omega),Int.natCast_emod]
  have d1 : m / n ≤ m:=Nat.div_le_self ..
  have d2 : m % n ≤ m:=Nat.mod_le ..
  have nz : ¬ ((n : Nat) : Int) = 0:=by omega
  generalize m / n = q at *
  generalize m % n = r at *
  have c3:=oI h.bP (n:=((q : Nat) : Int)) (by omega)
  have c4:=oI h.bP (n:=((r : Nat) : Int)) (by omega)
  rw [Int.toNat_natCast] at c3 c4
  refine yS @c1 @c2 ?_
  refine ah cs ?_
  refine ew ?_
  refine ah ct ?_
  refine IG @nz @e1 @e2 ?_
  have p3:=DZ h.bP (n:=((q : Nat) : Int)) (by omega)
  rw [Int.toNat_natCast] at p3
  refine jD p3 (by (refine ew ?_;try with_reducible exact True.intro)) (by (refine ew ?_;try with_reducible exact True.intro)) ?_
  intro v1 s1 o1 g
  refine IG @nz @e1 @e2 ?_
  refine ah c4 ?_
  refine ew ?_
  refine ⟨by unfold lU;decide +kernel,?_⟩
  exact .inl (ag9 g.ow g.nd rfl)
 rcases big with ⟨c1,c2⟩ | c1
 case' inl=>(refine yS @c1 @c2 ?_;try with_reducible exact True.intro)
 case' inr=>(refine CQ @c1 ?_;try with_reducible exact True.intro)
 all_goals
  refine ⟨by omega,?_⟩
  rw [Ii]
  refine aS (fun x d=>(x == 69 && d == 28) || (x == 151 && d == 74)) (α:=Nat × List Int × Nat) (fun q=>⟨dX [ints A,ints B,.any,.any,.any,.any,.any,.any,.bF 0 0 A.length,ints (mk q.2.2),iv ((q.1 : Nat) - 1)],[some ⟨1,aH q.2.1⟩],0,0,[],[]⟩) (fun q=>q.1 ≤ A.length ∧ q.2.1.length = A.length ∧ Lb q.2.1 ∧ (∀ j,j < q.1 → q.2.1.getD j 0 = 0) ∧ q.2.2 < n ∧ val (A.drop q.1) = val (q.2.1.drop q.1) * n + q.2.2) (fun q=>q.1) rfl (A.length,List.replicate A.length 0,0) ?_ ?_ ?_
  ·exact ⟨by omega,by simp,Il _,by intro j _;simp [List.getD_eq_getElem?_getD,List.getElem?_replicate];split <;> rfl,hn,by dsimp only;rw [bK (Nat.le_refl _),bK (by simp)];simp⟩
  ·rw [mk_zero]
   exact adz
  ·rintro ⟨k,Q,x⟩ ⟨hk,hQ,hQb,hz,hx,hv⟩
   dsimp only at hk hQ hQb hz hx hv
   by_cases k0 : k = 0
   ·subst k0
    rw [List.drop_zero,List.drop_zero,hva] at hv
    obtain ⟨q1,q2⟩:=DR hv hx
    have e0 : ¬ (0 : Int) ≤ ((0 : Nat) : Int) - 1:=by omega
    refine CQ @e0 ?_
    have hr:=XV h.iR (l:=Q) (σ:=[some ⟨1,aH Q⟩]) (o:=0) rfl (by omega)
    rw [hQ] at hr
    refine MV hr rfl (Nat.le_refl _) (by simp) ?_
    refine ew ?_
    rw [← q1,← q2]
    exact .inr (adw (by have:=(QY Q).2;omega) (by rw [← (QY Q).1,qV hQb]) rfl)
   ·obtain ⟨i,rfl⟩ : ∃ i,k = i + 1:=⟨k - 1,by omega⟩
    have e0 : (((i + 1 : Nat) : Int) - 1) = (i : Nat):=by omega
    have e1 : ((i : Nat) : Int) < (A.length : Nat):=by omega
    have e2 : (0 : Int) ≤ (i : Nat):=by omega
    rw [e0]
    have ga:=jU Y3 i
    have hvi:=fQ A i
    obtain ⟨t,ht⟩ : ∃ t,(A.getD i 0).toNat + 1000000000 * x = t:=⟨_,rfl⟩
    have htn : t < n * 1000000000:=by omega
    have lt' : (A.getD i 0 :: mk x).length ≤ 1048576:=by
     have : (mk x).length ≤ B.length:=by rw [aX];exact Nat.lt_trans hx (by have:=nU hbB;rw [← hB,val_mk,hB] at this;exact this)
     simp only [List.length_cons];omega
    have tr : trim (A.getD i 0 :: mk x) = mk t:=by
     rw [qV (by intro y hy;rcases List.mem_cons.1 hy with rfl | hy;exact ga;exact jT x y hy),← ht,val,val_mk]
    have ct:=Di h.iR (l:=A.getD i 0 :: mk x) lt'
    rw [tr] at ct
    have Y4 : ∀ y,y ≤ t → (mk y).length ≤ 901:=by
     intro y hy
     have : (mk y).length ≤ B.length + 1:=by
      rw [aX,Nat.pow_succ]
      have:=nU hbB
      rw [← hB,val_mk,hB] at this
      exact Nat.lt_of_lt_of_le (Nat.lt_of_le_of_lt hy htn) (Nat.mul_le_mul_right _ (Nat.le_of_lt this))
     omega
    have lx:=Y4
    refine yS @e2 @e1 ?_
    refine ⟨fun e3=>?_,fun e3=>?_⟩
    case' refine_1 =>
     have x0 : mk x = []:=by cases hm : mk x with | nil=>rfl | cons a l=>rw [hm] at e3;cases e3
     rw [x0] at ct
     rw [show [[V.int IntKind.i64 (A.getD i 0)]] = aH [A.getD i 0] from rfl]
     (refine ew ?_;try with_reducible exact True.intro)
    case' refine_2 =>
     refine CQ @e3 ?_
     rw [show [V.int IntKind.i64 (A.getD i 0)] :: aH (mk x) = aH (A.getD i 0 :: mk x) from rfl]
     refine ew ?_
     have lm:=lt'
     simp only [List.length_cons] at lm
     refine ⟨by omega,?_⟩
    all_goals
     clear lt'
     refine ah ct ?_
     refine ew ?_
     refine aS (fun x d=>(x == 69 && d == 28) || (x == 151 && d == 74)) (α:=List Int × Nat) (fun q=>⟨dX [ints A,ints B,.any,.any,.any,.any,.any,.any,.bF 0 0 A.length,ints (mk q.2),iv (i : Nat)],[some ⟨1,aH q.1⟩],0,0,[],[]⟩) (fun q=>q.1.length = A.length ∧ Lb q.1 ∧ (∀ j,j < i → q.1.getD j 0 = 0) ∧ q.1.drop (i + 1) = Q.drop (i + 1) ∧ q.2 + (q.1.getD i 0).toNat * n = t) (fun q=>q.2) rfl (Q,t) ?_ ?_ ?_
     ·exact ⟨hQ,hQb,fun j hj=>hz j (by omega),rfl,by dsimp only;rw [hz i (by omega)];simp⟩
     ·exact adz
     ·rintro ⟨P,y⟩ ⟨hP,hPb,hzP,hd,hy⟩
      dsimp only at hP hPb hzP hd hy
      have yt : y ≤ t:=by omega
      have ly:=Y4 y yt
      have cc:=N7 h.xG (kJ y) (kJ n) (by omega) (by rw [hB];omega)
      rw [val_mk,val_mk,hB] at cc
      refine ew ?_
      refine ah cc ?_
      refine ew ?_
      refine aN (fun c3=>?_) fun c3=>?_ <;> (refine CQ @c3 ?_;try with_reducible exact True.intro)
      ·have hny : n ≤ y:=lQ.1 c3
       obtain ⟨d,pg,d0,d1,d2⟩:=Oa h.Eu hn hny (by omega) (by omega) (by rw [hB];omega)
       rw [hB] at pg
       have pm:=N8 h.xH (m:=n) (n:=d) (by rw [hB];omega) (by rw [mk_one d0 d1];simp)
       have dn : n * d ≤ y:=by rw [Nat.mul_comm];exact d2
       have lnd:=Y4 (n * d) (by omega)
       have ps:=Jk h.qE dn (by omega) (by omega)
       rw [hB,mk_one d0 d1] at pm
       have gp:=jU hPb i
       have y2 : y - n * d + ((P.getD i 0).toNat + d) * n = t:=by rw [Nat.add_mul,Nat.mul_comm d n];omega
       have gp2 : P.getD i 0 + d < 1000000000:=by
        have : ((P.getD i 0).toNat + d) * n < 1000000000 * n:=by rw [Nat.mul_comm 1000000000];omega
        have:=Nat.lt_of_mul_lt_mul_right this
        omega
       have d0' : 0 < n * d:=Nat.mul_pos hn d0
       have k1:=DK (l:=P) (i:=i) (d:=P.getD i 0 + d) (by omega) gp2 hPb
       have k2 : ∀ j,j < i → (P.set i (P.getD i 0 + d)).getD j 0 = 0:=by
        intro j hj
        rw [iG,if_neg (by omega)]
        exact hzP j hj
       have k3 : (P.set i (P.getD i 0 + d)).drop (i + 1) = Q.drop (i + 1):=by rw [List.drop_set_of_lt (by omega),hd]
       have k4 : ((P.set i (P.getD i 0 + d)).getD i 0) = P.getD i 0 + d:=by rw [iG,if_pos ⟨rfl,by omega⟩]
       have k5 : y - n * d + ((P.set i (P.getD i 0 + d)).getD i 0).toNat * n = t:=by
        rw [k4,show (P.getD i 0 + (d : Int)).toNat = (P.getD i 0).toNat + d by omega];exact y2
       have k6 : y - n * d < y:=by omega
       clear y2 hy htn ht hvi k4 hzP hd d2 lx Y4 hv hz hx
       refine ah pg ?_
       refine ew ?_
       rw [show [[V.int IntKind.i64 (d : Int)]] = aH [(d : Int)] from rfl]
       refine ew ?_
       refine ah pm ?_
       refine ew ?_
       refine ah ps ?_
       refine yS @e1 @hP ?_
       exact ⟨(P.set i (P.getD i 0 + d),y - n * d),k6,⟨by simp [hP],k1,k2,k3,k5⟩,by exact adz⟩
      ·have hny : y < n:=by
        have:=@lQ y n
        omega
       have k1:=fQ P i
       rw [hd] at k1
       have k2 : val (A.drop i) = val (P.drop i) * n + y:=by
        rw [hvi,hv,k1,Nat.add_mul,Nat.mul_add,← Nat.mul_assoc];omega
       exact ⟨(i,P,y),by dsimp only;omega,⟨by dsimp only;omega,hP,hPb,hzP,hny,k2⟩,by (refine aJ ?_;exact zy)⟩
theorem Oz {σ : Store} {b : Bool} {v : V} {l : List Int} {os : List Nat} (h : bI σ v (ints l) os) : bI σ (.agg [.bool b,v]) (.agg [.bool b,ints l]) os:=uJ (qO (by simpa using tY h kG))
theorem MZ {σ : Store} {b : Bool} {v w : V} {l m : List Int} {o1 o2 : List Nat} (h : bI σ v (ints l) o1) (k : bI σ w (ints m) o2) : bI σ (.agg [.bool b,v,w]) (.agg [.bool b,ints l,ints m]) (o1 ++ o2) :=
 uJ (qO (tY h (by simpa using tY k kG)))
theorem akt {σ : Store} : bI σ (aQ R0) (aQ R0) []:=MZ (o1:=[]) (o2:=[]) jC jC
theorem BZ {σ : Store} : Fin σ (.agg [.bool false,.ak,.ak]) (aQ R0):=⟨_,[],iZ,akt,.nil⟩
theorem bI.aon {σ : Store} {v : V} {l : List Int} {os : List Nat} (h : bI σ v (ints l) os) : lenOf σ v = some l.length:=by
 rcases h.yN with ⟨rfl,rfl,_⟩ | ⟨o,rfl,h1,_⟩
 ·rfl
 ·simp [lenOf,h1]
theorem FP {T : Tb} (h : eu T) {neg : Bool} {σ : Store} {v : V} {os : List Nat} (h0 : bI σ v (ints []) os) :
  ∃ σ',Run T (.fn 68 [.bool neg,v] σ) (.fn (.agg [.bool false,.ak]) σ') ∧ (∀ q,q < σ.length → aj σ' q = aj σ q) ∧ σ.length ≤ σ'.length:=by
 have : ∃ r σ',Run T (.fn 68 [.bool neg,v] σ) (.fn r σ') ∧ (r = .agg [.bool false,.ak] ∧ (∀ q,q < σ.length → aj σ' q = aj σ q) ∧ σ.length ≤ σ'.length):=by
  rcases h0.yN with ⟨_,rfl,_⟩ | ⟨o,rfl,h1,_⟩
  ·have hz : ((0 : Nat) : Int) = 0:=rfl
   refine run_end nR h.hT ?_
   simp only [jG,Lz,St.enter,List.length_cons,List.length_nil,Nat.zero_add]
   refine ew ?_
   refine CQ @hz ?_
   exact ⟨fun q hq=>aI hq,by omega⟩
  ·have hlt:=aG h1
   have hz : ((0 : Nat) : Int) = 0:=rfl
   simp only [List.length_nil]
   refine run_end nR h.hT ?_
   simp only [jG,Lz,St.enter,List.length_cons,List.length_nil,Nat.zero_add]
   refine ew ?_
   refine IG @h1 @hlt @hz ?_
   exact ⟨fun q hq=>aI hq,by omega⟩
 obtain ⟨r,σ',h1,rfl,h2,h3⟩:=this
 exact ⟨σ',h1,h2,h3⟩
theorem Vx {T : Tb} (h : eu T) {as : List Src} {dst : Option Nat} {env : Nat → V} {σ : Store} {kp bs : Nat} {rs ms : List Nat} {k : St → Prop} {neg : Bool} {n o : Nat}
  (h0 : aj σ o = some ⟨1,aH (mk n)⟩) (hn : 0 < n) (ha : (as.map fun s=>s.ev env) = [.bool neg,.bF o 0 (mk n).length]) (hl : (mk n).length ≤ 60)
  (hk : ∀ σ2 : Store,(∀ q,q < σ.length → aj σ2 q = aj σ q) → σ.length ≤ σ2.length → k ⟨dS env dst (.agg [.bool neg,.bF o 0 (mk n).length]),σ2,kp,bs,rs,ms⟩) : Ib T 68 as dst ⟨env,σ,kp,bs,rs,ms⟩ k:=by
 have e1 : zA [o] σ = [some ⟨1,aH (mk n)⟩]:=by simp [zA,h0,KN]
 obtain ⟨σ',hr,hold,hlen⟩:=Oy h (neg:=neg) (n:=n) (σ:=zA [o] σ) (o:=0) (by rw [e1];rfl) hn hl
 refine KO (ρ:=[o]) (by simp) (fun q hq=>⟨_,by simp at hq;subst hq;exact h0⟩) ?_ hr (fun q hq=>hold q (by rw [e1];exact hq)) ?_
 ·have:=congrArg (List.map (aP (place [o]))) ha
  rw [List.map_map] at this
  refine Eq.trans this ?_
  simp [aP,place]
 ·intro σ2 h1 h2
  have:=hk σ2 h1 h2
  simpa [aP,aP.Ad,back] using this
theorem aaV {T : Tb} (h : eu T) {as : List Src} {dst : Option Nat} {env : Nat → V} {σ : Store} {kp bs : Nat} {rs ms : List Nat} {k : St → Prop} {neg : Bool} {v : V} {os : List Nat}
  (h0 : bI σ v (ints []) os) (ha : (as.map fun s=>s.ev env) = [.bool neg,v])
  (hk : ∀ σ2 : Store,(∀ q,q < σ.length → aj σ2 q = aj σ q) → σ.length ≤ σ2.length → k ⟨dS env dst (.agg [.bool false,.ak]),σ2,kp,bs,rs,ms⟩) : Ib T 68 as dst ⟨env,σ,kp,bs,rs,ms⟩ k:=by
 rcases h0.yN with ⟨_,rfl,_⟩ | ⟨o,rfl,h1,_⟩
 ·obtain ⟨σ',hr,hold,hlen⟩:=FP h (neg:=neg) (σ:=zA [] σ) (v:=.sl 1 []) (os:=[]) jC
  refine KO (ρ:=[]) (by simp) (by simp) ?_ hr (fun q hq=>by simp at hq) ?_
  ·have:=congrArg (List.map (aP (place []))) ha
   rw [List.map_map] at this
   refine Eq.trans this ?_
   simp [aP,place]
  ·intro σ2 h1 h2
   have:=hk σ2 h1 h2
   simpa [aP,aP.Ad,back] using this
 ·have e1 : zA [o] σ = [some ⟨1,aH []⟩]:=by simp [zA,h1,KN]
  obtain ⟨σ',hr,hold,hlen⟩:=FP h (neg:=neg) (σ:=zA [o] σ) (v:=.bF 0 0 ([] : List Int).length) (os:=[0]) (Jv (by rw [e1];rfl))
  refine KO (ρ:=[o]) (by simp) (fun q hq=>⟨_,by simp at hq;subst hq;exact h1⟩) ?_ hr (fun q hq=>hold q (by rw [e1];exact hq)) ?_
  ·have:=congrArg (List.map (aP (place [o]))) ha
   rw [List.map_map] at this
   refine Eq.trans this ?_
   simp [aP,place]
  ·intro σ2 h1 h2
   have:=hk σ2 h1 h2
   simpa [aP,aP.Ad,back] using this
theorem OA {T : Tb} (h : lC T) {n d : Int} (ln : (mk n.natAbs).length ≤ 60:=by exact gU) (ld : (mk d.natAbs).length ≤ 60:=by exact gU) :
  PO T 144 [LG (bi n),LG (bi d)] (aQ (Q.raw (Io n d))):=by
 by_cases hd : d = 0
 ·subst hd
  have e : Io n 0 = none:=rfl
  rw [e]
  refine dw nR h.hT ?_
  simp only [jI,Lz,St.enter,List.length_cons,List.length_nil,Nat.zero_add]
  refine ew ?_
  have c1 : (((mk (0 : Int).natAbs).length : Nat) : Int) = 0:=by
   show (((mk 0).length : Nat) : Int) = 0
   rw [SC];rfl
  refine CQ @c1 ?_
  exact BZ
 ·rw [SG hd]
  have hg : 0 < Nat.gcd n.natAbs d.natAbs:=Nat.gcd_pos_of_pos_right _ (by omega)
  have cg:=Oc h.xY (m:=n.natAbs) (n:=d.natAbs) (by omega) (by omega)
  have lg : (mk (Nat.gcd n.natAbs d.natAbs)).length ≤ 60:=Nat.le_trans (DU (Nat.le_of_dvd (by omega) (Nat.gcd_dvd_right _ _))) ld
  have l1:=KF n.natAbs (Nat.gcd n.natAbs d.natAbs)
  have l2:=KF d.natAbs (Nat.gcd n.natAbs d.natAbs)
  have cn:=QZ h.nC (m:=n.natAbs) hg (by omega) (by omega)
  have cd:=QZ h.nC (m:=d.natAbs) hg (by omega) (by omega)
  have c1 : ¬ (((mk d.natAbs).length : Nat) : Int) = 0:=by have:=@aaL d.natAbs;omega
  clear hg lg
  generalize n.natAbs / Nat.gcd n.natAbs d.natAbs = u at *
  generalize d.natAbs / Nat.gcd n.natAbs d.natAbs = v at *
  generalize n.natAbs % Nat.gcd n.natAbs d.natAbs = u2 at *
  generalize d.natAbs % Nat.gcd n.natAbs d.natAbs = v2 at *
  refine dw (fun x d=>x == 138 || x == 68) h.hT ?_
  simp only [jI,Lz,St.enter,List.length_cons,List.length_nil,Nat.zero_add]
  refine ew ?_
  refine CQ @c1 ?_
  refine ah cg ?_
  refine ew ?_
  refine QX cn (by (refine ew ?_;try with_reducible exact True.intro)) (by (refine ew ?_;try with_reducible exact True.intro)) ?_
  intro vs q1 o1 g
  obtain ⟨x,x2,rfl,hx2,g⟩:=g.of1
  have B0:=g.at 0 (by simp) rfl
  have B1:=g.at 1 (by simp) rfl
  have B2:=g.at 2 (by simp) rfl
  have lq : 3 ≤ q1.length:=g.len
  have f1 : ∀ o ∈ o1,3 ≤ o:=g.fresh
  have k1:=g.ow
  have n1:=g.nd
  clear g
  refine MC @B0 @B1 @B2 @lq ?_
  refine QX cd (by (refine ew ?_;try with_reducible exact True.intro)) (by (refine ew ?_;try with_reducible exact True.intro)) ?_
  intro vs q2 o2 g
  obtain ⟨y,y2,rfl,hy2,g⟩:=g.of1
  replace B0:=(g.old 0 (by omega)).trans B0
  replace B1:=(g.old 1 (by omega)).trans B1
  replace B2:=(g.old 2 (by omega)).trans B2
  have lq2:=g.len
  have asf:=k1.lt
  replace k1:=k1.frame (σ':=q2) fun o ho=>g.old o (k1.lt o ho)
  have k2:=g.ow
  have n2:=g.nd
  have dj : ∀ o ∈ o1,∀ p ∈ o2,o ≠ p:=fun o ho p hp e=>by
   have:=asf o ho
   have:=g.fresh p hp
   omega
  have f2 : ∀ o ∈ o2,3 ≤ o:=fun o ho=>by have:=g.fresh o ho;omega
  replace lq : 3 ≤ q2.length:=by omega
  clear g lq2
  have e1:=k1.aon
  have e2:=k2.aon
  have lfy:=k2.leaf rfl
  have fcy:=Vo lfy
  have ash : (o1 ++ o2).Nodup:=by
   rw [List.nodup_append];exact ⟨n1,n2,dj⟩
  by_cases c2 : (24 : Int) < ((mk u).length : Nat)
  ·refine WL @B0 @B1 @B2 @lq @e1 @e2 @c2 ?_
   rw [if_neg (by omega)]
   exact BZ
  by_cases c3 : (24 : Int) < ((mk v).length : Nat)
  ·refine ew8 @B0 @B1 @B2 @lq @e1 @e2 @c2 @c3 ?_
   rw [if_neg (by omega)]
   exact BZ
  refine ew8 @B0 @B1 @B2 @lq @e1 @e2 @c2 @c3 ?_
  rw [if_pos (by omega),← Jq]
  have key:=Dl (!decide (decide (n < 0) = decide (d < 0))) u
  by_cases hu : u = 0
  ·subst hu
   rw [mk_zero] at k1
   obtain ⟨q3,hr,hold,hlen⟩:=FP h.bg (neg:=!decide (decide (n < 0) = decide (d < 0))) k1
   refine MV hr rfl hlen (by simp) ?_
   replace B2:=(hold 2 (by omega)).trans B2
   have lq3 : 3 ≤ q3.length:=by omega
   refine MC @B2 @lq3 @lfy @fcy ?_
   rw [Jp,mk_zero]
   have k2':=k2.frame (σ':=q3.set 2 (some ⟨3,[[.bool false,.ak,y]]⟩)) fun o ho=>by
    have:=f2 o ho
    rw [aB (by omega),hold o (k2.lt o ho)]
   refine ⟨.agg [.bool false,.sl 1 [],y],o2,?_,MZ (o1:=[]) jC k2',n2⟩
   simp only [Fj,KE,KD,Dh,fP,true_and,and_true]
   exact au _
  ·rcases k1.yN with ⟨h1,_,_⟩ | ⟨o,rfl,h1,_⟩
   ·have:=y7.2 (Nat.pos_of_ne_zero hu)
    rw [h1] at this;simp at this
   ·obtain ⟨q3,hr,hold,hlen⟩:=Oy h.bg (neg:=!decide (decide (n < 0) = decide (d < 0))) h1 (Nat.pos_of_ne_zero hu) (by omega)
    refine MV hr rfl hlen (by simp) ?_
    replace B2:=(hold 2 (by omega)).trans B2
    have lq3 : 3 ≤ q3.length:=by omega
    refine MC @B2 @lq3 @lfy @fcy ?_
    have hb:=congrArg Bi.neg (ac7 (!decide (decide (n < 0) = decide (d < 0))) u (Nat.pos_of_ne_zero hu))
    have hb : decide (sg (!decide (decide (n < 0) = decide (d < 0))) u < 0) = !decide (decide (n < 0) = decide (d < 0)):=hb
    rw [hb]
    generalize (!decide (decide (n < 0) = decide (d < 0))) = ng
    have fr : ∀ p,p ∈ o1 ++ o2 → aj (q3.set 2 (some ⟨3,[[.bool ng,.bF o 0 (mk u).length,y]]⟩)) p = aj q2 p:=fun p hp=>by
     have h3 : 3 ≤ p ∧ p < q2.length:=by
      rcases List.mem_append.1 hp with hp | hp
      ·exact ⟨f1 p hp,k1.lt p hp⟩
      ·exact ⟨f2 p hp,k2.lt p hp⟩
     rw [aB (by omega),hold p h3.2]
    exact oU (MZ (k1.frame fun p hp=>fr p (List.mem_append_left _ hp)) (k2.frame fun p hp=>fr p (List.mem_append_right _ hp))) ash
theorem aaW {T : Tb} (h : eH T) {a b : Q} (ha : a.ok:=by assumption) (hb : b.ok:=by assumption) : PO T 131 [aQ (Q.raw a),aQ (Q.raw b)] (aQ (Q.raw (EI a b))):=by
 cases a with
 |
  none =>
  refine dw (fun x d=>x == 144) h.hT ?_
  simp only [iH,Lz,St.enter,List.length_cons,List.length_nil,Nat.zero_add]
  refine ew ?_
  refine ah (rM h.aK) ?_
  refine ew ?_
  exact BZ
 |
  some q=>cases b with
  |
   none =>
   refine dw (fun x d=>x == 144) h.hT ?_
   simp only [iH,Lz,St.enter,List.length_cons,List.length_nil,Nat.zero_add]
   refine ew ?_
   refine ah (kC h.aK) ?_
   refine ew ?_
   refine ah (rM h.aK) ?_
   refine ew ?_
   exact BZ
  |
   some s =>
   obtain ⟨l1,l2⟩:=EJ ha
   obtain ⟨l3,l4⟩:=EJ hb
   have e : EI (some q) (some s) = Io (q.num * s.den + s.num * q.den) (q.den * s.den):=(Sv q s).symm
   rw [e]
   have t1:=iY q.num s.den
   have t2:=iY s.num q.den
   have t3:=iY q.den s.den
   have t5:=iY q.num s.num
   have t4:=DV (q.num * s.den) (s.num * q.den)
   have n1 : (mk (q.den : Int).natAbs).length ≤ 24:=by rw [Int.natAbs_natCast];exact l2
   have n2 : (mk (s.den : Int).natAbs).length ≤ 24:=by rw [Int.natAbs_natCast];exact l4
   refine dw (fun x d=>x == 144) h.hT ?_
   simp only [iH,Lz,St.enter,List.length_cons,List.length_nil,Nat.zero_add]
   refine ew ?_
   refine ah (kC h.aK) ?_
   refine ew ?_
   refine ah (kC h.aK) ?_
   refine ew ?_
   refine ah (uz h.bV (q:=s)) ?_
   refine ew ?_
   refine ah (mJ h.dh (x:=q.num) (y:=s.den) (by omega) (by omega)) ?_
   refine ew ?_
   refine ah (uz h.bV (q:=q)) ?_
   refine ew ?_
   refine ah (mJ h.dh (x:=s.num) (y:=q.den) (by omega) (by omega)) ?_
   refine ew ?_
   refine ah (U9 h.He (x:=q.num * s.den) (y:=s.num * q.den) (by omega) (by omega)) ?_
   refine ew ?_
   refine ⟨by unfold lU;decide +kernel,?_⟩
   refine ah (uz h.bV (q:=q)) ?_
   refine ew ?_
   refine ah (uz h.bV (q:=s)) ?_
   refine ew ?_
   refine ah (mJ h.dh (x:=q.den) (y:=s.den) (by omega) (by omega)) ?_
   refine ew ?_
   refine jD (OA h.jJ (n:=q.num * s.den + s.num * q.den) (d:=q.den * s.den) (by omega) (by omega)) (by (refine ew ?_;try with_reducible exact True.intro)) (by (refine ew ?_;try with_reducible exact True.intro)) ?_
   intro v q os g
   have g0:=g
   obtain ⟨a0,d0,_,_,rfl,_,k1,k2⟩:=g.ow.Gq
   have B2:=g0.at 2 (by simp) rfl
   have lq : 3 ≤ q.length:=by have:=g0.len;simp at this;omega
   have la:=k1.leaf rfl
   have ld:=k2.leaf rfl
   have Q5:=And.intro la ld
   have fc:=fun b k=>pO (cs:=[.bool b,a0,d0]) (by simp [la,ld,show ∀ b,V.leaf (.bool b) = true from fun _=>rfl]) k
   refine MC @B2 @lq @Q5 @fc ?_
   refine ⟨by unfold lU;decide +kernel,?_⟩
   refine MC @B2 @lq @Q5 @fc ?_
   exact g0.XR (by simp)
theorem aaX {T : Tb} (h : iJ T) {a b : Q} (ha : a.ok:=by assumption) (hb : b.ok:=by assumption) : PO T 157 [aQ (Q.raw a),aQ (Q.raw b)] (aQ (Q.raw (KC a b))):=by
 cases a with
 |
  none =>
  refine dw (fun x d=>x == 144) h.hT ?_
  simp only [iI,Lz,St.enter,List.length_cons,List.length_nil,Nat.zero_add]
  refine ew ?_
  refine ah (rM h.aK) ?_
  refine ew ?_
  exact BZ
 |
  some q=>cases b with
  |
   none =>
   refine dw (fun x d=>x == 144) h.hT ?_
   simp only [iI,Lz,St.enter,List.length_cons,List.length_nil,Nat.zero_add]
   refine ew ?_
   refine ah (kC h.aK) ?_
   refine ew ?_
   refine ah (rM h.aK) ?_
   refine ew ?_
   exact BZ
  |
   some s =>
   obtain ⟨l1,l2⟩:=EJ ha
   obtain ⟨l3,l4⟩:=EJ hb
   have e : KC (some q) (some s) = Io (q.num * s.num) (q.den * s.den):=(Sz q s).symm
   rw [e]
   have t1:=iY q.num s.den
   have t2:=iY s.num q.den
   have t3:=iY q.den s.den
   have t5:=iY q.num s.num
   have t4:=DV (q.num * s.den) (s.num * q.den)
   have n1 : (mk (q.den : Int).natAbs).length ≤ 24:=by rw [Int.natAbs_natCast];exact l2
   have n2 : (mk (s.den : Int).natAbs).length ≤ 24:=by rw [Int.natAbs_natCast];exact l4
   refine dw (fun x d=>x == 144) h.hT ?_
   simp only [iI,Lz,St.enter,List.length_cons,List.length_nil,Nat.zero_add]
   refine ew ?_
   refine ah (kC h.aK) ?_
   refine ew ?_
   refine ah (kC h.aK) ?_
   refine ew ?_
   refine ah (mJ h.dh (x:=q.num) (y:=s.num) (by omega) (by omega)) ?_
   refine ew ?_
   refine ah (uz h.bV (q:=q)) ?_
   refine ew ?_
   refine ah (uz h.bV (q:=s)) ?_
   refine ew ?_
   refine ah (mJ h.dh (x:=q.den) (y:=s.den) (by omega) (by omega)) ?_
   refine ew ?_
   refine jD (OA h.jJ (n:=q.num * s.num) (d:=q.den * s.den) (by omega) (by omega)) (by (refine ew ?_;try with_reducible exact True.intro)) (by (refine ew ?_;try with_reducible exact True.intro)) ?_
   intro v q os g
   have g0:=g
   obtain ⟨a0,d0,_,_,rfl,_,k1,k2⟩:=g.ow.Gq
   have B2:=g0.at 2 (by simp) rfl
   have lq : 3 ≤ q.length:=by have:=g0.len;simp at this;omega
   have la:=k1.leaf rfl
   have ld:=k2.leaf rfl
   have Q5:=And.intro la ld
   have fc:=fun b k=>pO (cs:=[.bool b,a0,d0]) (by simp [la,ld,show ∀ b,V.leaf (.bool b) = true from fun _=>rfl]) k
   refine MC @B2 @lq @Q5 @fc ?_
   refine ⟨by unfold lU;decide +kernel,?_⟩
   refine MC @B2 @lq @Q5 @fc ?_
   exact g0.XR (by simp)
theorem D5 {T : Tb} (h : eH T) {r s : R} (hr : r.cn:=by exact Qd) (hs : s.cn:=by exact Qd) : PO T 131 [aQ r,aQ s] (aQ (dZ r s)):=by
 have:=aaW h (a:=r.q) (b:=s.q) (Fb r) (Fb s)
 rw [hr,hs] at this;exact this
theorem XW {T : Tb} (h : iJ T) {r s : R} (hr : r.cn:=by exact Qd) (hs : s.cn:=by exact Qd) : PO T 157 [aQ r,aQ s] (aQ (mulR r s)):=by
 have:=aaX h (a:=r.q) (b:=s.q) (Fb r) (Fb s)
 rw [hr,hs] at this;exact this
theorem Vy {T : Tb} (h : rU T) {n : Int} (hn : -1000000000000000000 < n ∧ n < 1000000000000000000:=by exact gU) : PO T 54 [iv n] (LG (bi n)):=by
 have hl : (mk n.natAbs).length ≤ 2:=FK (by omega)
 by_cases hneg : n < 0
 ·have c1:=DZ h.bP (n:=-(n + 1) + 1) (by omega)
  rw [show (-(n + 1) + 1).toNat = n.natAbs by omega] at c1
  have e : bi n = ⟨true,mk n.natAbs⟩:=by unfold bi;rw [decide_eq_true hneg]
  rw [e]
  refine dw (fun x d=>x == 69 || x == 68) h.hT ?_
  simp only [jg,Lz,St.enter,List.length_cons,List.length_nil,Nat.zero_add]
  refine ew ?_
  refine CQ @hneg ?_
  rw [show (0 : Int) - (n + 1) + 1 = -(n + 1) + 1 by omega]
  refine iU c1 (by (refine ew ?_;try with_reducible exact True.intro)) ?_
  intro v q1 o1 g
  have B0:=g.at 0 (by simp) rfl
  have lq : 1 ≤ q1.length:=g.len
  have f1 : ∀ o ∈ o1,1 ≤ o:=g.fresh
  have k1:=g.ow
  have n1:=g.nd
  clear g
  refine yS @B0 @lq ?_
  rcases k1.yN with ⟨h1,_,_⟩ | ⟨o,rfl,h1,_⟩
  ·have:=y7.2 (show 0 < n.natAbs by omega)
   rw [h1] at this;simp at this
  refine Vx h.bg (neg:=true) h1 (by omega) rfl (by omega) ?_
  intro q3 hold hlen
  replace B0:=(hold 0 (by omega)).trans B0
  have lq3 : 1 ≤ q3.length:=by omega
  refine yS @B0 @lq3 ?_
  refine oU (Oz (k1.frame fun p hp=>?_)) n1
  have:=f1 p hp
  rw [aB (by omega),hold p (k1.lt p hp)]
 ·have c1:=DZ h.bP (n:=n) (by omega)
  rw [show n.toNat = n.natAbs by omega] at c1
  have e : bi n = ⟨false,mk n.natAbs⟩:=by unfold bi;rw [decide_eq_false hneg]
  rw [e]
  refine dw (fun x d=>x == 69 || x == 68) h.hT ?_
  simp only [jg,Lz,St.enter,List.length_cons,List.length_nil,Nat.zero_add]
  refine ew ?_
  refine CQ @hneg ?_
  refine iU c1 (by (refine ew ?_;try with_reducible exact True.intro)) ?_
  intro v q1 o1 g
  have B0:=g.at 0 (by simp) rfl
  have lq : 1 ≤ q1.length:=g.len
  have f1 : ∀ o ∈ o1,1 ≤ o:=g.fresh
  have k1:=g.ow
  have n1:=g.nd
  clear g
  refine yS @B0 @lq ?_
  by_cases h0 : n.natAbs = 0
  ·rw [h0,mk_zero] at k1 ⊢
   refine aaV h.bg (neg:=false) k1 rfl ?_
   intro q3 hold hlen
   replace B0:=(hold 0 (by omega)).trans B0
   have lq3 : 1 ≤ q3.length:=by omega
   refine yS @B0 @lq3 ?_
   exact ⟨.agg [.bool false,.sl 1 []],[],SE,Oz (jC),.nil⟩
  rcases k1.yN with ⟨h1,_,_⟩ | ⟨o,rfl,h1,_⟩
  ·have:=y7.2 (show 0 < n.natAbs by omega)
   rw [h1] at this;simp at this
  refine Vx h.bg (neg:=false) h1 (by omega) rfl (by omega) ?_
  intro q3 hold hlen
  replace B0:=(hold 0 (by omega)).trans B0
  have lq3 : 1 ≤ q3.length:=by omega
  refine yS @B0 @lq3 ?_
  refine oU (Oz (k1.frame fun p hp=>?_)) n1
  have:=f1 p hp
  rw [aB (by omega),hold p (k1.lt p hp)]
theorem Cb {T : Tb} (h : fB T) {n : Int} (hn : -1000000000000000000 < n ∧ n < 1000000000000000000:=by exact gU) : PO T 39 [iv n] (aQ (bQ n)):=by
 rw [Ot]
 refine dw (fun x d=>x == 54) h.hT ?_
 simp only [kF,Lz,St.enter,List.length_cons,List.length_nil,Nat.zero_add]
 refine ew ?_
 refine iU (Vy h.Ez hn) (by (refine ew ?_;try with_reducible exact True.intro)) ?_
 intro v q1 o1 g
 obtain ⟨v1,rfl,k1⟩:=g.ow.akn
 have B0:=g.at 0 (by simp) rfl
 have B1:=g.at 1 (by simp) rfl
 have lq : 2 ≤ q1.length:=g.len
 have f1 : ∀ o ∈ o1,2 ≤ o:=g.fresh
 have n1:=g.nd
 have la:=k1.leaf rfl
 have fc:=fun b k=>pO (cs:=[.bool b,v1]) (by simp [la,show ∀ b,V.leaf (.bool b) = true from fun _=>rfl]) k
 clear g
 refine JZ @B0 @B1 @lq @la @fc ?_
 refine oU (MZ (o1:=o1) (o2:=[1]) (k1.frame fun p hp=>?_) (Jv (l:=[1]) ?_)) ?_
 ·have:=f1 p hp
  rw [aB (by omega),aB (by omega)]
 ·rw [aB (by omega),aY (by omega)];rfl
 ·rw [List.nodup_append]
  refine ⟨n1,by simp,fun a ha b hb e=>?_⟩
  have:=f1 a ha
  simp at hb
  omega
theorem Qe {α : Type} [Inhabited α] (cl : α → List V) (l : List α) {i : Nat} (h : i < l.length) : (l.take (i + 1)).map cl = (l.take i).map cl ++ [cl (l.getD i default)]:=by
 rw [List.take_add_one,List.getElem?_eq_getElem h,List.getD_eq_getElem?_getD,List.getElem?_eq_getElem h,List.map_append];rfl
theorem qQ {σ : Store} {cs : List V} (h : ∀ v ∈ cs,v.still = true) : resolve σ FD (.agg cs) = some (.agg cs):=by
 show (cs.mapM (resolve σ 11)).map V.agg = _
 rw [sN (n:=10) h];rfl
def rV : Fn:=⟨2,26,[.tmp 4],(sr [oN 4 mF] (.seq (sr [oW 7 0,oN 8 (ln 7),oW 9 1,oN 10 (ln 9),oN 11 (bt .neq 8 10)] (cd 11 (sr [oN 4 mF] .ret) .skip)) (.seq (sr [oW 12 0,oN 13 (ln 12),oN 14 (.iw (cI 0))] (.block 0 (.loop (sr [oN 15 (bt .lss 14 13)] (.seq (cd 15 .skip (.exit 0)) (.seq (.block 1 (sr [oW 16 14,oN 17 (ix 1 12 14),oN 18 (lF 1 17),oW 5 16,oW 6 18] (sr [oW 19 6,oW 20 1,oW 21 5,oN 22 (ix 1 20 21),oN 23 (lF 1 22),oN 24 (bt .neq 19 23)] (cd 24 (sr [oN 4 mF] .ret) .skip)))) (rg [oN 25 (bc .add 14 1),oW 14 25]))))))) (sr [oN 4 mT] .ret))))⟩
structure zn (T : Tb) : Prop where
 hT : T 52 = some rV
def rZ : Fn:=⟨2,28,[.tmp 4],(.seq (rf 2 [oN 2 (.box (.t 0)),oK 3 1 (.box (.t 1)),oK 4 2 mF]) (sr [oN 5 (fd 0 2),oN 6 (fd 0 5),oN 7 (lF 1 6),oN 8 (fd 0 3),oN 9 (fd 0 8),oN 10 (lF 1 9),oN 11 (.beq false (.t 7) (.t 10)),oW 12 11,oG 12 true 13 (fd 0 2),oG 12 true 14 (fd 1 13),oG 12 true 15 (lF 1 14),oG 12 true 16 (fd 0 3),oG 12 true 17 (fd 1 16),oG 12 true 18 (lF 1 17),oG 12 true 19 (cl 52 [15,18]),oN 20 (.pick (.t 12) (.t 19) (.c (.bool false))),oW 21 20,oG 21 true 22 (fd 2 2),oG 21 true 23 (lF 1 22),oG 21 true 24 (fd 2 3),oG 21 true 25 (lF 1 24),oG 21 true 26 (cl 52 [23,25]),oN 27 (.pick (.t 21) (.t 26) (.c (.bool false))),oW 4 27] .ret))⟩
structure sD (T : Tb) : Prop where
 hT : T 32 = some rZ
 MG : zn T
theorem XY {T : Tb} (h : zn T) {a b : List Int} (hl : a.length ≤ 9223372036854775807:=by exact gU) (hb : b.length ≤ 9223372036854775807:=by exact gU) : PF T 52 [ints a,ints b] (.bool (decide (a = b))):=by
 refine aV nR h.hT ?_
 simp only [rV,Lz]
 refine ev ?_
 refine aN (fun h1=>?_) fun h1=>?_ <;> (refine ev1 @h1 ?_;try with_reducible exact True.intro)
 ·have h1 : a.length = b.length:=by omega
  refine aS (fun _ _=>false) (α:=Nat) (fun i=>⟨dX [ints a,ints b,.any,.any,.any,.any,.any,.any,.any,.any,.any,.any,ints a,iv (a.length : Nat),iv (i : Nat)],[],0,0,[],[]⟩) (fun i=>i ≤ a.length ∧ ∀ j,j < i → a.getD j 0 = b.getD j 0) (fun i=>a.length - i) rfl 0 ?_ ?_ ?_
  ·exact ⟨by omega,by intro j hj;omega⟩
  ·(refine aJ ?_;exact Et)
  ·rintro i ⟨hi,hj⟩
   refine ev ?_
   refine aN (fun h2=>?_) fun h2=>?_ <;> (refine ev1 @h2 ?_;try with_reducible exact True.intro)
   ·refine aN (fun h3=>?_) fun h3=>?_ <;> (refine ev1 @h3 ?_;try with_reducible exact True.intro)
    ·refine ⟨i + 1,by omega,⟨by omega,fun j hj'=>?_⟩,by (refine aJ ?_;exact Et)⟩
     by_cases e : j = i
     ·subst e;exact h3
     ·exact hj j (by omega)
    ·have : ¬ a = b:=fun e=>h3 (by rw [e])
     simp [this]
   ·have : a = b:=aaA h1 fun j h=>hj j (by omega)
    simp [this]
 ·have : ¬ a = b:=fun e=>h1 (by rw [e])
  simp [this]
theorem AB {T : Tb} (h : sD T) {y z : R} (hy : y.wf:=by exact gU) (hz : z.wf:=by exact gU) : PF T 32 [aQ y,aQ z] (.bool (decide (y = z))):=by
 obtain ⟨w1,w2⟩:=hy
 obtain ⟨w3,w4⟩:=hz
 refine aV nR h.hT ?_
 simp only [rZ,Lz]
 refine ev ?_
 repeat' (first | ((refine aN (fun hb=>?_) fun hb=>?_) <;> (try (refine ev1 @hb ?_;try with_reducible exact True.intro))) | ((refine ah (XY h.MG) ?_) <;> (try (refine ev ?_;try with_reducible exact True.intro))))
 all_goals (cases y;cases z;simp_all)
def R.ct (x : R) : Nat:=1 + x.mag.length + x.den.length
def Pt.ct (x : Pt) : Nat:=1 + x.x.mag.length + x.x.den.length + 1 + x.y.mag.length + x.y.den.length
def Lk.ct (x : Lk) : Nat:=1 + 1 + 1 + x.w.mag.length + x.w.den.length + 1 + x.dx.mag.length + x.dx.den.length + 1 + x.dy.mag.length + x.dy.den.length
def Pa.ct (x : Pa) : Nat:=1 + 1 + x.share.mag.length + x.share.den.length + 1 + x.dx.mag.length + x.dx.den.length + 1 + x.dy.mag.length + x.dy.den.length
def Cd.ct (x : Cd) : Nat:=1 + 1 + x.total.mag.length + x.total.den.length + cnL Pa.ct x.ps x.ps.length
def Tn.ct (x : Tn) : Nat:=1 + 1 + cnL Lk.ct x.own x.own.length + 1 + 1 + x.cond.total.mag.length + x.cond.total.den.length + cnL Pa.ct x.cond.ps x.cond.ps.length + cnL Lk.ct x.msgs x.msgs.length + 1 + x.DL.mag.length + x.DL.den.length
def Bi.Vh (x : Bi) : Nat:=x.mag.length
def R.Vh (x : R) : Nat:=Bi.Vh x.num + x.den.length
def Pt.Vh (x : Pt) : Nat:=x.x.Vh + x.y.Vh
def Lk.Vh (x : Lk) : Nat:=x.w.Vh + x.dx.Vh + x.dy.Vh
def Cd.Vh (x : Cd) : Nat:=x.total.Vh + cnL Pa.ct x.ps x.ps.length
theorem OB {α : Type} {f : α → Nat} {l : List α} {x : α} {n : Nat} (h : UZ f l ≤ n) (hx : x ∈ l) : f x ≤ n:=by
 have : ∀ l : List α,x ∈ l → f x ≤ (l.map f).sum:=by
  intro l
  induction l with
  | nil=>intro h;simp at h
  |
   cons y l ih =>
   intro h
   rw [List.map_cons,List.sum_cons]
   rcases List.mem_cons.1 h with rfl | h
   ·omega
   ·have:=ih h;omega
 have:=this l hx
 unfold UZ at h
 omega
end Go.Ml
end
