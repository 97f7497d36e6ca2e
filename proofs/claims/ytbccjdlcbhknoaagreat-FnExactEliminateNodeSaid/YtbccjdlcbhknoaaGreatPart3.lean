/- A small language for the functions of this claim, its soundness, contracts. -/
import Derived.Test.YtbccjdlcbhknoaaGreatPart2
set_option linter.unusedSimpArgs false
set_option linter.unusedVariables false
set_option maxRecDepth 100000
set_option maxHeartbeats 16000000
section
namespace Go.Ml
def F_impl_IsValidConditional : Fn:=⟨1,86,[.tmp 2],(.seq (.reg false 1 [oN 1 (.box (.t 0)),oK 2 1 (.mov (.c (.bool false)))]) (.seq (.seq (.reg false 0 [oN 6 (.fld 0 (.t 1)),oN 7 (.load 1 false (.t 6)),oN 8 (.bin .lss (.t 7) (cI 1)),oN 9 (oV 8),oG 9 false 10 (.fld 0 (.t 1)),oG 9 false 11 (.load 1 false (.t 10)),oG 9 false 12 (.bin .geq (.t 11) (cI 10)),oN 13 (.pick (.t 9) (.c (.bool true)) (.t 12)),oN 14 (oV 13),oG 14 false 15 (.fld 1 (.t 1)),oG 14 false 16 (.load 3 true (.t 15)),oG 14 false 17 (.call 101 [(.t 16)]),oG 14 false 18 (.bin .leq (.t 17) (cI 0)),oN 19 (.pick (.t 14) (.c (.bool true)) (.t 18)),oN 20 (oV 19),oG 20 false 21 (.fld 4 (.t 1)),oG 20 false 22 (.load 1 false (.t 21)),oG 20 false 23 (.len (.t 22)),oG 20 false 24 (.bin .eql (.t 23) (cI 0)),oN 25 (.pick (.t 20) (.c (.bool true)) (.t 24))]) (.cond (.t 25) (.seq (.reg false 0 [oN 2 (.mov (.c (.bool false)))]) .ret) .skip)) (.seq (.reg false 1 [oK 26 1 (.call 39 [(cI 0)]),oN 3 (.alloc [.bool false,.nils,.nils]),⟨none,none,1,.store 3 (.t 3) (.t 26),[]⟩]) (.seq (.seq (.reg false 0 [oN 27 (.fld 4 (.t 1)),oN 28 (.load 1 false (.t 27)),oN 29 (.len (.t 28)),oN 30 (.mov (cI 0))]) (.block 0 (.loop (.seq (.reg false 0 [oN 31 (.bin .lss (.t 30) (.t 29))]) (.seq (.cond (.t 31) .skip (.exit 0)) (.seq (.block 1 (.seq (.reg false 1 [oK 32 1 (oV 30),oK 33 1 (.idx 10 (.t 28) (.t 30)),oK 34 1 (.load 10 true (.t 33)),oN 5 (.alloc [.int .i64 0,.bool false,.nils,.nils,.bool false,.nils,.nils,.bool false,.nils,.nils]),oK 4 1 (oV 32),⟨none,none,1,.store 10 (.t 5) (.t 34),[]⟩]) (.seq (.seq (.reg true 0 [oN 35 (.fld 0 (.t 5)),oA 36 0 (.load 1 false (.t 35)) [0],oA 37 0 (.call 37 [(.t 36)]) [1],oA 38 0 (.un .not (.t 37)) [2],oA 39 0 (oV 38) [3,2],oH 39 false 40 0 (.fld 0 (.t 5)) [4],oH 39 false 41 0 (.load 1 false (.t 40)) [5,4],oH 39 false 42 0 (.fld 0 (.t 1)) [4],oH 39 false 43 0 (.load 1 false (.t 42)) [7,4],oH 39 false 44 0 (.bin .eql (.t 41) (.t 43)) [6,8,4],oA 45 0 (.pick (.t 39) (.c (.bool true)) (.t 44)) [4,9],oA 46 0 (oV 45) [10,4],oH 46 false 47 0 (oV 4) [11],oH 46 false 48 0 (.bin .gtr (.t 47) (cI 0)) [12,11],oH 46 false 49 0 (oV 48) [13,11,11],oH 49 true 50 0 (.fld 4 (.t 1)) [14],oH 49 true 51 0 (.load 1 false (.t 50)) [15,14],oH 49 true 52 0 (oV 4) [14],oH 49 true 53 0 (.bin .sub (.t 52) (cI 1)) [17,14],oH 49 true 54 0 (.idx 10 (.t 51) (.t 53)) [16,18,14],oH 49 true 55 0 (.fld 0 (.t 54)) [19,14],oH 49 true 56 0 (.load 1 false (.t 55)) [20,14],oH 49 true 57 0 (.fld 0 (.t 5)) [14],oH 49 true 58 0 (.load 1 false (.t 57)) [22,14],oH 49 true 59 0 (.bin .geq (.t 56) (.t 58)) [21,23,14],oH 46 false 60 0 (.pick (.t 49) (.t 59) (.c (.bool false))) [14,24,11],oA 61 0 (.pick (.t 46) (.c (.bool true)) (.t 60)) [11,25]]) (.cond (.t 61) (.seq (.reg false 0 [oN 2 (.mov (.c (.bool false)))]) .ret) .skip)) (.seq (.seq (.reg false 0 [oN 62 (.fld 1 (.t 5)),oN 63 (.load 3 true (.t 62)),oN 64 (.call 101 [(.t 63)]),oN 65 (.bin .leq (.t 64) (cI 0)),oN 66 (oV 65),oG 66 false 67 (.fld 4 (.t 5)),oG 66 false 68 (.load 3 true (.t 67)),oG 66 false 69 (.call 102 [(.t 68)]),oG 66 false 70 (.un .not (.t 69)),oN 71 (.pick (.t 66) (.c (.bool true)) (.t 70)),oN 72 (oV 71),oG 72 false 73 (.fld 7 (.t 5)),oG 72 false 74 (.load 3 true (.t 73)),oG 72 false 75 (.call 102 [(.t 74)]),oG 72 false 76 (.un .not (.t 75)),oN 77 (.pick (.t 72) (.c (.bool true)) (.t 76))]) (.cond (.t 77) (.seq (.reg false 0 [oN 2 (.mov (.c (.bool false)))]) .ret) .skip)) (.reg false 0 [oN 78 (.load 3 true (.t 3)),oN 79 (.fld 1 (.t 5)),oN 80 (.load 3 true (.t 79)),oN 81 (.call 131 [(.t 78),(.t 80)]),oS (.store 3 (.t 3) (.t 81))]))))) (.reg false 0 [oN 82 (.bin .add (.t 30) (cI 1)),oN 30 (oV 82)]))))))) (.seq (.reg true 0 [oN 83 (.load 3 true (.t 3)),oN 84 (.call 39 [(cI 1)]),oA 85 0 (.call 32 [(.t 83),(.t 84)]) [0,1,1],oA 2 0 (oV 85) [2,2,0,1,2]]) .ret)))))⟩
structure D_impl_IsValidConditional (T : Nat → Option Fn) : Prop where
 hT : T 185 = some F_impl_IsValidConditional
 d_impl_RatEqual : D_impl_RatEqual T
 d_impl_isNode : D_impl_isNode T
 d_impl_RatFromInt : D_impl_RatFromInt T
 d_impl_RatSign : D_impl_RatSign T
 d_impl_RatOk : D_impl_RatOk T
 d_impl_ratAdd : D_impl_ratAdd T
def F_spec_IsValidConditional : Fn:=⟨1,85,[.tmp 2],(.seq (.reg false 1 [oN 1 (.box (.t 0)),oK 2 1 (.mov (.c (.bool false)))]) (.seq (.reg false 1 [oK 6 1 (.call 36 [(cI 0)]),oN 3 (.alloc [.bool false,.nils,.nils]),⟨none,none,1,.store 3 (.t 3) (.t 6),[]⟩]) (.seq (.seq (.reg false 0 [oN 7 (.fld 4 (.t 1)),oN 8 (.load 1 false (.t 7)),oN 9 (.len (.t 8)),oN 10 (.mov (cI 0))]) (.block 0 (.loop (.seq (.reg false 0 [oN 11 (.bin .lss (.t 10) (.t 9))]) (.seq (.cond (.t 11) .skip (.exit 0)) (.seq (.block 1 (.seq (.reg false 1 [oK 12 1 (oV 10),oK 13 1 (.idx 10 (.t 8) (.t 10)),oK 14 1 (.load 10 true (.t 13)),oN 5 (.alloc [.int .i64 0,.bool false,.nils,.nils,.bool false,.nils,.nils,.bool false,.nils,.nils]),oK 4 1 (oV 12),⟨none,none,1,.store 10 (.t 5) (.t 14),[]⟩]) (.seq (.seq (.reg true 0 [oN 15 (.fld 0 (.t 5)),oA 16 0 (.load 1 false (.t 15)) [0],oA 17 0 (.call 34 [(.t 16)]) [1],oA 18 0 (.un .not (.t 17)) [2],oA 19 0 (oV 18) [3,2],oH 19 false 20 0 (.fld 0 (.t 5)) [4],oH 19 false 21 0 (.load 1 false (.t 20)) [5,4],oH 19 false 22 0 (.fld 0 (.t 1)) [4],oH 19 false 23 0 (.load 1 false (.t 22)) [7,4],oH 19 false 24 0 (.bin .eql (.t 21) (.t 23)) [6,8,4],oA 25 0 (.pick (.t 19) (.c (.bool true)) (.t 24)) [4,9],oA 26 0 (oV 25) [10,4],oH 26 false 27 0 (oV 4) [11],oH 26 false 28 0 (.bin .gtr (.t 27) (cI 0)) [12,11],oH 26 false 29 0 (oV 28) [13,11,11],oH 29 true 30 0 (.fld 4 (.t 1)) [14],oH 29 true 31 0 (.load 1 false (.t 30)) [15,14],oH 29 true 32 0 (oV 4) [14],oH 29 true 33 0 (.bin .sub (.t 32) (cI 1)) [17,14],oH 29 true 34 0 (.idx 10 (.t 31) (.t 33)) [16,18,14],oH 29 true 35 0 (.fld 0 (.t 34)) [19,14],oH 29 true 36 0 (.load 1 false (.t 35)) [20,14],oH 29 true 37 0 (.fld 0 (.t 5)) [14],oH 29 true 38 0 (.load 1 false (.t 37)) [22,14],oH 29 true 39 0 (.bin .geq (.t 36) (.t 38)) [21,23,14],oH 26 false 40 0 (.pick (.t 29) (.t 39) (.c (.bool false))) [14,24,11],oA 41 0 (.pick (.t 26) (.c (.bool true)) (.t 40)) [11,25],oA 42 0 (oV 41) [26,14],oH 42 false 43 0 (.fld 1 (.t 5)) [27],oH 42 false 44 0 (.load 3 true (.t 43)) [28,27],oH 42 false 45 0 (.call 99 [(.t 44)]) [29,27,27],oH 42 false 46 0 (.bin .leq (.t 45) (cI 0)) [30,27],oA 47 0 (.pick (.t 42) (.c (.bool true)) (.t 46)) [27,31],oA 48 0 (oV 47) [32,30],oH 48 false 49 0 (.fld 4 (.t 5)) [33],oH 48 false 50 0 (.load 3 true (.t 49)) [34,33],oH 48 false 51 0 (.call 100 [(.t 50)]) [35,33,33],oH 48 false 52 0 (.un .not (.t 51)) [36,33],oA 53 0 (.pick (.t 48) (.c (.bool true)) (.t 52)) [33,37],oA 54 0 (oV 53) [38,36],oH 54 false 55 0 (.fld 7 (.t 5)) [39],oH 54 false 56 0 (.load 3 true (.t 55)) [40,39],oH 54 false 57 0 (.call 100 [(.t 56)]) [41,39,39],oH 54 false 58 0 (.un .not (.t 57)) [42,39],oA 59 0 (.pick (.t 54) (.c (.bool true)) (.t 58)) [39,43]]) (.cond (.t 59) (.seq (.reg false 0 [oN 2 (.mov (.c (.bool false)))]) .ret) .skip)) (.reg false 0 [oN 60 (.load 3 true (.t 3)),oN 61 (.fld 1 (.t 5)),oN 62 (.load 3 true (.t 61)),oN 63 (.call 189 [(.t 60),(.t 62)]),oS (.store 3 (.t 3) (.t 63))])))) (.reg false 0 [oN 64 (.bin .add (.t 10) (cI 1)),oN 10 (oV 64)]))))))) (.seq (.reg true 0 [oN 65 (.fld 0 (.t 1)),oA 66 0 (.load 1 false (.t 65)) [0],oA 67 0 (.call 35 [(.t 66),(cI 1),(cI 9)]) [1],oA 68 0 (oV 67) [2,2],oH 68 true 69 0 (.fld 1 (.t 1)) [3],oH 68 true 70 0 (.load 3 true (.t 69)) [4,3],oH 68 true 71 0 (.call 99 [(.t 70)]) [5,3,3],oH 68 true 72 0 (.bin .gtr (.t 71) (cI 0)) [6,3],oA 73 0 (.pick (.t 68) (.t 72) (.c (.bool false))) [3,7],oA 74 0 (oV 73) [8,6],oH 74 true 75 0 (.fld 4 (.t 1)) [9],oH 74 true 76 0 (.load 1 false (.t 75)) [10,9],oH 74 true 77 0 (.len (.t 76)) [11,9],oH 74 true 78 0 (.bin .gtr (.t 77) (cI 0)) [12,9],oA 79 0 (.pick (.t 74) (.t 78) (.c (.bool false))) [9,13],oA 80 0 (oV 79) [14,9],oH 80 true 81 0 (.load 3 true (.t 3)) [15],oH 80 true 82 0 (.call 36 [(cI 1)]) [15,15],oH 80 true 83 0 (.call 30 [(.t 81),(.t 82)]) [16,17,17,15],oA 84 0 (.pick (.t 80) (.t 83) (.c (.bool false))) [15,18],oA 2 0 (oV 84) [19,18,0,1,2,3,4,5,6,7,8,9,10,11,12,13,14,15,16,17,18,19]]) .ret))))⟩
structure D_spec_IsValidConditional (T : Nat → Option Fn) : Prop where
 hT : T 294 = some F_spec_IsValidConditional
 d_spec_RatEqual : D_spec_RatEqual T
 d_spec_l06Node : D_spec_l06Node T
 d_spec_l01In : D_spec_l01In T
 d_spec_RatFromInt : D_spec_RatFromInt T
 d_spec_RatSign : D_spec_RatSign T
 d_spec_RatOk : D_spec_RatOk T
 d_spec_RatAdd : D_spec_RatAdd T
theorem nd_in (a : Int) : nd a = inB a 0 9:=rfl
theorem c_iIsValidConditional {T : Nat → Option Fn} (h : D_impl_IsValidConditional T) {c : Cd} (hw : c.wf:=by first | omega | assumption | (simp;omega)) : PF T 185 [cdV c] (.bool (cdOk c)):=by
 obtain ⟨w1,w2⟩:=hw
 have hlen:=w2.1
 have cs:=c_iRatSign h.d_impl_RatSign (r:=c.total) w1
 have c0:=c_iRatFromInt h.d_impl_RatFromInt (n:=0) (by omega)
 have c1:=c_iRatFromInt h.d_impl_RatFromInt (n:=1) (by omega)
 have ceq:=c_implRatEqual h.d_impl_RatEqual (y:=sumS c.ps c.ps.length) (z:=intR 1) (cn_wf (sumS_cn _ _)) (cn_wf (intR_cn (by decide)))
 by_cases k1 : c.node < 1
 ·have : cdOk c = false:=by unfold cdOk inB;rw [decide_eq_false (show ¬ 1 ≤ c.node by omega)];simp
  rw [this]
  refine pf_end (fun _ _=>false) h.hT rfl rfl ?_
  dsimp only [F_impl_IsValidConditional,oN,oS,oG,oK,oA,oH,oV,cI]
  refine ev ?_
  (refine ev1 @k1 ?_;try with_reducible exact True.intro)
 by_cases k2 : 10 ≤ c.node
 ·have : cdOk c = false:=by unfold cdOk inB;rw [decide_eq_false (show ¬ c.node ≤ 9 by omega)];simp
  rw [this]
  refine pf_end (fun _ _=>false) h.hT rfl rfl ?_
  dsimp only [F_impl_IsValidConditional,oN,oS,oG,oK,oA,oH,oV,cI]
  refine ev ?_
  (refine ev2 @k1 @k2 ?_;try with_reducible exact True.intro)
 have e1 : inB c.node 1 9 = true:=by unfold inB;rw [decide_eq_true (show 1 ≤ c.node by omega),decide_eq_true (show c.node ≤ 9 by omega)];rfl
 by_cases k3 : signQ c.total.q ≤ 0
 ·have : cdOk c = false:=by unfold cdOk sgnR;rw [decide_eq_false (show ¬ 0 < signQ c.total.q by omega)];simp
  rw [this]
  refine pf_end (fun _ _=>false) h.hT rfl rfl ?_
  dsimp only [F_impl_IsValidConditional,oN,oS,oG,oK,oA,oH,oV,cI]
  refine ev ?_
  refine ev2 @k1 @k2 ?_
  refine PFK_of cs ?_
  (refine ev1 @k3 ?_;try with_reducible exact True.intro)
 have e2 : decide (0 < sgnR c.total) = true:=decide_eq_true (by unfold sgnR;omega)
 by_cases k4 : ((c.ps.length : Nat) : Int) = 0
 ·have e : c.ps = []:=List.eq_nil_of_length_eq_zero (by omega)
  have : cdOk c = false:=by unfold cdOk;rw [e];simp
  rw [this]
  refine pf_end (fun _ _=>false) h.hT rfl rfl ?_
  dsimp only [F_impl_IsValidConditional,oN,oS,oG,oK,oA,oH,oV,cI]
  refine ev ?_
  refine ev2 @k1 @k2 ?_
  refine PFK_of cs ?_
  (refine ev2 @k3 @k4 ?_;try with_reducible exact True.intro)
 have e3 : c.ps.isEmpty = false:=by cases hp : c.ps with
  | nil=>rw [hp] at k4;simp at k4
  | cons x l=>rfl
 refine pf_end (fun _ _=>false) h.hT rfl rfl ?_
 dsimp only [F_impl_IsValidConditional,oN,oS,oG,oK,oA,oH,oV,cI]
 refine ev ?_
 refine ev2 @k1 @k2 ?_
 refine PFK_of cs ?_
 refine ev2 @k3 @k4 ?_
 refine PFK_of c0 ?_
 refine ev ?_
 refine loop_at (fun _ _=>false) (α:=Nat) (fun i=>⟨argE [.any,.ptr 0 0 0,.bool false,.ptr 1 0 0,.any,.any,.any,.any,.any,.any,.any,.any,.any,.any,.any,.any,.any,.any,.any,.any,.any,.any,.any,.any,.any,.any,.any,.any,pasV c.ps,iv (c.ps.length : Nat),iv (i : Nat)],[some ⟨5,[c.cells]⟩,some ⟨3,[(sumS c.ps i).cells]⟩],0,0,[],[]⟩) (fun i=>i ≤ c.ps.length ∧ ∀ j,j < i → paAt c j = true) (fun i=>c.ps.length - i) rfl 0 ?_ ?_ ?_
 ·exact ⟨by omega,by intro j hj;omega⟩
 ·(refine Fg_env ?_) <;> (try (refine ev1 @sumS_0 ?_;try with_reducible exact True.intro)) <;> (repeat' (first | refine ⟨?_,?_⟩ | exact EvV_int (by omega) | exact EvV_of (by simp) | exact EvV_nil _))
 ·rintro i ⟨hi,hj⟩
  refine ev ?_
  refine brK_dec (fun hc=>?_) fun hc=>?_ <;> (refine ev2 @hc @mg ?_;try with_reducible exact True.intro)
  ·have hil : i < c.ps.length:=by omega
   have hwp:=w2.at_ hil
   have es:=(sumS_s c.ps hil).symm
   obtain ⟨p,hp⟩ : ∃ p,c.ps.getD i default = p:=⟨_,rfl⟩
   obtain ⟨q,hq⟩ : ∃ q,c.ps.getD (i - 1) default = q:=⟨_,rfl⟩
   rw [hp] at hwp es ⊢
   have cn:=c_isNode h.d_impl_isNode (a:=p.node)
   rw [nd_in] at cn
   have csh:=c_iRatSign h.d_impl_RatSign (r:=p.share) hwp.1
   have cdx:=c_RatOk h.d_impl_RatOk (r:=p.dx) hwp.2.1
   have cdy:=c_RatOk h.d_impl_RatOk (r:=p.dy) hwp.2.2
   refine PFK_of cn ?_
   cases b1 : inB p.node 0 9
   ·refine ev ?_
    rw [show cdOk c = false from cdOk_f hil (by unfold paAt;rw [hp,b1];simp)]
   refine ev ?_
   by_cases b2 : p.node = c.node
   ·refine ev1 @b2 ?_
    rw [show cdOk c = false from cdOk_f hil (by unfold paAt;rw [hp,decide_eq_true b2];simp)]
   have q2 : decide (p.node = c.node) = false:=decide_eq_false b2
   by_cases h0 : i = 0
   ·have h0' : ¬ (0 : Int) < (i : Nat):=by omega
    have q3 : (decide (i = 0) || decide ((c.ps.getD (i - 1) default).node < p.node)) = true:=by rw [decide_eq_true h0];rfl
    refine ev2 @b2 @h0' ?_
    refine PFK_of csh ?_
    by_cases b4 : signQ p.share.q ≤ 0
    ·refine ev1 @b4 ?_
     rw [show cdOk c = false from cdOk_f hil (by unfold paAt;rw [hp,decide_eq_false (show ¬ 0 < sgnR p.share by unfold sgnR;omega)];simp)]
    have q4 : decide (0 < sgnR p.share) = true:=decide_eq_true (by unfold sgnR;omega)
    have cadd:=c_ratAddR h.d_impl_ratAdd (r:=sumS c.ps i) (s:=p.share) (sumS_cn _ _) (cn_ok (sgnR_ok (of_decide_eq_true q4)))
    rw [es] at cadd
    refine ev1 @b4 ?_
    refine PFK_of cdx ?_
    cases b5 : p.dx.ok
    ·refine ev1 @b4 ?_
     rw [show cdOk c = false from cdOk_f hil (by unfold paAt;rw [hp,b5];simp)]
    refine ev1 @b4 ?_
    refine PFK_of cdy ?_
    cases b6 : p.dy.ok
    ·refine ev1 @b4 ?_
     rw [show cdOk c = false from cdOk_f hil (by unfold paAt;rw [hp,b6];simp)]
    refine ev1 @b4 ?_
    refine PFK_of cadd ?_
    refine ev ?_
    refine ⟨i + 1,by omega,⟨by omega,fun j hj'=>?_⟩,by (refine Fg_re [(0,_),(1,_)] (by simp) (by intro p hp;simp only [List.mem_cons,List.not_mem_nil,or_false] at hp;rcases hp with rfl | rfl <;> refine ⟨rfl,?_⟩ <;> first | exact ir_still _ | simp [stillR,V.still]) rfl ?_) <;> (try (refine ev ?_;try with_reducible exact True.intro)) <;> (repeat' (first | exact True.intro | omega | exact CanE_ptr rfl (by simp) | refine ⟨?_,?_⟩ | exact of_eq_true (CanE_nil _ _ _) | exact CanE_of rfl (by simp;done) | exact CanE_of rfl rfl | (refine CanE_msl rfl ?_ rfl;simp [irows];done) | (refine CanE_msl rfl ?_ rfl;simp [irows];omega) | (refine CanE_frz ?_ ?_;(focus ((refine ev ?_;try with_reducible exact True.intro);done));(intro q hq k s0 l0;simp;done))))⟩
    by_cases e : j = i
    ·subst e;unfold paAt;rw [hp,b1,b5,b6,q4,q2,q3];rfl
    ·exact hj j (by omega)
   ·have h0' : (0 : Int) < (i : Nat):=by omega
    have e1 : ((i : Int) - 1).toNat = i - 1:=by omega
    by_cases b3 : p.node ≤ q.node
    ·refine ev6 @b2 @h0' @mg @e1 @hq @b3 ?_
     rw [show cdOk c = false from cdOk_f hil (by unfold paAt;rw [hp,hq,decide_eq_false h0,decide_eq_false (show ¬ q.node < p.node by omega)];simp)]
    ·have q3 : (decide (i = 0) || decide ((c.ps.getD (i - 1) default).node < p.node)) = true:=by rw [hq,decide_eq_false h0,decide_eq_true (show q.node < p.node by omega)];rfl
     refine ev6 @b2 @h0' @mg @e1 @hq @b3 ?_
     refine PFK_of csh ?_
     by_cases b4 : signQ p.share.q ≤ 0
     ·refine ev1 @b4 ?_
      rw [show cdOk c = false from cdOk_f hil (by unfold paAt;rw [hp,decide_eq_false (show ¬ 0 < sgnR p.share by unfold sgnR;omega)];simp)]
     have q4 : decide (0 < sgnR p.share) = true:=decide_eq_true (by unfold sgnR;omega)
     have cadd:=c_ratAddR h.d_impl_ratAdd (r:=sumS c.ps i) (s:=p.share) (sumS_cn _ _) (cn_ok (sgnR_ok (of_decide_eq_true q4)))
     rw [es] at cadd
     refine ev1 @b4 ?_
     refine PFK_of cdx ?_
     cases b5 : p.dx.ok
     ·refine ev1 @b4 ?_
      rw [show cdOk c = false from cdOk_f hil (by unfold paAt;rw [hp,b5];simp)]
     refine ev1 @b4 ?_
     refine PFK_of cdy ?_
     cases b6 : p.dy.ok
     ·refine ev1 @b4 ?_
      rw [show cdOk c = false from cdOk_f hil (by unfold paAt;rw [hp,b6];simp)]
     refine ev1 @b4 ?_
     refine PFK_of cadd ?_
     refine ev ?_
     refine ⟨i + 1,by omega,⟨by omega,fun j hj'=>?_⟩,by (refine Fg_re [(0,_),(1,_)] (by simp) (by intro p hp;simp only [List.mem_cons,List.not_mem_nil,or_false] at hp;rcases hp with rfl | rfl <;> refine ⟨rfl,?_⟩ <;> first | exact ir_still _ | simp [stillR,V.still]) rfl ?_) <;> (try (refine ev ?_;try with_reducible exact True.intro)) <;> (repeat' (first | exact True.intro | omega | exact CanE_ptr rfl (by simp) | refine ⟨?_,?_⟩ | exact of_eq_true (CanE_nil _ _ _) | exact CanE_of rfl (by simp;done) | exact CanE_of rfl rfl | (refine CanE_msl rfl ?_ rfl;simp [irows];done) | (refine CanE_msl rfl ?_ rfl;simp [irows];omega) | (refine CanE_frz ?_ ?_;(focus ((refine ev ?_;try with_reducible exact True.intro);done));(intro q hq k s0 l0;simp;done))))⟩
     by_cases e : j = i
     ·subst e;unfold paAt;rw [hp,b1,b5,b6,q4,q2,q3];rfl
     ·exact hj j (by omega)
  ·have ei : i = c.ps.length:=by omega
   subst ei
   rw [cdOk_t fun j hj'=>hj j hj',e1,e2,e3]
   refine ev ?_
   refine PFK_of c1 ?_
   refine ev ?_
   refine PFK_of ceq ?_
   (refine ev ?_;try with_reducible exact True.intro)
theorem c_sIsValidConditional {T : Nat → Option Fn} (h : D_spec_IsValidConditional T) {c : Cd} (hw : c.wf:=by first | omega | assumption | (simp;omega)) : PF T 294 [cdV c] (.bool (cdOk c)):=by
 obtain ⟨w1,w2⟩:=hw
 have hlen:=w2.1
 have cs:=c_sRatSign h.d_spec_RatSign (r:=c.total) w1
 have c0:=c_sRatFromInt h.d_spec_RatFromInt (n:=0) (by omega)
 have c1:=c_sRatFromInt h.d_spec_RatFromInt (n:=1) (by omega)
 have cin:=c_l01In h.d_spec_l01In (a:=c.node) (b:=1) (c:=9)
 have ceq:=c_specRatEqual h.d_spec_RatEqual (y:=sumS c.ps c.ps.length) (z:=intR 1) (cn_wf (sumS_cn _ _)) (cn_wf (intR_cn (by decide)))
 refine pf_end (fun _ _=>false) h.hT rfl rfl ?_
 dsimp only [F_spec_IsValidConditional,oN,oS,oG,oK,oA,oH,oV,cI]
 refine ev ?_
 refine PFK_of c0 ?_
 refine ev ?_
 refine loop_at (fun _ _=>false) (α:=Nat) (fun i=>⟨argE [.any,.ptr 0 0 0,.bool false,.ptr 1 0 0,.any,.any,.any,.any,pasV c.ps,iv (c.ps.length : Nat),iv (i : Nat)],[some ⟨5,[c.cells]⟩,some ⟨3,[(sumS c.ps i).cells]⟩],0,0,[],[]⟩) (fun i=>i ≤ c.ps.length ∧ ∀ j,j < i → paAt c j = true) (fun i=>c.ps.length - i) rfl 0 ?_ ?_ ?_
 ·exact ⟨by omega,by intro j hj;omega⟩
 ·(refine Fg_env ?_) <;> (try (refine ev1 @sumS_0 ?_;try with_reducible exact True.intro)) <;> (repeat' (first | refine ⟨?_,?_⟩ | exact EvV_int (by omega) | exact EvV_of (by simp) | exact EvV_nil _))
 ·rintro i ⟨hi,hj⟩
  refine ev ?_
  refine brK_dec (fun hc=>?_) fun hc=>?_ <;> (refine ev2 @hc @mg ?_;try with_reducible exact True.intro)
  ·have hil : i < c.ps.length:=by omega
   have hwp:=w2.at_ hil
   have es:=(sumS_s c.ps hil).symm
   obtain ⟨p,hp⟩ : ∃ p,c.ps.getD i default = p:=⟨_,rfl⟩
   obtain ⟨q,hq⟩ : ∃ q,c.ps.getD (i - 1) default = q:=⟨_,rfl⟩
   rw [hp] at hwp es ⊢
   have cn:=c_l06Node h.d_spec_l06Node (a:=p.node)
   rw [nd_in] at cn
   have csh:=c_sRatSign h.d_spec_RatSign (r:=p.share) hwp.1
   have cdx:=c_sRatOk h.d_spec_RatOk (r:=p.dx) hwp.2.1
   have cdy:=c_sRatOk h.d_spec_RatOk (r:=p.dy) hwp.2.2
   refine PFK_of cn ?_
   cases b1 : inB p.node 0 9
   ·refine ev ?_
    rw [show cdOk c = false from cdOk_f hil (by unfold paAt;rw [hp,b1];simp)]
   refine ev ?_
   by_cases b2 : p.node = c.node
   ·refine ev1 @b2 ?_
    rw [show cdOk c = false from cdOk_f hil (by unfold paAt;rw [hp,decide_eq_true b2];simp)]
   have q2 : decide (p.node = c.node) = false:=decide_eq_false b2
   by_cases h0 : i = 0
   ·have h0' : ¬ (0 : Int) < (i : Nat):=by omega
    have q3 : (decide (i = 0) || decide ((c.ps.getD (i - 1) default).node < p.node)) = true:=by rw [decide_eq_true h0];rfl
    refine ev2 @b2 @h0' ?_
    refine PFK_of csh ?_
    by_cases b4 : signQ p.share.q ≤ 0
    ·refine ev1 @b4 ?_
     rw [show cdOk c = false from cdOk_f hil (by unfold paAt;rw [hp,decide_eq_false (show ¬ 0 < sgnR p.share by unfold sgnR;omega)];simp)]
    have q4 : decide (0 < sgnR p.share) = true:=decide_eq_true (by unfold sgnR;omega)
    have cadd:=c_sRatAdd h.d_spec_RatAdd (r:=sumS c.ps i) (s:=p.share) (cn_wf (sumS_cn _ _)) hwp.1
    rw [es] at cadd
    refine ev1 @b4 ?_
    refine PFK_of cdx ?_
    cases b5 : p.dx.ok
    ·refine ev1 @b4 ?_
     rw [show cdOk c = false from cdOk_f hil (by unfold paAt;rw [hp,b5];simp)]
    refine ev1 @b4 ?_
    refine PFK_of cdy ?_
    cases b6 : p.dy.ok
    ·refine ev1 @b4 ?_
     rw [show cdOk c = false from cdOk_f hil (by unfold paAt;rw [hp,b6];simp)]
    refine ev1 @b4 ?_
    refine PFK_of cadd ?_
    refine ev ?_
    refine ⟨i + 1,by omega,⟨by omega,fun j hj'=>?_⟩,by (refine Fg_re [(0,_),(1,_)] (by simp) (by intro p hp;simp only [List.mem_cons,List.not_mem_nil,or_false] at hp;rcases hp with rfl | rfl <;> refine ⟨rfl,?_⟩ <;> first | exact ir_still _ | simp [stillR,V.still]) rfl ?_) <;> (try (refine ev ?_;try with_reducible exact True.intro)) <;> (repeat' (first | exact True.intro | omega | exact CanE_ptr rfl (by simp) | refine ⟨?_,?_⟩ | exact of_eq_true (CanE_nil _ _ _) | exact CanE_of rfl (by simp;done) | exact CanE_of rfl rfl | (refine CanE_msl rfl ?_ rfl;simp [irows];done) | (refine CanE_msl rfl ?_ rfl;simp [irows];omega) | (refine CanE_frz ?_ ?_;(focus ((refine ev ?_;try with_reducible exact True.intro);done));(intro q hq k s0 l0;simp;done))))⟩
    by_cases e : j = i
    ·subst e;unfold paAt;rw [hp,b1,b5,b6,q4,q2,q3];rfl
    ·exact hj j (by omega)
   ·have h0' : (0 : Int) < (i : Nat):=by omega
    have e1 : ((i : Int) - 1).toNat = i - 1:=by omega
    by_cases b3 : p.node ≤ q.node
    ·refine ev6 @b2 @h0' @mg @e1 @hq @b3 ?_
     rw [show cdOk c = false from cdOk_f hil (by unfold paAt;rw [hp,hq,decide_eq_false h0,decide_eq_false (show ¬ q.node < p.node by omega)];simp)]
    ·have q3 : (decide (i = 0) || decide ((c.ps.getD (i - 1) default).node < p.node)) = true:=by rw [hq,decide_eq_false h0,decide_eq_true (show q.node < p.node by omega)];rfl
     refine ev6 @b2 @h0' @mg @e1 @hq @b3 ?_
     refine PFK_of csh ?_
     by_cases b4 : signQ p.share.q ≤ 0
     ·refine ev1 @b4 ?_
      rw [show cdOk c = false from cdOk_f hil (by unfold paAt;rw [hp,decide_eq_false (show ¬ 0 < sgnR p.share by unfold sgnR;omega)];simp)]
     have q4 : decide (0 < sgnR p.share) = true:=decide_eq_true (by unfold sgnR;omega)
     have cadd:=c_sRatAdd h.d_spec_RatAdd (r:=sumS c.ps i) (s:=p.share) (cn_wf (sumS_cn _ _)) hwp.1
     rw [es] at cadd
     refine ev1 @b4 ?_
     refine PFK_of cdx ?_
     cases b5 : p.dx.ok
     ·refine ev1 @b4 ?_
      rw [show cdOk c = false from cdOk_f hil (by unfold paAt;rw [hp,b5];simp)]
     refine ev1 @b4 ?_
     refine PFK_of cdy ?_
     cases b6 : p.dy.ok
     ·refine ev1 @b4 ?_
      rw [show cdOk c = false from cdOk_f hil (by unfold paAt;rw [hp,b6];simp)]
     refine ev1 @b4 ?_
     refine PFK_of cadd ?_
     refine ev ?_
     refine ⟨i + 1,by omega,⟨by omega,fun j hj'=>?_⟩,by (refine Fg_re [(0,_),(1,_)] (by simp) (by intro p hp;simp only [List.mem_cons,List.not_mem_nil,or_false] at hp;rcases hp with rfl | rfl <;> refine ⟨rfl,?_⟩ <;> first | exact ir_still _ | simp [stillR,V.still]) rfl ?_) <;> (try (refine ev ?_;try with_reducible exact True.intro)) <;> (repeat' (first | exact True.intro | omega | exact CanE_ptr rfl (by simp) | refine ⟨?_,?_⟩ | exact of_eq_true (CanE_nil _ _ _) | exact CanE_of rfl (by simp;done) | exact CanE_of rfl rfl | (refine CanE_msl rfl ?_ rfl;simp [irows];done) | (refine CanE_msl rfl ?_ rfl;simp [irows];omega) | (refine CanE_frz ?_ ?_;(focus ((refine ev ?_;try with_reducible exact True.intro);done));(intro q hq k s0 l0;simp;done))))⟩
     by_cases e : j = i
     ·subst e;unfold paAt;rw [hp,b1,b5,b6,q4,q2,q3];rfl
     ·exact hj j (by omega)
  ·have ei : i = c.ps.length:=by omega
   subst ei
   rw [cdOk_t fun j hj'=>hj j hj']
   have ein : (decide (1 ≤ c.node) && decide (c.node ≤ 9)) = inB c.node 1 9:=rfl
   rw [ein] at cin
   refine ev ?_
   refine PFK_of cin ?_
   cases inB c.node 1 9
   ·(refine ev ?_;try with_reducible exact True.intro)
   refine ev ?_
   refine PFK_of cs ?_
   by_cases b4 : 0 < signQ c.total.q
   rotate_left
   ·rw [show decide (0 < sgnR c.total) = false from decide_eq_false b4]
    (refine ev1 @b4 ?_;try with_reducible exact True.intro)
   rw [show decide (0 < sgnR c.total) = true from decide_eq_true b4]
   by_cases b5 : (0 : Int) < ((c.ps.length : Nat) : Int)
   rotate_left
   ·have e3 : c.ps.isEmpty = true:=by cases hp : c.ps with
     | nil=>rfl
     | cons x l=>rw [hp] at b5;simp at b5
    rw [e3]
    (refine ev2 @b4 @b5 ?_;try with_reducible exact True.intro)
   have e3 : c.ps.isEmpty = false:=by cases hp : c.ps with
    | nil=>rw [hp] at b5;simp at b5
    | cons x l=>rfl
   rw [e3]
   refine ev2 @b4 @b5 ?_
   refine PFK_of c1 ?_
   refine ev ?_
   refine PFK_of ceq ?_
   (refine ev2 @b4 @b5 ?_;try with_reducible exact True.intro)
mutual
def OwV (σ : Store) : V → V → List Nat → Prop
 | v,.sl sz rows,os=>(rows = [] ∧ v = .sl sz [] ∧ os = []) ∨ ∃ o rows' os',v = .msl o 0 rows.length ∧ objAt σ o = some ⟨sz,rows'⟩ ∧ os = o :: os' ∧ OwR σ rows' rows os'
 | v,.agg cs,os=>∃ cs',v = .agg cs' ∧ OwL σ cs' cs os
 | v,.tup cs,os=>∃ cs',v = .tup cs' ∧ OwL σ cs' cs os
 | v,.any,os=>False
 | v,.one,os=>False
 | v,.int k n,os=>v = .int k n ∧ os = []
 | v,.bool b,os=>v = .bool b ∧ os = []
 | v,.str s,os=>v = .str s ∧ os = []
 | v,.nils,os=>False
 | v,.msl _ _ _,os=>False
 | v,.ptr _ _ _,os=>False
 | v,.fptr _ _,os=>False
def OwL (σ : Store) : List V → List V → List Nat → Prop
 | vs,[],os=>vs = [] ∧ os = []
 | vs,t :: ts,os=>∃ v vs' o1 o2,vs = v :: vs' ∧ os = o1 ++ o2 ∧ OwV σ v t o1 ∧ OwL σ vs' ts o2
def OwR (σ : Store) : List (List V) → List (List V) → List Nat → Prop
 | vs,[],os=>vs = [] ∧ os = []
 | vs,t :: ts,os=>∃ v vs' o1 o2,vs = v :: vs' ∧ os = o1 ++ o2 ∧ OwL σ v t o1 ∧ OwR σ vs' ts o2
end
section
variable {σ σ' : Store}
theorem objAt_lt {o : Nat} {ob : Obj} (h : objAt σ o = some ob) : o < σ.length:=by
 rcases Nat.lt_or_ge o σ.length with k | k
 ·exact k
 ·rw [objAt,List.getElem?_eq_none k] at h;cases h
mutual
theorem OwV.lt : ∀ {t v : V} {os : List Nat},OwV σ v t os → ∀ o ∈ os,o < σ.length
 |
  .sl sz rows,v,os,h=>by
  simp only [OwV] at h
  rcases h with ⟨_,_,rfl⟩ | ⟨o,rows',os',_,h2,rfl,h3⟩
  ·intro o ho;cases ho
  ·intro q hq
   rcases List.mem_cons.1 hq with rfl | hq
   ·exact objAt_lt h2
   ·exact OwR.lt h3 q hq
 | .agg cs,v,os,h=>by simp only [OwV] at h;obtain ⟨cs',_,h⟩:=h;exact OwL.lt h
 | .tup cs,v,os,h=>by simp only [OwV] at h;obtain ⟨cs',_,h⟩:=h;exact OwL.lt h
 | .any,v,os,h=>by simp [OwV] at h
 | .one,v,os,h=>by simp [OwV] at h
 | .int ..,v,os,h=>by simp only [OwV] at h;rw [h.2];intro o ho;cases ho
 | .bool _,v,os,h=>by simp only [OwV] at h;rw [h.2];intro o ho;cases ho
 | .str _,v,os,h=>by simp only [OwV] at h;rw [h.2];intro o ho;cases ho
 | .nils,v,os,h=>by simp [OwV] at h
 | .msl ..,v,os,h=>by simp [OwV] at h
 | .ptr ..,v,os,h=>by simp [OwV] at h
 | .fptr ..,v,os,h=>by simp [OwV] at h
theorem OwL.lt : ∀ {ts vs : List V} {os : List Nat},OwL σ vs ts os → ∀ o ∈ os,o < σ.length
 | [],vs,os,h=>by simp only [OwL] at h;rw [h.2];intro o ho;cases ho
 |
  t :: ts,vs,os,h=>by
  simp only [OwL] at h
  obtain ⟨v,vs',o1,o2,_,rfl,h1,h2⟩:=h
  intro o ho
  rcases List.mem_append.1 ho with ho | ho
  ·exact OwV.lt h1 o ho
  ·exact OwL.lt h2 o ho
theorem OwR.lt : ∀ {ts vs : List (List V)} {os : List Nat},OwR σ vs ts os → ∀ o ∈ os,o < σ.length
 | [],vs,os,h=>by simp only [OwR] at h;rw [h.2];intro o ho;cases ho
 |
  t :: ts,vs,os,h=>by
  simp only [OwR] at h
  obtain ⟨v,vs',o1,o2,_,rfl,h1,h2⟩:=h
  intro o ho
  rcases List.mem_append.1 ho with ho | ho
  ·exact OwL.lt h1 o ho
  ·exact OwR.lt h2 o ho
end
mutual
theorem OwV.frame : ∀ {t v : V} {os : List Nat},OwV σ v t os → (∀ o ∈ os,objAt σ' o = objAt σ o) → OwV σ' v t os
 |
  .sl sz rows,v,os,h,hf=>by
  simp only [OwV] at h ⊢
  rcases h with h | ⟨o,rows',os',h1,h2,rfl,h3⟩
  ·exact .inl h
  ·exact .inr ⟨o,rows',os',h1,by rw [hf o (by simp)];exact h2,rfl,OwR.frame h3 fun q hq=>hf q (by simp [hq])⟩
 | .agg cs,v,os,h,hf=>by simp only [OwV] at h ⊢;obtain ⟨cs',e,h⟩:=h;exact ⟨cs',e,OwL.frame h hf⟩
 | .tup cs,v,os,h,hf=>by simp only [OwV] at h ⊢;obtain ⟨cs',e,h⟩:=h;exact ⟨cs',e,OwL.frame h hf⟩
 | .any,v,os,h,_=>by simp [OwV] at h
 | .one,v,os,h,_=>by simp [OwV] at h
 | .int ..,v,os,h,_=>by simpa only [OwV] using h
 | .bool _,v,os,h,_=>by simpa only [OwV] using h
 | .str _,v,os,h,_=>by simpa only [OwV] using h
 | .nils,v,os,h,_=>by simp [OwV] at h
 | .msl ..,v,os,h,_=>by simp [OwV] at h
 | .ptr ..,v,os,h,_=>by simp [OwV] at h
 | .fptr ..,v,os,h,_=>by simp [OwV] at h
theorem OwL.frame : ∀ {ts vs : List V} {os : List Nat},OwL σ vs ts os → (∀ o ∈ os,objAt σ' o = objAt σ o) → OwL σ' vs ts os
 | [],vs,os,h,_=>by simpa only [OwL] using h
 |
  t :: ts,vs,os,h,hf=>by
  simp only [OwL] at h ⊢
  obtain ⟨v,vs',o1,o2,e,rfl,h1,h2⟩:=h
  exact ⟨v,vs',o1,o2,e,rfl,OwV.frame h1 fun q hq=>hf q (by simp [hq]),OwL.frame h2 fun q hq=>hf q (by simp [hq])⟩
theorem OwR.frame : ∀ {ts vs : List (List V)} {os : List Nat},OwR σ vs ts os → (∀ o ∈ os,objAt σ' o = objAt σ o) → OwR σ' vs ts os
 | [],vs,os,h,_=>by simpa only [OwR] using h
 |
  t :: ts,vs,os,h,hf=>by
  simp only [OwR] at h ⊢
  obtain ⟨v,vs',o1,o2,e,rfl,h1,h2⟩:=h
  exact ⟨v,vs',o1,o2,e,rfl,OwL.frame h1 fun q hq=>hf q (by simp [hq]),OwR.frame h2 fun q hq=>hf q (by simp [hq])⟩
end
theorem OwV.leaf {t v : V} {os : List Nat} (h : OwV σ v t os) (hl : t.leaf = true) : v.leaf = true:=by
 cases t <;> simp only [V.leaf] at hl <;> first | (cases hl;done) | skip
 all_goals simp only [OwV] at h
 all_goals first | (cases h;done) | skip
 case int=>rw [h.1];rfl
 case bool=>rw [h.1];rfl
 case str=>rw [h.1];rfl
 case sl=>rcases h with ⟨_,rfl,_⟩ | ⟨_,_,_,rfl,_⟩ <;> rfl
theorem OwR.len : ∀ {ts vs : List (List V)} {os : List Nat},OwR σ vs ts os → vs.length = ts.length
 | [],vs,os,h=>by simp only [OwR] at h;simp [h.1]
 |
  t :: ts,vs,os,h=>by
  simp only [OwR] at h
  obtain ⟨v,vs',o1,o2,rfl,_,_,h2⟩:=h
  simp [OwR.len h2]
mutual
theorem OwV.shift {n : Nat} (hn : ∀ o,objAt σ' (n + o) = (objAt σ o).map (mapO (shiftN n))) : ∀ {t v : V} {os : List Nat},OwV σ v t os → OwV σ' (mapV (shiftN n) v) t (os.map (n + ·))
 |
  .sl sz rows,v,os,h=>by
  simp only [OwV] at h ⊢
  rcases h with ⟨h1,rfl,rfl⟩ | ⟨o,rows',os',rfl,h2,rfl,h3⟩
  ·exact .inl ⟨h1,rfl,rfl⟩
  ·exact .inr ⟨n + o,_,os'.map (n + ·),rfl,by rw [hn,h2];rfl,rfl,OwR.shift hn h3⟩
 | .agg cs,v,os,h=>by simp only [OwV] at h ⊢;obtain ⟨cs',rfl,h⟩:=h;exact ⟨_,rfl,OwL.shift hn h⟩
 | .tup cs,v,os,h=>by simp only [OwV] at h ⊢;obtain ⟨cs',rfl,h⟩:=h;exact ⟨_,rfl,OwL.shift hn h⟩
 | .any,v,os,h=>by simp [OwV] at h
 | .one,v,os,h=>by simp [OwV] at h
 | .int ..,v,os,h=>by simp only [OwV] at h ⊢;obtain ⟨rfl,rfl⟩:=h;exact ⟨rfl,rfl⟩
 | .bool _,v,os,h=>by simp only [OwV] at h ⊢;obtain ⟨rfl,rfl⟩:=h;exact ⟨rfl,rfl⟩
 | .str _,v,os,h=>by simp only [OwV] at h ⊢;obtain ⟨rfl,rfl⟩:=h;exact ⟨rfl,rfl⟩
 | .nils,v,os,h=>by simp [OwV] at h
 | .msl ..,v,os,h=>by simp [OwV] at h
 | .ptr ..,v,os,h=>by simp [OwV] at h
 | .fptr ..,v,os,h=>by simp [OwV] at h
theorem OwL.shift {n : Nat} (hn : ∀ o,objAt σ' (n + o) = (objAt σ o).map (mapO (shiftN n))) : ∀ {ts vs : List V} {os : List Nat},OwL σ vs ts os → OwL σ' (mapV.mapL (shiftN n) vs) ts (os.map (n + ·))
 | [],vs,os,h=>by simp only [OwL] at h ⊢;obtain ⟨rfl,rfl⟩:=h;exact ⟨rfl,rfl⟩
 |
  t :: ts,vs,os,h=>by
  simp only [OwL] at h ⊢
  obtain ⟨v,vs',o1,o2,rfl,rfl,h1,h2⟩:=h
  exact ⟨_,_,_,_,rfl,by rw [List.map_append],OwV.shift hn h1,OwL.shift hn h2⟩
theorem OwR.shift {n : Nat} (hn : ∀ o,objAt σ' (n + o) = (objAt σ o).map (mapO (shiftN n))) : ∀ {ts vs : List (List V)} {os : List Nat},OwR σ vs ts os → OwR σ' (vs.map fun r=>r.map (mapV (shiftN n))) ts (os.map (n + ·))
 | [],vs,os,h=>by simp only [OwR] at h ⊢;obtain ⟨rfl,rfl⟩:=h;exact ⟨rfl,rfl⟩
 |
  t :: ts,vs,os,h=>by
  simp only [OwR] at h ⊢
  obtain ⟨v,vs',o1,o2,rfl,rfl,h1,h2⟩:=h
  have hm : ∀ l : List V,mapV.mapL (shiftN n) l = l.map (mapV (shiftN n)):=by
   intro l
   induction l with
   | nil=>rfl
   | cons x l ih=>simp only [mapV.mapL,List.map_cons,ih]
  exact ⟨_,_,_,_,rfl,by rw [List.map_append],by rw [show (fun r=>List.map (mapV (shiftN n)) r) v = mapV.mapL (shiftN n) v from (hm v).symm];exact OwL.shift hn h1,OwR.shift hn h2⟩
end
def DepLe : Nat → V → Prop
 | 0,_=>False
 | n + 1,.sl _ rows=>∀ r ∈ rows,∀ c ∈ r,DepLe n c
 | n + 1,.agg cs=>∀ c ∈ cs,DepLe n c
 | n + 1,.tup cs=>∀ c ∈ cs,DepLe n c
 | _ + 1,_=>True
theorem ow_res : ∀ (n : Nat) {t v : V} {os : List Nat},OwV σ v t os → DepLe n t → resolve σ n v = some t
 | 0,t,v,os,_,hd=>by simp [DepLe] at hd
 |
  n + 1,t,v,os,h,hd=>by
  have hl : ∀ (ts vs : List V) (os : List Nat),OwL σ vs ts os → (∀ c ∈ ts,DepLe n c) → vs.mapM (resolve σ n) = some ts:=by
   intro ts
   induction ts with
   | nil=>intro vs os h _;simp only [OwL] at h;rw [h.1];rfl
   |
    cons t ts ih =>
    intro vs os h hd
    simp only [OwL] at h
    obtain ⟨v,vs',o1,o2,rfl,rfl,h1,h2⟩:=h
    rw [List.mapM_cons,ow_res n h1 (hd t (by simp)),ih vs' o2 h2 fun c hc=>hd c (by simp [hc])]
    rfl
  have hr : ∀ (ts vs : List (List V)) (os : List Nat),OwR σ vs ts os → (∀ r ∈ ts,∀ c ∈ r,DepLe n c) → (vs.mapM fun (r : List V)=>r.mapM (resolve σ n)) = some ts:=by
   intro ts
   induction ts with
   | nil=>intro vs os h _;simp only [OwR] at h;rw [h.1];rfl
   |
    cons t ts ih =>
    intro vs os h hd
    simp only [OwR] at h
    obtain ⟨v,vs',o1,o2,rfl,rfl,h1,h2⟩:=h
    rw [List.mapM_cons,hl t v o1 h1 (hd t (by simp)),ih vs' o2 h2 fun c hc=>hd c (by simp [hc])]
    rfl
  cases t with
  |
   sl sz rows =>
   simp only [OwV] at h
   simp only [DepLe] at hd
   rcases h with ⟨rfl,rfl,_⟩ | ⟨o,rows',os',rfl,h2,_,h3⟩
   ·rfl
   ·rw [resolve]
    simp only [h2]
    have:=h3.len
    rw [if_pos (by omega),List.drop_zero,List.take_of_length_le (by omega),hr rows rows' os' h3 hd];rfl
  |
   agg cs =>
   simp only [OwV] at h
   obtain ⟨cs',rfl,h⟩:=h
   rw [resolve]
   rw [hl cs cs' os h hd];rfl
  |
   tup cs =>
   simp only [OwV] at h
   obtain ⟨cs',rfl,h⟩:=h
   rw [resolve]
   rw [hl cs cs' os h hd];rfl
  | any=>simp [OwV] at h
  | one=>simp [OwV] at h
  | int k i=>simp only [OwV] at h;rw [h.1];rfl
  | bool b=>simp only [OwV] at h;rw [h.1];rfl
  | str s=>simp only [OwV] at h;rw [h.1];rfl
  | nils=>simp [OwV] at h
  | msl=>simp [OwV] at h
  | ptr=>simp [OwV] at h
  | fptr=>simp [OwV] at h
mutual
theorem OwV.noFrz : ∀ {t v : V} {os : List Nat},OwV σ v t os → noFrz v = true
 |
  .sl sz rows,v,os,h=>by
  simp only [OwV] at h
  rcases h with ⟨rfl,rfl,_⟩ | ⟨o,rows',os',rfl,_⟩ <;> rfl
 | .agg cs,v,os,h=>by simp only [OwV] at h;obtain ⟨cs',rfl,h⟩:=h;simp only [Ml.noFrz];exact OwL.noFrz h
 | .tup cs,v,os,h=>by simp only [OwV] at h;obtain ⟨cs',rfl,h⟩:=h;simp only [Ml.noFrz];exact OwL.noFrz h
 | .any,v,os,h=>by simp [OwV] at h
 | .one,v,os,h=>by simp [OwV] at h
 | .int ..,v,os,h=>by simp only [OwV] at h;rw [h.1];rfl
 | .bool _,v,os,h=>by simp only [OwV] at h;rw [h.1];rfl
 | .str _,v,os,h=>by simp only [OwV] at h;rw [h.1];rfl
 | .nils,v,os,h=>by simp [OwV] at h
 | .msl ..,v,os,h=>by simp [OwV] at h
 | .ptr ..,v,os,h=>by simp [OwV] at h
 | .fptr ..,v,os,h=>by simp [OwV] at h
theorem OwL.noFrz : ∀ {ts vs : List V} {os : List Nat},OwL σ vs ts os → noFrz.allNoFrz vs = true
 | [],vs,os,h=>by simp only [OwL] at h;rw [h.1];rfl
 |
  t :: ts,vs,os,h=>by
  simp only [OwL] at h
  obtain ⟨v,vs',o1,o2,rfl,rfl,h1,h2⟩:=h
  simp only [noFrz.allNoFrz,OwV.noFrz h1,OwL.noFrz h2,Bool.and_self]
end
end
end Go.Ml
end
section
namespace Go.Ml
mutual
theorem rd_noFrz {w : World} {D : DM} {X X' : Nat → Prop} : ∀ (x : V) (v : Value),noFrz x = true → rd w D X x v → rd w D X' x v
 |
  .sl sz rows,v,h,hr=>by
  simp only [noFrz,List.isEmpty_iff] at h
  subst h
  simp only [rd] at hr ⊢
  obtain ⟨a,cap,h1,h2,_⟩:=hr
  exact ⟨a,cap,h1,h2,.inl (by trivial)⟩
 |
  .agg cs,v,h,hr=>by
  simp only [noFrz] at h
  simp only [rd] at hr ⊢
  obtain ⟨a,rfl,hr⟩:=hr
  exact ⟨a,rfl,rdL_noFrz cs _ h hr⟩
 |
  .tup cs,v,h,hr=>by
  simp only [noFrz] at h
  simp only [rd] at hr ⊢
  obtain ⟨a,rfl,hr⟩:=hr
  exact ⟨a,rfl,rdL_noFrz cs _ h hr⟩
 | .fptr ..,v,h,hr=>by simp [noFrz] at h
 | .any,_,_,_=>by simp [rd]
 | .one,v,h,hr=>by simpa only [rd] using hr
 | .int ..,v,h,hr=>by simpa only [rd] using hr
 | .bool _,v,h,hr=>by simpa only [rd] using hr
 | .str _,v,h,hr=>by simpa only [rd] using hr
 | .nils,v,h,hr=>by simpa only [rd] using hr
 | .msl ..,v,h,hr=>by simpa only [rd] using hr
 | .ptr ..,v,h,hr=>by simpa only [rd] using hr
theorem rdL_noFrz {w : World} {D : DM} {X X' : Nat → Prop} : ∀ (xs : List V) (vs : List Value),noFrz.allNoFrz xs = true → rdL w D X xs vs → rdL w D X' xs vs
 | [],vs,_,hr=>by simpa only [rdL] using hr
 |
  x :: xs,vs,h,hr=>by
  simp only [noFrz.allNoFrz,Bool.and_eq_true] at h
  simp only [rdL] at hr ⊢
  obtain ⟨v,vs',rfl,k1,k2⟩:=hr
  exact ⟨v,vs',rfl,rd_noFrz x v h.1 k1,rdL_noFrz xs vs' h.2 k2⟩
end
mutual
theorem noFrz_map {g : Nat → Option Nat} : ∀ (x : V),noFrz x = true → noFrz (mapV g x) = true
 | .sl sz rows,h=>by simpa only [mapV] using h
 | .agg cs,h=>by simp only [noFrz,mapV] at h ⊢;exact allNoFrz_map cs h
 | .tup cs,h=>by simp only [noFrz,mapV] at h ⊢;exact allNoFrz_map cs h
 | .fptr ..,h=>by simp [noFrz] at h
 | .msl o s l,_=>by simp only [mapV];split <;> rfl
 | .ptr o s l,_=>by simp only [mapV];split <;> rfl
 | .any,_=>rfl
 | .one,_=>rfl
 | .int ..,_=>rfl
 | .bool _,_=>rfl
 | .str _,_=>rfl
 | .nils,_=>rfl
theorem allNoFrz_map {g : Nat → Option Nat} : ∀ (xs : List V),noFrz.allNoFrz xs = true → noFrz.allNoFrz (mapV.mapL g xs) = true
 | [],_=>rfl
 |
  x :: xs,h=>by
  simp only [noFrz.allNoFrz,Bool.and_eq_true,mapV.mapL] at h ⊢
  exact ⟨noFrz_map x h.1,allNoFrz_map xs h.2⟩
end
theorem objAt_addS {σ σ' : Store} {o : Nat} : objAt (addS σ σ') o = if o < σ.length then objAt σ o else (objAt σ' (o - σ.length)).map (mapO (shiftN σ.length)):=by
 unfold addS objAt
 by_cases h : o < σ.length
 ·rw [if_pos h,List.getElem?_append_left h]
 ·rw [if_neg h,List.getElem?_append_right (by omega),List.getElem?_map]
  cases σ'[o - σ.length]? <;> rfl
section
variable {P : Program} {ν : Nat → Option Nat} {nt : Nat} {M : Nat → Prop} {w0 : World} {D0 : DM} {st : St} {D : DM} {a : Act} {w : World}
theorem opOk_callG {x : OpI} {f : Nat} {as : List Src} {as' : List V} {r : V} {σ' : Store} {R : List Nat} (hg : ∀ g want,x.g = some (g,want) → st.env g = .bool want) (hi : x.i = .call f as)
  (ha : as.mapM (fun s=>resolve st.objs FD (s.ev st.env)) = some as') (ih : FnOk P ν f as' [] r σ')
  (hR : R = if noFrz r && freshS σ' then [] else as.flatMap fun s=>reach st.objs FD (s.ev st.env)) :
  OpOk P ν x st { st with env:=updO st.env x.dst (mapV (shiftN st.objs.length) r),objs:=addS (killAll st.objs R) σ' }:=by
 have hlk : (killAll st.objs R).length = st.objs.length:=len_kill R _
 refine ⟨rfl,rfl,by simp [addS,hlk],?_⟩
 intro ops dr nt m k o htr M w0 D0 D a w hs _ K Q hK
 obtain ⟨t1,t2,t3,t4⟩:=trOp_spec htr
 rw [if_pos ((wanted_iff hs t4).1 hg)]
 rw [hi] at t1
 obtain ⟨fid,xs,c1,c2,c3⟩:=run_call_op t1
 have hrd:=trArgs_rd hs.store hs.env xs c2 ha (R:=as.flatMap fun s=>reach st.objs FD (s.ev st.env)) (fun o h=>h)
 let X' : Nat → Prop:=fun b=>M b ∨ ∃ o d,D o = .live d ∧ d.blk = b ∧ o ∉ as.flatMap fun s=>reach st.objs FD (s.ev st.env)
 have hX : ∀ b,XS X' DM.none b → X' b:=by
  rintro b (h | ⟨o,d,h,_⟩)
  ·exact h
  ·simp [DM.none] at h
 have hlt : ∀ b,X' b → b < w.heap.size:=by
  rintro b (h | ⟨o,d,h,rfl,_⟩)
  ·exact hs.store.mlt b h
  ·obtain ⟨_,_,_,_,_,_,_,_,h6,_⟩:=hs.store.live o d h
   exact h6
 have hcall:=ih fid c1 w X' DM.none (xs.map a.eval).toArray (by simpa using rdL_mono' hrd hX)
  ⟨fun o d h=>by simp [DM.none] at h,fun o ob h=>by simp [objAt] at h,fun o o' d d' h=>by simp [DM.none] at h,fun _ _=>rfl,hlt⟩
 refine enter_wp (c3 a w) (R:=fun v w'=>∃ Dc,rd w' Dc (XS X' Dc) r v ∧ SRel w' Dc X' σ' ∧ Gr (Own DM.none) w w' ∧ ∀ o d,Dc o = .live d → w.heap.size ≤ d.blk) (hcall.mono ?_) ?_
 ·rintro e w' ⟨v,D',rfl,h1,h2,h3,h4,_⟩
  refine ⟨v,rfl,D',h1,h2,h3,fun o d ho=>?_⟩
  rcases h4 o d ho with ⟨_,_,h,_⟩ | h
  ·simp [DM.none] at h
  ·exact h
 ·rintro v w' ⟨Dc,h1,h2,h3,h4⟩
  have hsame : ∀ b,b < w.heap.size → w'.heap[b]? = w.heap[b]?:=fun b hb=>h3.block b hb (by rintro ⟨o,d,h,_⟩;simp [DM.none] at h)
  let n:=st.objs.length
  let D' : DM:=fun o=>if o < n then D.kill R o else Dc (o - n)
  have dOld : ∀ o,o < n → D' o = D.kill R o:=fun o h=>by simp only [D',if_pos h]
  have dNew : ∀ j,D' (n + j) = Dc j:=fun j=>by simp only [D'];rw [if_neg (by omega)];congr 1;omega
  have dFrom : ∀ o d,D' o = .live d → (o < n ∧ o ∉ R ∧ D o = .live d) ∨ (n ≤ o ∧ Dc (o - n) = .live d):=by
   intro o d ho
   by_cases hon : o < n
   ·rw [dOld o hon] at ho
    obtain ⟨k1,k2⟩:=kill_live ho
    exact .inl ⟨hon,k2,k1⟩
   ·simp only [D',if_neg hon] at ho
    exact .inr ⟨by omega,ho⟩
  have E : Ext w D (XS M D) w' D' (XS M D'):=by
   refine ⟨h3.size,fun b hb _=>hsame b hb,?_,?_⟩
   ·rintro b hb (h | ⟨o,d,ho,rfl⟩)
    ·exact .inl h
    ·rcases dFrom o d ho with ⟨_,_,k⟩ | ⟨_,k⟩
     ·exact .inr ⟨o,d,k,rfl⟩
     ·have:=h4 _ d k;omega
   ·intro o
    by_cases hon : o < n
    ·rw [dOld o hon];exact kill_le D R o
    ·rw [hs.store.far o (by omega)];trivial
  have hmapX : ∀ {x : V} {v : Value},((noFrz r && freshS σ') = true → noFrz x = true) → rd w' Dc (XS X' Dc) x v → rd w' D' (XS M D') (mapV (shiftN n) x) v:=by
   intro x v hx hr
   have h:=rd_map (D':=D') (g:=shiftN n) (fun j j' hj=>by simp only [shiftN,Option.some.injEq] at hj;subst hj;rw [dNew];exact DSle.refl _) x v hr
   by_cases hf : (noFrz r && freshS σ') = true
   ·exact rd_noFrz _ _ (noFrz_map _ (hx hf)) h
   ·rw [if_neg hf] at hR
    refine rd_mono _ _ ⟨Nat.le_refl _,fun _ _ _=>rfl,fun b _ hb=>?_,fun _=>DSle.refl _⟩ h
    rcases hb with hb | ⟨o,d,ho,rfl⟩
    ·exact .inl (.inl hb)
    ·rcases dFrom o d ho with ⟨_,k2,k⟩ | ⟨_,k⟩
     ·exact .inl (.inr ⟨o,d,k,rfl,by rw [← hR];exact k2⟩)
     ·exact .inr ⟨_,d,k,rfl⟩
  have hcell : ∀ {j : Nat} {ob : Obj},objAt σ' j = some ob → ∀ x ∈ ob.rows.flatten,((noFrz r && freshS σ') = true → noFrz x = true):=by
   intro j ob hj x hx hf
   simp only [Bool.and_eq_true,freshS,List.all_eq_true] at hf
   have hmem : some ob ∈ σ':=by
    unfold objAt at hj
    cases hc : σ'[j]? with
    | none=>rw [hc] at hj;cases hj
    | some z=>rw [hc] at hj;simp at hj;subst hj;exact List.mem_of_getElem? hc
   obtain ⟨rw',hr1,hr2⟩:=List.mem_flatten.1 hx
   have:=hf.2 _ hmem
   simp only [List.all_eq_true] at this
   exact this rw' hr1 x hr2
  have hst : SRel w' D' M (addS (killAll st.objs R) σ'):=by
   refine ⟨?_,?_,?_,?_,fun b hb=>Nat.lt_of_lt_of_le (hs.store.mlt b hb) h3.size⟩
   ·intro o d ho
    rcases dFrom o d ho with ⟨k1,k2,k⟩ | ⟨k1,k⟩
    ·obtain ⟨ob,c,e,g1,g2,g3,g4,g5,g6,g7,g8,g9,g10,g11⟩:=hs.store.live o d k
     refine ⟨ob,c,e,by rw [objAt_addS,hlk,if_pos k1,objAt_kill,if_neg k2];exact g1,g2,g3,g4,g5,Nat.lt_of_lt_of_le g6 h3.size,by rw [hsame _ g6];exact g7,g8,g9,g10,fun i x hi=>?_⟩
     obtain ⟨k0,y,j1,j2⟩:=g11 i x hi
     exact ⟨k0,y,j1,rd_mono _ _ E j2⟩
    ·obtain ⟨ob,c,e,g1,g2,g3,g4,g5,g6,g7,g8,g9,g10,g11⟩:=h2.live _ d k
     refine ⟨mapO (shiftN n) ob,c,e,by rw [objAt_addS,hlk,if_neg (by omega),g1];rfl,g2,by simp [mapO,g3],g4,fun hm=>g5 (.inl hm),g6,g7,g8,g9,?_,fun i x hi=>?_⟩
     ·intro rr hrr
      simp only [mapO,List.mem_map] at hrr
      obtain ⟨r0,hr0,rfl⟩:=hrr
      simpa [mapO] using g10 r0 hr0
     ·rw [flatten_mapO,List.getElem?_map,Option.map_eq_some_iff] at hi
      obtain ⟨x0,hx0,rfl⟩:=hi
      obtain ⟨k0,y,j1,j2⟩:=g11 i x0 hx0
      exact ⟨leaf_map k0,y,j1,hmapX (hcell g1 x0 (List.mem_of_getElem? hx0)) j2⟩
   ·intro o ob ho
    rw [objAt_addS,hlk] at ho
    split at ho
    ·rename_i hon
     rw [objAt_kill] at ho
     split at ho
     ·cases ho
     ·rename_i hR'
      obtain ⟨d,hd⟩:=hs.store.alive o ob ho
      exact ⟨d,by rw [dOld o hon];simp only [DM.kill,if_neg hR'];exact hd⟩
    ·rename_i hon
     simp only [Option.map_eq_some_iff] at ho
     obtain ⟨ob0,ho,_⟩:=ho
     obtain ⟨d,hd⟩:=h2.alive _ ob0 ho
     refine ⟨d,?_⟩
     show (if o < n then _ else _) = _
     rw [if_neg hon];exact hd
   ·intro o o' d d' ho ho' hb
    rcases dFrom o d ho with ⟨a1,a2,a3⟩ | ⟨a1,a3⟩ <;> rcases dFrom o' d' ho' with ⟨b1,b2,b3⟩ | ⟨b1,b3⟩
    ·exact hs.store.inj o o' d d' a3 b3 hb
    ·obtain ⟨_,_,_,_,_,_,_,_,g6,_⟩:=hs.store.live o d a3
     have:=h4 _ d' b3;omega
    ·obtain ⟨_,_,_,_,_,_,_,_,g6,_⟩:=hs.store.live o' d' b3
     have:=h4 _ d a3;omega
    ·have:=h2.inj _ _ d d' a3 b3 hb
     omega
   ·intro o ho
    have hlo : n + σ'.length ≤ o:=by simpa [addS,hlk] using ho
    simp only [D']
    rw [if_neg (by omega)]
    exact h2.far _ (by omega)
  rw [t2]
  refine hK D' _ w' ⟨rd_put (fun t=>rd_mono _ _ E (hs.env t)) (fun d hd=>by rw [hs.tm];exact t3 d (t2.trans hd)) (hmapX (fun hf=>by simp only [Bool.and_eq_true] at hf;exact hf.1) h1),?_,?_,hst,?_,?_,fun o ho=>(hs.kp o ho).trans (E.ds o)⟩ ?_
  ·rw [← hs.tm];cases x.dst <;> simp [Act.put]
  ·rw [← hs.df];cases x.dst <;> rfl
  ·exact hs.gr.trans (h3.mono fun b _ ⟨o,d,h,_⟩=>by simp [DM.none] at h)
  ·intro o d ho
   rcases dFrom o d ho with ⟨_,_,k⟩ | ⟨_,k⟩
   ·exact hs.fr o d k
   ·exact .inr (Nat.le_trans hs.gr.size (h4 _ d k))
  ·intro o _ ho hu _
   rw [dOld o ho]
   simp only [DM.kill,hu];split <;> rfl
theorem trArgs_id {X : Nat → Prop} {env : Nat → V} (he : ∀ t,rd w D X (env t) (a.tmps.getD t undef)) :
  ∀ (xs : List Operand) {as : List Src},trArgs xs = some as → rdL w D X (as.map fun s=>s.ev env) (xs.map a.eval)
 | [],as,h=>by simp only [trArgs,Option.some.injEq] at h;subst h;simp [rdL]
 |
  x :: xs,as,h=>by
  simp only [trArgs] at h
  split at h <;> first | (cases h;done) | skip
  rename_i s r h1 h2
  simp only [Option.some.injEq] at h;subst h
  simp only [List.map_cons,rdL]
  exact ⟨_,_,rfl,rd_src he h1,trArgs_id he xs h2⟩
theorem opOk_callI {x : OpI} {f : Nat} {as : List Src} {r : V} {σ' : Store} (hg : ∀ g want,x.g = some (g,want) → st.env g = .bool want) (hi : x.i = .call f as)
  (ih : FnOk P ν f (as.map fun s=>s.ev st.env) st.objs r σ') (hl : st.objs.length ≤ σ'.length) (hb : st.objs.length ≤ st.base) :
  OpOk P ν x st { st with env:=updO st.env x.dst r,objs:=σ' }:=by
 refine ⟨rfl,rfl,hl,?_⟩
 intro ops dr nt m k o htr M w0 D0 D a w hs _ K Q hK
 obtain ⟨t1,t2,t3,t4⟩:=trOp_spec htr
 rw [if_pos ((wanted_iff hs t4).1 hg)]
 rw [hi] at t1
 obtain ⟨fid,xs,c1,c2,c3⟩:=run_call_op t1
 have hcall:=ih fid c1 w M D (xs.map a.eval).toArray (by simpa using trArgs_id hs.env xs c2) hs.store
 refine enter_wp (c3 a w) (R:=fun v w'=>∃ D',rd w' D' (XS M D') r v ∧ SRel w' D' M σ' ∧ Gr (Own D) w w' ∧ (∀ o d,D' o = .live d → Own D d.blk ∨ w.heap.size ≤ d.blk) ∧ ∀ j,j < st.objs.length → DSle (D j) (D' j)) (hcall.mono ?_) ?_
 ·rintro e w' ⟨v,D',rfl,h1,h2,h3,h4,h5⟩
  exact ⟨v,rfl,D',h1,h2,h3,h4,h5⟩
 ·rintro v w' ⟨D',h1,h2,h3,h4,h5⟩
  have E : Ext w D (XS M D) w' D' (XS M D'):=by
   refine ⟨h3.size,fun b hb hx=>h3.block b hb (fun ho=>hx (.inr ho)),?_,?_⟩
   ·rintro b hb (h | ⟨o,d,ho,rfl⟩)
    ·exact .inl h
    ·rcases h4 o d ho with h | h
     ·exact .inr h
     ·omega
   ·intro o
    rcases Nat.lt_or_ge o st.objs.length with h | h
    ·exact h5 o h
    ·rw [hs.store.far o h];trivial
  rw [t2]
  refine hK D' _ w' ⟨rd_put (fun t=>rd_mono _ _ E (hs.env t)) (fun d hd=>by rw [hs.tm];exact t3 d (t2.trans hd)) h1,?_,?_,h2,?_,?_,fun o ho=>(hs.kp o ho).trans (E.ds o)⟩ ?_
  ·rw [← hs.tm];cases x.dst <;> simp [Act.put]
  ·rw [← hs.df];cases x.dst <;> rfl
  ·exact hs.gr.trans (h3.mono fun b _ ho=>by obtain ⟨o,d,h,hb⟩:=ho;rw [← hb];exact hs.fr o d h)
  ·intro o d ho
   rcases h4 o d ho with ⟨q,d',hq,hb⟩ | h
   ·rw [← hb];exact hs.fr q d' hq
   ·exact .inr (Nat.le_trans hs.gr.size h)
  ·intro o h1 h2 _ _
   omega
theorem fnOk_reF {W : Win} {f : Nat} {args args2 : List V} {σ' σ2 : Store} {r r2 : V} (ha : LaxL args args2) (hs : ReS W σ' σ2) (hr : CanV W σ' r r2) (ih : FnOk P ν f args [] r σ') : FnOk P ν f args2 [] r2 σ2:=by
 intro fid hf w M D vals h1 h2
 refine (ih fid hf w M D vals (rdL_lax _ _ _ _ _ ha h1) h2).mono ?_
 rintro e w' ⟨v,D',rfl,k1,k2,k3,k4,k5⟩
 refine ⟨v,D'.win W 0,rfl,rd_can k2 hs.some _ _ _ hr k1,k2.re hs (Nat.zero_le _),k3,?_,fun o ho=>by simp at ho⟩
 intro k d hk
 obtain ⟨o,s,l,d0,_,e2,rfl⟩:=win_live hk
 exact k4 o d0 e2
theorem fnOk_laxF {f : Nat} {args args2 : List V} {σ σ' : Store} {r r2 : V} (ha : LaxL args args2) (hr : LaxV r2 r) (ih : FnOk P ν f args σ r σ') : FnOk P ν f args2 σ r2 σ':=by
 intro fid hf w M D vals h1 h2
 refine (ih fid hf w M D vals (rdL_lax _ _ _ _ _ ha h1) h2).mono ?_
 rintro e w' ⟨v,D',rfl,k1,k2⟩
 exact ⟨v,D',rfl,rd_lax _ _ _ _ _ hr k1,k2⟩
end
end Go.Ml
end
section
namespace Go.Ml
section
variable {σ : Store} {ρ : List Nat}
mutual
theorem OwV.gc {g : Nat → Nat} : ∀ {t v : V} {os : List Nat},OwV σ v t os → (∀ o ∈ os,place ρ o = some (g o) ∧ o ∈ ρ) → OwV (gcS ρ σ) (mapV (place ρ) v) t (os.map g)
 |
  .sl sz rows,v,os,h,hg=>by
  simp only [OwV] at h ⊢
  rcases h with ⟨h1,rfl,rfl⟩ | ⟨o,rows',os',rfl,h2,rfl,h3⟩
  ·exact .inl ⟨h1,rfl,rfl⟩
  ·obtain ⟨g1,g2⟩:=hg o (by simp)
   refine .inr ⟨g o,rows'.map fun r=>r.map (mapV (place ρ)),os'.map g,by simp only [mapV,g1],?_,rfl,OwR.gc h3 fun q hq=>hg q (by simp [hq])⟩
   rw [objAt_gcS,place_some g1]
   simp only [h2,Option.map_some];rfl
 | .agg cs,v,os,h,hg=>by simp only [OwV] at h ⊢;obtain ⟨cs',rfl,h⟩:=h;exact ⟨_,rfl,OwL.gc h hg⟩
 | .tup cs,v,os,h,hg=>by simp only [OwV] at h ⊢;obtain ⟨cs',rfl,h⟩:=h;exact ⟨_,rfl,OwL.gc h hg⟩
 | .any,v,os,h,_=>by simp [OwV] at h
 | .one,v,os,h,_=>by simp [OwV] at h
 | .int ..,v,os,h,_=>by simp only [OwV] at h ⊢;obtain ⟨rfl,rfl⟩:=h;exact ⟨rfl,rfl⟩
 | .bool _,v,os,h,_=>by simp only [OwV] at h ⊢;obtain ⟨rfl,rfl⟩:=h;exact ⟨rfl,rfl⟩
 | .str _,v,os,h,_=>by simp only [OwV] at h ⊢;obtain ⟨rfl,rfl⟩:=h;exact ⟨rfl,rfl⟩
 | .nils,v,os,h,_=>by simp [OwV] at h
 | .msl ..,v,os,h,_=>by simp [OwV] at h
 | .ptr ..,v,os,h,_=>by simp [OwV] at h
 | .fptr ..,v,os,h,_=>by simp [OwV] at h
theorem OwL.gc {g : Nat → Nat} : ∀ {ts vs : List V} {os : List Nat},OwL σ vs ts os → (∀ o ∈ os,place ρ o = some (g o) ∧ o ∈ ρ) → OwL (gcS ρ σ) (mapV.mapL (place ρ) vs) ts (os.map g)
 | [],vs,os,h,_=>by simp only [OwL] at h ⊢;obtain ⟨rfl,rfl⟩:=h;exact ⟨rfl,rfl⟩
 |
  t :: ts,vs,os,h,hg=>by
  simp only [OwL] at h ⊢
  obtain ⟨v,vs',o1,o2,rfl,rfl,h1,h2⟩:=h
  exact ⟨_,_,_,_,rfl,by rw [List.map_append],OwV.gc h1 fun q hq=>hg q (by simp [hq]),OwL.gc h2 fun q hq=>hg q (by simp [hq])⟩
theorem OwR.gc {g : Nat → Nat} : ∀ {ts vs : List (List V)} {os : List Nat},OwR σ vs ts os → (∀ o ∈ os,place ρ o = some (g o) ∧ o ∈ ρ) → OwR (gcS ρ σ) (vs.map fun r=>r.map (mapV (place ρ))) ts (os.map g)
 | [],vs,os,h,_=>by simp only [OwR] at h ⊢;obtain ⟨rfl,rfl⟩:=h;exact ⟨rfl,rfl⟩
 |
  t :: ts,vs,os,h,hg=>by
  simp only [OwR] at h ⊢
  obtain ⟨v,vs',o1,o2,rfl,rfl,h1,h2⟩:=h
  have hm : ∀ l : List V,mapV.mapL (place ρ) l = l.map (mapV (place ρ)):=by
   intro l
   induction l with
   | nil=>rfl
   | cons x l ih=>simp only [mapV.mapL,List.map_cons,ih]
  exact ⟨_,_,_,_,rfl,by rw [List.map_append],by rw [show (fun r=>List.map (mapV (place ρ)) r) v = mapV.mapL (place ρ) v from (hm v).symm];exact OwL.gc h1 fun q hq=>hg q (by simp [hq]),OwR.gc h2 fun q hq=>hg q (by simp [hq])⟩
end
theorem allNoFrz_iff {cs : List V} : noFrz.allNoFrz cs = true ↔ ∀ c ∈ cs,noFrz c = true:=by
 induction cs with
 | nil=>simp [noFrz.allNoFrz]
 | cons c cs ih=>simp [noFrz.allNoFrz,ih]
mutual
theorem OwV.objs : ∀ {t v : V} {os : List Nat},OwV σ v t os → ∀ o ∈ os,∃ ob,objAt σ o = some ob ∧ ∀ r ∈ ob.rows,∀ c ∈ r,noFrz c = true
 |
  .sl sz rows,v,os,h=>by
  simp only [OwV] at h
  rcases h with ⟨_,_,rfl⟩ | ⟨o,rows',os',_,h2,rfl,h3⟩
  ·intro o ho;cases ho
  ·intro q hq
   rcases List.mem_cons.1 hq with rfl | hq
   ·exact ⟨_,h2,OwR.noFrz h3⟩
   ·exact OwR.objs h3 q hq
 | .agg cs,v,os,h=>by simp only [OwV] at h;obtain ⟨cs',_,h⟩:=h;exact OwL.objs h
 | .tup cs,v,os,h=>by simp only [OwV] at h;obtain ⟨cs',_,h⟩:=h;exact OwL.objs h
 | .any,v,os,h=>by simp [OwV] at h
 | .one,v,os,h=>by simp [OwV] at h
 | .int ..,v,os,h=>by simp only [OwV] at h;rw [h.2];intro o ho;cases ho
 | .bool _,v,os,h=>by simp only [OwV] at h;rw [h.2];intro o ho;cases ho
 | .str _,v,os,h=>by simp only [OwV] at h;rw [h.2];intro o ho;cases ho
 | .nils,v,os,h=>by simp [OwV] at h
 | .msl ..,v,os,h=>by simp [OwV] at h
 | .ptr ..,v,os,h=>by simp [OwV] at h
 | .fptr ..,v,os,h=>by simp [OwV] at h
theorem OwL.objs : ∀ {ts vs : List V} {os : List Nat},OwL σ vs ts os → ∀ o ∈ os,∃ ob,objAt σ o = some ob ∧ ∀ r ∈ ob.rows,∀ c ∈ r,noFrz c = true
 | [],vs,os,h=>by simp only [OwL] at h;rw [h.2];intro o ho;cases ho
 |
  t :: ts,vs,os,h=>by
  simp only [OwL] at h
  obtain ⟨v,vs',o1,o2,_,rfl,h1,h2⟩:=h
  intro o ho
  rcases List.mem_append.1 ho with ho | ho
  ·exact OwV.objs h1 o ho
  ·exact OwL.objs h2 o ho
theorem OwR.objs : ∀ {ts vs : List (List V)} {os : List Nat},OwR σ vs ts os → ∀ o ∈ os,∃ ob,objAt σ o = some ob ∧ ∀ r ∈ ob.rows,∀ c ∈ r,noFrz c = true
 | [],vs,os,h=>by simp only [OwR] at h;rw [h.2];intro o ho;cases ho
 |
  t :: ts,vs,os,h=>by
  simp only [OwR] at h
  obtain ⟨v,vs',o1,o2,_,rfl,h1,h2⟩:=h
  intro o ho
  rcases List.mem_append.1 ho with ho | ho
  ·exact OwL.objs h1 o ho
  ·exact OwR.objs h2 o ho
theorem OwR.noFrz : ∀ {ts vs : List (List V)} {os : List Nat},OwR σ vs ts os → ∀ r ∈ vs,∀ c ∈ r,Ml.noFrz c = true
 | [],vs,os,h=>by simp only [OwR] at h;rw [h.1];intro r hr;cases hr
 |
  t :: ts,vs,os,h=>by
  simp only [OwR] at h
  obtain ⟨v,vs',o1,o2,rfl,_,h1,h2⟩:=h
  intro r hr
  rcases List.mem_cons.1 hr with rfl | hr
  ·exact allNoFrz_iff.1 (OwL.noFrz h1)
  ·exact OwR.noFrz h2 r hr
end
def PO (T : Nat → Option Fn) (f : Nat) (args : List V) (t : V) : Prop :=
 ∃ r σ' os,Run T (.fn f args []) (.fn r σ') ∧ OwV σ' r t os ∧ os.Nodup ∧ freshS σ' = true
theorem PO.of {T : Nat → Option Fn} {f : Nat} {args : List V} {t r : V} {σ' : Store} {os : List Nat} (h : Run T (.fn f args []) (.fn r σ')) (ho : OwV σ' r t os) (hn : os.Nodup) : PO T f args t:=by
 have hg : ∀ o ∈ os,place os o = some ((place os o).getD 0) ∧ o ∈ os:=by
  intro o hm
  refine ⟨?_,hm⟩
  cases hp : place os o with
  | none=>exact absurd hm (place_none hp)
  | some j=>rfl
 refine ⟨_,_,_,.gcF os hn (fun i hi=>by simp at hi) h,ho.gc hg,?_,?_⟩
 ·refine (List.pairwise_map.2 ?_)
  refine List.Pairwise.imp_of_mem (fun {a b} ha hb hne e=>hne ?_) hn
  have e1:=place_some (hg a ha).1
  have e2:=place_some (hg b hb).1
  rw [e,e2] at e1
  exact (Option.some.inj e1).symm
 ·simp only [freshS,List.all_eq_true]
  intro x hx
  obtain ⟨o,hm,rfl⟩:=List.mem_map.1 hx
  obtain ⟨ob,h1,h2⟩:=ho.objs o hm
  rw [h1]
  simp only [Option.map_some,mapO,List.all_eq_true]
  intro r hr c hc
  obtain ⟨r0,hr0,rfl⟩:=List.mem_map.1 hr
  obtain ⟨c0,hc0,rfl⟩:=List.mem_map.1 hc
  exact noFrz_map _ (h2 r0 hr0 c0 hc0)
theorem PO.frz {T : Nat → Option Fn} {f : Nat} {args : List V} {t : V} (h : PO T f args t) (hd : DepLe FD t) : PF T f args t:=by
 obtain ⟨r,σ',os,h1,h2,_,_⟩:=h
 exact .frz h1 (ow_res FD h2 hd)
theorem RefK_own {T : Nat → Option Fn} {f : Nat} {as : List Src} {dst : Option Nat} {env : Nat → V} {σ : Store} {kp bs : Nat} {rs ms : List Nat} {k : St → Prop} {as' : List V} {t : V} (h : PO T f as' t)
  (ha : resK env σ as (· = as'))
  (hk : ∀ r σ2 os,OwV σ2 r t os → os.Nodup → (∀ o ∈ os,σ.length ≤ o) → (∀ o,o < σ.length → objAt σ2 o = objAt σ o) → σ.length ≤ σ2.length → k ⟨updO env dst r,σ2,kp,bs,rs,ms⟩) :
  RefK T f as dst ⟨env,σ,kp,bs,rs,ms⟩ k:=by
 obtain ⟨r,σ',os,h1,h2,h3,h4⟩:=h
 obtain ⟨vs,e,rfl⟩:=resK_spec ha
 refine ⟨_,.own e h1 (R:=[]) (by rw [if_pos];simp [h2.noFrz,h4]),?_⟩
 have key : ∀ o,objAt (addS (killAll σ []) σ') (σ.length + o) = (objAt σ' o).map (mapO (shiftN σ.length)):=by
  intro o
  show objAt (addS σ σ') _ = _
  rw [objAt_addS,if_neg (by omega)]
  congr 2;omega
 refine hk _ _ (os.map (σ.length + ·)) (h2.shift key) ?_ ?_ ?_ ?_
 ·exact List.pairwise_map.2 (h3.imp fun hne e=>hne (by omega))
 ·intro o ho
  obtain ⟨q,_,rfl⟩:=List.mem_map.1 ho
  omega
 ·intro o ho
  show objAt (addS σ σ') _ = _
  rw [objAt_addS,if_pos ho]
 ·simp [addS,killAll]
theorem RefK_idn {T : Nat → Option Fn} {f : Nat} {as : List Src} {dst : Option Nat} {env : Nat → V} {σ σ' : Store} {kp bs : Nat} {rs ms : List Nat} {k : St → Prop} {r : V}
  (h : Run T (.fn f (as.map fun s=>s.ev env) σ) (.fn r σ')) (hl : σ.length ≤ σ'.length) (hb : σ.length ≤ bs) (hk : k ⟨updO env dst r,σ',kp,bs,rs,ms⟩) : RefK T f as dst ⟨env,σ,kp,bs,rs,ms⟩ k :=
 ⟨_,.idn h hl hb,hk⟩
def outW : List Res → List V → St → (V → Store → Prop) → Prop
 | [],acc,st,k=>mvK (packRes acc.reverse) fun v=>k v st.objs
 | r :: rs,acc,st,k=>optK (r.get st) fun v=>mvK v fun v=>outW rs (v :: acc) st k
theorem outW_spec {st : St} {k : V → Store → Prop} : ∀ (rs : List Res) (acc : List V),outW rs acc st k → optK (rs.mapM (Res.get st)) fun vs=>k (packRes (acc.reverse ++ vs)) st.objs
 | [],acc,h=>by simpa [optK,outW,mvK] using h
 |
  r :: rs,acc,h=>by
  obtain ⟨v,e,h⟩:=optK_spec h
  have:=outW_spec rs (v :: acc) h
  obtain ⟨vs,e2,h⟩:=optK_spec this
  simp only [List.mapM_cons,e,e2]
  simpa [optK,wr] using h
def endW (rs : List Res) (e : Ex) (k : V → Store → Prop) (st : St) : Prop:=match e with
 | .normal=>outW rs [] st k
 | .ret=>outW rs [] st k
 | .exit _=>False
theorem endW_n (rs : List Res) (k : V → Store → Prop) (st : St) : endW rs .normal k st = outW rs [] st k:=nr rfl
theorem endW_r (rs : List Res) (k : V → Store → Prop) (st : St) : endW rs .ret k st = outW rs [] st k:=nr rfl
theorem outW_n (acc : List V) (st : St) (k : V → Store → Prop) : outW [] acc st k = mvK (packRes acc.reverse) fun v=>k v st.objs:=nr rfl
theorem outW_t (t : Nat) (rs : List Res) (acc : List V) (st : St) (k : V → Store → Prop) : outW (.tmp t :: rs) acc st k = mvK (st.env t) fun v=>outW rs (v :: acc) st k:=nr rfl
theorem outW_c1 (t n : Nat) (rs : List Res) (acc : List V) (st : St) (k : V → Store → Prop) : outW (.cell t n false :: rs) acc st k = optK (rowAt st.objs (st.env t)) fun p=>optK p.1[p.2]? fun v=>mvK v fun v=>outW rs (v :: acc) st k:=by
 simp only [outW,Res.get]
 cases rowAt st.objs (st.env t) <;> rfl
theorem outW_cn (t n : Nat) (rs : List Res) (acc : List V) (st : St) (k : V → Store → Prop) : outW (.cell t n true :: rs) acc st k = optK (rowAt st.objs (st.env t)) fun p=>if p.2 + n ≤ p.1.length then mvK (.agg ((p.1.drop p.2).take n)) fun v=>outW rs (v :: acc) st k else False:=by
 simp only [outW,Res.get]
 cases e : rowAt st.objs (st.env t) with
 | none=>rfl
 |
  some p =>
  by_cases h : p.2 + n ≤ p.1.length
  ·simp only [optK,if_true,mvK,wr_eq,if_pos h]
  ·simp only [optK,if_true,mvK,wr_eq,if_neg h]
theorem run_end {T : Nat → Option Fn} {f : Nat} {F : Fn} {args : List V} {σ : Store} {k : V → Store → Prop} (rf : Nat → Nat → Bool) (hT : T f = some F) (hl : args.length = F.nargs) (hk : F.body.okC = true)
  (h : wp T rf F.body (fun e st=>endW F.res e k st) (St.enter args σ)) : ∃ r σ',Run T (.fn f args σ) (.fn r σ') ∧ k r σ':=by
 obtain ⟨e,st',h1,h2⟩:=wp_sound hk h
 have h3 : (e = .normal ∨ e = .ret) ∧ outW F.res [] st' k:=by
  cases e with
  | normal=>exact ⟨.inl rfl,h2⟩
  | ret=>exact ⟨.inr rfl,h2⟩
  | exit id=>exact h2.elim
 obtain ⟨he,h3⟩:=h3
 obtain ⟨rs,e1,h4⟩:=optK_spec (outW_spec _ _ h3)
 exact ⟨_,_,.fn hT hl h1 he e1,h4⟩
end
end Go.Ml
end
section
namespace Go.Ml
section
variable {σ : Store}
theorem OwL.len : ∀ {ts vs : List V} {os : List Nat},OwL σ vs ts os → vs.length = ts.length
 | [],vs,os,h=>by simp only [OwL] at h;simp [h.1]
 |
  t :: ts,vs,os,h=>by
  simp only [OwL] at h
  obtain ⟨v,vs',o1,o2,rfl,_,_,h2⟩:=h
  simp [OwL.len h2]
theorem OwL.focus : ∀ {ts vs : List V} {os : List Nat} (c : Nat) (t : V),OwL σ vs ts os → os.Nodup → ts[c]? = some t →
  ∃
   vc oc,vs[c]? = some vc ∧ OwV σ vc t oc ∧ oc.Nodup ∧ (∀ q ∈ oc,q ∈ os) ∧
   ∀ σ' vc' tc',OwV σ' vc' tc' oc → (∀ q ∈ os,q ∉ oc → objAt σ' q = objAt σ q) → OwL σ' (vs.set c vc') (ts.set c tc') os
 | [],vs,os,c,t,_,_,hc=>by simp at hc
 |
  x :: ts,vs,os,0,t,h,hn,hc=>by
  simp only [OwL] at h
  obtain ⟨v,vs',o1,o2,rfl,rfl,h1,h2⟩:=h
  simp at hc;subst hc
  rw [List.nodup_append] at hn
  refine ⟨v,o1,rfl,h1,hn.1,fun q hq=>by simp [hq],fun σ' vc' tc' hv hf=>?_⟩
  simp only [List.set_cons_zero,OwL]
  exact ⟨vc',vs',o1,o2,rfl,rfl,hv,h2.frame fun q hq=>hf q (by simp [hq]) fun h=>hn.2.2 q h q hq rfl⟩
 |
  x :: ts,vs,os,c + 1,t,h,hn,hc=>by
  simp only [OwL] at h
  obtain ⟨v,vs',o1,o2,rfl,rfl,h1,h2⟩:=h
  rw [List.nodup_append] at hn
  obtain ⟨vc,oc,k1,k2,k3,k4,k5⟩:=OwL.focus c t h2 hn.2.1 (by simpa using hc)
  refine ⟨vc,oc,by simpa using k1,k2,k3,fun q hq=>by simp [k4 q hq],fun σ' vc' tc' hv hf=>?_⟩
  simp only [List.set_cons_succ,OwL]
  exact ⟨v,_,o1,o2,rfl,rfl,h1.frame fun q hq=>hf q (by simp [hq]) fun h=>hn.2.2 q hq q (k4 q h) rfl,k5 σ' vc' tc' hv fun q hq hnq=>hf q (by simp [hq]) hnq⟩
theorem OwR.focus : ∀ {ts vs : List (List V)} {os : List Nat} (c : Nat) (t : List V),OwR σ vs ts os → os.Nodup → ts[c]? = some t →
  ∃
   vc oc,vs[c]? = some vc ∧ OwL σ vc t oc ∧ oc.Nodup ∧ (∀ q ∈ oc,q ∈ os) ∧
   ∀ σ' vc' tc',OwL σ' vc' tc' oc → (∀ q ∈ os,q ∉ oc → objAt σ' q = objAt σ q) → OwR σ' (vs.set c vc') (ts.set c tc') os
 | [],vs,os,c,t,_,_,hc=>by simp at hc
 |
  x :: ts,vs,os,0,t,h,hn,hc=>by
  simp only [OwR] at h
  obtain ⟨v,vs',o1,o2,rfl,rfl,h1,h2⟩:=h
  simp at hc;subst hc
  rw [List.nodup_append] at hn
  refine ⟨v,o1,rfl,h1,hn.1,fun q hq=>by simp [hq],fun σ' vc' tc' hv hf=>?_⟩
  simp only [List.set_cons_zero,OwR]
  exact ⟨vc',vs',o1,o2,rfl,rfl,hv,h2.frame fun q hq=>hf q (by simp [hq]) fun h=>hn.2.2 q h q hq rfl⟩
 |
  x :: ts,vs,os,c + 1,t,h,hn,hc=>by
  simp only [OwR] at h
  obtain ⟨v,vs',o1,o2,rfl,rfl,h1,h2⟩:=h
  rw [List.nodup_append] at hn
  obtain ⟨vc,oc,k1,k2,k3,k4,k5⟩:=OwR.focus c t h2 hn.2.1 (by simpa using hc)
  refine ⟨vc,oc,by simpa using k1,k2,k3,fun q hq=>by simp [k4 q hq],fun σ' vc' tc' hv hf=>?_⟩
  simp only [List.set_cons_succ,OwR]
  exact ⟨v,_,o1,o2,rfl,rfl,h1.frame fun q hq=>hf q (by simp [hq]) fun h=>hn.2.2 q hq q (k4 q h) rfl,k5 σ' vc' tc' hv fun q hq hnq=>hf q (by simp [hq]) hnq⟩
theorem OwV.focus {v : V} {sz : Nat} {rows : List (List V)} {os : List Nat} {i c : Nat} {row : List V} {t : V} (h : OwV σ v (.sl sz rows) os) (hn : os.Nodup) (hi : rows[i]? = some row) (hc : row[c]? = some t) :
  ∃
   o rows' row' vc oc,v = .msl o 0 rows.length ∧ objAt σ o = some ⟨sz,rows'⟩ ∧ rows'.length = rows.length ∧ rows'[i]? = some row' ∧ row'.length = row.length ∧ row'[c]? = some vc ∧ OwV σ vc t oc ∧ oc.Nodup ∧ (∀ q ∈ oc,q ∈ os) ∧ o ∈ os ∧ o ∉ oc ∧
   (∀ σ' tc',OwV σ' vc tc' oc → (∀ q ∈ os,q ∉ oc → objAt σ' q = objAt σ q) → OwV σ' v (.sl sz (rows.set i (row.set c tc'))) os) ∧
   (∀ x,oc = [] → (x.leaf = true) → (∃ k n,x = .int k n) ∨ (∃ b,x = .bool b) → OwV (σ.set o (some ⟨sz,rows'.set i (row'.set c x)⟩)) v (.sl sz (rows.set i (row.set c x))) os):=by
 simp only [OwV] at h
 rcases h with ⟨rfl,_,_⟩ | ⟨o,rows',os',rfl,h2,rfl,h3⟩
 ·simp at hi
 rw [List.nodup_cons] at hn
 obtain ⟨row',oi,k1,k2,k3,k4,k5⟩:=h3.focus i row hn.2 hi
 obtain ⟨vc,oc,j1,j2,j3,j4,j5⟩:=k2.focus c t k3 hc
 have hno : o ∉ oc:=fun h=>hn.1 (k4 o (j4 o h))
 have hset : rows'.set i (row'.set c vc) = rows':=by
  have : row'.set c vc = row':=by
   apply List.ext_getElem?
   intro n
   rw [List.getElem?_set]
   split
   ·subst_vars
    split
    ·exact j1.symm
    ·rename_i hlt
     rw [List.getElem?_eq_none (by omega)]
   ·rfl
  rw [this]
  apply List.ext_getElem?
  intro n
  rw [List.getElem?_set]
  split
  ·subst_vars
   split
   ·exact k1.symm
   ·rename_i hlt
    rw [List.getElem?_eq_none (by omega)]
  ·rfl
 refine ⟨o,rows',row',vc,oc,rfl,h2,h3.len,k1,k2.len,j1,j2,j3,fun q hq=>by simp [k4 q (j4 q hq)],by simp,hno,?_,?_⟩
 ·intro σ' tc' hv hf
  simp only [OwV]
  refine .inr ⟨o,rows',os',by simp,by rw [hf o (by simp) hno];exact h2,rfl,?_⟩
  have h6:=j5 σ' vc tc' hv fun q hq hnq=>hf q (by simp [k4 q hq]) hnq
  have h7:=k5 σ' _ _ h6 fun q hq hnq=>hf q (by simp [hq]) fun h=>hnq (j4 q h)
  rwa [hset] at h7
 ·intro x hoc hl hx
  have hlt:=objAt_lt h2
  have hf : ∀ q,q ≠ o → objAt (σ.set o (some ⟨sz,rows'.set i (row'.set c x)⟩)) q = objAt σ q:=fun q hq=>by
   rw [objAt_set hlt,if_neg (fun e=>hq e.symm)]
  simp only [OwV]
  refine .inr ⟨o,rows'.set i (row'.set c x),os',by simp,by rw [objAt_set hlt,if_pos rfl],rfl,?_⟩
  have hno' : ∀ q ∈ os',q ≠ o:=fun q hq e=>hn.1 (e ▸ hq)
  have hx' : OwV (σ.set o (some ⟨sz,rows'.set i (row'.set c x)⟩)) x x oc:=by
   rw [hoc]
   rcases hx with ⟨k,n,rfl⟩ | ⟨b,rfl⟩ <;> simp [OwV]
  have h6:=j5 (σ.set o (some ⟨sz,rows'.set i (row'.set c x)⟩)) x x hx' fun q hq _=>hf q (hno' q (k4 q hq))
  exact k5 _ _ _ h6 fun q hq _=>hf q (hno' q hq)
def Owns (σ : Store) (vs ts : List V) : Prop:=∃ os,OwL σ vs ts os ∧ os.Nodup
theorem owL_append : ∀ {ts vs ts' vs' : List V} {os os' : List Nat},OwL σ vs ts os → OwL σ vs' ts' os' → OwL σ (vs ++ vs') (ts ++ ts') (os ++ os')
 | [],vs,ts',vs',os,os',h,h'=>by simp only [OwL] at h;obtain ⟨rfl,rfl⟩:=h;simpa using h'
 |
  t :: ts,vs,ts',vs',os,os',h,h'=>by
  simp only [OwL] at h
  obtain ⟨v,vs1,o1,o2,rfl,rfl,h1,h2⟩:=h
  simp only [List.cons_append,OwL]
  exact ⟨v,vs1 ++ vs',o1,o2 ++ os',rfl,by simp,h1,owL_append h2 h'⟩
theorem Owns.push {σ2 : Store} {vs ts : List V} {r t : V} {os : List Nat} (h : Owns σ vs ts) (h1 : OwV σ2 r t os) (h2 : os.Nodup) (h3 : ∀ o ∈ os,σ.length ≤ o) (h4 : ∀ o,o < σ.length → objAt σ2 o = objAt σ o) :
  Owns σ2 (vs ++ [r]) (ts ++ [t]):=by
 obtain ⟨os0,k1,k2⟩:=h
 refine ⟨os0 ++ os,owL_append (k1.frame fun o ho=>h4 o (OwL.lt k1 o ho)) ?_,?_⟩
 ·simp only [OwL];exact ⟨r,[],os,[],rfl,by simp,h1,rfl,rfl⟩
 ·rw [List.nodup_append]
  refine ⟨k2,h2,fun a ha b hb e=>?_⟩
  have:=OwL.lt k1 a ha
  have:=h3 b hb
  omega
theorem Owns.frame {σ2 : Store} {vs ts : List V} (h : Owns σ vs ts) (h4 : ∀ o,o < σ.length → objAt σ2 o = objAt σ o) : Owns σ2 vs ts:=by
 obtain ⟨os0,k1,k2⟩:=h
 exact ⟨os0,k1.frame fun o ho=>h4 o (OwL.lt k1 o ho),k2⟩
theorem Owns.res {vs ts : List V} (h : Owns σ vs ts) {i : Nat} {v t : V} (hv : vs[i]? = some v) (ht : ts[i]? = some t) (hd : DepLe FD t) : resolve σ FD v = some t:=by
 obtain ⟨os,k1,k2⟩:=h
 obtain ⟨vc,oc,j1,j2,_⟩:=k1.focus i t k2 ht
 rw [hv] at j1
 cases j1
 exact ow_res FD j2 hd
def Mk (T : Nat → Option Fn) (f : Nat) (t : V) (k : Int) (t' : V) (k' : Int) : Prop :=
 ∀ σ v os,OwV σ v t os → os.Nodup → ∃ σ',Run T (.fn f [v,.int .i64 k] σ) (.fn (.int .i64 k') σ') ∧ OwV σ' v t' os ∧ (∀ o,o < σ.length → o ∉ os → objAt σ' o = objAt σ o) ∧ σ.length ≤ σ'.length
end
end Go.Ml
end
section
namespace Go.Ml
theorem EVw : (∀ (rs : List Res) (k : V → Store → Prop) (st : St),endW rs .normal k st = outW rs [] st k) ∧ (∀ (rs : List Res) (k : V → Store → Prop) (st : St),endW rs .ret k st = outW rs [] st k) ∧
  (∀ (acc : List V) (st : St) (k : V → Store → Prop),outW [] acc st k = mvK (packRes acc.reverse) fun v=>k v st.objs) ∧
  (∀ (t : Nat) (rs : List Res) (acc : List V) (st : St) (k : V → Store → Prop),outW (.tmp t :: rs) acc st k = mvK (st.env t) fun v=>outW rs (v :: acc) st k) ∧
  (∀ (t n : Nat) (rs : List Res) (acc : List V) (st : St) (k : V → Store → Prop),outW (.cell t n false :: rs) acc st k = optK (rowAt st.objs (st.env t)) fun p=>optK p.1[p.2]? fun v=>mvK v fun v=>outW rs (v :: acc) st k) ∧
  (∀ (t n : Nat) (rs : List Res) (acc : List V) (st : St) (k : V → Store → Prop),outW (.cell t n true :: rs) acc st k = optK (rowAt st.objs (st.env t)) fun p=>if p.2 + n ≤ p.1.length then mvK (.agg ((p.1.drop p.2).take n)) fun v=>outW rs (v :: acc) st k else False) :=
 ⟨endW_n,endW_r,outW_n,outW_t,outW_c1,outW_cn⟩
theorem objAt_snoc (σ : Store) (a : Option Obj) : objAt (σ ++ [a]) σ.length = a:=by simp [objAt]
theorem objAt_snoc_n (σ : Store) (o : Nat) : objAt (σ ++ [none]) o = objAt σ o:=by
 unfold objAt
 rcases Nat.lt_trichotomy o σ.length with h | h | h
 ·rw [List.getElem?_append_left h]
 ·subst h;simp
 ·rw [List.getElem?_eq_none (by simp;omega),List.getElem?_eq_none (by omega)]
theorem objAt_snoc_lt {σ : Store} {a : Option Obj} {o : Nat} (h : o < σ.length) : objAt (σ ++ [a]) o = objAt σ o:=by
 unfold objAt;rw [List.getElem?_append_left h]
theorem set_snoc (σ : Store) (a b : Option Obj) : (σ ++ [a]).set σ.length b = σ ++ [b]:=by
 rw [List.set_append_right _ _ (Nat.le_refl _)];simp
theorem set_snoc_lt {σ : Store} {a b : Option Obj} {o : Nat} (h : o < σ.length) : (σ ++ [a]).set o b = σ.set o b ++ [a]:=List.set_append_left _ _ h
theorem objAt_seteq {σ : Store} {o : Nat} {x : Option Obj} (h : o < σ.length) : objAt (σ.set o x) o = x:=by
 rw [objAt_set h,if_pos rfl]
theorem objAt_setne {σ : Store} {o p : Nat} {x : Option Obj} (h : o ≠ p) : objAt (σ.set p x) o = objAt σ o:=by
 unfold objAt
 rw [List.getElem?_set,if_neg (fun e=>h e.symm)]
theorem stoK_any (σ : Store) (k : Store → Prop) : stoK σ k = k σ:=nr rfl
theorem EVs : (∀ (σ : Store) (k : Store → Prop),stoK σ k = k σ) ∧ (∀ (σ : Store) (a : Option Obj),objAt (σ ++ [a]) σ.length = a) ∧ (∀ (σ : Store) (o : Nat),objAt (σ ++ [none]) o = objAt σ o) ∧
  (∀ {σ : Store} {a : Option Obj} {o : Nat},o < σ.length → objAt (σ ++ [a]) o = objAt σ o) ∧ (∀ (σ : Store) (a b : Option Obj),(σ ++ [a]).set σ.length b = σ ++ [b]) ∧
  (∀ {σ : Store} {a b : Option Obj} {o : Nat},o < σ.length → (σ ++ [a]).set o b = σ.set o b ++ [a]) ∧ (∀ {σ : Store} {o : Nat} {x : Option Obj},o < σ.length → objAt (σ.set o x) o = x) ∧
  (∀ {σ : Store} {o p : Nat} {x : Option Obj},o ≠ p → objAt (σ.set p x) o = objAt σ o) ∧ (∀ (σ : Store) (a : Option Obj),(σ ++ [a]).length = σ.length + 1) ∧ (∀ (σ : Store) (o : Nat) (x : Option Obj),(σ.set o x).length = σ.length) :=
 ⟨stoK_any,objAt_snoc,objAt_snoc_n,fun h=>objAt_snoc_lt h,set_snoc,fun h=>set_snoc_lt h,fun h=>objAt_seteq h,fun h=>objAt_setne h,fun σ a=>by simp,fun σ o x=>by simp⟩
structure Got (σ σ2 : Store) (r t : V) (os : List Nat) : Prop where
 ow : OwV σ2 r t os
 nd : os.Nodup
 fresh : ∀ o ∈ os,σ.length ≤ o
 old : ∀ o,o < σ.length → objAt σ2 o = objAt σ o
 len : σ.length ≤ σ2.length
theorem RefK_got {T : Nat → Option Fn} {f : Nat} {as : List Src} {dst : Option Nat} {env : Nat → V} {σ : Store} {kp bs : Nat} {rs ms : List Nat} {k : St → Prop} {as' : List V} {t : V} (h : PO T f as' t)
  (ha : resK env σ as (· = as')) (hk : ∀ r σ2 os,Got σ σ2 r t os → k ⟨updO env dst r,σ2,kp,bs,rs,ms⟩) : RefK T f as dst ⟨env,σ,kp,bs,rs,ms⟩ k :=
 RefK_own h ha fun r σ2 os h1 h2 h3 h4 h5=>hk r σ2 os ⟨h1,h2,h3,h4,h5⟩
theorem OwnK_got {T : Nat → Option Fn} {f : Nat} {as : List Src} {dst : Option Nat} {env : Nat → V} {σ : Store} {kp bs : Nat} {rs ms : List Nat} {k : List Nat → List Nat → Bool → St → Prop} {as' : List V} {t : V} (h : PO T f as' t)
  (ha : resK env σ as (· = as')) (hk : ∀ r σ2 os,Got σ σ2 r t os → k (reachAll env σ as) [] true ⟨updO env dst r,σ2,kp,bs,rs,ms⟩) : OwnK T f as dst ⟨env,σ,kp,bs,rs,ms⟩ k:=by
 obtain ⟨r,σ',os,h1,h2,h3,h4⟩:=h
 obtain ⟨vs,e,rfl⟩:=resK_spec ha
 refine .inl ⟨_,r,σ',e,h1,by simp [h2.noFrz,h4],?_⟩
 have key : ∀ o,objAt (addS σ σ') (σ.length + o) = (objAt σ' o).map (mapO (shiftN σ.length)):=by
  intro o
  rw [objAt_addS,if_neg (by omega)]
  congr 2;omega
 refine hk _ _ (os.map (σ.length + ·)) ⟨h2.shift key,?_,?_,?_,?_⟩
 ·exact List.pairwise_map.2 (h3.imp fun hne e=>hne (by omega))
 ·intro o ho
  obtain ⟨q,_,rfl⟩:=List.mem_map.1 ho
  omega
 ·intro o ho
  rw [objAt_addS,if_pos ho]
 ·simp [addS]
theorem Owns.got {σ σ2 : Store} {vs ts : List V} {r t : V} {os : List Nat} (h : Owns σ vs ts) (g : Got σ σ2 r t os) : Owns σ2 (vs ++ [r]) (ts ++ [t]):=h.push g.ow g.nd g.fresh g.old
theorem owL_int {σ : Store} {q : IntKind} {n : Int} {vs ts : List V} {os : List Nat} (h : OwL σ vs ts os) : OwL σ (.int q n :: vs) (.int q n :: ts) os:=by
 simp only [OwL];exact ⟨_,vs,[],os,rfl,rfl,by simp [OwV],h⟩
theorem owL_bool {σ : Store} {b : Bool} {vs ts : List V} {os : List Nat} (h : OwL σ vs ts os) : OwL σ (.bool b :: vs) (.bool b :: ts) os:=by
 simp only [OwL];exact ⟨_,vs,[],os,rfl,rfl,by simp [OwV],h⟩
theorem owL_v {σ : Store} {v t : V} {vs ts : List V} {o1 o2 : List Nat} (h1 : OwV σ v t o1) (h : OwL σ vs ts o2) : OwL σ (v :: vs) (t :: ts) (o1 ++ o2):=by
 simp only [OwL];exact ⟨v,vs,o1,o2,rfl,rfl,h1,h⟩
theorem owL_nil {σ : Store} : OwL σ [] [] []:=by simp [OwL]
theorem owV_agg {σ : Store} {cs ts : List V} {os : List Nat} (h : OwL σ cs ts os) : OwV σ (.agg cs) (.agg ts) os:=by simp only [OwV];exact ⟨cs,rfl,h⟩
theorem owV_tup {σ : Store} {cs ts : List V} {os : List Nat} (h : OwL σ cs ts os) : OwV σ (.tup cs) (.tup ts) os:=by simp only [OwV];exact ⟨cs,rfl,h⟩
theorem owV_ints {σ : Store} {o : Nat} {l : List Int} (h : objAt σ o = some ⟨1,irows l⟩) : OwV σ (.msl o 0 l.length) (ints l) [o]:=by
 simp only [OwV]
 refine .inr ⟨o,irows l,[],by rw [ir_len],h,rfl,?_⟩
 have : ∀ (l : List Int),OwR σ (irows l) (irows l) []:=by
  intro l
  induction l with
  | nil=>simp [irows,OwR]
  | cons x l ih=>simp only [irows_cons,OwR];exact ⟨_,_,[],[],rfl,rfl,owL_int owL_nil,ih⟩
 exact this _
theorem owV_ints0 {σ : Store} : OwV σ (.sl 1 []) (ints []) []:=by simp [OwV,irows]
theorem OwV.ints_inv {σ : Store} {v : V} {l : List Int} {os : List Nat} (h : OwV σ v (ints l) os) : (l = [] ∧ v = .sl 1 [] ∧ os = []) ∨ ∃ o,v = .msl o 0 l.length ∧ objAt σ o = some ⟨1,irows l⟩ ∧ os = [o]:=by
 simp only [OwV] at h
 rcases h with ⟨h1,h2,h3⟩ | ⟨o,rows',os',h1,h2,h3,h4⟩
 ·left;exact ⟨by simpa [irows] using h1,h2,h3⟩
 ·right
  have key : ∀ (l : List Int) (rows' : List (List V)) (os' : List Nat),OwR σ rows' (irows l) os' → rows' = irows l ∧ os' = []:=by
   intro l
   induction l with
   | nil=>intro rows' os' h;simp only [irows_nil,OwR] at h;exact h
   |
    cons x l ih =>
    intro rows' os' h
    simp only [irows_cons,OwR] at h
    obtain ⟨v,vs',o1,o2,rfl,rfl,h1,h2⟩:=h
    obtain ⟨rfl,rfl⟩:=ih _ _ h2
    simp only [OwL,OwV] at h1
    obtain ⟨v1,vs1,a1,a2,rfl,rfl,⟨rfl,rfl⟩,rfl,rfl⟩:=h1
    exact ⟨rfl,rfl⟩
  obtain ⟨rfl,rfl⟩:=key l rows' os' h4
  exact ⟨o,by rw [h1,ir_len],h2,h3⟩
structure Fr (os : List Nat) (σ σ' : Store) : Prop where
 old : ∀ o,o < σ.length → o ∉ os → objAt σ' o = objAt σ o
 len : σ.length ≤ σ'.length
theorem Fr.refl (os : List Nat) (σ : Store) : Fr os σ σ:=⟨fun _ _ _=>rfl,Nat.le_refl _⟩
theorem Fr.trans {os : List Nat} {a b c : Store} (h : Fr os a b) (k : Fr os b c) : Fr os a c:=⟨fun o hl ho=>(k.old o (Nat.lt_of_lt_of_le hl h.len) ho).trans (h.old o hl ho),Nat.le_trans h.len k.len⟩
theorem Fr.mono {os os' : List Nat} {a b : Store} (h : Fr os a b) (hs : ∀ o ∈ os,o ∈ os') : Fr os' a b:=⟨fun o hl ho=>h.old o hl fun k=>ho (hs o k),h.len⟩
theorem fr_set {os : List Nat} {σ : Store} {o : Nat} {x : Option Obj} (h : o ∈ os) : Fr os σ (σ.set o x):=⟨fun p _ hp=>objAt_setne fun e=>hp (e ▸ h),by simp⟩
theorem fr_snoc {os : List Nat} {σ : Store} {x : Option Obj} : Fr os σ (σ ++ [x]):=⟨fun p hl _=>objAt_snoc_lt hl,by simp⟩
theorem mk_iff {T : Nat → Option Fn} {f : Nat} {t t' : V} {k k' : Int} (h : ∀ σ v os,OwV σ v t os → os.Nodup → ∃ σ',Run T (.fn f [v,.int .i64 k] σ) (.fn (.int .i64 k') σ') ∧ OwV σ' v t' os ∧ Fr os σ σ') : Mk T f t k t' k':=by
 intro σ v os h1 h2
 obtain ⟨σ',a,b,c⟩:=h σ v os h1 h2
 exact ⟨σ',a,b,c.old,c.len⟩
def Fin (σ : Store) (r t : V) : Prop:=∃ r' os,LaxV r' r ∧ OwV σ r' t os ∧ os.Nodup
theorem fin_of {σ : Store} {r t : V} {os : List Nat} (h : OwV σ r t os) (hn : os.Nodup) : Fin σ r t:=⟨r,os,laxV_refl _,h,hn⟩
theorem fin_nil {σ : Store} {sz : Nat} : Fin σ .nils (.sl sz []):=⟨.sl sz [],[],by simp [LaxV],by simp [OwV],.nil⟩
theorem fin_ints {σ : Store} {o : Nat} {l : List Int} (h : objAt σ o = some ⟨1,irows l⟩) : Fin σ (.msl o 0 l.length) (ints l):=fin_of (owV_ints h) (by simp)
theorem fin_ints0 {σ : Store} {l : List Int} (h : irows l = []) : Fin σ .nils (ints l):=by
 have : l = []:=irows_nil'.1 h
 subst this;exact fin_nil
theorem po_end2 {T : Nat → Option Fn} {f : Nat} {F : Fn} {args : List V} {t : V} (rf : Nat → Nat → Bool) (hT : T f = some F) (hl : args.length = F.nargs) (hk : F.body.okC = true)
  (h : wp T rf F.body (fun e st=>endW F.res e (fun r σ=>Fin σ r t) st) (St.enter args [])) : PO T f args t:=by
 obtain ⟨r,σ',h1,r',os,h2,h3,h4⟩:=run_end rf hT hl hk h
 exact .of (.laxF (laxL_refl _) h1 h2) h3 h4
theorem cells_lf {v : V} (h : v.leaf = true) (k : List V → Prop) : cellsK v k = k [v]:=by
 cases v <;> first | rfl | (simp [V.leaf] at h)
theorem Got.lf {σ σ2 : Store} {r t : V} {os : List Nat} (g : Got σ σ2 r t os) (h : t.leaf = true) (k : List V → Prop) : cellsK r k = k [r]:=cells_lf (g.ow.leaf h) k
theorem Got.at {σ σ2 : Store} {r t : V} {os : List Nat} (g : Got σ σ2 r t os) (o : Nat) {x : Option Obj} (h : o < σ.length) (hx : objAt σ o = x) : objAt σ2 o = x:=(g.old o h).trans hx
theorem EVl : V.leaf .one = true ∧ (∀ k n,V.leaf (.int k n) = true) ∧ (∀ b,V.leaf (.bool b) = true) ∧ (∀ b,V.leaf (.str b) = true) ∧ V.leaf .nils = true ∧ (∀ a b,V.leaf (.sl a b) = true) ∧ (∀ a b c,V.leaf (.msl a b c) = true) ∧
  (∀ a b c,V.leaf (.ptr a b c) = true) ∧ (∀ a b,V.leaf (.fptr a b) = true) ∧ (∀ a,V.leaf (.agg a) = false) ∧ (∀ a,V.leaf (.tup a) = false) ∧ V.leaf .any = false :=
 ⟨rfl,fun _ _=>rfl,fun _=>rfl,fun _=>rfl,rfl,fun _ _=>rfl,fun _ _ _=>rfl,fun _ _ _=>rfl,fun _ _=>rfl,fun _=>rfl,fun _=>rfl,rfl⟩
theorem Got.lfb {σ σ2 : Store} {r t : V} {os : List Nat} (g : Got σ σ2 r t os) (h : t.leaf = true) : r.leaf = true:=g.ow.leaf h
theorem OwV.agg_inv {σ : Store} {r : V} {ts : List V} {os : List Nat} (h : OwV σ r (.agg ts) os) : ∃ cs,r = .agg cs ∧ OwL σ cs ts os:=by simpa only [OwV] using h
theorem OwV.tup_inv {σ : Store} {r : V} {ts : List V} {os : List Nat} (h : OwV σ r (.tup ts) os) : ∃ cs,r = .tup cs ∧ OwL σ cs ts os:=by simpa only [OwV] using h
theorem OwL.int_inv {σ : Store} {vs ts : List V} {q : IntKind} {n : Int} {os : List Nat} (h : OwL σ vs (.int q n :: ts) os) : ∃ vs',vs = .int q n :: vs' ∧ OwL σ vs' ts os:=by
 simp only [OwL,OwV] at h
 obtain ⟨v,vs',o1,o2,rfl,rfl,⟨rfl,rfl⟩,h⟩:=h
 exact ⟨vs',rfl,h⟩
theorem OwL.bool_inv {σ : Store} {vs ts : List V} {b : Bool} {os : List Nat} (h : OwL σ vs (.bool b :: ts) os) : ∃ vs',vs = .bool b :: vs' ∧ OwL σ vs' ts os:=by
 simp only [OwL,OwV] at h
 obtain ⟨v,vs',o1,o2,rfl,rfl,⟨rfl,rfl⟩,h⟩:=h
 exact ⟨vs',rfl,h⟩
theorem OwL.inv {σ : Store} {vs ts : List V} {t : V} {os : List Nat} (h : OwL σ vs (t :: ts) os) : ∃ v vs' o1 o2,vs = v :: vs' ∧ os = o1 ++ o2 ∧ OwV σ v t o1 ∧ OwL σ vs' ts o2:=by
 simpa only [OwL] using h
theorem OwL.nil_inv {σ : Store} {vs : List V} {os : List Nat} (h : OwL σ vs [] os) : vs = [] ∧ os = []:=by simpa only [OwL] using h
theorem OwL.leaf : ∀ {σ : Store} {ts vs : List V} {os : List Nat},OwL σ vs ts os → ts.all V.leaf = true → vs.all V.leaf = true
 | _,[],vs,os,h,_=>by obtain ⟨rfl,_⟩:=h.nil_inv;rfl
 |
  σ,t :: ts,vs,os,h,hl=>by
  obtain ⟨v,vs',o1,o2,rfl,rfl,h1,h2⟩:=h.inv
  simp only [List.all_cons,Bool.and_eq_true] at hl ⊢
  exact ⟨h1.leaf hl.1,h2.leaf hl.2⟩
theorem cells_agg {cs : List V} (h : cs.all V.leaf = true) (k : List V → Prop) : cellsK (.agg cs) k = k cs:=by
 unfold cellsK
 simp only [V.cells?]
 rw [if_pos h];rfl
theorem OwV.bi_inv {σ : Store} {v : V} {n : Bool} {l : List Int} {os : List Nat} (h : OwV σ v (.agg [.bool n,ints l]) os) : ∃ v1,v = .agg [.bool n,v1] ∧ OwV σ v1 (ints l) os:=by
 obtain ⟨cs,rfl,a⟩:=h.agg_inv
 obtain ⟨cs,rfl,b⟩:=a.bool_inv
 obtain ⟨v1,cs,o1,o2,rfl,rfl,c,d⟩:=b.inv
 obtain ⟨rfl,rfl⟩:=d.nil_inv
 exact ⟨v1,rfl,by simpa using c⟩
theorem OwV.rat_inv {σ : Store} {v : V} {n : Bool} {l m : List Int} {os : List Nat} (h : OwV σ v (.agg [.bool n,ints l,ints m]) os) :
  ∃ v1 v2 o1 o2,v = .agg [.bool n,v1,v2] ∧ os = o1 ++ o2 ∧ OwV σ v1 (ints l) o1 ∧ OwV σ v2 (ints m) o2:=by
 obtain ⟨cs,rfl,a⟩:=h.agg_inv
 obtain ⟨cs,rfl,b⟩:=a.bool_inv
 obtain ⟨v1,cs,o1,o2,rfl,rfl,c,d⟩:=b.inv
 obtain ⟨v2,cs,o3,o4,rfl,rfl,e,f⟩:=d.inv
 obtain ⟨rfl,rfl⟩:=f.nil_inv
 exact ⟨v1,v2,o1,o3,rfl,by simp,c,e⟩
structure Ow (n : Nat) (σ : Store) (vs ts : List V) : Prop where
 ex : ∃ os,OwL σ vs ts os ∧ os.Nodup ∧ ∀ o ∈ os,n ≤ o
theorem ow_nil {n : Nat} {σ : Store} : Ow n σ [] []:=⟨[],owL_nil,.nil,by simp⟩
theorem Ow.set {n : Nat} {σ : Store} {vs ts : List V} (h : Ow n σ vs ts) {o : Nat} {x : Option Obj} (ho : o < n) : Ow n (σ.set o x) vs ts:=by
 obtain ⟨os,a,b,c⟩:=h.ex
 exact ⟨os,a.frame fun q hq=>objAt_setne (by have:=c q hq;omega),b,c⟩
theorem Ow.snoc {n : Nat} {σ : Store} {vs ts : List V} (h : Ow n σ vs ts) {x : Option Obj} : Ow n (σ ++ [x]) vs ts:=by
 obtain ⟨os,a,b,c⟩:=h.ex
 exact ⟨os,a.frame fun q hq=>objAt_snoc_lt (a.lt q hq),b,c⟩
theorem Ow.got {n : Nat} {σ σ2 : Store} {vs ts : List V} {r t : V} {os : List Nat} (h : Ow n σ vs ts) (g : Got σ σ2 r t os) (hn : n ≤ σ.length) : Ow n σ2 (vs ++ [r]) (ts ++ [t]):=by
 obtain ⟨os0,a,b,c⟩:=h.ex
 refine ⟨os0 ++ os,owL_append (a.frame fun o ho=>g.old o (a.lt o ho)) ?_,?_,fun o ho=>?_⟩
 ·simpa using owL_v g.ow owL_nil
 ·rw [List.nodup_append]
  refine ⟨b,g.nd,fun x hx y hy e=>?_⟩
  have:=a.lt x hx
  have:=g.fresh y hy
  omega
 ·rcases List.mem_append.1 ho with ho | ho
  ·exact c o ho
  ·have:=g.fresh o ho;omega
theorem Ow.int {n : Nat} {σ : Store} {vs ts : List V} (h : Ow n σ vs ts) (q : IntKind) (k : Int) : Ow n σ (vs ++ [.int q k]) (ts ++ [.int q k]):=by
 obtain ⟨os0,a,b,c⟩:=h.ex
 exact ⟨os0,by simpa using owL_append a (owL_int (q:=q) (n:=k) owL_nil),b,c⟩
theorem Ow.bool {n : Nat} {σ : Store} {vs ts : List V} (h : Ow n σ vs ts) (k : Bool) : Ow n σ (vs ++ [.bool k]) (ts ++ [.bool k]):=by
 obtain ⟨os0,a,b,c⟩:=h.ex
 exact ⟨os0,by simpa using owL_append a (owL_bool (b:=k) owL_nil),b,c⟩
theorem owL_split : ∀ {σ : Store} {ts ts' vs : List V} {os : List Nat},OwL σ vs (ts ++ ts') os → ∃ v1 v2 o1 o2,vs = v1 ++ v2 ∧ os = o1 ++ o2 ∧ OwL σ v1 ts o1 ∧ OwL σ v2 ts' o2
 | σ,[],ts',vs,os,h=>⟨[],vs,[],os,rfl,rfl,owL_nil,h⟩
 |
  σ,t :: ts,ts',vs,os,h=>by
  obtain ⟨v,vs',o1,o2,rfl,rfl,h1,h2⟩:=OwL.inv h
  obtain ⟨a,b,c,d,rfl,rfl,h3,h4⟩:=owL_split h2
  exact ⟨v :: a,b,o1 ++ c,d,rfl,by simp,owL_v h1 h3,h4⟩
theorem Ow.flat {n : Nat} {σ : Store} {vs ts cs tcs : List V} (h : Ow n σ (vs ++ [.agg cs]) (ts ++ [.agg tcs])) (hl : vs.length = ts.length) : Ow n σ (vs ++ cs) (ts ++ tcs):=by
 obtain ⟨os0,a,b,c⟩:=h.ex
 obtain ⟨v1,v2,o1,o2,e,rfl,h1,h2⟩:=owL_split a
 have hl1:=h1.len
 obtain ⟨rfl,rfl⟩:=List.append_inj e (by omega)
 obtain ⟨v,vs',o3,o4,e2,rfl,h3,h4⟩:=h2.inv
 simp only [List.cons.injEq] at e2
 obtain ⟨rfl,rfl⟩:=e2
 obtain ⟨_,rfl⟩:=h4.nil_inv
 obtain ⟨cs',e3,h5⟩:=h3.agg_inv
 cases e3
 exact ⟨o1 ++ o3,owL_append h1 h5,by simpa using b,fun o ho=>c o (by simpa using ho)⟩
theorem Ow.fin {n : Nat} {σ : Store} {vs ts : List V} (h : Ow n σ vs ts) : Fin σ (.agg vs) (.agg ts):=by
 obtain ⟨os0,a,b,c⟩:=h.ex
 exact fin_of (owV_agg a) b
theorem owR_append : ∀ {σ : Store} {ts vs ts' vs' : List (List V)} {os os' : List Nat},OwR σ vs ts os → OwR σ vs' ts' os' → OwR σ (vs ++ vs') (ts ++ ts') (os ++ os')
 | σ,[],vs,ts',vs',os,os',h,h'=>by simp only [OwR] at h;obtain ⟨rfl,rfl⟩:=h;simpa using h'
 |
  σ,t :: ts,vs,ts',vs',os,os',h,h'=>by
  simp only [OwR] at h
  obtain ⟨v,vs1,o1,o2,rfl,rfl,h1,h2⟩:=h
  simp only [List.cons_append,OwR]
  exact ⟨v,vs1 ++ vs',o1,o2 ++ os',rfl,by simp,h1,owR_append h2 h'⟩
theorem owR_1 {σ : Store} {v t : List V} {os : List Nat} (h : OwL σ v t os) : OwR σ [v] [t] os:=by
 simp only [OwR];exact ⟨v,[],os,[],rfl,by simp,h,rfl,rfl⟩
structure OwRs (n : Nat) (σ : Store) (vs ts : List (List V)) : Prop where
 ex : ∃ os,OwR σ vs ts os ∧ os.Nodup ∧ ∀ o ∈ os,n ≤ o
theorem owRs_nil {n : Nat} {σ : Store} : OwRs n σ [] []:=⟨[],by simp [OwR],.nil,by simp⟩
theorem OwRs.set {n : Nat} {σ : Store} {vs ts : List (List V)} (h : OwRs n σ vs ts) {o : Nat} {x : Option Obj} (ho : o < n) : OwRs n (σ.set o x) vs ts:=by
 obtain ⟨os,a,b,c⟩:=h.ex
 exact ⟨os,a.frame fun q hq=>objAt_setne (by have:=c q hq;omega),b,c⟩
theorem OwRs.got {n : Nat} {σ σ2 : Store} {vs ts : List (List V)} {cs tcs : List V} {os : List Nat} (h : OwRs n σ vs ts) (g : Got σ σ2 (.agg cs) (.agg tcs) os) (hn : n ≤ σ.length) : OwRs n σ2 (vs ++ [cs]) (ts ++ [tcs]):=by
 obtain ⟨os0,a,b,c⟩:=h.ex
 obtain ⟨cs',e,h5⟩:=g.ow.agg_inv
 cases e
 refine ⟨os0 ++ os,owR_append (a.frame fun o ho=>g.old o (a.lt o ho)) (owR_1 h5),?_,fun o ho=>?_⟩
 ·rw [List.nodup_append]
  refine ⟨b,g.nd,fun x hx y hy e=>?_⟩
  have:=a.lt x hx
  have:=g.fresh y hy
  omega
 ·rcases List.mem_append.1 ho with ho | ho
  ·exact c o ho
  ·have:=g.fresh o ho;omega
theorem OwRs.fin {n o sz : Nat} {σ : Store} {vs ts : List (List V)} (h : OwRs n σ vs ts) (ho : objAt σ o = some ⟨sz,vs⟩) (hn : o < n) : Fin σ (.msl o 0 ts.length) (.sl sz ts):=by
 obtain ⟨os0,a,b,c⟩:=h.ex
 refine fin_of (os:=o :: os0) ?_ (List.nodup_cons.2 ⟨fun k=>by have:=c o k;omega,b⟩)
 simp only [OwV]
 exact .inr ⟨o,vs,os0,rfl,ho,rfl,a⟩
theorem ew {P Q : Prop} (h : Q) (e : P = Q:=by conv=>lhs;simp (maxSteps:=1000000) (disch:=first | omega | assumption | (simp;done) | (simp;omega)) only [↓EVp,↓EVw,EVs,EVl,EVq,splice,Nat.reduceAdd,Nat.reduceEqDiff,Nat.reduceMul,Nat.reduceLT,Nat.reduceLeDiff,Nat.reduceBEq,reduceIte,noWr,noRf,dN_s,Bool.true_and,Bool.false_and,Bool.or_false,Bool.false_or,Bool.true_or,reduceCtorEq]) : P:=Eq.mpr (e) h
theorem ew1 {P Q A1 : Prop} (x1 : A1) (h : Q) (e : A1 → P = Q:=by intro x1;conv=>lhs;simp (maxSteps:=1000000) (disch:=first | omega | assumption | (simp;done) | (simp;omega)) only [↓EVp,↓EVw,EVs,EVl,EVq,splice,Nat.reduceAdd,Nat.reduceEqDiff,Nat.reduceMul,Nat.reduceLT,Nat.reduceLeDiff,Nat.reduceBEq,reduceIte,noWr,noRf,dN_s,Bool.true_and,Bool.false_and,Bool.or_false,Bool.false_or,Bool.true_or,reduceCtorEq,x1]) : P:=Eq.mpr (e x1) h
theorem ew2 {P Q A1 A2 : Prop} (x1 : A1) (x2 : A2) (h : Q) (e : A1 → A2 → P = Q:=by intro x1 x2;conv=>lhs;simp (maxSteps:=1000000) (disch:=first | omega | assumption | (simp;done) | (simp;omega)) only [↓EVp,↓EVw,EVs,EVl,EVq,splice,Nat.reduceAdd,Nat.reduceEqDiff,Nat.reduceMul,Nat.reduceLT,Nat.reduceLeDiff,Nat.reduceBEq,reduceIte,noWr,noRf,dN_s,Bool.true_and,Bool.false_and,Bool.or_false,Bool.false_or,Bool.true_or,reduceCtorEq,x1,x2]) : P:=Eq.mpr (e x1 x2) h
theorem ew3 {P Q A1 A2 A3 : Prop} (x1 : A1) (x2 : A2) (x3 : A3) (h : Q) (e : A1 → A2 → A3 → P = Q:=by intro x1 x2 x3;conv=>lhs;simp (maxSteps:=1000000) (disch:=first | omega | assumption | (simp;done) | (simp;omega)) only [↓EVp,↓EVw,EVs,EVl,EVq,splice,Nat.reduceAdd,Nat.reduceEqDiff,Nat.reduceMul,Nat.reduceLT,Nat.reduceLeDiff,Nat.reduceBEq,reduceIte,noWr,noRf,dN_s,Bool.true_and,Bool.false_and,Bool.or_false,Bool.false_or,Bool.true_or,reduceCtorEq,x1,x2,x3]) : P:=Eq.mpr (e x1 x2 x3) h
theorem ew4 {P Q A1 A2 A3 A4 : Prop} (x1 : A1) (x2 : A2) (x3 : A3) (x4 : A4) (h : Q) (e : A1 → A2 → A3 → A4 → P = Q:=by intro x1 x2 x3 x4;conv=>lhs;simp (maxSteps:=1000000) (disch:=first | omega | assumption | (simp;done) | (simp;omega)) only [↓EVp,↓EVw,EVs,EVl,EVq,splice,Nat.reduceAdd,Nat.reduceEqDiff,Nat.reduceMul,Nat.reduceLT,Nat.reduceLeDiff,Nat.reduceBEq,reduceIte,noWr,noRf,dN_s,Bool.true_and,Bool.false_and,Bool.or_false,Bool.false_or,Bool.true_or,reduceCtorEq,x1,x2,x3,x4]) : P:=Eq.mpr (e x1 x2 x3 x4) h
theorem ew5 {P Q A1 A2 A3 A4 A5 : Prop} (x1 : A1) (x2 : A2) (x3 : A3) (x4 : A4) (x5 : A5) (h : Q) (e : A1 → A2 → A3 → A4 → A5 → P = Q:=by intro x1 x2 x3 x4 x5;conv=>lhs;simp (maxSteps:=1000000) (disch:=first | omega | assumption | (simp;done) | (simp;omega)) only [↓EVp,↓EVw,EVs,EVl,EVq,splice,Nat.reduceAdd,Nat.reduceEqDiff,Nat.reduceMul,Nat.reduceLT,Nat.reduceLeDiff,Nat.reduceBEq,reduceIte,noWr,noRf,dN_s,Bool.true_and,Bool.false_and,Bool.or_false,Bool.false_or,Bool.true_or,reduceCtorEq,x1,x2,x3,x4,x5]) : P:=Eq.mpr (e x1 x2 x3 x4 x5) h
theorem ew6 {P Q A1 A2 A3 A4 A5 A6 : Prop} (x1 : A1) (x2 : A2) (x3 : A3) (x4 : A4) (x5 : A5) (x6 : A6) (h : Q) (e : A1 → A2 → A3 → A4 → A5 → A6 → P = Q:=by intro x1 x2 x3 x4 x5 x6;conv=>lhs;simp (maxSteps:=1000000) (disch:=first | omega | assumption | (simp;done) | (simp;omega)) only [↓EVp,↓EVw,EVs,EVl,EVq,splice,Nat.reduceAdd,Nat.reduceEqDiff,Nat.reduceMul,Nat.reduceLT,Nat.reduceLeDiff,Nat.reduceBEq,reduceIte,noWr,noRf,dN_s,Bool.true_and,Bool.false_and,Bool.or_false,Bool.false_or,Bool.true_or,reduceCtorEq,x1,x2,x3,x4,x5,x6]) : P:=Eq.mpr (e x1 x2 x3 x4 x5 x6) h
theorem ew7 {P Q A1 A2 A3 A4 A5 A6 A7 : Prop} (x1 : A1) (x2 : A2) (x3 : A3) (x4 : A4) (x5 : A5) (x6 : A6) (x7 : A7) (h : Q) (e : A1 → A2 → A3 → A4 → A5 → A6 → A7 → P = Q:=by intro x1 x2 x3 x4 x5 x6 x7;conv=>lhs;simp (maxSteps:=1000000) (disch:=first | omega | assumption | (simp;done) | (simp;omega)) only [↓EVp,↓EVw,EVs,EVl,EVq,splice,Nat.reduceAdd,Nat.reduceEqDiff,Nat.reduceMul,Nat.reduceLT,Nat.reduceLeDiff,Nat.reduceBEq,reduceIte,noWr,noRf,dN_s,Bool.true_and,Bool.false_and,Bool.or_false,Bool.false_or,Bool.true_or,reduceCtorEq,x1,x2,x3,x4,x5,x6,x7]) : P:=Eq.mpr (e x1 x2 x3 x4 x5 x6 x7) h
theorem ew8 {P Q A1 A2 A3 A4 A5 A6 A7 A8 : Prop} (x1 : A1) (x2 : A2) (x3 : A3) (x4 : A4) (x5 : A5) (x6 : A6) (x7 : A7) (x8 : A8) (h : Q) (e : A1 → A2 → A3 → A4 → A5 → A6 → A7 → A8 → P = Q:=by intro x1 x2 x3 x4 x5 x6 x7 x8;conv=>lhs;simp (maxSteps:=1000000) (disch:=first | omega | assumption | (simp;done) | (simp;omega)) only [↓EVp,↓EVw,EVs,EVl,EVq,splice,Nat.reduceAdd,Nat.reduceEqDiff,Nat.reduceMul,Nat.reduceLT,Nat.reduceLeDiff,Nat.reduceBEq,reduceIte,noWr,noRf,dN_s,Bool.true_and,Bool.false_and,Bool.or_false,Bool.false_or,Bool.true_or,reduceCtorEq,x1,x2,x3,x4,x5,x6,x7,x8]) : P:=Eq.mpr (e x1 x2 x3 x4 x5 x6 x7 x8) h
end Go.Ml
end
namespace Go.Ml
theorem fgW {l : List V} {env : Nat → V} (h : EnvLe l 0 env:=by (try (refine ew ?_;try with_reducible exact True.intro)) <;> (repeat' (first | refine ⟨?_,?_⟩ | exact EvV_int (by omega) | exact EvV_of (by simp) | exact EvV_nil _))) : EnvLe l 0 env:=h
end Go.Ml
namespace Go.Ml
theorem obE {a b : Option Obj} (h : a = b:=by simp (disch:=first | omega | (simp only [List.length_append,List.length_set,List.length_cons,List.length_nil];omega)) only [EVs]) : a = b:=h
end Go.Ml
section
namespace Go.Ml
theorem Mk.go {T : Nat → Option Fn} {f : Nat} {t t' : V} {k k' : Int} (h : Mk T f t k t' k') {σ : Store} {v : V} {os : List Nat} (ho : OwV σ v t os) (hn : os.Nodup) :
  ∃ σ',Run T (.fn f [v,.int .i64 k] σ) (.fn (.int .i64 k') σ') ∧ OwV σ' v t' os ∧ Fr os σ σ':=by
 obtain ⟨σ',a,b,c,d⟩:=h σ v os ho hn
 exact ⟨σ',a,b,⟨c,d⟩⟩
def V.sca : V → Bool
 | .int _ _=>true
 | .bool _=>true
 | _=>false
theorem owV_sca {σ : Store} {x : V} (h : x.sca = true) : OwV σ x x []:=by cases x <;> simp_all [V.sca,OwV]
theorem OwV.sca_inv {σ : Store} {v x : V} {os : List Nat} (h : OwV σ v x os) (hx : x.sca = true) : v = x ∧ os = []:=by
 cases x <;> simp_all [V.sca,OwV]
structure Cs (σ : Store) (cs ts : List V) (os : List Nat) : Prop where
 ow : OwL σ cs ts os
 nd : os.Nodup
theorem set_at {α : Type} {l : List α} {i : Nat} {x : α} (h : l[i]? = some x) : l.set i x = l:=by
 apply List.ext_getElem?
 intro n
 rw [List.getElem?_set]
 split
 ·subst_vars
  split
  ·exact h.symm
  ·rename_i hlt;rw [List.getElem?_eq_none (by omega)]
 ·rfl
section
variable {σ σ' : Store} {cs ts : List V} {os : List Nat}
theorem Cs.lt (h : Cs σ cs ts os) : ∀ q ∈ os,q < σ.length:=h.ow.lt
theorem Cs.frame (h : Cs σ cs ts os) (f : ∀ q ∈ os,objAt σ' q = objAt σ q) : Cs σ' cs ts os:=⟨h.ow.frame f,h.nd⟩
theorem Cs.fr {os' : List Nat} (h : Cs σ cs ts os) (f : Fr os' σ σ') (hd : ∀ q ∈ os,q ∉ os') : Cs σ' cs ts os:=h.frame fun q hq=>f.old q (h.lt q hq) (hd q hq)
theorem Cs.snoc (h : Cs σ cs ts os) {x : Option Obj} : Cs (σ ++ [x]) cs ts os:=h.frame fun q hq=>objAt_snoc_lt (h.lt q hq)
theorem Cs.set (h : Cs σ cs ts os) {o : Nat} {x : Option Obj} (ho : o ∉ os) : Cs (σ.set o x) cs ts os:=h.frame fun q hq=>objAt_setne fun e=>ho (e ▸ hq)
theorem Cs.sca (h : Cs σ cs ts os) (c : Nat) (x : V) {t : V} (ht : ts[c]? = some t) (hs : t.sca = true:=by rfl) (hx : x.sca = true:=by rfl) : Cs σ (cs.set c x) (ts.set c x) os:=by
 obtain ⟨vc,oc,j1,j2,j3,j4,j5⟩:=h.ow.focus c t h.nd ht
 obtain ⟨rfl,rfl⟩:=j2.sca_inv hs
 exact ⟨j5 σ x x (owV_sca hx) fun _ _ _=>rfl,h.nd⟩
theorem Cs.call {T : Nat → Option Fn} {f : Nat} {t t' v : V} {k k' : Int} (h : Cs σ cs ts os) (c : Nat) (hm : Mk T f t k t' k') (hv : cs[c]? = some v) (ht : ts[c]? = some t) :
  ∃ σ',Run T (.fn f [v,.int .i64 k] σ) (.fn (.int .i64 k') σ') ∧ Cs σ' cs (ts.set c t') os ∧ Fr os σ σ':=by
 obtain ⟨vc,oc,j1,j2,j3,j4,j5⟩:=h.ow.focus c t h.nd ht
 rw [hv] at j1
 cases j1
 obtain ⟨σ',m1,m2,m3⟩:=hm.go j2 j3
 refine ⟨σ',m1,⟨?_,h.nd⟩,m3.mono j4⟩
 have:=j5 σ' v t' m2 fun q hq' hq=>m3.old q (h.lt q hq') hq
 rwa [set_at hv] at this
theorem Cs.part {T : Nat → Option Fn} {f : Nat} {t2 t2' : List V} {k k' : Int} (h : Cs σ cs ts os) (n m : Nat) (hm : Mk T f (.agg t2) k (.agg t2') k') (ht : (ts.drop n).take m = t2) (hn : n + m ≤ ts.length) :
  ∃ σ',Run T (.fn f [.agg ((cs.drop n).take m),.int .i64 k] σ) (.fn (.int .i64 k') σ') ∧ Cs σ' cs (ts.take n ++ t2' ++ ts.drop (n + m)) os ∧ Fr os σ σ':=by
 have e : ts = ts.take n ++ (t2 ++ ts.drop (n + m)):=by
  rw [← ht]
  conv=>lhs;rw [← List.take_append_drop n ts,← List.take_append_drop m (ts.drop n),List.drop_drop]
 have lt2 : t2.length = m:=by rw [← ht];simp;omega
 have h1:=h.ow
 rw [e] at h1
 obtain ⟨c1,c2,o1,o2,rfl,rfl,a1,a2⟩:=owL_split h1
 have l1:=a1.len
 obtain ⟨c3,c4,o3,o4,rfl,rfl,a3,a4⟩:=owL_split a2
 have l2:=a3.len
 have nd:=h.nd
 have l1' : c1.length = n:=by rw [l1];simp;omega
 have e2 : ((c1 ++ (c3 ++ c4)).drop n).take m = c3:=by
  rw [← l1',List.drop_left,← lt2,← l2,List.take_left]
 rw [e2]
 simp only [List.nodup_append,List.mem_append] at nd
 obtain ⟨nd1,⟨nd3,nd4,d34⟩,d1⟩:=nd
 obtain ⟨σ',m1,m2,m3⟩:=hm.go (owV_agg a3) nd3
 obtain ⟨cs',e3,m4⟩:=m2.agg_inv
 cases e3
 have lt:=h.lt
 refine ⟨σ',m1,⟨?_,h.nd⟩,m3.mono (by simp +contextual)⟩
 rw [List.append_assoc]
 refine owL_append (a1.frame fun q hq=>m3.old q (lt q (by simp [hq])) fun hk=>d1 q hq q (.inl hk) rfl) (owL_append m4 (a4.frame fun q hq=>m3.old q (lt q (by simp [hq])) fun hk=>d34 q hk q hq rfl))
theorem Cs.got {σ2 : Store} {r t : V} {os2 : List Nat} (h : Cs σ cs ts os) (g : Got σ σ2 r t os2) : Cs σ2 (cs ++ [r]) (ts ++ [t]) (os ++ os2):=by
 refine ⟨owL_append (h.ow.frame fun q hq=>g.old q (h.lt q hq)) (by simpa using owL_v g.ow owL_nil),?_⟩
 rw [List.nodup_append]
 refine ⟨h.nd,g.nd,fun x hx y hy e=>?_⟩
 have:=h.lt x hx
 have:=g.fresh y hy
 omega
theorem cs_nil : Cs σ [] [] []:=⟨owL_nil,.nil⟩
theorem Cs.res (h : Cs σ cs ts os) (c : Nat) {v t : V} (hv : cs[c]? = some v) (ht : ts[c]? = some t) (hd : DepLe FD t) : resolve σ FD v = some t:=by
 obtain ⟨vc,oc,j1,j2,_⟩:=h.ow.focus c t h.nd ht
 rw [hv] at j1
 cases j1
 exact ow_res FD j2 hd
end
theorem OwV.row_inv {σ : Store} {v : V} {sz : Nat} {rows : List (List V)} {os : List Nat} {i : Nat} {row : List V} (h : OwV σ v (.sl sz rows) os) (hn : os.Nodup) (hi : rows[i]? = some row) :
  ∃
   o R cs oc,v = .msl o 0 rows.length ∧ objAt σ o = some ⟨sz,R⟩ ∧ R.length = rows.length ∧ R[i]? = some cs ∧ Cs σ cs row oc ∧ (∀ q ∈ oc,q ∈ os) ∧ o ∈ os ∧ o ∉ oc ∧
   (∀ σ' cs' row',Cs σ' cs' row' oc → objAt σ' o = some ⟨sz,R.set i cs'⟩ → Fr (o :: oc) σ σ' → OwV σ' v (.sl sz (rows.set i row')) os):=by
 simp only [OwV] at h
 rcases h with ⟨rfl,_,_⟩ | ⟨o,R,os',rfl,h2,rfl,h3⟩
 ·simp at hi
 rw [List.nodup_cons] at hn
 have hlt:=h3.lt
 obtain ⟨cs,oc,k1,k2,k3,k4,k5⟩:=h3.focus i row hn.2 hi
 refine ⟨o,R,cs,oc,rfl,h2,h3.len,k1,⟨k2,k3⟩,fun q hq=>by simp [k4 q hq],by simp,fun k=>hn.1 (k4 o k),?_⟩
 intro σ' cs' row' hc ho hf
 simp only [OwV]
 refine .inr ⟨o,_,os',by simp,ho,rfl,k5 σ' cs' row' hc.ow fun q hq hnq=>hf.old q (hlt q hq) fun hk=>?_⟩
 rcases List.mem_cons.1 hk with rfl | hk
 ·exact hn.1 hq
 ·exact hnq hk
theorem OwV.sl_inv {σ : Store} {v : V} {sz : Nat} {rows : List (List V)} {os : List Nat} (h : OwV σ v (.sl sz rows) os) :
  (rows = [] ∧ v = .sl sz [] ∧ os = []) ∨ ∃ o R os',v = .msl o 0 rows.length ∧ objAt σ o = some ⟨sz,R⟩ ∧ R.length = rows.length ∧ os = o :: os' ∧ OwR σ R rows os':=by
 simp only [OwV] at h
 rcases h with ⟨rfl,h1,h2⟩ | ⟨o,R,os',rfl,h2,rfl,h3⟩
 ·exact .inl ⟨rfl,h1,h2⟩
 ·exact .inr ⟨o,R,os',rfl,h2,h3.len,rfl,h3⟩
theorem OwV.obj {σ : Store} {o n : Nat} {sz : Nat} {rows : List (List V)} {os : List Nat} (h : OwV σ (.msl o 0 n) (.sl sz rows) os) : ∃ R,objAt σ o = some ⟨sz,R⟩ ∧ R.length = n:=by
 rcases h.sl_inv with ⟨_,e,_⟩ | ⟨o,R,os',e,h2,h3,_,_⟩
 ·cases e
 ·cases e;exact ⟨R,h2,h3⟩
theorem szL_at {α : Type} [Inhabited α] (f : α → Nat) {l : List α} {i : Nat} (h : i < l.length) : l.length + f (l.getD i default) ≤ szL f l:=by
 have h1:=sumTo_succ f h
 have h2:=sumTo_le f l (i + 1)
 unfold szL
 omega
theorem RefK_mk {T : Nat → Option Fn} {f : Nat} {as : List Src} {dst : Option Nat} {env : Nat → V} {σ σ' : Store} {kp bs : Nat} {rs ms : List Nat} {k : St → Prop} {as' : List V} {r : V}
  (h : Run T (.fn f as' σ) (.fn r σ')) (ha : (as.map fun s=>s.ev env) = as') (hl : σ.length ≤ σ'.length) (hb : σ.length ≤ bs) (hk : k ⟨updO env dst r,σ',kp,bs,rs,ms⟩) : RefK T f as dst ⟨env,σ,kp,bs,rs,ms⟩ k:=by
 subst ha
 exact RefK_idn h hl hb hk
def mkL {α : Type} (f : Int → α → α) (c : α → Nat) : Int → List α → List α
 | _,[]=>[]
 | k,x :: l=>f k x :: mkL f c (k + c x) l
def cnL {α : Type} (c : α → Nat) (l : List α) (i : Nat) : Nat:=((l.take i).map c).sum
theorem cnL_0 {α : Type} (c : α → Nat) (l : List α) : cnL c l 0 = 0:=by simp [cnL]
theorem cnL_s {α : Type} [Inhabited α] (c : α → Nat) (l : List α) {i : Nat} (h : i < l.length) : cnL c l (i + 1) = cnL c l i + c (l.getD i default):=by
 unfold cnL
 have e : l.take (i + 1) = l.take i ++ [l.getD i default]:=by
  rw [List.take_add_one,List.getElem?_eq_getElem h,List.getD_eq_getElem?_getD,List.getElem?_eq_getElem h];rfl
 rw [e,List.map_append,List.sum_append]
 simp
theorem cnL_cons {α : Type} (c : α → Nat) (x : α) (l : List α) (i : Nat) : cnL c (x :: l) (i + 1) = c x + cnL c l i:=by simp [cnL]
theorem cnL_le {α : Type} (c : α → Nat) : ∀ (l : List α) {i : Nat},i ≤ l.length → cnL c l i ≤ cnL c l l.length
 | [],i,h=>by simp at h;subst h;exact Nat.le_refl _
 | x :: l,0,h=>by simp [cnL_0]
 |
  x :: l,i + 1,h=>by
  rw [cnL_cons,List.length_cons,cnL_cons]
  have:=cnL_le c l (i:=i) (by simpa using h)
  omega
theorem mkL_len {α : Type} (f : Int → α → α) (c : α → Nat) : ∀ (k : Int) (l : List α),(mkL f c k l).length = l.length
 | _,[]=>rfl
 | k,x :: l=>by simp [mkL,mkL_len f c _ l]
theorem mkL_at {α : Type} [Inhabited α] (f : Int → α → α) (c : α → Nat) : ∀ (k : Int) (l : List α) (i : Nat),i < l.length → (mkL f c k l).getD i default = f (k + cnL c l i) (l.getD i default)
 | _,[],i,h=>by simp at h
 | k,x :: l,0,h=>by simp [mkL,cnL_0]
 |
  k,x :: l,i + 1,h=>by
  rw [cnL_cons,mkL,List.getD_cons_succ,List.getD_cons_succ,mkL_at f c _ l i (by simpa using h)]
  congr 1
  omega
def mkTo {α : Type} (f : Int → α → α) (c : α → Nat) (k : Int) (l : List α) (i : Nat) : List α:=(mkL f c k l).take i ++ l.drop i
theorem mkTo_0 {α : Type} (f : Int → α → α) (c : α → Nat) (k : Int) (l : List α) : mkTo f c k l 0 = l:=by simp [mkTo]
theorem mkTo_all {α : Type} (f : Int → α → α) (c : α → Nat) (k : Int) (l : List α) : mkTo f c k l l.length = mkL f c k l:=by
 unfold mkTo
 rw [List.drop_length,List.append_nil,List.take_of_length_le (by rw [mkL_len];exact Nat.le_refl _)]
theorem mkTo_len {α : Type} (f : Int → α → α) (c : α → Nat) (k : Int) (l : List α) {i : Nat} (h : i ≤ l.length) : (mkTo f c k l i).length = l.length:=by
 simp [mkTo,mkL_len];omega
theorem mkTo_at {α : Type} [Inhabited α] (f : Int → α → α) (c : α → Nat) (k : Int) (l : List α) {i : Nat} (h : i < l.length) : (mkTo f c k l i).getD i default = l.getD i default:=by
 have e : ((mkL f c k l).take i).length = i:=by simp [mkL_len];omega
 unfold mkTo
 rw [List.getD_eq_getElem?_getD,List.getElem?_append_right (by omega),e,Nat.sub_self,List.getElem?_drop,Nat.add_zero,← List.getD_eq_getElem?_getD]
theorem mkTo_set {α : Type} [Inhabited α] (f : Int → α → α) (c : α → Nat) (k : Int) (l : List α) {i : Nat} (h : i < l.length) : (mkTo f c k l i).set i (f (k + cnL c l i) (l.getD i default)) = mkTo f c k l (i + 1):=by
 have e : ((mkL f c k l).take i).length = i:=by simp [mkL_len];omega
 have h2:=mkL_at f c k l i h
 have h3 : i < (mkL f c k l).length:=by rw [mkL_len];exact h
 rw [List.getD_eq_getElem?_getD,List.getElem?_eq_getElem h3] at h2
 unfold mkTo
 rw [List.set_append_right _ _ (by omega),e,Nat.sub_self,List.drop_eq_getElem_cons h,List.set_cons_zero,← h2]
 have e2 : (mkL f c k l).take (i + 1) = (mkL f c k l).take i ++ [(mkL f c k l)[i]]:=by
  rw [List.take_add_one,List.getElem?_eq_getElem h3];rfl
 rw [e2,List.append_assoc]
 rfl
end Go.Ml
end
section
namespace Go.Ml
theorem mapL_eq (g : Nat → Option Nat) : ∀ l : List V,mapV.mapL g l = l.map (mapV g)
 | []=>rfl
 | x :: l=>by simp only [mapV.mapL,List.map_cons,mapL_eq g l]
section
variable {σ σ2 : Store} {m : Nat}
theorem mapM_shift {n : Nat} (ih : ∀ v t : V,resolve σ n v = some t → resolve σ2 n (mapV (shiftN m) v) = some t) : ∀ (l l' : List V),l.mapM (resolve σ n) = some l' → (l.map (mapV (shiftN m))).mapM (resolve σ2 n) = some l'
 | [],l',h=>by simpa using h
 |
  x :: l,l',h=>by
  simp only [List.mapM_cons,Option.pure_def,Option.bind_eq_bind,Option.bind_eq_some_iff,List.map_cons] at h ⊢
  obtain ⟨a,ha,b,hb,e⟩:=h
  exact ⟨a,ih x a ha,b,mapM_shift ih l b hb,e⟩
theorem mapM_shiftR {n : Nat} (ih : ∀ v t : V,resolve σ n v = some t → resolve σ2 n (mapV (shiftN m) v) = some t) : ∀ (l : List (List V)) (l' : List (List V)),(l.mapM fun (r : List V)=>r.mapM (resolve σ n)) = some l' →
  ((l.map fun r=>r.map (mapV (shiftN m))).mapM fun (r : List V)=>r.mapM (resolve σ2 n)) = some l'
 | [],l',h=>by simpa using h
 |
  x :: l,l',h=>by
  simp only [List.mapM_cons,Option.pure_def,Option.bind_eq_bind,Option.bind_eq_some_iff,List.map_cons] at h ⊢
  obtain ⟨a,ha,b,hb,e⟩:=h
  exact ⟨a,mapM_shift ih x a ha,b,mapM_shiftR ih l b hb,e⟩
theorem res_shift (hs : ∀ o,objAt σ2 (m + o) = (objAt σ o).map (mapO (shiftN m))) : ∀ (n : Nat) (v t : V),resolve σ n v = some t → resolve σ2 n (mapV (shiftN m) v) = some t
 | 0,_,_,h=>by simp [resolve] at h
 |
  n + 1,v,t,h=>by
  have ih:=res_shift hs n
  cases v with
  |
   msl o s l =>
   simp only [mapV,shiftN,resolve,hs] at h ⊢
   cases ho : objAt σ o with
   | none=>rw [ho] at h;cases h
   |
    some ob =>
    rw [ho] at h
    simp only [Option.map_some,mapO,List.length_map] at h ⊢
    split at h
    ·rename_i hl
     rw [if_pos hl]
     obtain ⟨rows,h1,rfl⟩:=Option.map_eq_some_iff.1 h
     rw [Option.map_eq_some_iff]
     refine ⟨rows,?_,rfl⟩
     rw [← List.map_drop,← List.map_take]
     exact mapM_shiftR ih _ _ h1
    ·cases h
  |
   ptr o r off =>
   simp only [mapV,shiftN,resolve,hs] at h ⊢
   cases ho : objAt σ o with
   | none=>rw [ho] at h;cases h
   |
    some ob =>
    rw [ho] at h
    simp only [Option.map_some,mapO,List.getElem?_map] at h ⊢
    cases hr : ob.rows[r]? with
    | none=>rw [hr] at h;cases h
    |
     some row =>
     rw [hr] at h
     simp only [Option.map_some] at h ⊢
     obtain ⟨row',h1,rfl⟩:=Option.map_eq_some_iff.1 h
     rw [Option.map_eq_some_iff]
     exact ⟨row',mapM_shift ih _ _ h1,rfl⟩
  |
   agg cs =>
   simp only [mapV,resolve] at h ⊢
   obtain ⟨cs',h1,rfl⟩:=Option.map_eq_some_iff.1 h
   rw [Option.map_eq_some_iff,mapL_eq]
   exact ⟨cs',mapM_shift ih _ _ h1,rfl⟩
  |
   tup cs =>
   simp only [mapV,resolve] at h ⊢
   obtain ⟨cs',h1,rfl⟩:=Option.map_eq_some_iff.1 h
   rw [Option.map_eq_some_iff,mapL_eq]
   exact ⟨cs',mapM_shift ih _ _ h1,rfl⟩
  | any=>simp [resolve] at h
  | one=>simpa only [mapV,resolve] using h
  | int k n=>simpa only [mapV,resolve] using h
  | bool b=>simpa only [mapV,resolve] using h
  | str b=>simpa only [mapV,resolve] using h
  | nils=>simpa only [mapV,resolve] using h
  | sl a b=>simpa only [mapV,resolve] using h
  | fptr a b=>simpa only [mapV,resolve] using h
end
def OwX (σ : Store) : List V → List (Bool × V) → List Nat → Prop
 | vs,[],os=>vs = [] ∧ os = []
 | vs,(b,t) :: ts,os=>∃ v vs' o1 o2,vs = v :: vs' ∧ os = o1 ++ o2 ∧ (if b = true then OwV σ v t o1 else resolve σ FD v = some t ∧ o1 = []) ∧ OwX σ vs' ts o2
theorem OwX.shift {σ σ2 : Store} {n : Nat} (hs : ∀ o,objAt σ2 (n + o) = (objAt σ o).map (mapO (shiftN n))) : ∀ {ts : List (Bool × V)} {vs : List V} {os : List Nat},OwX σ vs ts os → OwX σ2 (vs.map (mapV (shiftN n))) ts (os.map (n + ·))
 | [],vs,os,h=>by simp only [OwX] at h ⊢;obtain ⟨rfl,rfl⟩:=h;exact ⟨rfl,rfl⟩
 |
  (b,t) :: ts,vs,os,h=>by
  simp only [OwX] at h ⊢
  obtain ⟨v,vs',o1,o2,rfl,rfl,h1,h2⟩:=h
  refine ⟨_,_,o1.map (n + ·),o2.map (n + ·),rfl,by rw [List.map_append],?_,OwX.shift hs h2⟩
  cases b with
  | true=>simp only [if_true] at h1 ⊢;exact OwV.shift hs h1
  |
   false =>
   simp only [Bool.false_eq_true,if_false] at h1 ⊢
   exact ⟨res_shift hs _ _ _ h1.1,by rw [h1.2];rfl⟩
structure GotX (σ σ2 : Store) (vs : List V) (ts : List (Bool × V)) (os : List Nat) : Prop where
 ow : OwX σ2 vs ts os
 nd : os.Nodup
 fresh : ∀ o ∈ os,σ.length ≤ o
 old : ∀ o,o < σ.length → objAt σ2 o = objAt σ o
 len : σ.length ≤ σ2.length
theorem OwnK_got0 {T : Nat → Option Fn} {f : Nat} {as : List Src} {dst : Option Nat} {env : Nat → V} {σ : Store} {kp bs : Nat} {rs ms : List Nat} {k : List Nat → List Nat → Bool → St → Prop} {as' : List V} {t : V} (h : PO T f as' t)
  (ha : resK env σ as (· = as')) (hr : reachAll env σ as = []) (hk : ∀ r σ2 os,Got σ σ2 r t os → k [] [] true ⟨updO env dst r,σ2,kp,bs,rs,ms⟩) : OwnK T f as dst ⟨env,σ,kp,bs,rs,ms⟩ k :=
 OwnK_got h ha fun r σ2 os g=>by rw [hr];exact hk r σ2 os g
theorem fin_bool {σ : Store} {b : Bool} : Fin σ (.bool b) (.bool b):=fin_of (os:=[]) (by simp [OwV]) .nil
end Go.Ml
end
section
namespace Go.Ml
theorem dep_int (n : Nat) (q : IntKind) (k : Int) : DepLe (n + 1) (.int q k):=by simp [DepLe]
theorem dep_bool (n : Nat) (b : Bool) : DepLe (n + 1) (.bool b):=by simp [DepLe]
theorem dep_ints (n : Nat) (l : List Int) : DepLe (n + 2) (ints l):=by
 simp only [DepLe]
 intro r hr c hc
 simp only [irows,List.mem_map] at hr
 obtain ⟨x,_,rfl⟩:=hr
 simp only [List.mem_cons,List.not_mem_nil,or_false] at hc
 subst hc;simp [DepLe]
theorem dep_sl {α : Type} {f : α → List V} {n k : Nat} {l : List α} (h : ∀ x,∀ c ∈ f x,DepLe n c) : DepLe (n + 1) (.sl k (l.map f)):=by
 simp only [DepLe]
 intro r hr c hc
 obtain ⟨x,_,rfl⟩:=List.mem_map.1 hr
 exact h x c hc
theorem dep_agg {n : Nat} {cs : List V} (h : ∀ c ∈ cs,DepLe n c) : DepLe (n + 1) (.agg cs):=by simpa only [DepLe] using h
theorem dc_lk (n : Nat) (x : Lk) : ∀ c ∈ x.cells,DepLe (n + 2) c:=by
 simp only [List.forall_mem_cons];exact ⟨dep_int _ _ _,dep_int _ _ _,dep_bool _ _,dep_ints _ _,dep_ints _ _,dep_bool _ _,dep_ints _ _,dep_ints _ _,dep_bool _ _,dep_ints _ _,dep_ints _ _,by simp⟩
theorem dc_pa (n : Nat) (x : Pa) : ∀ c ∈ x.cells,DepLe (n + 2) c:=by
 simp only [List.forall_mem_cons];exact ⟨dep_int _ _ _,dep_bool _ _,dep_ints _ _,dep_ints _ _,dep_bool _ _,dep_ints _ _,dep_ints _ _,dep_bool _ _,dep_ints _ _,dep_ints _ _,by simp⟩
theorem dep_lks (n : Nat) (l : List Lk) : DepLe (n + 3) (lksV l):=dep_sl fun x=>dc_lk n x
theorem dep_pas (n : Nat) (l : List Pa) : DepLe (n + 3) (pasV l):=dep_sl fun x=>dc_pa n x
theorem dc_cd (n : Nat) (x : Cd) : ∀ c ∈ x.cells,DepLe (n + 3) c:=by
 simp only [List.forall_mem_cons];exact ⟨dep_int _ _ _,dep_bool _ _,dep_ints _ _,dep_ints _ _,dep_pas _ _,by simp⟩
theorem dep_cd (n : Nat) (x : Cd) : DepLe (n + 4) (cdV x):=dep_agg (dc_cd n x)
theorem dep_tup3 {n : Nat} {a b c : V} (h1 : DepLe n a) (h2 : DepLe n b) (h3 : DepLe n c) : DepLe (n + 1) (.tup [a,b,c]):=by
 simp only [DepLe,List.forall_mem_cons];exact ⟨h1,h2,h3,by simp⟩
structure Grow (s : Store) (v : V) (sz : Nat) (A ts : List (List V)) : Prop where
 ex : ∃ os,OwR s A ts os ∧ os.Nodup ∧ ((A = [] ∧ v = .nils) ∨ ∃ o,v = .msl o 0 A.length ∧ objAt s o = some ⟨sz,A⟩ ∧ o ∉ os)
section
variable {s s1 σ2 S : Store} {v : V} {sz : Nat} {A ts : List (List V)}
theorem grow_nil : Grow s .nils sz [] []:=⟨[],by simp [OwR],.nil,.inl ⟨rfl,rfl⟩⟩
theorem Grow.len (h : Grow s v sz A ts) : A.length = ts.length:=by obtain ⟨os,a,_⟩:=h.ex;exact a.len
theorem Grow.cases (h : Grow s v sz A ts) : (A = [] ∧ ts = [] ∧ v = .nils) ∨ ∃ o,v = .msl o 0 A.length ∧ objAt s o = some ⟨sz,A⟩ ∧ o < s.length:=by
 have hl:=h.len
 obtain ⟨os,a,b,c⟩:=h.ex
 rcases c with ⟨rfl,rfl⟩ | ⟨o,rfl,h1,h2⟩
 ·exact .inl ⟨rfl,List.eq_nil_of_length_eq_zero (by simpa using hl.symm),rfl⟩
 ·exact .inr ⟨o,rfl,h1,objAt_lt h1⟩
theorem Grow.frame (h : Grow s v sz A ts) (f : ∀ o,o < s.length → objAt S o = objAt s o) : Grow S v sz A ts:=by
 obtain ⟨os,a,b,c⟩:=h.ex
 refine ⟨os,a.frame fun q hq=>f q (a.lt q hq),b,?_⟩
 rcases c with c | ⟨o,rfl,h1,h2⟩
 ·exact .inl c
 ·exact .inr ⟨o,rfl,(f o (objAt_lt h1)).trans h1,h2⟩
theorem Grow.fin (h : Grow s v sz A ts) : Fin s v (.sl sz ts):=by
 have hl:=h.len
 obtain ⟨os,a,b,c⟩:=h.ex
 rcases c with ⟨rfl,rfl⟩ | ⟨o,rfl,h1,h2⟩
 ·have : ts = []:=List.eq_nil_of_length_eq_zero (by simpa using hl.symm)
  subst this;exact fin_nil
 ·rw [hl]
  refine fin_of (os:=o :: os) ?_ (List.nodup_cons.2 ⟨h2,b⟩)
  simp only [OwV]
  exact .inr ⟨o,A,os,rfl,h1,rfl,a⟩
theorem Grow.app {cs tcs : List V} {os2 : List Nat} {id2 : Nat} (h : Grow s v sz A ts) (hs : ∀ o,o < s.length → objAt s1 o = objAt s o) (hl : s.length ≤ s1.length) (g : Got s1 σ2 (.agg cs) (.agg tcs) os2)
  (h0 : s.length ≤ id2) (hid : id2 < s1.length) (h2 : objAt S id2 = some ⟨sz,A ++ [cs]⟩)
  (hf : ∀ q,q ≠ id2 → (q < s.length ∨ s1.length ≤ q) → (∀ n,v ≠ .msl q 0 n) → objAt S q = objAt σ2 q) : Grow S (.msl id2 0 (A.length + 1)) sz (A ++ [cs]) (ts ++ [tcs]):=by
 obtain ⟨os,a,b,c⟩:=h.ex
 have a':=a.frame (σ':=σ2) fun q hq=>by
  have:=a.lt q hq
  rw [g.old q (by omega),hs q this]
 obtain ⟨cs',e,hc⟩:=g.ow.agg_inv
 cases e
 have hlt:=a.lt
 have hv : ∀ q ∈ os ++ os2,∀ n,v ≠ .msl q 0 n:=by
  intro q hq n
  rcases c with ⟨_,rfl⟩ | ⟨o,rfl,h1,h2⟩
  ·simp
  ·intro e
   have e2 : o = q:=by injection e
   rw [e2] at h1 h2
   rcases List.mem_append.1 hq with hq | hq
   ·exact h2 hq
   ·have:=g.fresh q hq
    have:=objAt_lt h1
    omega
 have hne : ∀ q ∈ os ++ os2,q ≠ id2 ∧ (q < s.length ∨ s1.length ≤ q):=by
  intro q hq
  rcases List.mem_append.1 hq with hq | hq
  ·have:=hlt q hq;exact ⟨by omega,by omega⟩
  ·have:=g.fresh q hq;exact ⟨by omega,by omega⟩
 have fr : ∀ q ∈ os ++ os2,objAt S q = objAt σ2 q:=fun q hq=>hf q (hne q hq).1 (hne q hq).2 (hv q hq)
 refine ⟨os ++ os2,owR_append (a'.frame fun q hq=>fr q (List.mem_append_left _ hq)) (owR_1 (hc.frame fun q hq=>fr q (List.mem_append_right _ hq))),?_,.inr ⟨id2,by simp,h2,fun hm=>(hne id2 hm).1 rfl⟩⟩
 rw [List.nodup_append]
 refine ⟨b,g.nd,fun x hx y hy e=>?_⟩
 have:=hlt x hx
 have:=g.fresh y hy
 omega
theorem objAt_app_lt {s t : Store} {o : Nat} (h : o < s.length) : objAt (s ++ t) o = objAt s o:=by
 unfold objAt;rw [List.getElem?_append_left h]
theorem Grow.appN {cs tcs : List V} {os2 : List Nat} {id1 id2 : Nat} {x : Option Obj} (h : Grow s .nils sz [] ts) (hs : ∀ o,o < s.length → objAt s1 o = objAt s o) (hl : s.length ≤ s1.length) (g : Got s1 σ2 (.agg cs) (.agg tcs) os2)
  (h0 : s.length ≤ id1) (h1 : id1 < s1.length) (h2 : s.length ≤ id2) (h3 : id2 < s1.length) (hne : id1 ≠ id2) : Grow ((σ2.set id1 x).set id2 (some ⟨sz,[cs]⟩)) (.msl id2 0 1) sz [cs] (ts ++ [tcs]):=by
 have hlen:=g.len
 refine h.app hs hl g h2 h3 (objAt_seteq (by simp;omega)) fun q hq hr _=>?_
 rw [objAt_setne hq,objAt_setne (by omega)]
theorem Grow.appM {cs tcs : List V} {os2 : List Nat} {id1 id2 o : Nat} {x : Option Obj} (h : Grow s (.msl o 0 A.length) sz A ts) (hs : ∀ o,o < s.length → objAt s1 o = objAt s o) (hl : s.length ≤ s1.length) (g : Got s1 σ2 (.agg cs) (.agg tcs) os2)
  (h0 : s.length ≤ id1) (h1 : id1 < s1.length) (h2 : s.length ≤ id2) (h3 : id2 < s1.length) (hne : id1 ≠ id2) :
  Grow (((σ2.set id1 x).set o none).set id2 (some ⟨sz,A ++ [cs]⟩)) (.msl id2 0 (A.length + 1)) sz (A ++ [cs]) (ts ++ [tcs]):=by
 have hlen:=g.len
 refine h.app hs hl g h2 h3 (objAt_seteq (by simp;omega)) fun q hq hr hv=>?_
 rw [objAt_setne hq,objAt_setne (fun e=>hv A.length (by rw [e])),objAt_setne (by omega)]
end
theorem brK_decT {c : Prop} [Decidable c] {a b : Prop} (h1 : c = True → a) (h2 : c = False → b) : brK (decide c) a b:=brK_dec (fun h=>h1 (eq_true h)) fun h=>h2 (eq_false h)
theorem stR_nil : stillR []:=fun r hr=>by cases hr
theorem stR_cons {r : List V} {rs : List (List V)} : stillR (r :: rs) ↔ (∀ v ∈ r,v.still = true) ∧ stillR rs:=by simp [stillR]
theorem stR_app {a b : List (List V)} : stillR (a ++ b) ↔ stillR a ∧ stillR b:=by
 unfold stillR
 constructor
 ·exact fun h=>⟨fun r hr=>h r (List.mem_append_left _ hr),fun r hr=>h r (List.mem_append_right _ hr)⟩
 ·intro h r hr
  rcases List.mem_append.1 hr with k | k
  ·exact h.1 r k
  ·exact h.2 r k
theorem st1_Pa (x : Pa) : ∀ v ∈ x.cells,v.still = true:=fun v hv=>st_Pa [x] _ (by simp) v hv
end Go.Ml
end
section
namespace Go.Ml
structure Ep (s : Store) (cs ts : List V) (os : List Nat) (L : List (Nat × Obj)) : Prop where
 c : Cs s cs ts os
 l : ∀ q ∈ L,objAt s q.1 = some q.2 ∧ q.1 ∉ os
section
variable {s σ2 : Store} {cs ts : List V} {os os2 : List Nat} {L : List (Nat × Obj)}
theorem Ep.lt (E : Ep s cs ts os L) : ∀ q ∈ L,q.1 < s.length:=fun q hq=>objAt_lt (E.l q hq).1
theorem Ep.snoc (E : Ep s cs ts os L) {x : Option Obj} : Ep (s ++ [x]) cs ts os L:=⟨E.c.snoc,fun q hq=>⟨(objAt_snoc_lt (E.lt q hq)).trans (E.l q hq).1,(E.l q hq).2⟩⟩
theorem Ep.res (E : Ep s cs ts os L) (c : Nat) {v t : V} (hv : cs[c]? = some v) (ht : ts[c]? = some t) (hd : DepLe FD t) : resolve s FD v = some t:=E.c.res c hv ht hd
theorem Ep.res1 (E : Ep s cs ts os L) (c : Nat) {v t : V} (hv : cs[c]? = some v) (ht : ts[c]? = some t) (hd : DepLe 11 t) : resolve s 11 v = some t:=by
 obtain ⟨vc,oc,j1,j2,_⟩:=E.c.ow.focus c t E.c.nd ht
 rw [hv] at j1
 cases j1
 exact ow_res 11 j2 hd
theorem Ep.leaf (E : Ep s cs ts os L) (c : Nat) {v t : V} (hv : cs[c]? = some v) (ht : ts[c]? = some t) (hl : t.leaf = true:=by rfl) : v.leaf = true:=by
 obtain ⟨vc,oc,j1,j2,_⟩:=E.c.ow.focus c t E.c.nd ht
 rw [hv] at j1
 cases j1
 exact j2.leaf hl
theorem Ep.got {s1 : Store} {rs trs : List V} (E : Ep s cs ts os L) (h1 : ∀ o,o < s.length → objAt s1 o = objAt s o) (hl : s.length ≤ s1.length) (ho : OwL σ2 rs trs os2) (hn : os2.Nodup) (hf : ∀ o ∈ os2,s1.length ≤ o)
  (old : ∀ o,o < s1.length → objAt σ2 o = objAt s1 o) : Ep σ2 (cs ++ rs) (ts ++ trs) (os ++ os2) L:=by
 have hlt:=E.c.lt
 refine ⟨⟨owL_append (E.c.ow.frame fun q hq=>?_) ho,?_⟩,fun q hq=>⟨?_,?_⟩⟩
 ·have:=hlt q hq
  rw [old q (by omega),h1 q this]
 ·rw [List.nodup_append]
  refine ⟨E.c.nd,hn,fun x hx y hy e=>?_⟩
  have:=hlt x hx
  have:=hf y hy
  omega
 ·have:=E.lt q hq
  rw [old _ (by omega),h1 _ this];exact (E.l q hq).1
 ·intro hm
  have:=E.lt q hq
  rcases List.mem_append.1 hm with hm | hm
  ·exact (E.l q hq).2 hm
  ·have:=hf _ hm;omega
theorem Ep.free {s1 : Store} (E : Ep s cs ts os L) {p : Nat} (hf : ∀ o ∈ os2,s1.length ≤ o) (h0 : s.length ≤ p) (h1 : p < s1.length) : p ∉ os ++ os2:=by
 intro hm
 rcases List.mem_append.1 hm with hm | hm
 ·have:=E.c.lt p hm;omega
 ·have:=hf p hm;omega
theorem Ep.call {T : Nat → Option Fn} {f : Nat} {t t' v : V} {k k' : Int} (E : Ep s cs ts os L) (c : Nat) (hm : Mk T f t k t' k') (hv : cs[c]? = some v) (ht : ts[c]? = some t) :
  ∃ s',Run T (.fn f [v,.int .i64 k] s) (.fn (.int .i64 k') s') ∧ Ep s' cs (ts.set c t') os L ∧ s.length ≤ s'.length:=by
 obtain ⟨s',h1,h2,h3⟩:=E.c.call c hm hv ht
 exact ⟨s',h1,⟨h2,fun q hq=>⟨(h3.old _ (E.lt q hq) (E.l q hq).2).trans (E.l q hq).1,(E.l q hq).2⟩⟩,h3.len⟩
theorem Ep.part {T : Nat → Option Fn} {f : Nat} {t2 t2' r2 : List V} {k k' : Int} (E : Ep s cs ts os L) (n m : Nat) (hm : Mk T f (.agg t2) k (.agg t2') k') (hr : (cs.drop n).take m = r2) (ht : (ts.drop n).take m = t2) (hn : n + m ≤ ts.length) :
  ∃ s',Run T (.fn f [.agg r2,.int .i64 k] s) (.fn (.int .i64 k') s') ∧ Ep s' cs (ts.take n ++ t2' ++ ts.drop (n + m)) os L ∧ s.length ≤ s'.length:=by
 obtain ⟨s',h1,h2,h3⟩:=E.c.part n m hm ht hn
 rw [hr] at h1
 exact ⟨s',h1,⟨h2,fun q hq=>⟨(h3.old _ (E.lt q hq) (E.l q hq).2).trans (E.l q hq).1,(E.l q hq).2⟩⟩,h3.len⟩
theorem Ep.at0 {p : Nat} {ob : Obj} (E : Ep s cs ts os L) (h : (p,ob) ∈ L) : objAt s p = some ob ∧ p < s.length:=⟨(E.l _ h).1,E.lt _ h⟩
end
section
variable {σ : Store} {os : List Nat}
theorem OwL.rat {cs : List V} {x : R} (h : OwL σ cs x.cells os) : ∃ c1 c2,cs = [.bool x.neg,c1,c2]:=by
 obtain ⟨cs,rfl,h1⟩:=h.bool_inv
 match cs,h1.len with
 | [a,b],_=>exact ⟨a,b,rfl⟩
theorem OwL.cd {cs : List V} {x : Cd} (h : OwL σ cs x.cells os) : ∃ c2 c3 c4,cs = [iv x.node,.bool x.total.neg,c2,c3,c4]:=by
 obtain ⟨cs,rfl,h1⟩:=h.int_inv
 obtain ⟨cs,rfl,h2⟩:=h1.bool_inv
 match cs,h2.len with
 | [a,b,c],_=>exact ⟨a,b,c,rfl⟩
theorem OwL.tr {cs : List V} {x : List Tn} (h : OwL σ cs [tnsV x] os) : ∃ c0,cs = [c0]:=by
 match cs,h.len with
 | [a],_=>exact ⟨a,rfl⟩
theorem owL_1 {v t : V} (h : OwV σ v t os) : OwL σ [v] [t] os:=by simpa using owL_v h owL_nil
end
end Go.Ml
namespace Go.Ml
theorem numK_any (l : List Nat) (k : List Nat → Prop) : numK l k = k l:=nr rfl
theorem or_sc (p : Prop) : (p ∨ True) = True:=by simp
theorem Ep.reloc {s : Store} {cs ts : List V} {os : List Nat} {L L' : List (Nat × Obj)} {p : Nat} {ob : Obj} (E : Ep s cs ts os L) (hp : p ∉ os) (hl : p < s.length) (h : ∀ q ∈ L',(q.1 ≠ p ∧ q ∈ L) ∨ q = (p,ob)) :
  Ep (s.set p (some ob)) cs ts os L':=by
 refine ⟨E.c.set hp,fun q hq=>?_⟩
 rcases h q hq with ⟨h1,h2⟩ | rfl
 ·exact ⟨(objAt_setne h1).trans (E.l q h2).1,(E.l q h2).2⟩
 ·exact ⟨objAt_seteq hl,hp⟩
end Go.Ml
namespace Go.Ml
def sh (n0 n x : Nat) : Nat:=if x < n0 then x else x + (n - n0)
theorem sh_lt {n0 n x y : Nat} : sh n0 n x < sh n0 n y ↔ x < y:=by
 unfold sh;split <;> split <;> omega
theorem sh_eq {n0 n x y : Nat} : sh n0 n x = sh n0 n y ↔ x = y:=by
 unfold sh;split <;> split <;> omega
def shA (n0 n : Nat) (a : Acc) : Acc:=⟨a.i,a.R.map (sh n0 n),a.W.map (sh n0 n),a.n⟩
theorem sh_contains {n0 n : Nat} (l : List Nat) (p : Nat) : (l.map (sh n0 n)).contains (sh n0 n p) = l.contains p:=by
 rw [Bool.eq_iff_iff,List.contains_iff_mem,List.contains_iff_mem,List.mem_map]
 constructor
 ·rintro ⟨q,h1,h2⟩
  rw [sh_eq.1 h2] at h1;exact h1
 ·exact fun h=>⟨p,h,rfl⟩
theorem below_sh {n0 n L : Nat} (a b : Acc) : belowA (sh n0 n L) (shA n0 n a) (shA n0 n b) = belowA L a b:=by
 unfold belowA shA
 simp only [List.all_map,Function.comp_def]
 simp only [sh_lt]
theorem apart_sh {n0 n L : Nat} (d e : OpI) (a b : Acc) : apartA (sh n0 n L) d e (shA n0 n a) (shA n0 n b) = apartA L d e a b:=by
 unfold apartA
 rw [below_sh,below_sh]
 simp only [shA,List.all_map,Function.comp_def]
 simp only [sh_contains]
 congr 6
 ·congr 1
  funext p
  congr 2
  funext q
  rw [bne,bne]
  congr 1
  rw [Bool.eq_iff_iff,beq_iff_eq,beq_iff_eq];exact sh_eq
theorem okA_sh {n0 n L : Nat} {B : Nat → List Nat} {ops : List OpI} : ∀ l : List Acc,okA (sh n0 n L) B ops (l.map (shA n0 n)) = okA L B ops l
 | []=>rfl
 |
  a :: l=>by
  simp only [List.map_cons,okA,List.all_map,Function.comp_def]
  rw [okA_sh l]
  congr 2
  funext b
  have h1 : (shA n0 n a).i = a.i:=rfl
  have h2 : (shA n0 n b).i = b.i:=rfl
  rw [apart_sh,h1,h2]
theorem OkA_shift {ops : List OpI} {LF : Nat → Nat} {aF : Nat → List Acc} (n0 n : Nat) (hL : LF n = sh n0 n (LF n0)) (ha : aF n = (aF n0).map (shA n0 n)) (hk : OkA (LF n0) ops (aF n0)) : OkA (LF n) ops (aF n):=by
 unfold OkA at hk ⊢
 rw [hL,ha,← List.map_reverse,okA_sh]
 exact hk
end Go.Ml
namespace Go.Ml
theorem OkA_allN {ops : List OpI} (LF : Nat → Nat) (aF : Nat → List Acc) (n0 : Nat) (hL : ∀ n,n0 ≤ n → LF n = sh n0 n (LF n0)) (ha : ∀ n,n0 ≤ n → aF n = (aF n0).map (shA n0 n)) (hk : OkA (LF n0) ops (aF n0)) :
  ∀ n,n0 ≤ n → OkA (LF n) ops (aF n):=fun n h=>OkA_shift n0 n (hL n h) (ha n h) hk
end Go.Ml
end
section
namespace Go.Ml
end Go.Ml
namespace Go.Ml
theorem reach_ints {σ : Store} {v : V} {l : List Int} {os : List Nat} (h : OwV σ v (ints l) os) : ∀ n,∀ o ∈ reach σ n v,o ∈ os:=by
 intro n o ho
 rcases h.ints_inv with ⟨_,rfl,_⟩ | ⟨q,rfl,h1,rfl⟩
 ·cases n <;> simp [reach] at ho
 ·cases n with
  | zero=>simp [reach] at ho
  |
   succ n =>
   simp only [reach,h1,List.mem_cons,List.mem_flatMap] at ho
   rcases ho with rfl | ⟨r,hr,c,hc,ho⟩
   ·simp
   ·have hs:=ir_still l r hr c hc
    cases n with
    | zero=>simp [reach] at ho
    | succ n=>rw [reach_still hs] at ho;cases ho
theorem reach_agg {σ : Store} {n : Nat} {cs : List V} {o : Nat} : o ∈ reach σ (n + 1) (.agg cs) ↔ ∃ c ∈ cs,o ∈ reach σ n c:=by
 simp [reach,List.mem_flatMap]
end Go.Ml
namespace Go.Ml
theorem Ep.push {s : Store} {cs ts : List V} {os : List Nat} {L : List (Nat × Obj)} {ob : Obj} (E : Ep s cs ts os L) : Ep (s ++ [some ob]) cs ts os (L ++ [(s.length,ob)]):=by
 refine ⟨E.c.snoc,fun q hq=>?_⟩
 rcases List.mem_append.1 hq with hq | hq
 ·exact E.snoc.l q hq
 ·simp only [List.mem_cons,List.not_mem_nil,or_false] at hq
  subst hq
  exact ⟨objAt_snoc _ _,fun hm=>absurd (E.c.lt _ hm) (Nat.lt_irrefl _)⟩
theorem Ep.reach {s : Store} {cs ts : List V} {os : List Nat} {L : List (Nat × Obj)} (E : Ep s cs ts os L) (c : Nat) {v : V} {l : List Int} (hv : cs[c]? = some v) (ht : ts[c]? = some (ints l)) (n : Nat) : ∀ o ∈ reach s n v,o ∈ os:=by
 intro o ho
 obtain ⟨vc,oc,j1,j2,_,j4,_⟩:=E.c.ow.focus c _ E.c.nd ht
 rw [hv] at j1
 cases j1
 exact j4 o (reach_ints j2 n o ho)
def F_laws_toIntS : Fn:=⟨1,22,[.tmp 2],(.seq (.reg false 0 [oN 2 (.mov (.c (.nils)))]) (.seq (.reg false 1 [oK 5 1 (oV 0),oK 6 1 (.len (.t 5)),oN 7 (.make [.int .i64 0] 8 (.t 6)),oK 3 1 (oV 7)]) (.seq (.seq (.reg false 0 [oN 4 (.mov (cI 0))]) (.block 0 (.loop (.seq (.seq (.reg false 0 [oN 8 (oV 4),oN 9 (oV 0),oN 10 (.len (.t 9)),oN 11 (.bin .lss (.t 8) (.t 10))]) (.cond (.t 11) .skip (.exit 0))) (.seq (.block 1 (.reg false 0 [oN 14 (oV 3),oN 15 (oV 4),oN 16 (oV 0),oN 17 (oV 4),oN 18 (.idx 1 (.t 16) (.t 17)),oN 19 (.load 1 false (.t 18)),oN 20 (.idx 1 (.t 14) (.t 15)),oS (.store 1 (.t 20) (.t 19))])) (.reg false 0 [oN 12 (oV 4),oN 13 (.bin .add (.t 12) (cI 1)),oN 4 (oV 13)])))))) (.seq (.reg false 0 [oN 21 (oV 3),oN 2 (oV 21)]) .ret))))⟩
structure D_laws_toIntS (T : Nat → Option Fn) : Prop where
 hT : T 6 = some F_laws_toIntS
def F_laws_eqIntS : Fn:=⟨2,26,[.tmp 4],(.seq (.reg false 0 [oN 4 (.mov (.c (.bool false)))]) (.seq (.seq (.reg false 0 [oN 6 (oV 0),oN 7 (.len (.t 6)),oN 8 (oV 1),oN 9 (.len (.t 8)),oN 10 (.bin .neq (.t 7) (.t 9))]) (.cond (.t 10) (.seq (.reg false 0 [oN 4 (.mov (.c (.bool false)))]) .ret) .skip)) (.seq (.seq (.reg false 0 [oN 5 (.mov (cI 0))]) (.block 0 (.loop (.seq (.seq (.reg false 0 [oN 11 (oV 5),oN 12 (oV 0),oN 13 (.len (.t 12)),oN 14 (.bin .lss (.t 11) (.t 13))]) (.cond (.t 14) .skip (.exit 0))) (.seq (.block 1 (.seq (.reg true 0 [oN 17 (oV 0),oN 18 (oV 5),oA 19 0 (.idx 1 (.t 17) (.t 18)) [0,1],oA 20 0 (.load 1 false (.t 19)) [2],oN 21 (oV 1),oN 22 (oV 5),oA 23 0 (.idx 1 (.t 21) (.t 22)) [4,5],oA 24 0 (.load 1 false (.t 23)) [6],oA 25 0 (.bin .neq (.t 20) (.t 24)) [3,7]]) (.cond (.t 25) (.seq (.reg false 0 [oN 4 (.mov (.c (.bool false)))]) .ret) .skip))) (.reg false 0 [oN 15 (oV 5),oN 16 (.bin .add (.t 15) (cI 1)),oN 5 (oV 16)])))))) (.seq (.reg false 0 [oN 4 (.mov (.c (.bool true)))]) .ret))))⟩
structure D_laws_eqIntS (T : Nat → Option Fn) : Prop where
 hT : T 8 = some F_laws_eqIntS
def F_laws_szIntS : Fn:=⟨2,12,[.tmp 4],(.seq (.reg false 0 [oN 4 (.mov (cI 0))]) (.seq (.reg false 0 [oN 5 (oV 1),oN 6 (oV 0),oN 7 (.len (.t 6)),oN 8 (.bin .sub (.t 5) (.t 7)),oN 1 (oV 8)]) (.seq (.seq (.reg false 0 [oN 9 (oV 1),oN 10 (.bin .lss (.t 9) (cI 0))]) (.cond (.t 10) (.seq (.reg false 0 [oN 4 (.mov (cI (-1)))]) .ret) .skip)) (.seq (.reg false 0 [oN 11 (oV 1),oN 4 (oV 11)]) .ret))))⟩
structure D_laws_szIntS (T : Nat → Option Fn) : Prop where
 hT : T 61 = some F_laws_szIntS
def F_laws_szBigInt : Fn:=⟨2,12,[.tmp 4],(.seq (.reg false 1 [oN 2 (.box (.t 0)),oK 4 1 (.mov (cI 0))]) (.seq (.reg false 0 [oN 5 (.fld 1 (.t 2)),oN 6 (.load 1 false (.t 5)),oN 7 (oV 1),oN 8 (.call 61 [(.t 6),(.t 7)]),oN 1 (oV 8)]) (.seq (.seq (.reg false 0 [oN 9 (oV 1),oN 10 (.bin .lss (.t 9) (cI 0))]) (.cond (.t 10) (.seq (.reg false 0 [oN 4 (.mov (cI (-1)))]) .ret) .skip)) (.seq (.reg false 0 [oN 11 (oV 1),oN 4 (oV 11)]) .ret))))⟩
structure D_laws_szBigInt (T : Nat → Option Fn) : Prop where
 hT : T 60 = some F_laws_szBigInt
 d_laws_szIntS : D_laws_szIntS T
def F_laws_szRat : Fn:=⟨2,18,[.tmp 4],(.seq (.reg false 1 [oN 2 (.box (.t 0)),oK 4 1 (.mov (cI 0))]) (.seq (.reg false 0 [oN 5 (.fld 0 (.t 2)),oN 6 (.load 2 true (.t 5)),oN 7 (oV 1),oN 8 (.call 60 [(.t 6),(.t 7)]),oN 1 (oV 8)]) (.seq (.seq (.reg false 0 [oN 9 (oV 1),oN 10 (.bin .lss (.t 9) (cI 0))]) (.cond (.t 10) (.seq (.reg false 0 [oN 4 (.mov (cI (-1)))]) .ret) .skip)) (.seq (.reg false 0 [oN 11 (.fld 2 (.t 2)),oN 12 (.load 1 false (.t 11)),oN 13 (oV 1),oN 14 (.call 61 [(.t 12),(.t 13)]),oN 1 (oV 14)]) (.seq (.seq (.reg false 0 [oN 15 (oV 1),oN 16 (.bin .lss (.t 15) (cI 0))]) (.cond (.t 16) (.seq (.reg false 0 [oN 4 (.mov (cI (-1)))]) .ret) .skip)) (.seq (.reg false 0 [oN 17 (oV 1),oN 4 (oV 17)]) .ret))))))⟩
structure D_laws_szRat (T : Nat → Option Fn) : Prop where
 hT : T 46 = some F_laws_szRat
 d_laws_szBigInt : D_laws_szBigInt T
 d_laws_szIntS : D_laws_szIntS T
def F_laws_toBigInt : Fn:=⟨1,12,[.cell 2 2 true],(.seq (.reg false 2 [oN 1 (.box (.t 0)),oK 2 1 (.alloc [.bool false,.nils])]) (.seq (.reg false 1 [oN 3 (.alloc [.bool false,.nils])]) (.seq (.reg false 0 [oN 4 (.fld 0 (.t 1)),oN 5 (.load 1 false (.t 4)),oN 6 (.fld 0 (.t 3)),oS (.store 1 (.t 6) (.t 5))]) (.seq (.reg false 0 [oN 7 (.fld 1 (.t 1)),oN 8 (.load 1 false (.t 7)),oN 9 (.call 6 [(.t 8)]),oN 10 (.fld 1 (.t 3)),oS (.store 1 (.t 10) (.t 9))]) (.seq (.reg false 0 [oN 11 (.load 2 true (.t 3)),oS (.store 2 (.t 2) (.t 11))]) .ret)))))⟩
structure D_laws_toBigInt (T : Nat → Option Fn) : Prop where
 hT : T 63 = some F_laws_toBigInt
 d_laws_toIntS : D_laws_toIntS T
def F_laws_toRat : Fn:=⟨1,13,[.cell 2 3 true],(.seq (.reg false 2 [oN 1 (.box (.t 0)),oK 2 1 (.alloc [.bool false,.nils,.nils])]) (.seq (.reg false 1 [oN 3 (.alloc [.bool false,.nils,.nils])]) (.seq (.reg false 0 [oN 4 (.fld 0 (.t 1)),oN 5 (.load 2 true (.t 4)),oN 6 (.call 63 [(.t 5)]),oN 7 (.fld 0 (.t 3)),oS (.store 2 (.t 7) (.t 6))]) (.seq (.reg false 0 [oN 8 (.fld 2 (.t 1)),oN 9 (.load 1 false (.t 8)),oN 10 (.call 6 [(.t 9)]),oN 11 (.fld 2 (.t 3)),oS (.store 1 (.t 11) (.t 10))]) (.seq (.reg false 0 [oN 12 (.load 3 true (.t 3)),oS (.store 3 (.t 2) (.t 12))]) .ret)))))⟩
structure D_laws_toRat (T : Nat → Option Fn) : Prop where
 hT : T 48 = some F_laws_toRat
 d_laws_toIntS : D_laws_toIntS T
 d_laws_toBigInt : D_laws_toBigInt T
def F_laws_eqBigInt : Fn:=⟨2,16,[.tmp 4],(.seq (.reg false 2 [oN 2 (.box (.t 0)),oK 3 1 (.box (.t 1)),oK 4 2 (.mov (.c (.bool false)))]) (.seq (.seq (.reg false 0 [oN 5 (.fld 0 (.t 2)),oN 6 (.load 1 false (.t 5)),oN 7 (.fld 0 (.t 3)),oN 8 (.load 1 false (.t 7)),oN 9 (.beq true (.t 6) (.t 8))]) (.cond (.t 9) (.seq (.reg false 0 [oN 4 (.mov (.c (.bool false)))]) .ret) .skip)) (.seq (.seq (.reg false 0 [oN 10 (.fld 1 (.t 2)),oN 11 (.load 1 false (.t 10)),oN 12 (.fld 1 (.t 3)),oN 13 (.load 1 false (.t 12)),oN 14 (.call 8 [(.t 11),(.t 13)]),oN 15 (.un .not (.t 14))]) (.cond (.t 15) (.seq (.reg false 0 [oN 4 (.mov (.c (.bool false)))]) .ret) .skip)) (.seq (.reg false 0 [oN 4 (.mov (.c (.bool true)))]) .ret))))⟩
structure D_laws_eqBigInt (T : Nat → Option Fn) : Prop where
 hT : T 55 = some F_laws_eqBigInt
 d_laws_eqIntS : D_laws_eqIntS T
def F_laws_eqRat : Fn:=⟨2,17,[.tmp 4],(.seq (.reg false 2 [oN 2 (.box (.t 0)),oK 3 1 (.box (.t 1)),oK 4 2 (.mov (.c (.bool false)))]) (.seq (.seq (.reg false 0 [oN 5 (.fld 0 (.t 2)),oN 6 (.load 2 true (.t 5)),oN 7 (.fld 0 (.t 3)),oN 8 (.load 2 true (.t 7)),oN 9 (.call 55 [(.t 6),(.t 8)]),oN 10 (.un .not (.t 9))]) (.cond (.t 10) (.seq (.reg false 0 [oN 4 (.mov (.c (.bool false)))]) .ret) .skip)) (.seq (.seq (.reg false 0 [oN 11 (.fld 2 (.t 2)),oN 12 (.load 1 false (.t 11)),oN 13 (.fld 2 (.t 3)),oN 14 (.load 1 false (.t 13)),oN 15 (.call 8 [(.t 12),(.t 14)]),oN 16 (.un .not (.t 15))]) (.cond (.t 16) (.seq (.reg false 0 [oN 4 (.mov (.c (.bool false)))]) .ret) .skip)) (.seq (.reg false 0 [oN 4 (.mov (.c (.bool true)))]) .ret))))⟩
structure D_laws_eqRat (T : Nat → Option Fn) : Prop where
 hT : T 40 = some F_laws_eqRat
 d_laws_eqIntS : D_laws_eqIntS T
 d_laws_eqBigInt : D_laws_eqBigInt T
theorem c_szIntS {T : Nat → Option Fn} (h : D_laws_szIntS T) {l : List Int} {left : Int} (hl : l.length ≤ 9223372036854775807:=by first | omega | assumption | (simp;omega)) (h0 : 0 ≤ left ∧ left ≤ 1048576:=by first | omega | assumption | (simp;omega)) : PF T 61 [ints l,iv left] (iv (szr left l.length)):=by
 refine pf_end (fun _ _=>false) h.hT rfl rfl ?_
 dsimp only [F_laws_szIntS,oN,oS,oG,oK,oA,oH,oV,cI]
 refine ev ?_
 refine brK_dec (fun hb=>?_) fun hb=>?_ <;> (refine ev1 @hb ?_;try with_reducible exact True.intro)
 ·simp [szr];omega
 ·simp [szr];omega
theorem c_toIntS {T : Nat → Option Fn} (h : D_laws_toIntS T) {l : List Int} (hl : l.length ≤ 1048576:=by first | omega | assumption | (simp;omega)) : PF T 6 [ints l] (ints l):=by
 refine pf_end (fun _ _=>false) h.hT rfl rfl ?_
 dsimp only [F_laws_toIntS,oN,oS,oG,oK,oA,oH,oV,cI]
 refine ev ?_
 refine ⟨by omega,?_⟩
 rw [ir_rep]
 refine loop_at (fun _ _=>false) (α:=Nat) (fun i=>⟨argE [ints l,.any,.any,.msl 0 0 l.length,iv (i : Nat)],[some ⟨1,irows (fillTo l 0 i)⟩],0,0,[],[]⟩) (fun i=>i ≤ l.length) (fun i=>l.length - i) rfl 0 ?_ ?_ ?_
 ·omega
 ·(refine Fg_env ?_) <;> (try (refine ev1 @fillTo_zero ?_;try with_reducible exact True.intro)) <;> (repeat' (first | refine ⟨?_,?_⟩ | exact EvV_int (by omega) | exact EvV_of (by simp) | exact EvV_nil _))
 ·intro i hi
  have e1:=fillTo_len l 0 hi
  refine ev1 @e1 ?_
  refine brK_dec (fun hb=>?_) fun hb=>?_ <;> (refine ev2 @hb @e1 ?_;try with_reducible exact True.intro)
  ·have e2:=fillTo_set l 0 (i:=i) (by omega)
   have e3 : (default : Int) = 0:=rfl
   rw [e3] at e2
   rw [e2]
   exact ⟨i + 1,by omega,by omega,by (refine Fg_env ?_;exact fgV)⟩
  ·have : i = l.length:=by omega
   subst this
   rw [fillTo_all]
theorem c_eqIntS {T : Nat → Option Fn} (h : D_laws_eqIntS T) {a b : List Int} (hl : a.length ≤ 9223372036854775807:=by first | omega | assumption | (simp;omega)) (hb : b.length ≤ 9223372036854775807:=by first | omega | assumption | (simp;omega)) : PF T 8 [ints a,ints b] (.bool (decide (a = b))):=by
 refine pf_end (fun _ _=>false) h.hT rfl rfl ?_
 dsimp only [F_laws_eqIntS,oN,oS,oG,oK,oA,oH,oV,cI]
 refine ev ?_
 refine brK_dec (fun h1=>?_) fun h1=>?_ <;> (refine ev1 @h1 ?_;try with_reducible exact True.intro)
 ·have h1 : a.length = b.length:=by omega
  refine loop_at (fun _ _=>false) (α:=Nat) (fun i=>⟨argE [ints a,ints b,.any,.any,.any,iv (i : Nat)],[],0,0,[],[]⟩) (fun i=>i ≤ a.length ∧ ∀ j,j < i → a.getD j 0 = b.getD j 0) (fun i=>a.length - i) rfl 0 ?_ ?_ ?_
  ·exact ⟨by omega,by intro j hj;omega⟩
  ·(refine Fg_env ?_;exact fgV)
  ·rintro i ⟨hi,hj⟩
   refine ev ?_
   refine brK_dec (fun h2=>?_) fun h2=>?_ <;> (refine ev1 @h2 ?_;try with_reducible exact True.intro)
   ·refine brK_dec (fun h3=>?_) fun h3=>?_ <;> (refine ev1 @h3 ?_;try with_reducible exact True.intro)
    ·refine ⟨i + 1,by omega,⟨by omega,fun j hj'=>?_⟩,by (refine Fg_env ?_;exact fgV)⟩
     by_cases e : j = i
     ·subst e;exact h3
     ·exact hj j (by omega)
    ·have : ¬ a = b:=fun e=>h3 (by rw [e])
     simp [this]
   ·have : a = b:=getD_ext' h1 fun j h=>hj j (by omega)
    simp [this]
 ·have : ¬ a = b:=fun e=>h1 (by rw [e])
  simp [this]
theorem c_szBigInt {T : Nat → Option Fn} (h : D_laws_szBigInt T) {z : Bi} {left : Int} (hl : z.mag.length ≤ 9223372036854775807:=by first | omega | assumption | (simp;omega)) (h0 : 0 ≤ left ∧ left ≤ 1048576:=by first | omega | assumption | (simp;omega)) : PF T 60 [biV z,iv left] (iv (szr left z.mag.length)):=by
 refine pf_end (fun _ _=>false) h.hT rfl rfl ?_
 dsimp only [F_laws_szBigInt,oN,oS,oG,oK,oA,oH,oV,cI]
 refine ev ?_
 refine PFK_of (c_szIntS h.d_laws_szIntS) ?_
 refine ev ?_
 refine brK_dec (fun hb=>?_) fun hb=>?_ <;> (refine ev1 @hb ?_;try with_reducible exact True.intro)
 unfold szr at hb ⊢
 split at hb
 ·rename_i k;simp [k]
 ·omega
theorem c_szRat {T : Nat → Option Fn} (h : D_laws_szRat T) {r : R} {left : Int} (hw : r.wf:=by first | omega | assumption | (simp;omega)) (h0 : 0 ≤ left ∧ left ≤ 1048576:=by first | omega | assumption | (simp;omega)) : PF T 46 [ratV r,iv left] (iv (szr left r.sz)):=by
 obtain ⟨w1,w2⟩:=hw
 refine pf_end (fun _ _=>false) h.hT rfl rfl ?_
 dsimp only [F_laws_szRat,oN,oS,oG,oK,oA,oH,oV,cI]
 refine ev ?_
 refine PFK_of (c_szBigInt h.d_laws_szBigInt (z:=r.num)) ?_
 refine ev ?_
 have k1:=@szr_le left r.mag.length
 refine brK_dec (fun hb=>?_) fun hb=>?_ <;> (refine ev1 @hb ?_;try with_reducible exact True.intro)
 ·simp only [R.sz,szr_neg hb h0.1]
 ·refine PFK_of (c_szIntS h.d_laws_szIntS) ?_
  refine ev ?_
  rw [szr_add hb]
  refine brK_dec (fun hb2=>?_) fun hb2=>?_ <;> (refine ev1 @hb2 ?_;try with_reducible exact True.intro)
  ·simp only [R.sz]
   unfold szr at hb2 ⊢
   split at hb2
   ·rename_i k;rw [if_pos k]
   ·omega
  ·rfl
theorem c_toBigInt {T : Nat → Option Fn} (h : D_laws_toBigInt T) {z : Bi} (hl : z.mag.length ≤ 1048576:=by first | omega | assumption | (simp;omega)) : PF T 63 [biV z] (biV z):=by
 refine pf_end (fun _ _=>false) h.hT rfl rfl ?_
 dsimp only [F_laws_toBigInt,oN,oS,oG,oK,oA,oH,oV,cI]
 refine ev ?_
 refine PFK_of (c_toIntS h.d_laws_toIntS) ?_
 (refine ev ?_;try with_reducible exact True.intro)
theorem c_toRat {T : Nat → Option Fn} (h : D_laws_toRat T) {r : R} (hl : r.sz ≤ 1048576:=by first | omega | assumption | (simp;omega)) : PF T 48 [ratV r] (ratV r):=by
 unfold R.sz at hl
 refine pf_end (fun _ _=>false) h.hT rfl rfl ?_
 dsimp only [F_laws_toRat,oN,oS,oG,oK,oA,oH,oV,cI]
 refine ev ?_
 refine PFK_of (c_toBigInt h.d_laws_toBigInt (z:=r.num)) ?_
 refine ev ?_
 refine PFK_of (c_toIntS h.d_laws_toIntS) ?_
 (refine ev ?_;try with_reducible exact True.intro)
theorem c_eqBigInt {T : Nat → Option Fn} (h : D_laws_eqBigInt T) {y z : Bi} (hy : y.mag.length ≤ 9223372036854775807:=by first | omega | assumption | (simp;omega)) (hz : z.mag.length ≤ 9223372036854775807:=by first | omega | assumption | (simp;omega)) : PF T 55 [biV y,biV z] (.bool (decide (y = z))):=by
 refine pf_end (fun _ _=>false) h.hT rfl rfl ?_
 dsimp only [F_laws_eqBigInt,oN,oS,oG,oK,oA,oH,oV,cI]
 refine ev ?_
 refine brK_dec (fun hb=>?_) fun hb=>?_ <;> (refine ev1 @hb ?_;try with_reducible exact True.intro)
 ·refine PFK_of (c_eqIntS h.d_laws_eqIntS) ?_
  refine ev ?_
  refine brK_dec (fun hc=>?_) fun hc=>?_ <;> (refine ev1 @hc ?_;try with_reducible exact True.intro)
  ·cases y;cases z;simp_all
  ·cases y;cases z;simp_all
 ·cases y;cases z;simp_all
theorem c_eqRat {T : Nat → Option Fn} (h : D_laws_eqRat T) {y z : R} (hy : y.wf:=by first | omega | assumption | (simp;omega)) (hz : z.wf:=by first | omega | assumption | (simp;omega)) : PF T 40 [ratV y,ratV z] (.bool (decide (y = z))):=by
 obtain ⟨w1,w2⟩:=hy
 obtain ⟨w3,w4⟩:=hz
 refine pf_end (fun _ _=>false) h.hT rfl rfl ?_
 dsimp only [F_laws_eqRat,oN,oS,oG,oK,oA,oH,oV,cI]
 refine ev ?_
 refine PFK_of (c_eqBigInt h.d_laws_eqBigInt (y:=y.num) (z:=z.num)) ?_
 refine ev ?_
 refine brK_dec (fun hb=>?_) fun hb=>?_ <;> (refine ev1 @hb ?_;try with_reducible exact True.intro)
 ·refine PFK_of (c_eqIntS h.d_laws_eqIntS) ?_
  refine ev ?_
  refine brK_dec (fun hc=>?_) fun hc=>?_ <;> (refine ev1 @hc ?_;try with_reducible exact True.intro)
  ·cases y;cases z;simp_all
  ·cases y;cases z;simp_all
 ·cases y;cases z;simp_all
def F_laws_markIntS : Fn:=⟨2,19,[.tmp 4],(.seq (.reg false 0 [oN 4 (.mov (cI 0))]) (.seq (.seq (.reg false 0 [oN 5 (.mov (cI 0))]) (.block 0 (.loop (.seq (.seq (.reg false 0 [oN 6 (oV 5),oN 7 (oV 0),oN 8 (.len (.t 7)),oN 9 (.bin .lss (.t 6) (.t 8))]) (.cond (.t 9) .skip (.exit 0))) (.seq (.block 1 (.seq (.reg false 0 [oN 12 (oV 0),oN 13 (oV 5),oN 14 (oV 1),oN 15 (.idx 1 (.t 12) (.t 13)),oS (.store 1 (.t 15) (.t 14))]) (.reg false 0 [oN 16 (oV 1),oN 17 (.bin .add (.t 16) (cI 1)),oN 1 (oV 17)]))) (.reg false 0 [oN 10 (oV 5),oN 11 (.bin .add (.t 10) (cI 1)),oN 5 (oV 11)])))))) (.seq (.reg false 0 [oN 18 (oV 1),oN 4 (oV 18)]) .ret)))⟩
structure D_laws_markIntS (T : Nat → Option Fn) : Prop where
 hT : T 57 = some F_laws_markIntS
def F_laws_heldIntS : Fn:=⟨2,21,[.tmp 4],(.seq (.reg false 0 [oN 4 (.mov (cI 0))]) (.seq (.seq (.reg false 0 [oN 5 (.mov (cI 0))]) (.block 0 (.loop (.seq (.seq (.reg false 0 [oN 6 (oV 5),oN 7 (oV 0),oN 8 (.len (.t 7)),oN 9 (.bin .lss (.t 6) (.t 8))]) (.cond (.t 9) .skip (.exit 0))) (.seq (.block 1 (.seq (.seq (.reg false 0 [oN 12 (oV 0),oN 13 (oV 5),oN 14 (.idx 1 (.t 12) (.t 13)),oN 15 (.load 1 false (.t 14)),oN 16 (oV 1),oN 17 (.bin .neq (.t 15) (.t 16))]) (.cond (.t 17) (.seq (.reg false 0 [oN 4 (.mov (cI (-1)))]) .ret) .skip)) (.reg false 0 [oN 18 (oV 1),oN 19 (.bin .add (.t 18) (cI 1)),oN 1 (oV 19)]))) (.reg false 0 [oN 10 (oV 5),oN 11 (.bin .add (.t 10) (cI 1)),oN 5 (oV 11)])))))) (.seq (.reg false 0 [oN 20 (oV 1),oN 4 (oV 20)]) .ret)))⟩
structure D_laws_heldIntS (T : Nat → Option Fn) : Prop where
 hT : T 59 = some F_laws_heldIntS
theorem po_copyInts {T : Nat → Option Fn} (h : D_impl_copyInts T) {l : List Int} (hl : l.length ≤ 1048576:=by first | omega | assumption | (simp;omega)) : PO T 139 [ints l] (ints l):=by
 refine po_end2 (fun _ _=>false) h.hT rfl rfl ?_
 dsimp only [F_impl_copyInts,oN,oS,oG,oK,oA,oH,oV,cI,St.enter,List.length_cons,List.length_nil,Nat.zero_add]
 refine ew ?_
 exact ⟨fun e=>fin_ints0 e,fun _=>⟨by omega,fin_ints rfl⟩⟩
theorem po_toIntS {T : Nat → Option Fn} (h : D_laws_toIntS T) {l : List Int} (hl : l.length ≤ 1048576:=by first | omega | assumption | (simp;omega)) : PO T 6 [ints l] (ints l):=by
 refine po_end2 (fun _ _=>false) h.hT rfl rfl ?_
 dsimp only [F_laws_toIntS,oN,oS,oG,oK,oA,oH,oV,cI,St.enter,List.length_cons,List.length_nil,Nat.zero_add]
 refine ew ?_
 refine ⟨by omega,?_⟩
 rw [ir_rep]
 refine loop_at (fun _ _=>false) (α:=Nat) (fun i=>⟨argE [ints l,.any,.any,.msl 0 0 l.length,iv (i : Nat)],[some ⟨1,irows (fillTo l 0 i)⟩],0,0,[],[]⟩) (fun i=>i ≤ l.length) (fun i=>l.length - i) rfl 0 ?_ ?_ ?_
 ·omega
 ·(refine Fg_env ?_) <;> (try (refine ew1 @fillTo_zero ?_;try with_reducible exact True.intro)) <;> (repeat' (first | refine ⟨?_,?_⟩ | exact EvV_int (by omega) | exact EvV_of (by simp) | exact EvV_nil _))
 ·intro i hi
  have e1:=fillTo_len l 0 hi
  refine ew1 @e1 ?_
  refine brK_dec (fun hb=>?_) fun hb=>?_ <;> (refine ew2 @hb @e1 ?_;try with_reducible exact True.intro)
  ·have e2:=fillTo_set l 0 (i:=i) (by omega)
   have e3 : (default : Int) = 0:=rfl
   rw [e3] at e2
   rw [e2]
   exact ⟨i + 1,by omega,by omega,by (refine Fg_env ?_;exact fgW)⟩
  ·have : i = l.length:=by omega
   subst this
   rw [fillTo_all]
   exact fin_ints rfl
def cnt (n : Nat) (k : Int) : List Int:=(List.range n).map fun i=>k + ((i : Nat) : Int)
theorem cnt_len (n : Nat) (k : Int) : (cnt n k).length = n:=by simp [cnt]
theorem cnt_at {n i : Nat} (k : Int) (h : i < n) : (cnt n k).getD i 0 = k + (i : Nat):=by
 simp [cnt,List.getD_eq_getElem?_getD,h]
def cntTo (l : List Int) (k : Int) (i : Nat) : List Int:=cnt i k ++ l.drop i
theorem cntTo_0 (l : List Int) (k : Int) : cntTo l k 0 = l:=by simp [cntTo,cnt]
theorem cntTo_all (l : List Int) (k : Int) : cntTo l k l.length = cnt l.length k:=by simp [cntTo]
theorem cntTo_len (l : List Int) (k : Int) {i : Nat} (h : i ≤ l.length) : (cntTo l k i).length = l.length:=by simp [cntTo,cnt_len];omega
theorem cntTo_set (l : List Int) (k : Int) {i : Nat} (h : i < l.length) : (cntTo l k i).set i (k + (i : Nat)) = cntTo l k (i + 1):=by
 unfold cntTo
 rw [List.set_append_right _ _ (by rw [cnt_len];exact Nat.le_refl _),cnt_len,Nat.sub_self,List.drop_eq_getElem_cons h,List.set_cons_zero]
 unfold cnt
 rw [List.range_succ,List.map_append]
 simp
theorem mk_markIntS {T : Nat → Option Fn} (h : D_laws_markIntS T) {l : List Int} {k : Int} (hl : l.length ≤ 1000000000:=by first | omega | assumption | (simp;omega)) (hk : 0 ≤ k ∧ k ≤ 1000000000000:=by first | omega | assumption | (simp;omega)) :
  Mk T 57 (ints l) k (ints (cnt l.length k)) (k + l.length):=by
 refine mk_iff fun σ v os ho hn=>?_
 rcases ho.ints_inv with ⟨rfl,rfl,rfl⟩ | ⟨o,rfl,h1,rfl⟩
 ·have : ∃ r σ',Run T (.fn 57 [.sl 1 [],iv k] σ) (.fn r σ') ∧ (r = iv k ∧ σ' = σ):=by
   refine run_end (fun _ _=>false) h.hT rfl rfl ?_
   dsimp only [F_laws_markIntS,oN,oS,oG,oK,oA,oH,oV,cI,St.enter,List.length_cons,List.length_nil,Nat.zero_add]
   refine ew ?_
   refine loop_at (fun _ _=>false) (α:=Nat) (fun i=>⟨argE [.sl 1 [],iv k,.any,.any,.any,iv 0],σ,σ.length,0,[],[]⟩) (fun i=>i = 0) (fun i=>i) rfl 0 ?_ ?_ ?_
   ·rfl
   ·(refine Fg_env ?_;exact fgW)
   ·rintro i rfl
    refine ew ?_
    refine brK_dec (fun hc=>absurd hc (by omega)) fun hc=>?_
    (refine ew ?_;try with_reducible exact True.intro)
  obtain ⟨r,σ',h2,rfl,rfl⟩:=this
  exact ⟨σ',by simpa using h2,ho,Fr.refl _ _⟩
 ·have hlt:=objAt_lt h1
  have : ∃ r σ',Run T (.fn 57 [.msl o 0 l.length,iv k] σ) (.fn r σ') ∧ (r = iv (k + l.length) ∧ objAt σ' o = some ⟨1,irows (cnt l.length k)⟩ ∧ Fr [o] σ σ'):=by
   refine run_end (fun _ _=>false) h.hT rfl rfl ?_
   dsimp only [F_laws_markIntS,oN,oS,oG,oK,oA,oH,oV,cI,St.enter,List.length_cons,List.length_nil,Nat.zero_add]
   refine ew ?_
   refine loop_at (fun _ _=>false) (α:=Nat × Store) (fun q=>⟨argE [.msl o 0 l.length,iv (k + (q.1 : Nat)),.any,.any,.any,iv (q.1 : Nat)],q.2,σ.length,0,[],[]⟩) (fun q=>q.1 ≤ l.length ∧ objAt q.2 o = some ⟨1,irows (cntTo l k q.1)⟩ ∧ Fr [o] σ q.2) (fun q=>l.length - q.1) rfl (0,σ) ?_ ?_ ?_
   ·exact ⟨by omega,by rw [cntTo_0];exact h1,Fr.refl _ _⟩
   ·(refine Fg_env ?_;exact fgW)
   ·rintro ⟨i,s⟩ ⟨hi,h2,h3⟩
    dsimp only at hi h2 h3
    have e1:=cntTo_len l k hi
    have hls:=h3.len
    refine ew1 @h2 ?_
    refine brK_dec (fun hc=>?_) fun hc=>?_ <;> (refine ew3 @hc @h2 @e1 ?_;try with_reducible exact True.intro)
    ·have e2:=cntTo_set l k (i:=i) (by omega)
     rw [e2]
     refine ⟨(i + 1,s.set o (some ⟨1,irows (cntTo l k (i + 1))⟩)),by dsimp only;omega,⟨by dsimp only;omega,?_,?_⟩,by (refine Fg_env ?_;exact fgW)⟩
     ·dsimp only;exact objAt_seteq (by omega)
     ·dsimp only;exact h3.trans (fr_set (by simp))
    ·have : i = l.length:=by omega
     subst this
     exact ⟨rfl,by rw [cntTo_all],h3⟩
  obtain ⟨r,σ',h2,rfl,h3,h4⟩:=this
  have:=owV_ints h3
  rw [cnt_len] at this
  exact ⟨σ',h2,this,h4⟩
theorem c_heldIntS {T : Nat → Option Fn} (h : D_laws_heldIntS T) {n : Nat} {k : Int} (hl : n ≤ 1000000000:=by first | omega | assumption | (simp;omega)) (hk : 0 ≤ k ∧ k ≤ 1000000000000:=by first | omega | assumption | (simp;omega)) :
  PF T 59 [ints (cnt n k),iv k] (iv (k + n)):=by
 have hcl:=cnt_len n k
 refine pf_end (fun _ _=>false) h.hT rfl rfl ?_
 dsimp only [F_laws_heldIntS,oN,oS,oG,oK,oA,oH,oV,cI]
 refine ev ?_
 refine loop_at (fun _ _=>false) (α:=Nat) (fun i=>⟨argE [ints (cnt n k),iv (k + (i : Nat)),.any,.any,.any,iv (i : Nat)],[],0,0,[],[]⟩) (fun i=>i ≤ n) (fun i=>n - i) rfl 0 ?_ ?_ ?_
 ·omega
 ·(refine Fg_env ?_;exact fgV)
 ·intro i hi
  refine ev1 @hcl ?_
  refine brK_dec (fun hc=>?_) fun hc=>?_ <;> (refine ev2 @hc @hcl ?_;try with_reducible exact True.intro)
  ·have:=cnt_at k (show i < n by omega)
   refine ev1 @this ?_
   exact ⟨i + 1,by omega,by omega,by (refine Fg_env ?_;exact fgV)⟩
  ·have : i = n:=by omega
   subst this
   rfl
theorem po_toBigInt {T : Nat → Option Fn} (h : D_laws_toBigInt T) {z : Bi} (hl : z.mag.length ≤ 1048576:=by first | omega | assumption | (simp;omega)) : PO T 63 [biV z] (biV z):=by
 refine po_end2 (fun x d=>x == 6) h.hT rfl rfl ?_
 dsimp only [F_laws_toBigInt,oN,oS,oG,oK,oA,oH,oV,cI,St.enter,List.length_cons,List.length_nil,Nat.zero_add]
 refine ew ?_
 refine RefK_got (po_toIntS h.d_laws_toIntS (l:=z.mag) (by omega)) (by (refine ew ?_;try with_reducible exact True.intro)) ?_
 intro r σ2 os g
 have g1:=g.at 1 (by simp) rfl
 have g2:=g.at 2 (by simp) rfl
 have gl : 3 ≤ σ2.length:=g.len
 have lf:=g.lf rfl
 have lb:=g.lfb rfl
 have fr : ∀ o ∈ os,3 ≤ o:=g.fresh
 refine ew4 @g1 @g2 @lf @lb ?_
 refine fin_of (owV_agg (owL_bool (owL_v (g.ow.frame fun o ho=>?_) owL_nil))) (by simpa using g.nd)
 have:=fr o ho
 rw [objAt_setne (by omega),objAt_setne (by omega)]
theorem po_toRat {T : Nat → Option Fn} (h : D_laws_toRat T) {r : R} (hl : r.mag.length + r.den.length ≤ 1048576:=by first | omega | assumption | (simp;omega)) : PO T 48 [ratV r] (ratV r):=by
 refine po_end2 (fun x d=>x == 6 || x == 63) h.hT rfl rfl ?_
 dsimp only [F_laws_toRat,oN,oS,oG,oK,oA,oH,oV,cI,St.enter,List.length_cons,List.length_nil,Nat.zero_add]
 refine ew ?_
 refine RefK_got (po_toBigInt h.d_laws_toBigInt (z:=r.num) (by show r.mag.length ≤ _;omega)) (by (refine ew ?_;try with_reducible exact True.intro)) ?_
 intro r1 σ1 o1 g
 obtain ⟨v1,rfl,k1⟩:=g.ow.bi_inv
 have a0:=g.at 0 (by simp) rfl
 have a1:=g.at 1 (by simp) rfl
 have a2:=g.at 2 (by simp) rfl
 have gl : 3 ≤ σ1.length:=g.len
 have lf:=cells_lf (k1.leaf rfl)
 have lb:=k1.leaf rfl
 have f1 : ∀ o ∈ o1,3 ≤ o:=g.fresh
 refine ew5 @a0 @a1 @a2 @lf @lb ?_
 refine RefK_got (po_toIntS h.d_laws_toIntS (l:=r.den) (by omega)) (by (refine ew ?_;try with_reducible exact True.intro)) ?_
 intro v2 σ2 o2 g2
 have b1:=g2.old 1 (by simp;omega)
 have b2:=g2.old 2 (by simp;omega)
 have gl2 : σ1.length ≤ σ2.length:=by simpa using g2.len
 have lf2:=cells_lf (g2.ow.leaf rfl)
 have lb2:=g2.ow.leaf rfl
 have f2 : ∀ o ∈ o2,σ1.length ≤ o:=by simpa using g2.fresh
 refine ew6 @b1 @b2 @a1 @lf2 @lb2 @lb ?_
 refine fin_of (owV_agg (owL_bool (owL_v (k1.frame fun o ho=>?_) (owL_v (g2.ow.frame fun o ho=>?_) owL_nil)))) ?_
 ·have:=f1 o ho
  have:=k1.lt o ho
  rw [objAt_setne (by omega),objAt_setne (by omega),g2.old o (by simp;omega),objAt_setne (by omega)]
 ·have:=f2 o ho
  rw [objAt_setne (by omega),objAt_setne (by omega)]
 ·rw [List.append_nil,List.nodup_append]
  refine ⟨by simpa using g.nd,g2.nd,fun a ha b hb e=>?_⟩
  have:=k1.lt a ha
  have:=f2 b hb
  omega
def toSF (z : List V) (bytes sz f : Nat) : Fn:=⟨1,23,[.tmp 2],(.seq (.reg false 0 [oN 2 (.mov (.c (.nils)))]) (.seq (.reg false 1 [oK 5 1 (oV 0),oK 6 1 (.len (.t 5)),oN 7 (.make z bytes (.t 6)),oK 3 1 (oV 7)]) (.seq (.seq (.reg false 0 [oN 4 (.mov (cI 0))]) (.block 0 (.loop (.seq (.seq (.reg false 0 [oN 8 (oV 4),oN 9 (oV 0),oN 10 (.len (.t 9)),oN 11 (.bin .lss (.t 8) (.t 10))]) (.cond (.t 11) .skip (.exit 0))) (.seq (.block 1 (.reg false 0 [oN 14 (oV 3),oN 15 (oV 4),oN 16 (oV 0),oN 17 (oV 4),oN 18 (.idx sz (.t 16) (.t 17)),oN 19 (.load sz true (.t 18)),oN 20 (.call f [(.t 19)]),oN 21 (.idx sz (.t 14) (.t 15)),oS (.store sz (.t 21) (.t 20))])) (.reg false 0 [oN 12 (oV 4),oN 13 (.bin .add (.t 12) (cI 1)),oN 4 (oV 13)])))))) (.seq (.reg false 0 [oN 22 (oV 3),oN 2 (oV 22)]) .ret))))⟩
theorem rep_get {α : Type} (A : List α) (z : α) {n i : Nat} (ha : A.length = i) (h : i < n) : (A ++ List.replicate (n - i) z)[i]? = some z:=by
 rw [List.getElem?_append_right (by omega),ha,Nat.sub_self,show n - i = (n - (i + 1)) + 1 by omega,List.replicate_succ];rfl
theorem rep_set {α : Type} (A : List α) (z x : α) {n i : Nat} (ha : A.length = i) (h : i < n) : (A ++ List.replicate (n - i) z).set i x = (A ++ [x]) ++ List.replicate (n - (i + 1)) z:=by
 rw [List.set_append_right _ _ (by omega),ha,Nat.sub_self,show n - i = (n - (i + 1)) + 1 by omega,List.replicate_succ];simp
theorem take_map_succ {α : Type} [Inhabited α] (cl : α → List V) (l : List α) {i : Nat} (h : i < l.length) : (l.take (i + 1)).map cl = (l.take i).map cl ++ [cl (l.getD i default)]:=by
 rw [List.take_add_one,List.getElem?_eq_getElem h,List.getD_eq_getElem?_getD,List.getElem?_eq_getElem h,List.map_append];rfl
theorem resC_still {σ : Store} : ∀ {cs : List V},(∀ v ∈ cs,v.still = true) → resC σ cs = some cs
 | [],_=>rfl
 |
  c :: cs,h=>by
  simp only [resC]
  rw [res_still (n:=10) (h c (by simp)),resC_still fun v hv=>h v (by simp [hv])]
theorem res_agg_still {σ : Store} {cs : List V} (h : ∀ v ∈ cs,v.still = true) : resolve σ FD (.agg cs) = some (.agg cs):=by
 show (cs.mapM (resolve σ 11)).map V.agg = _
 rw [mapM_still (n:=10) h];rfl
theorem po_toS {T : Nat → Option Fn} {n f bytes : Nat} {z : List V} {α : Type} [Inhabited α] {cl : α → List V} {l : List α} (hT : T n = some (toSF z bytes z.length f)) (hb : bytes ≤ 1024) (hl : l.length ≤ 1048576)
  (hcl : ∀ x ∈ l,(cl x).length = z.length ∧ (∀ v ∈ cl x,v.still = true) ∧ (cl x).all V.leaf = true) (hpo : ∀ x ∈ l,PO T f [.agg (cl x)] (.agg (cl x))) : PO T n [.sl z.length (l.map cl)] (.sl z.length (l.map cl)):=by

 refine po_end2 (fun x _=>x == f) hT rfl rfl ?_
 dsimp only [toSF,oN,oS,oG,oK,oA,oH,oV,cI]
 refine ew ?_
 have hbl : l.length * bytes ≤ 1048576 * 1024:=Nat.mul_le_mul hl hb
 refine ⟨by omega,?_⟩
 refine loop_at (fun x _=>x == f) (α:=Nat × Store × List (List V)) (fun q=>⟨argE [.sl z.length (l.map cl),.any,.any,.msl 0 0 l.length,iv (q.1 : Nat)],q.2.1,0,0,[],[]⟩) (fun q=>q.1 ≤ l.length ∧ q.2.2.length = q.1 ∧ objAt q.2.1 0 = some ⟨z.length,q.2.2 ++ List.replicate (l.length - q.1) z⟩ ∧ OwRs 1 q.2.1 q.2.2 ((l.take q.1).map cl) ∧ 1 ≤ q.2.1.length) (fun q=>l.length - q.1) rfl (0,[some ⟨z.length,List.replicate l.length z⟩],[]) ?_ ?_ ?_
 ·exact ⟨by omega,rfl,rfl,by simpa using owRs_nil,by simp⟩
 ·(refine Fg_env ?_;exact fgW)
 ·rintro ⟨i,s,A⟩ ⟨hi,hA,h0,hO,hs⟩
  dsimp only at hi hA h0 hO hs
  refine ew1 @h0 ?_
  refine brK_dec (fun hc=>?_) fun hc=>?_ <;> (refine ew3 @hc @mg @h0 ?_;try with_reducible exact True.intro)
  ·have hil : i < l.length:=by omega
   have hx:=getD_mem hil
   obtain ⟨x,hxe⟩ : ∃ x,l.getD i default = x:=⟨_,rfl⟩
   have hts:=take_map_succ cl l hil
   rw [hxe] at hx hts ⊢
   obtain ⟨e1,e2,e3⟩:=hcl x hx
   have e4 : ∀ σ : Store,resC σ (cl x) = some (cl x):=fun σ=>resC_still e2
   have e5 : ∀ σ : Store,resolve σ FD (.agg (cl x)) = some (.agg (cl x)):=fun σ=>res_agg_still e2
   have eb : (f == f) = true:=by simp
   refine ew3 @e1 @e4 @eb ?_
   refine RefK_got (hpo x hx) (by (refine ew1 @e5 ?_;try with_reducible exact True.intro)) ?_
   intro r σ2 os g
   obtain ⟨cs,rfl,k1⟩:=g.ow.agg_inv
   have g0:=g.at 0 (by omega) h0
   have gl:=g.len
   have lf:=cells_agg (k1.leaf e3)
   have cl1 : cs.length = z.length:=by rw [k1.len,e1]
   have r1:=rep_get A z hA hil
   have r2:=rep_set A z cs hA hil
   refine ew5 @g0 @lf @cl1 @r1 @List.drop_length.{0} ?_
   rw [r2]
   refine ⟨(i + 1,σ2.set 0 (some ⟨z.length,(A ++ [cs]) ++ List.replicate (l.length - (i + 1)) z⟩),A ++ [cs]),by dsimp only;omega,⟨by dsimp only;omega,by simp [hA],?_,?_,by simp;omega⟩,by (refine Fg_env ?_;exact fgW)⟩
   ·dsimp only;exact objAt_seteq (by omega)
   ·dsimp only
    rw [hts]
    exact (hO.got g hs).set (by omega)
  ·have ei : i = l.length:=by omega
   subst ei
   rw [Nat.sub_self,List.replicate_zero,List.append_nil] at h0
   rw [List.take_length] at hO
   have:=hO.fin h0 (by omega)
   rw [List.length_map] at this
   exact this
def F_laws_szLink : Fn:=⟨2,24,[.tmp 4],(.seq (.reg false 1 [oN 2 (.box (.t 0)),oK 4 1 (.mov (cI 0))]) (.seq (.reg false 0 [oN 5 (.fld 2 (.t 2)),oN 6 (.load 3 true (.t 5)),oN 7 (oV 1),oN 8 (.call 46 [(.t 6),(.t 7)]),oN 1 (oV 8)]) (.seq (.seq (.reg false 0 [oN 9 (oV 1),oN 10 (.bin .lss (.t 9) (cI 0))]) (.cond (.t 10) (.seq (.reg false 0 [oN 4 (.mov (cI (-1)))]) .ret) .skip)) (.seq (.reg false 0 [oN 11 (.fld 5 (.t 2)),oN 12 (.load 3 true (.t 11)),oN 13 (oV 1),oN 14 (.call 46 [(.t 12),(.t 13)]),oN 1 (oV 14)]) (.seq (.seq (.reg false 0 [oN 15 (oV 1),oN 16 (.bin .lss (.t 15) (cI 0))]) (.cond (.t 16) (.seq (.reg false 0 [oN 4 (.mov (cI (-1)))]) .ret) .skip)) (.seq (.reg false 0 [oN 17 (.fld 8 (.t 2)),oN 18 (.load 3 true (.t 17)),oN 19 (oV 1),oN 20 (.call 46 [(.t 18),(.t 19)]),oN 1 (oV 20)]) (.seq (.seq (.reg false 0 [oN 21 (oV 1),oN 22 (.bin .lss (.t 21) (cI 0))]) (.cond (.t 22) (.seq (.reg false 0 [oN 4 (.mov (cI (-1)))]) .ret) .skip)) (.seq (.reg false 0 [oN 23 (oV 1),oN 4 (oV 23)]) .ret))))))))⟩
structure D_laws_szLink (T : Nat → Option Fn) : Prop where
 hT : T 43 = some F_laws_szLink
 d_laws_szRat : D_laws_szRat T
def F_laws_toLink : Fn:=⟨1,23,[.cell 2 11 true],(.seq (.reg false 2 [oN 1 (.box (.t 0)),oK 2 1 (.alloc [.int .i64 0,.int .i64 0,.bool false,.nils,.nils,.bool false,.nils,.nils,.bool false,.nils,.nils])]) (.seq (.reg false 1 [oN 3 (.alloc [.int .i64 0,.int .i64 0,.bool false,.nils,.nils,.bool false,.nils,.nils,.bool false,.nils,.nils])]) (.seq (.reg false 0 [oN 4 (.fld 0 (.t 1)),oN 5 (.load 1 false (.t 4)),oN 6 (.fld 0 (.t 3)),oS (.store 1 (.t 6) (.t 5))]) (.seq (.reg false 0 [oN 7 (.fld 1 (.t 1)),oN 8 (.load 1 false (.t 7)),oN 9 (.fld 1 (.t 3)),oS (.store 1 (.t 9) (.t 8))]) (.seq (.reg false 0 [oN 10 (.fld 2 (.t 1)),oN 11 (.load 3 true (.t 10)),oN 12 (.call 48 [(.t 11)]),oN 13 (.fld 2 (.t 3)),oS (.store 3 (.t 13) (.t 12))]) (.seq (.reg false 0 [oN 14 (.fld 5 (.t 1)),oN 15 (.load 3 true (.t 14)),oN 16 (.call 48 [(.t 15)]),oN 17 (.fld 5 (.t 3)),oS (.store 3 (.t 17) (.t 16))]) (.seq (.reg false 0 [oN 18 (.fld 8 (.t 1)),oN 19 (.load 3 true (.t 18)),oN 20 (.call 48 [(.t 19)]),oN 21 (.fld 8 (.t 3)),oS (.store 3 (.t 21) (.t 20))]) (.seq (.reg false 0 [oN 22 (.load 11 true (.t 3)),oS (.store 11 (.t 2) (.t 22))]) .ret))))))))⟩
structure D_laws_toLink (T : Nat → Option Fn) : Prop where
 hT : T 44 = some F_laws_toLink
 d_laws_toRat : D_laws_toRat T
def F_laws_eqLink : Fn:=⟨2,33,[.tmp 4],(.seq (.reg false 2 [oN 2 (.box (.t 0)),oK 3 1 (.box (.t 1)),oK 4 2 (.mov (.c (.bool false)))]) (.seq (.seq (.reg false 0 [oN 5 (.fld 0 (.t 2)),oN 6 (.load 1 false (.t 5)),oN 7 (.fld 0 (.t 3)),oN 8 (.load 1 false (.t 7)),oN 9 (.bin .neq (.t 6) (.t 8))]) (.cond (.t 9) (.seq (.reg false 0 [oN 4 (.mov (.c (.bool false)))]) .ret) .skip)) (.seq (.seq (.reg false 0 [oN 10 (.fld 1 (.t 2)),oN 11 (.load 1 false (.t 10)),oN 12 (.fld 1 (.t 3)),oN 13 (.load 1 false (.t 12)),oN 14 (.bin .neq (.t 11) (.t 13))]) (.cond (.t 14) (.seq (.reg false 0 [oN 4 (.mov (.c (.bool false)))]) .ret) .skip)) (.seq (.seq (.reg false 0 [oN 15 (.fld 2 (.t 2)),oN 16 (.load 3 true (.t 15)),oN 17 (.fld 2 (.t 3)),oN 18 (.load 3 true (.t 17)),oN 19 (.call 40 [(.t 16),(.t 18)]),oN 20 (.un .not (.t 19))]) (.cond (.t 20) (.seq (.reg false 0 [oN 4 (.mov (.c (.bool false)))]) .ret) .skip)) (.seq (.seq (.reg false 0 [oN 21 (.fld 5 (.t 2)),oN 22 (.load 3 true (.t 21)),oN 23 (.fld 5 (.t 3)),oN 24 (.load 3 true (.t 23)),oN 25 (.call 40 [(.t 22),(.t 24)]),oN 26 (.un .not (.t 25))]) (.cond (.t 26) (.seq (.reg false 0 [oN 4 (.mov (.c (.bool false)))]) .ret) .skip)) (.seq (.seq (.reg false 0 [oN 27 (.fld 8 (.t 2)),oN 28 (.load 3 true (.t 27)),oN 29 (.fld 8 (.t 3)),oN 30 (.load 3 true (.t 29)),oN 31 (.call 40 [(.t 28),(.t 30)]),oN 32 (.un .not (.t 31))]) (.cond (.t 32) (.seq (.reg false 0 [oN 4 (.mov (.c (.bool false)))]) .ret) .skip)) (.seq (.reg false 0 [oN 4 (.mov (.c (.bool true)))]) .ret)))))))⟩
structure D_laws_eqLink (T : Nat → Option Fn) : Prop where
 hT : T 16 = some F_laws_eqLink
 d_laws_eqRat : D_laws_eqRat T
def F_laws_szLinkS : Fn:=⟨2,27,[.tmp 4],(.seq (.reg false 0 [oN 4 (.mov (cI 0))]) (.seq (.reg false 0 [oN 6 (oV 1),oN 7 (oV 0),oN 8 (.len (.t 7)),oN 9 (.bin .sub (.t 6) (.t 8)),oN 1 (oV 9)]) (.seq (.seq (.reg false 0 [oN 10 (oV 1),oN 11 (.bin .lss (.t 10) (cI 0))]) (.cond (.t 11) (.seq (.reg false 0 [oN 4 (.mov (cI (-1)))]) .ret) .skip)) (.seq (.seq (.reg false 0 [oN 5 (.mov (cI 0))]) (.block 0 (.loop (.seq (.seq (.reg false 0 [oN 12 (oV 5),oN 13 (oV 0),oN 14 (.len (.t 13)),oN 15 (.bin .lss (.t 12) (.t 14))]) (.cond (.t 15) .skip (.exit 0))) (.seq (.block 1 (.seq (.reg false 0 [oN 18 (oV 0),oN 19 (oV 5),oN 20 (.idx 11 (.t 18) (.t 19)),oN 21 (.load 11 true (.t 20)),oN 22 (oV 1),oN 23 (.call 43 [(.t 21),(.t 22)]),oN 1 (oV 23)]) (.seq (.reg false 0 [oN 24 (oV 1),oN 25 (.bin .lss (.t 24) (cI 0))]) (.cond (.t 25) (.seq (.reg false 0 [oN 4 (.mov (cI (-1)))]) .ret) .skip)))) (.reg false 0 [oN 16 (oV 5),oN 17 (.bin .add (.t 16) (cI 1)),oN 5 (oV 17)])))))) (.seq (.reg false 0 [oN 26 (oV 1),oN 4 (oV 26)]) .ret)))))⟩
structure D_laws_szLinkS (T : Nat → Option Fn) : Prop where
 hT : T 19 = some F_laws_szLinkS
 d_laws_szLink : D_laws_szLink T
def F_laws_toLinkS : Fn:=⟨1,23,[.tmp 2],(.seq (.reg false 0 [oN 2 (.mov (.c (.nils)))]) (.seq (.reg false 1 [oK 5 1 (oV 0),oK 6 1 (.len (.t 5)),oN 7 (.make [.int .i64 0,.int .i64 0,.bool false,.nils,.nils,.bool false,.nils,.nils,.bool false,.nils,.nils] 184 (.t 6)),oK 3 1 (oV 7)]) (.seq (.seq (.reg false 0 [oN 4 (.mov (cI 0))]) (.block 0 (.loop (.seq (.seq (.reg false 0 [oN 8 (oV 4),oN 9 (oV 0),oN 10 (.len (.t 9)),oN 11 (.bin .lss (.t 8) (.t 10))]) (.cond (.t 11) .skip (.exit 0))) (.seq (.block 1 (.reg false 0 [oN 14 (oV 3),oN 15 (oV 4),oN 16 (oV 0),oN 17 (oV 4),oN 18 (.idx 11 (.t 16) (.t 17)),oN 19 (.load 11 true (.t 18)),oN 20 (.call 44 [(.t 19)]),oN 21 (.idx 11 (.t 14) (.t 15)),oS (.store 11 (.t 21) (.t 20))])) (.reg false 0 [oN 12 (oV 4),oN 13 (.bin .add (.t 12) (cI 1)),oN 4 (oV 13)])))))) (.seq (.reg false 0 [oN 22 (oV 3),oN 2 (oV 22)]) .ret))))⟩
structure D_laws_toLinkS (T : Nat → Option Fn) : Prop where
 hT : T 21 = some F_laws_toLinkS
 d_laws_toLink : D_laws_toLink T
def F_laws_eqLinkS : Fn:=⟨2,27,[.tmp 4],(.seq (.reg false 0 [oN 4 (.mov (.c (.bool false)))]) (.seq (.seq (.reg false 0 [oN 6 (oV 0),oN 7 (.len (.t 6)),oN 8 (oV 1),oN 9 (.len (.t 8)),oN 10 (.bin .neq (.t 7) (.t 9))]) (.cond (.t 10) (.seq (.reg false 0 [oN 4 (.mov (.c (.bool false)))]) .ret) .skip)) (.seq (.seq (.reg false 0 [oN 5 (.mov (cI 0))]) (.block 0 (.loop (.seq (.seq (.reg false 0 [oN 11 (oV 5),oN 12 (oV 0),oN 13 (.len (.t 12)),oN 14 (.bin .lss (.t 11) (.t 13))]) (.cond (.t 14) .skip (.exit 0))) (.seq (.block 1 (.seq (.reg true 0 [oN 17 (oV 0),oN 18 (oV 5),oA 19 0 (.idx 11 (.t 17) (.t 18)) [0,1],oA 20 0 (.load 11 true (.t 19)) [2],oN 21 (oV 1),oN 22 (oV 5),oA 23 0 (.idx 11 (.t 21) (.t 22)) [4,5],oA 24 0 (.load 11 true (.t 23)) [6],oA 25 0 (.call 16 [(.t 20),(.t 24)]) [3,7],oA 26 0 (.un .not (.t 25)) [8]]) (.cond (.t 26) (.seq (.reg false 0 [oN 4 (.mov (.c (.bool false)))]) .ret) .skip))) (.reg false 0 [oN 15 (oV 5),oN 16 (.bin .add (.t 15) (cI 1)),oN 5 (oV 16)])))))) (.seq (.reg false 0 [oN 4 (.mov (.c (.bool true)))]) .ret))))⟩
structure D_laws_eqLinkS (T : Nat → Option Fn) : Prop where
 hT : T 23 = some F_laws_eqLinkS
 d_laws_eqLink : D_laws_eqLink T
theorem c_szLink {T : Nat → Option Fn} (h : D_laws_szLink T) {x : Lk} {left : Int} (hw : x.wf:=by first | omega | assumption | (simp;omega)) (h0 : 0 ≤ left ∧ left ≤ 1048576:=by first | omega | assumption | (simp;omega)) : PF T 43 [lkV x,iv left] (iv (szr left x.sz)):=by
 obtain ⟨w0,w1,w2⟩:=hw
 refine pf_end (fun _ _=>false) h.hT rfl rfl ?_
 dsimp only [F_laws_szLink,oN,oS,oG,oK,oA,oH,oV,cI]
 refine ev ?_
 refine PFK_of (c_szRat h.d_laws_szRat (r:=x.w) w0 ⟨by omega,by omega⟩) ?_
 refine ev ?_
 have k0:=@szr_le left (x.w.sz)
 refine brK_dec (fun hb0=>?_) fun hb0=>?_ <;> (refine ev1 @hb0 ?_;try with_reducible exact True.intro)
 ·rw [show x.sz = (x.w.sz) + (x.dx.sz + x.dy.sz) from by (unfold Lk.sz;omega),szr_neg hb0 h0.1]
 refine PFK_of (c_szRat h.d_laws_szRat (r:=x.dx) w1 ⟨by omega,by omega⟩) ?_
 refine ev ?_
 rw [szr_add hb0]
 have k1:=@szr_le left (x.w.sz + x.dx.sz)
 refine brK_dec (fun hb1=>?_) fun hb1=>?_ <;> (refine ev1 @hb1 ?_;try with_reducible exact True.intro)
 ·rw [show x.sz = (x.w.sz + x.dx.sz) + (x.dy.sz) from by (unfold Lk.sz;omega),szr_neg hb1 h0.1]
 refine PFK_of (c_szRat h.d_laws_szRat (r:=x.dy) w2 ⟨by omega,by omega⟩) ?_
 refine ev ?_
 rw [szr_add hb1]
 have k2:=@szr_le left (x.w.sz + x.dx.sz + x.dy.sz)
 refine brK_dec (fun hb2=>?_) fun hb2=>?_ <;> (refine ev1 @hb2 ?_;try with_reducible exact True.intro)
 ·rw [show x.sz = x.w.sz + x.dx.sz + x.dy.sz from rfl,szr_neg0 hb2 h0.1]
 ·rfl
theorem c_toLink {T : Nat → Option Fn} (h : D_laws_toLink T) {x : Lk} (hl : x.sz ≤ 1048576:=by first | omega | assumption | (simp;omega)) : PF T 44 [lkV x] (lkV x):=by
 unfold Lk.sz at hl
 refine pf_end (fun _ _=>false) h.hT rfl rfl ?_
 dsimp only [F_laws_toLink,oN,oS,oG,oK,oA,oH,oV,cI]
 refine ev ?_
 refine PFK_of (c_toRat h.d_laws_toRat (r:=x.w) (by omega)) ?_
 refine ev ?_
 refine PFK_of (c_toRat h.d_laws_toRat (r:=x.dx) (by omega)) ?_
 refine ev ?_
 refine PFK_of (c_toRat h.d_laws_toRat (r:=x.dy) (by omega)) ?_
 (refine ev ?_;try with_reducible exact True.intro)
theorem c_eqLink {T : Nat → Option Fn} (h : D_laws_eqLink T) {x y : Lk} (hx : x.wf:=by first | omega | assumption | (simp;omega)) (hy : y.wf:=by first | omega | assumption | (simp;omega)) : PF T 16 [lkV x,lkV y] (.bool (decide (x = y))):=by
 obtain ⟨w0,w1,w2⟩:=hx
 obtain ⟨v0,v1,v2⟩:=hy
 refine pf_end (fun _ _=>false) h.hT rfl rfl ?_
 dsimp only [F_laws_eqLink,oN,oS,oG,oK,oA,oH,oV,cI]
 refine ev ?_
 refine brK_dec (fun hb0=>?_) fun hb0=>?_ <;> (refine ev1 @hb0 ?_;try with_reducible exact True.intro)
 rotate_left
 ·cases x;cases y;simp_all
 refine brK_dec (fun hb1=>?_) fun hb1=>?_ <;> (refine ev1 @hb1 ?_;try with_reducible exact True.intro)
 rotate_left
 ·cases x;cases y;simp_all
 refine PFK_of (c_eqRat h.d_laws_eqRat (y:=x.w) (z:=y.w) w0 v0) ?_
 refine ev ?_
 refine brK_dec (fun hb2=>?_) fun hb2=>?_ <;> (refine ev1 @hb2 ?_;try with_reducible exact True.intro)
 rotate_left
 ·cases x;cases y;simp_all
 refine PFK_of (c_eqRat h.d_laws_eqRat (y:=x.dx) (z:=y.dx) w1 v1) ?_
 refine ev ?_
 refine brK_dec (fun hb3=>?_) fun hb3=>?_ <;> (refine ev1 @hb3 ?_;try with_reducible exact True.intro)
 rotate_left
 ·cases x;cases y;simp_all
 refine PFK_of (c_eqRat h.d_laws_eqRat (y:=x.dy) (z:=y.dy) w2 v2) ?_
 refine ev ?_
 refine brK_dec (fun hb4=>?_) fun hb4=>?_ <;> (refine ev1 @hb4 ?_;try with_reducible exact True.intro)
 rotate_left
 ·cases x;cases y;simp_all
 ·cases x;cases y;simp_all
theorem c_szLinkS {T : Nat → Option Fn} (h : D_laws_szLinkS T) {l : List Lk} {left : Int} (hw : wfL Lk.wf l:=by first | omega | assumption | (simp;omega)) (h0 : 0 ≤ left ∧ left ≤ 1048576:=by first | omega | assumption | (simp;omega)) : PF T 19 [lksV l,iv left] (iv (szr left (szL Lk.sz l))):=by
 have hlen:=hw.1
 refine pf_end (fun _ _=>false) h.hT rfl rfl ?_
 dsimp only [F_laws_szLinkS,oN,oS,oG,oK,oA,oH,oV,cI]
 refine ev ?_
 refine brK_dec (fun hb=>?_) fun hb=>?_ <;> (refine ev1 @hb ?_;try with_reducible exact True.intro)
 ·rw [szr_no (by rw [szL_eq];omega)]
 refine loop_at (fun _ _=>false) (α:=Nat) (fun i=>⟨argE [lksV l,iv (left - (l.length : Nat) - (sumTo Lk.sz l i : Nat)),.any,.any,.any,iv (i : Nat)],[],0,0,[],[]⟩) (fun i=>i ≤ l.length ∧ (l.length : Int) + (sumTo Lk.sz l i : Nat) ≤ left) (fun i=>l.length - i) rfl 0 ?_ ?_ ?_
 ·rw [sumTo_zero];omega
 ·(refine Fg_env ?_) <;> (try (refine ev1 @sumTo_zero ?_;try with_reducible exact True.intro)) <;> (repeat' (first | refine ⟨?_,?_⟩ | exact EvV_int (by omega) | exact EvV_of (by simp) | exact EvV_nil _))
 ·rintro i ⟨hi,hs⟩
  refine ev ?_
  refine brK_dec (fun hc=>?_) fun hc=>?_ <;> (refine ev2 @hc @mg ?_;try with_reducible exact True.intro)
  ·refine PFK_of (c_szLink h.d_laws_szLink (x:=l.getD i default) (hw.at_ (by omega)) ⟨by omega,by omega⟩) ?_
   refine ev ?_
   have k1:=sumTo_mono Lk.sz (l:=l) (i:=i) (by omega)
   have k2:=sumTo_succ Lk.sz (l:=l) (i:=i) (by omega)
   refine brK_dec (fun hd=>?_) fun hd=>?_ <;> (refine ev1 @hd ?_;try with_reducible exact True.intro)
   ·have:=szr_lt hd (by omega)
    rw [szr_no (left:=left) (by rw [szL_eq];omega)]
   ·have e1 : szr (left - (l.length : Nat) - (sumTo Lk.sz l i : Nat)) (Lk.sz (l.getD i default)) = left - (l.length : Nat) - (sumTo Lk.sz l (i + 1) : Nat):=by
     rw [szr_ok (szr_nlt hd)];omega
    rw [show (l.getD i default).sz = Lk.sz (l.getD i default) from rfl,e1] at hd ⊢
    exact ⟨i + 1,by omega,⟨by omega,by omega⟩,by (refine Fg_env ?_;exact fgV)⟩
  ·have : i = l.length:=by omega
   subst this
   rw [sumTo_all] at hs ⊢
   rw [szr_ok (by rw [szL_eq];omega)];rw [szL_eq]
   congr 1;omega
theorem c_toLinkS {T : Nat → Option Fn} (h : D_laws_toLinkS T) {l : List Lk} (hl : szL Lk.sz l ≤ 1048576:=by first | omega | assumption | (simp;omega)) : PF T 21 [lksV l] (lksV l):=by
 rw [szL_eq] at hl
 refine pf_end (fun _ _=>false) h.hT rfl rfl ?_
 dsimp only [F_laws_toLinkS,oN,oS,oG,oK,oA,oH,oV,cI]
 refine ev ?_
 refine ⟨by omega,?_⟩
 refine loop_at (fun _ _=>false) (α:=Nat) (fun i=>⟨argE [lksV l,.any,.any,.msl 0 0 l.length,iv (i : Nat)],[some ⟨11,fillR Lk.cells l [iv 0,iv 0,.bool false,.nils,.nils,.bool false,.nils,.nils,.bool false,.nils,.nils] i⟩],0,0,[],[]⟩) (fun i=>i ≤ l.length) (fun i=>l.length - i) rfl 0 ?_ ?_ ?_
 ·omega
 ·(refine Fg_env ?_) <;> (try (refine ev1 @fillR_zero ?_;try with_reducible exact True.intro)) <;> (repeat' (first | refine ⟨?_,?_⟩ | exact EvV_int (by omega) | exact EvV_of (by simp) | exact EvV_nil _))
 ·intro i hi
  have e1:=fillR_len Lk.cells l [iv 0,iv 0,.bool false,.nils,.nils,.bool false,.nils,.nils,.bool false,.nils,.nils] hi
  refine ev1 @e1 ?_
  refine brK_dec (fun hb=>?_) fun hb=>?_ <;> (refine ev3 @hb @e1 @mg ?_;try with_reducible exact True.intro)
  ·have k1:=sumTo_mono Lk.sz (l:=l) (i:=i) (by omega)
   refine PFK_of (c_toLink h.d_laws_toLink (x:=l.getD i default) (by first | omega | (change Lk.sz _ ≤ _;omega))) ?_
   have e0:=fillR_get Lk.cells l [iv 0,iv 0,.bool false,.nils,.nils,.bool false,.nils,.nils,.bool false,.nils,.nils] (i:=i) (by omega)
   refine ev2 @e0 @e1 ?_
   have e2:=fillR_set Lk.cells l [iv 0,iv 0,.bool false,.nils,.nils,.bool false,.nils,.nils,.bool false,.nils,.nils] (i:=i) (by omega)
   refine ⟨i + 1,by omega,by omega,Fg_env' ?_ (by rw [← e2])⟩
   refine ev ?_
   repeat' (first | refine ⟨?_,?_⟩ | exact EvV_int (by omega) | exact EvV_of (by simp))
  ·have : i = l.length:=by omega
   subst this
   rw [fillR_all,resO_st (still_map (f:=Lk.cells) (l:=l) (by intro x _ v hv;simp at hv;rcases hv with rfl | rfl | rfl | rfl | rfl | rfl | rfl | rfl | rfl | rfl | rfl <;> rfl)) (by simp),List.drop_zero,List.take_of_length_le (by simp)];rfl
theorem c_eqLinkS {T : Nat → Option Fn} (h : D_laws_eqLinkS T) {a b : List Lk} (ha : wfL Lk.wf a:=by first | omega | assumption | (simp;omega)) (hb : wfL Lk.wf b:=by first | omega | assumption | (simp;omega)) : PF T 23 [lksV a,lksV b] (.bool (decide (a = b))):=by
 have l1:=ha.1
 have l2:=hb.1
 refine pf_end (fun _ _=>false) h.hT rfl rfl ?_
 dsimp only [F_laws_eqLinkS,oN,oS,oG,oK,oA,oH,oV,cI]
 refine ev ?_
 refine brK_dec (fun h1=>?_) fun h1=>?_ <;> (refine ev1 @h1 ?_;try with_reducible exact True.intro)
 ·have h1 : a.length = b.length:=by omega
  refine loop_at (fun _ _=>false) (α:=Nat) (fun i=>⟨argE [lksV a,lksV b,.any,.any,.any,iv (i : Nat)],[],0,0,[],[]⟩) (fun i=>i ≤ a.length ∧ ∀ j,j < i → a.getD j default = b.getD j default) (fun i=>a.length - i) rfl 0 ?_ ?_ ?_
  ·exact ⟨by omega,by intro j hj;omega⟩
  ·(refine Fg_env ?_;exact fgV)
  ·rintro i ⟨hi,hj⟩
   refine ev ?_
   refine brK_dec (fun h2=>?_) fun h2=>?_ <;> (refine ev2 @h2 @mg ?_;try with_reducible exact True.intro)
   ·refine PFK_of (c_eqLink h.d_laws_eqLink (x:=a.getD i default) (y:=b.getD i default) (ha.at_ (by omega)) (hb.at_ (by omega))) ?_
    refine ev ?_
    refine brK_dec (fun h3=>?_) fun h3=>?_ <;> (refine ev1 @h3 ?_;try with_reducible exact True.intro)
    ·refine ⟨i + 1,by omega,⟨by omega,fun j hj'=>?_⟩,by (refine Fg_env ?_;exact fgV)⟩
     by_cases e : j = i
     ·subst e;exact h3
     ·exact hj j (by omega)
    ·have : ¬ a = b:=fun e=>h3 (by rw [e])
     simp [this]
   ·have : a = b:=getD_ext' h1 fun j h=>hj j (by omega)
    simp [this]
 ·have : ¬ a = b:=fun e=>h1 (by rw [e])
  simp [this]
def F_laws_eqParent : Fn:=⟨2,28,[.tmp 4],(.seq (.reg false 2 [oN 2 (.box (.t 0)),oK 3 1 (.box (.t 1)),oK 4 2 (.mov (.c (.bool false)))]) (.seq (.seq (.reg false 0 [oN 5 (.fld 0 (.t 2)),oN 6 (.load 1 false (.t 5)),oN 7 (.fld 0 (.t 3)),oN 8 (.load 1 false (.t 7)),oN 9 (.bin .neq (.t 6) (.t 8))]) (.cond (.t 9) (.seq (.reg false 0 [oN 4 (.mov (.c (.bool false)))]) .ret) .skip)) (.seq (.seq (.reg false 0 [oN 10 (.fld 1 (.t 2)),oN 11 (.load 3 true (.t 10)),oN 12 (.fld 1 (.t 3)),oN 13 (.load 3 true (.t 12)),oN 14 (.call 40 [(.t 11),(.t 13)]),oN 15 (.un .not (.t 14))]) (.cond (.t 15) (.seq (.reg false 0 [oN 4 (.mov (.c (.bool false)))]) .ret) .skip)) (.seq (.seq (.reg false 0 [oN 16 (.fld 4 (.t 2)),oN 17 (.load 3 true (.t 16)),oN 18 (.fld 4 (.t 3)),oN 19 (.load 3 true (.t 18)),oN 20 (.call 40 [(.t 17),(.t 19)]),oN 21 (.un .not (.t 20))]) (.cond (.t 21) (.seq (.reg false 0 [oN 4 (.mov (.c (.bool false)))]) .ret) .skip)) (.seq (.seq (.reg false 0 [oN 22 (.fld 7 (.t 2)),oN 23 (.load 3 true (.t 22)),oN 24 (.fld 7 (.t 3)),oN 25 (.load 3 true (.t 24)),oN 26 (.call 40 [(.t 23),(.t 25)]),oN 27 (.un .not (.t 26))]) (.cond (.t 27) (.seq (.reg false 0 [oN 4 (.mov (.c (.bool false)))]) .ret) .skip)) (.seq (.reg false 0 [oN 4 (.mov (.c (.bool true)))]) .ret))))))⟩
structure D_laws_eqParent (T : Nat → Option Fn) : Prop where
 hT : T 65 = some F_laws_eqParent
 d_laws_eqRat : D_laws_eqRat T
def F_laws_eqParentS : Fn:=⟨2,27,[.tmp 4],(.seq (.reg false 0 [oN 4 (.mov (.c (.bool false)))]) (.seq (.seq (.reg false 0 [oN 6 (oV 0),oN 7 (.len (.t 6)),oN 8 (oV 1),oN 9 (.len (.t 8)),oN 10 (.bin .neq (.t 7) (.t 9))]) (.cond (.t 10) (.seq (.reg false 0 [oN 4 (.mov (.c (.bool false)))]) .ret) .skip)) (.seq (.seq (.reg false 0 [oN 5 (.mov (cI 0))]) (.block 0 (.loop (.seq (.seq (.reg false 0 [oN 11 (oV 5),oN 12 (oV 0),oN 13 (.len (.t 12)),oN 14 (.bin .lss (.t 11) (.t 13))]) (.cond (.t 14) .skip (.exit 0))) (.seq (.block 1 (.seq (.reg true 0 [oN 17 (oV 0),oN 18 (oV 5),oA 19 0 (.idx 10 (.t 17) (.t 18)) [0,1],oA 20 0 (.load 10 true (.t 19)) [2],oN 21 (oV 1),oN 22 (oV 5),oA 23 0 (.idx 10 (.t 21) (.t 22)) [4,5],oA 24 0 (.load 10 true (.t 23)) [6],oA 25 0 (.call 65 [(.t 20),(.t 24)]) [3,7],oA 26 0 (.un .not (.t 25)) [8]]) (.cond (.t 26) (.seq (.reg false 0 [oN 4 (.mov (.c (.bool false)))]) .ret) .skip))) (.reg false 0 [oN 15 (oV 5),oN 16 (.bin .add (.t 15) (cI 1)),oN 5 (oV 16)])))))) (.seq (.reg false 0 [oN 4 (.mov (.c (.bool true)))]) .ret))))⟩
structure D_laws_eqParentS (T : Nat → Option Fn) : Prop where
 hT : T 50 = some F_laws_eqParentS
 d_laws_eqParent : D_laws_eqParent T
def F_laws_eqConditional : Fn:=⟨2,22,[.tmp 4],(.seq (.reg false 2 [oN 2 (.box (.t 0)),oK 3 1 (.box (.t 1)),oK 4 2 (.mov (.c (.bool false)))]) (.seq (.seq (.reg false 0 [oN 5 (.fld 0 (.t 2)),oN 6 (.load 1 false (.t 5)),oN 7 (.fld 0 (.t 3)),oN 8 (.load 1 false (.t 7)),oN 9 (.bin .neq (.t 6) (.t 8))]) (.cond (.t 9) (.seq (.reg false 0 [oN 4 (.mov (.c (.bool false)))]) .ret) .skip)) (.seq (.seq (.reg false 0 [oN 10 (.fld 1 (.t 2)),oN 11 (.load 3 true (.t 10)),oN 12 (.fld 1 (.t 3)),oN 13 (.load 3 true (.t 12)),oN 14 (.call 40 [(.t 11),(.t 13)]),oN 15 (.un .not (.t 14))]) (.cond (.t 15) (.seq (.reg false 0 [oN 4 (.mov (.c (.bool false)))]) .ret) .skip)) (.seq (.seq (.reg false 0 [oN 16 (.fld 4 (.t 2)),oN 17 (.load 1 false (.t 16)),oN 18 (.fld 4 (.t 3)),oN 19 (.load 1 false (.t 18)),oN 20 (.call 50 [(.t 17),(.t 19)]),oN 21 (.un .not (.t 20))]) (.cond (.t 21) (.seq (.reg false 0 [oN 4 (.mov (.c (.bool false)))]) .ret) .skip)) (.seq (.reg false 0 [oN 4 (.mov (.c (.bool true)))]) .ret)))))⟩
structure D_laws_eqConditional (T : Nat → Option Fn) : Prop where
 hT : T 28 = some F_laws_eqConditional
 d_laws_eqRat : D_laws_eqRat T
 d_laws_eqParentS : D_laws_eqParentS T
theorem c_eqParent {T : Nat → Option Fn} (h : D_laws_eqParent T) {x y : Pa} (hx : x.wf:=by first | omega | assumption | (simp;omega)) (hy : y.wf:=by first | omega | assumption | (simp;omega)) : PF T 65 [paV x,paV y] (.bool (decide (x = y))):=by
 obtain ⟨w0,w1,w2⟩:=hx
 obtain ⟨v0,v1,v2⟩:=hy
 refine pf_end (fun _ _=>false) h.hT rfl rfl ?_
 dsimp only [F_laws_eqParent,oN,oS,oG,oK,oA,oH,oV,cI]
 refine ev ?_
 refine brK_dec (fun hb0=>?_) fun hb0=>?_ <;> (refine ev1 @hb0 ?_;try with_reducible exact True.intro)
 rotate_left
 ·cases x;cases y;simp_all
 refine PFK_of (c_eqRat h.d_laws_eqRat (y:=x.share) (z:=y.share) w0 v0) ?_
 refine ev ?_
 refine brK_dec (fun hb1=>?_) fun hb1=>?_ <;> (refine ev1 @hb1 ?_;try with_reducible exact True.intro)
 rotate_left
 ·cases x;cases y;simp_all
 refine PFK_of (c_eqRat h.d_laws_eqRat (y:=x.dx) (z:=y.dx) w1 v1) ?_
 refine ev ?_
 refine brK_dec (fun hb2=>?_) fun hb2=>?_ <;> (refine ev1 @hb2 ?_;try with_reducible exact True.intro)
 rotate_left
 ·cases x;cases y;simp_all
 refine PFK_of (c_eqRat h.d_laws_eqRat (y:=x.dy) (z:=y.dy) w2 v2) ?_
 refine ev ?_
 refine brK_dec (fun hb3=>?_) fun hb3=>?_ <;> (refine ev1 @hb3 ?_;try with_reducible exact True.intro)
 rotate_left
 ·cases x;cases y;simp_all
 ·cases x;cases y;simp_all
theorem c_eqParentS {T : Nat → Option Fn} (h : D_laws_eqParentS T) {a b : List Pa} (ha : wfL Pa.wf a:=by first | omega | assumption | (simp;omega)) (hb : wfL Pa.wf b:=by first | omega | assumption | (simp;omega)) : PF T 50 [pasV a,pasV b] (.bool (decide (a = b))):=by
 have l1:=ha.1
 have l2:=hb.1
 refine pf_end (fun _ _=>false) h.hT rfl rfl ?_
 dsimp only [F_laws_eqParentS,oN,oS,oG,oK,oA,oH,oV,cI]
 refine ev ?_
 refine brK_dec (fun h1=>?_) fun h1=>?_ <;> (refine ev1 @h1 ?_;try with_reducible exact True.intro)
 ·have h1 : a.length = b.length:=by omega
  refine loop_at (fun _ _=>false) (α:=Nat) (fun i=>⟨argE [pasV a,pasV b,.any,.any,.any,iv (i : Nat)],[],0,0,[],[]⟩) (fun i=>i ≤ a.length ∧ ∀ j,j < i → a.getD j default = b.getD j default) (fun i=>a.length - i) rfl 0 ?_ ?_ ?_
  ·exact ⟨by omega,by intro j hj;omega⟩
  ·(refine Fg_env ?_;exact fgV)
  ·rintro i ⟨hi,hj⟩
   refine ev ?_
   refine brK_dec (fun h2=>?_) fun h2=>?_ <;> (refine ev2 @h2 @mg ?_;try with_reducible exact True.intro)
   ·refine PFK_of (c_eqParent h.d_laws_eqParent (x:=a.getD i default) (y:=b.getD i default) (ha.at_ (by omega)) (hb.at_ (by omega))) ?_
    refine ev ?_
    refine brK_dec (fun h3=>?_) fun h3=>?_ <;> (refine ev1 @h3 ?_;try with_reducible exact True.intro)
    ·refine ⟨i + 1,by omega,⟨by omega,fun j hj'=>?_⟩,by (refine Fg_env ?_;exact fgV)⟩
     by_cases e : j = i
     ·subst e;exact h3
     ·exact hj j (by omega)
    ·have : ¬ a = b:=fun e=>h3 (by rw [e])
     simp [this]
   ·have : a = b:=getD_ext' h1 fun j h=>hj j (by omega)
    simp [this]
 ·have : ¬ a = b:=fun e=>h1 (by rw [e])
  simp [this]
theorem c_eqConditional {T : Nat → Option Fn} (h : D_laws_eqConditional T) {x y : Cd} (hx : x.wf:=by first | omega | assumption | (simp;omega)) (hy : y.wf:=by first | omega | assumption | (simp;omega)) : PF T 28 [cdV x,cdV y] (.bool (decide (x = y))):=by
 obtain ⟨w0,w1⟩:=hx
 obtain ⟨v0,v1⟩:=hy
 refine pf_end (fun _ _=>false) h.hT rfl rfl ?_
 dsimp only [F_laws_eqConditional,oN,oS,oG,oK,oA,oH,oV,cI]
 refine ev ?_
 refine brK_dec (fun hb0=>?_) fun hb0=>?_ <;> (refine ev1 @hb0 ?_;try with_reducible exact True.intro)
 rotate_left
 ·cases x;cases y;simp_all
 refine PFK_of (c_eqRat h.d_laws_eqRat (y:=x.total) (z:=y.total) w0 v0) ?_
 refine ev ?_
 refine brK_dec (fun hb1=>?_) fun hb1=>?_ <;> (refine ev1 @hb1 ?_;try with_reducible exact True.intro)
 rotate_left
 ·cases x;cases y;simp_all
 refine PFK_of (c_eqParentS h.d_laws_eqParentS (a:=x.ps) (b:=y.ps) w1 v1) ?_
 refine ev ?_
 refine brK_dec (fun hb2=>?_) fun hb2=>?_ <;> (refine ev1 @hb2 ?_;try with_reducible exact True.intro)
 rotate_left
 ·cases x;cases y;simp_all
 ·cases x;cases y;simp_all
def F_laws_markLinkS : Fn:=⟨2,111,[.tmp 4],(.seq (.reg false 0 [oN 4 (.mov (cI 0))]) (.seq (.seq (.reg false 0 [oN 5 (.mov (cI 0))]) (.block 0 (.loop (.seq (.seq (.reg false 0 [oN 6 (oV 5),oN 7 (oV 0),oN 8 (.len (.t 7)),oN 9 (.bin .lss (.t 6) (.t 8))]) (.cond (.t 9) .skip (.exit 0))) (.seq (.block 1 (.seq (.reg false 0 [oN 12 (oV 0),oN 13 (oV 5),oN 14 (oV 1),oN 15 (.idx 11 (.t 12) (.t 13)),oN 16 (.fld 0 (.t 15)),oS (.store 1 (.t 16) (.t 14))]) (.seq (.reg false 0 [oN 17 (oV 1),oN 18 (.bin .add (.t 17) (cI 1)),oN 1 (oV 18)]) (.seq (.reg false 0 [oN 19 (oV 0),oN 20 (oV 5),oN 21 (oV 1),oN 22 (.idx 11 (.t 19) (.t 20)),oN 23 (.fld 1 (.t 22)),oS (.store 1 (.t 23) (.t 21))]) (.seq (.reg false 0 [oN 24 (oV 1),oN 25 (.bin .add (.t 24) (cI 1)),oN 1 (oV 25)]) (.seq (.reg false 0 [oN 26 (oV 0),oN 27 (oV 5),oN 28 (oV 1),oN 29 (.bin .rem (.t 28) (cI 3)),oN 30 (.bin .eql (.t 29) (cI 0)),oN 31 (.idx 11 (.t 26) (.t 27)),oN 32 (.fld 2 (.t 31)),oN 33 (.fld 0 (.t 32)),oN 34 (.fld 0 (.t 33)),oS (.store 1 (.t 34) (.t 30))]) (.seq (.reg false 0 [oN 35 (oV 1),oN 36 (.bin .add (.t 35) (cI 1)),oN 1 (oV 36)]) (.seq (.reg false 0 [oN 37 (oV 0),oN 38 (oV 5),oN 39 (.idx 11 (.t 37) (.t 38)),oN 40 (.fld 2 (.t 39)),oN 41 (.fld 0 (.t 40)),oN 42 (.fld 1 (.t 41)),oN 43 (.load 1 false (.t 42)),oN 44 (oV 1),oN 45 (.call 57 [(.t 43),(.t 44)]),oN 1 (oV 45)]) (.seq (.reg false 0 [oN 46 (oV 0),oN 47 (oV 5),oN 48 (.idx 11 (.t 46) (.t 47)),oN 49 (.fld 2 (.t 48)),oN 50 (.fld 2 (.t 49)),oN 51 (.load 1 false (.t 50)),oN 52 (oV 1),oN 53 (.call 57 [(.t 51),(.t 52)]),oN 1 (oV 53)]) (.seq (.reg false 0 [oN 54 (oV 0),oN 55 (oV 5),oN 56 (oV 1),oN 57 (.bin .rem (.t 56) (cI 3)),oN 58 (.bin .eql (.t 57) (cI 0)),oN 59 (.idx 11 (.t 54) (.t 55)),oN 60 (.fld 5 (.t 59)),oN 61 (.fld 0 (.t 60)),oN 62 (.fld 0 (.t 61)),oS (.store 1 (.t 62) (.t 58))]) (.seq (.reg false 0 [oN 63 (oV 1),oN 64 (.bin .add (.t 63) (cI 1)),oN 1 (oV 64)]) (.seq (.reg false 0 [oN 65 (oV 0),oN 66 (oV 5),oN 67 (.idx 11 (.t 65) (.t 66)),oN 68 (.fld 5 (.t 67)),oN 69 (.fld 0 (.t 68)),oN 70 (.fld 1 (.t 69)),oN 71 (.load 1 false (.t 70)),oN 72 (oV 1),oN 73 (.call 57 [(.t 71),(.t 72)]),oN 1 (oV 73)]) (.seq (.reg false 0 [oN 74 (oV 0),oN 75 (oV 5),oN 76 (.idx 11 (.t 74) (.t 75)),oN 77 (.fld 5 (.t 76)),oN 78 (.fld 2 (.t 77)),oN 79 (.load 1 false (.t 78)),oN 80 (oV 1),oN 81 (.call 57 [(.t 79),(.t 80)]),oN 1 (oV 81)]) (.seq (.reg false 0 [oN 82 (oV 0),oN 83 (oV 5),oN 84 (oV 1),oN 85 (.bin .rem (.t 84) (cI 3)),oN 86 (.bin .eql (.t 85) (cI 0)),oN 87 (.idx 11 (.t 82) (.t 83)),oN 88 (.fld 8 (.t 87)),oN 89 (.fld 0 (.t 88)),oN 90 (.fld 0 (.t 89)),oS (.store 1 (.t 90) (.t 86))]) (.seq (.reg false 0 [oN 91 (oV 1),oN 92 (.bin .add (.t 91) (cI 1)),oN 1 (oV 92)]) (.seq (.reg false 0 [oN 93 (oV 0),oN 94 (oV 5),oN 95 (.idx 11 (.t 93) (.t 94)),oN 96 (.fld 8 (.t 95)),oN 97 (.fld 0 (.t 96)),oN 98 (.fld 1 (.t 97)),oN 99 (.load 1 false (.t 98)),oN 100 (oV 1),oN 101 (.call 57 [(.t 99),(.t 100)]),oN 1 (oV 101)]) (.reg false 0 [oN 102 (oV 0),oN 103 (oV 5),oN 104 (.idx 11 (.t 102) (.t 103)),oN 105 (.fld 8 (.t 104)),oN 106 (.fld 2 (.t 105)),oN 107 (.load 1 false (.t 106)),oN 108 (oV 1),oN 109 (.call 57 [(.t 107),(.t 108)]),oN 1 (oV 109)]))))))))))))))))) (.reg false 0 [oN 10 (oV 5),oN 11 (.bin .add (.t 10) (cI 1)),oN 5 (oV 11)])))))) (.seq (.reg false 0 [oN 110 (oV 1),oN 4 (oV 110)]) .ret)))⟩
structure D_laws_markLinkS (T : Nat → Option Fn) : Prop where
 hT : T 118 = some F_laws_markLinkS
 d_laws_markIntS : D_laws_markIntS T
def F_laws_markParentS : Fn:=⟨2,104,[.tmp 4],(.seq (.reg false 0 [oN 4 (.mov (cI 0))]) (.seq (.seq (.reg false 0 [oN 5 (.mov (cI 0))]) (.block 0 (.loop (.seq (.seq (.reg false 0 [oN 6 (oV 5),oN 7 (oV 0),oN 8 (.len (.t 7)),oN 9 (.bin .lss (.t 6) (.t 8))]) (.cond (.t 9) .skip (.exit 0))) (.seq (.block 1 (.seq (.reg false 0 [oN 12 (oV 0),oN 13 (oV 5),oN 14 (oV 1),oN 15 (.idx 10 (.t 12) (.t 13)),oN 16 (.fld 0 (.t 15)),oS (.store 1 (.t 16) (.t 14))]) (.seq (.reg false 0 [oN 17 (oV 1),oN 18 (.bin .add (.t 17) (cI 1)),oN 1 (oV 18)]) (.seq (.reg false 0 [oN 19 (oV 0),oN 20 (oV 5),oN 21 (oV 1),oN 22 (.bin .rem (.t 21) (cI 3)),oN 23 (.bin .eql (.t 22) (cI 0)),oN 24 (.idx 10 (.t 19) (.t 20)),oN 25 (.fld 1 (.t 24)),oN 26 (.fld 0 (.t 25)),oN 27 (.fld 0 (.t 26)),oS (.store 1 (.t 27) (.t 23))]) (.seq (.reg false 0 [oN 28 (oV 1),oN 29 (.bin .add (.t 28) (cI 1)),oN 1 (oV 29)]) (.seq (.reg false 0 [oN 30 (oV 0),oN 31 (oV 5),oN 32 (.idx 10 (.t 30) (.t 31)),oN 33 (.fld 1 (.t 32)),oN 34 (.fld 0 (.t 33)),oN 35 (.fld 1 (.t 34)),oN 36 (.load 1 false (.t 35)),oN 37 (oV 1),oN 38 (.call 57 [(.t 36),(.t 37)]),oN 1 (oV 38)]) (.seq (.reg false 0 [oN 39 (oV 0),oN 40 (oV 5),oN 41 (.idx 10 (.t 39) (.t 40)),oN 42 (.fld 1 (.t 41)),oN 43 (.fld 2 (.t 42)),oN 44 (.load 1 false (.t 43)),oN 45 (oV 1),oN 46 (.call 57 [(.t 44),(.t 45)]),oN 1 (oV 46)]) (.seq (.reg false 0 [oN 47 (oV 0),oN 48 (oV 5),oN 49 (oV 1),oN 50 (.bin .rem (.t 49) (cI 3)),oN 51 (.bin .eql (.t 50) (cI 0)),oN 52 (.idx 10 (.t 47) (.t 48)),oN 53 (.fld 4 (.t 52)),oN 54 (.fld 0 (.t 53)),oN 55 (.fld 0 (.t 54)),oS (.store 1 (.t 55) (.t 51))]) (.seq (.reg false 0 [oN 56 (oV 1),oN 57 (.bin .add (.t 56) (cI 1)),oN 1 (oV 57)]) (.seq (.reg false 0 [oN 58 (oV 0),oN 59 (oV 5),oN 60 (.idx 10 (.t 58) (.t 59)),oN 61 (.fld 4 (.t 60)),oN 62 (.fld 0 (.t 61)),oN 63 (.fld 1 (.t 62)),oN 64 (.load 1 false (.t 63)),oN 65 (oV 1),oN 66 (.call 57 [(.t 64),(.t 65)]),oN 1 (oV 66)]) (.seq (.reg false 0 [oN 67 (oV 0),oN 68 (oV 5),oN 69 (.idx 10 (.t 67) (.t 68)),oN 70 (.fld 4 (.t 69)),oN 71 (.fld 2 (.t 70)),oN 72 (.load 1 false (.t 71)),oN 73 (oV 1),oN 74 (.call 57 [(.t 72),(.t 73)]),oN 1 (oV 74)]) (.seq (.reg false 0 [oN 75 (oV 0),oN 76 (oV 5),oN 77 (oV 1),oN 78 (.bin .rem (.t 77) (cI 3)),oN 79 (.bin .eql (.t 78) (cI 0)),oN 80 (.idx 10 (.t 75) (.t 76)),oN 81 (.fld 7 (.t 80)),oN 82 (.fld 0 (.t 81)),oN 83 (.fld 0 (.t 82)),oS (.store 1 (.t 83) (.t 79))]) (.seq (.reg false 0 [oN 84 (oV 1),oN 85 (.bin .add (.t 84) (cI 1)),oN 1 (oV 85)]) (.seq (.reg false 0 [oN 86 (oV 0),oN 87 (oV 5),oN 88 (.idx 10 (.t 86) (.t 87)),oN 89 (.fld 7 (.t 88)),oN 90 (.fld 0 (.t 89)),oN 91 (.fld 1 (.t 90)),oN 92 (.load 1 false (.t 91)),oN 93 (oV 1),oN 94 (.call 57 [(.t 92),(.t 93)]),oN 1 (oV 94)]) (.reg false 0 [oN 95 (oV 0),oN 96 (oV 5),oN 97 (.idx 10 (.t 95) (.t 96)),oN 98 (.fld 7 (.t 97)),oN 99 (.fld 2 (.t 98)),oN 100 (.load 1 false (.t 99)),oN 101 (oV 1),oN 102 (.call 57 [(.t 100),(.t 101)]),oN 1 (oV 102)]))))))))))))))) (.reg false 0 [oN 10 (oV 5),oN 11 (.bin .add (.t 10) (cI 1)),oN 5 (oV 11)])))))) (.seq (.reg false 0 [oN 103 (oV 1),oN 4 (oV 103)]) .ret)))⟩
structure D_laws_markParentS (T : Nat → Option Fn) : Prop where
 hT : T 119 = some F_laws_markParentS
 d_laws_markIntS : D_laws_markIntS T
def R.ct (x : R) : Nat:=1 + x.mag.length + x.den.length
def R.mk3 (k : Int) (x : R) : R:=⟨decide ((k).tmod 3 = 0),cnt x.mag.length (k + 1),cnt x.den.length (k + 1 + x.mag.length)⟩
def Pt.ct (x : Pt) : Nat:=1 + x.x.mag.length + x.x.den.length + 1 + x.y.mag.length + x.y.den.length
def Pt.mk3 (k : Int) (x : Pt) : Pt:=⟨⟨decide ((k).tmod 3 = 0),cnt x.x.mag.length (k + 1),cnt x.x.den.length (k + 1 + x.x.mag.length)⟩,⟨decide ((k + 1 + x.x.mag.length + x.x.den.length).tmod 3 = 0),cnt x.y.mag.length (k + 1 + x.x.mag.length + x.x.den.length + 1),cnt x.y.den.length (k + 1 + x.x.mag.length + x.x.den.length + 1 + x.y.mag.length)⟩⟩
def Lk.ct (x : Lk) : Nat:=1 + 1 + 1 + x.w.mag.length + x.w.den.length + 1 + x.dx.mag.length + x.dx.den.length + 1 + x.dy.mag.length + x.dy.den.length
def Lk.mk3 (k : Int) (x : Lk) : Lk:=⟨k,k + 1,⟨decide ((k + 1 + 1).tmod 3 = 0),cnt x.w.mag.length (k + 1 + 1 + 1),cnt x.w.den.length (k + 1 + 1 + 1 + x.w.mag.length)⟩,⟨decide ((k + 1 + 1 + 1 + x.w.mag.length + x.w.den.length).tmod 3 = 0),cnt x.dx.mag.length (k + 1 + 1 + 1 + x.w.mag.length + x.w.den.length + 1),cnt x.dx.den.length (k + 1 + 1 + 1 + x.w.mag.length + x.w.den.length + 1 + x.dx.mag.length)⟩,⟨decide ((k + 1 + 1 + 1 + x.w.mag.length + x.w.den.length + 1 + x.dx.mag.length + x.dx.den.length).tmod 3 = 0),cnt x.dy.mag.length (k + 1 + 1 + 1 + x.w.mag.length + x.w.den.length + 1 + x.dx.mag.length + x.dx.den.length + 1),cnt x.dy.den.length (k + 1 + 1 + 1 + x.w.mag.length + x.w.den.length + 1 + x.dx.mag.length + x.dx.den.length + 1 + x.dy.mag.length)⟩⟩
theorem mk_markLinkS {T : Nat → Option Fn} (h : D_laws_markLinkS T) {l : List Lk} {k : Int} (hl : szL Lk.sz l ≤ 1000000000:=by first | omega | assumption | (simp;omega)) (hk : 0 ≤ k ∧ k + cnL Lk.ct l l.length ≤ 1000000000000:=by first | omega | assumption | (simp;omega)) :
  Mk T 118 (lksV l) k (lksV (mkL Lk.mk3 Lk.ct k l)) (k + cnL Lk.ct l l.length):=by
 refine mk_iff fun σ v os ho hn=>?_
 have hll : l.length ≤ 1000000000:=by unfold szL at hl;omega
 rcases ho.sl_inv with ⟨e,rfl,rfl⟩ | ⟨o,R0,os',rfl,_,_,hos,_⟩
 ·have el : l = []:=by simpa using e
  subst el
  have : ∃ r σ',Run T (.fn 118 [.sl 11 [],iv k] σ) (.fn r σ') ∧ (r = iv k ∧ σ' = σ):=by
   refine run_end (fun _ _=>false) h.hT rfl rfl ?_
   dsimp only [F_laws_markLinkS,oN,oS,oG,oK,oA,oH,oV,cI,St.enter,List.length_cons,List.length_nil,Nat.zero_add]
   refine ew ?_
   refine loop_at (fun _ _=>false) (α:=Nat) (fun i=>⟨argE [.sl 11 [],iv k,.any,.any,.any,iv 0],σ,σ.length,0,[],[]⟩) (fun i=>i = 0) (fun i=>i) rfl 0 ?_ ?_ ?_
   ·rfl
   ·(refine Fg_env ?_;exact fgW)
   ·rintro i rfl
    refine ew ?_
    refine brK_dec (fun hc=>absurd hc (by omega)) fun hc=>?_
    (refine ew ?_;try with_reducible exact True.intro)
  obtain ⟨r,σ',h2,rfl,rfl⟩:=this
  exact ⟨σ',by simpa [cnL] using h2,ho,Fr.refl _ _⟩
 ·rw [List.length_map] at ho ⊢
  have : ∃ r σ',Run T (.fn 118 [.msl o 0 l.length,iv k] σ) (.fn r σ') ∧ (r = iv (k + cnL Lk.ct l l.length) ∧ OwV σ' (.msl o 0 l.length) (lksV (mkTo Lk.mk3 Lk.ct k l l.length)) os ∧ Fr os σ σ'):=by
   refine run_end (fun x d=>x == 57) h.hT rfl rfl ?_
   dsimp only [F_laws_markLinkS,oN,oS,oG,oK,oA,oH,oV,cI,St.enter,List.length_cons,List.length_nil,Nat.zero_add]
   refine ew ?_
   refine loop_at (fun x d=>x == 57) (α:=Nat × Store) (fun q=>⟨argE [.msl o 0 l.length,iv (k + cnL Lk.ct l q.1),.any,.any,.any,iv (q.1 : Nat)],q.2,σ.length,0,[],[]⟩) (fun q=>q.1 ≤ l.length ∧ OwV q.2 (.msl o 0 l.length) (lksV (mkTo Lk.mk3 Lk.ct k l q.1)) os ∧ Fr os σ q.2) (fun q=>l.length - q.1) rfl (0,σ) ?_ ?_ ?_
   ·exact ⟨by omega,by rw [mkTo_0];exact ho,Fr.refl _ _⟩
   ·(refine Fg_env ?_) <;> (try (refine ew1 @cnL_0 ?_;try with_reducible exact True.intro)) <;> (repeat' (first | refine ⟨?_,?_⟩ | exact EvV_int (by omega) | exact EvV_of (by simp) | exact EvV_nil _))
   ·rintro ⟨i,s⟩ ⟨hi,h2,h3⟩
    dsimp only at hi h2 h3
    have hls:=h3.len
    obtain ⟨A,hob,hM⟩:=h2.obj
    refine ew1 @hob ?_
    refine brK_dec (fun hc=>?_) fun hc=>?_
    ·have hil : i < l.length:=by omega
     obtain ⟨o',M',cs,oc,hv,hob',hM',hRi,hcs,hoc,hoo,hno,hre⟩:=h2.row_inv hn (i:=i) (mg? (by rw [mkTo_len _ _ _ _ hi];exact hil))
     rw [List.length_map,mkTo_len _ _ _ _ hi] at hv
     cases hv
     rw [hob] at hob'
     cases hob'
     rw [mkTo_at _ _ _ _ hil] at hcs
     obtain ⟨x,hx⟩ : ∃ x,l.getD i default = x:=⟨_,rfl⟩
     rw [hx] at hcs
     have hcn:=cnL_s Lk.ct l hil
     have hcl:=cnL_le Lk.ct l (i:=i + 1) hil
     have hms:=mkTo_set Lk.mk3 Lk.ct k l hil
     rw [hx] at hcn hms
     rw [hcn] at hcl
     obtain ⟨kk,hkk⟩ : ∃ kk,k + (cnL Lk.ct l i : Int) = kk:=⟨_,rfl⟩
     obtain ⟨c0,c1,c2,c3,c4,c5,c6,c7,c8,c9,c10,rfl⟩ : ∃ c0 c1 c2 c3 c4 c5 c6 c7 c8 c9 c10,cs = [c0,c1,c2,c3,c4,c5,c6,c7,c8,c9,c10]:=by
      have:=hcs.ow.len
      match cs,this with
      | [a0,a1,a2,a3,a4,a5,a6,a7,a8,a9,a10],_=>exact ⟨a0,a1,a2,a3,a4,a5,a6,a7,a8,a9,a10,rfl⟩
     have hlo:=objAt_lt hob
     have rs : ∀ r,(A.set i r)[i]? = some r:=fun r=>by rw [List.getElem?_set_self (by omega)]
     have hct : Lk.ct x = 1 + 1 + 1 + x.w.mag.length + x.w.den.length + 1 + x.dx.mag.length + x.dx.den.length + 1 + x.dy.mag.length + x.dy.den.length:=rfl
     have hxs : Lk.sz x ≤ 1000000000:=by
      have:=szL_at Lk.sz hil
      rw [hx] at this
      omega
     simp only [Lk.sz,R.sz] at hxs
     have F0 : Fr (o :: oc) s s:=Fr.refl _ _
     have hcs:=hcs.sca 0 (.int .i64 (kk)) rfl
     have hcs:=hcs.sca 1 (.int .i64 (kk + 1)) rfl
     have hcs:=hcs.sca 2 (.bool (decide ((kk + 1 + 1).tmod 3 = 0))) rfl
     refine ew7 @hkk @hc @hob @hRi @hlo @rs @List.set_set.{0} ?_
     have hcs:=hcs.set (x:=some ⟨11,A.set i [.int .i64 (kk),.int .i64 (kk + 1),.bool (decide ((kk + 1 + 1).tmod 3 = 0)),c3,c4,c5,c6,c7,c8,c9,c10]⟩) hno
     have G0:=F0.trans (fr_set (σ:=s) (o:=o) (x:=some ⟨11,A.set i [.int .i64 (kk),.int .i64 (kk + 1),.bool (decide ((kk + 1 + 1).tmod 3 = 0)),c3,c4,c5,c6,c7,c8,c9,c10]⟩) (by simp))
     obtain ⟨s1,hr,hcs,hf1⟩:=hcs.call 3 (mk_markIntS h.d_laws_markIntS (l:=x.w.mag) (k:=kk + 1 + 1 + 1) (by omega) (by omega)) rfl rfl
     refine RefK_mk hr rfl hf1.len (by simp) ?_
     have hb1:=(hf1.old o (by simpa using hlo) hno).trans (objAt_seteq hlo)
     have hl1:=objAt_lt hb1
     have F1:=G0.trans (hf1.mono (by simp +contextual))
     refine ew4 @hb1 @rs @hl1 @List.set_set.{0} ?_
     have G1:=F1
     obtain ⟨s2,hr,hcs,hf2⟩:=hcs.call 4 (mk_markIntS h.d_laws_markIntS (l:=x.w.den) (k:=kk + 1 + 1 + 1 + x.w.mag.length) (by omega) (by omega)) rfl rfl
     refine RefK_mk hr rfl hf2.len (by simp) ?_
     have hb2:=(hf2.old o hl1 hno).trans hb1
     have hl2:=objAt_lt hb2
     have F2:=G1.trans (hf2.mono (by simp +contextual))
     have hcs:=hcs.sca 5 (.bool (decide ((kk + 1 + 1 + 1 + x.w.mag.length + x.w.den.length).tmod 3 = 0))) rfl
     refine ew4 @hb2 @rs @hl2 @List.set_set.{0} ?_
     have hcs:=hcs.set (x:=some ⟨11,A.set i [.int .i64 (kk),.int .i64 (kk + 1),.bool (decide ((kk + 1 + 1).tmod 3 = 0)),c3,c4,.bool (decide ((kk + 1 + 1 + 1 + x.w.mag.length + x.w.den.length).tmod 3 = 0)),c6,c7,c8,c9,c10]⟩) hno
     have G2:=F2.trans (fr_set (σ:=s2) (o:=o) (x:=some ⟨11,A.set i [.int .i64 (kk),.int .i64 (kk + 1),.bool (decide ((kk + 1 + 1).tmod 3 = 0)),c3,c4,.bool (decide ((kk + 1 + 1 + 1 + x.w.mag.length + x.w.den.length).tmod 3 = 0)),c6,c7,c8,c9,c10]⟩) (by simp))
     obtain ⟨s3,hr,hcs,hf3⟩:=hcs.call 6 (mk_markIntS h.d_laws_markIntS (l:=x.dx.mag) (k:=kk + 1 + 1 + 1 + x.w.mag.length + x.w.den.length + 1) (by omega) (by omega)) rfl rfl
     refine RefK_mk hr rfl hf3.len (by simp) ?_
     have hb3:=(hf3.old o (by simpa using hl2) hno).trans (objAt_seteq hl2)
     have hl3:=objAt_lt hb3
     have F3:=G2.trans (hf3.mono (by simp +contextual))
     refine ew4 @hb3 @rs @hl3 @List.set_set.{0} ?_
     have G3:=F3
     obtain ⟨s4,hr,hcs,hf4⟩:=hcs.call 7 (mk_markIntS h.d_laws_markIntS (l:=x.dx.den) (k:=kk + 1 + 1 + 1 + x.w.mag.length + x.w.den.length + 1 + x.dx.mag.length) (by omega) (by omega)) rfl rfl
     refine RefK_mk hr rfl hf4.len (by simp) ?_
     have hb4:=(hf4.old o hl3 hno).trans hb3
     have hl4:=objAt_lt hb4
     have F4:=G3.trans (hf4.mono (by simp +contextual))
     have hcs:=hcs.sca 8 (.bool (decide ((kk + 1 + 1 + 1 + x.w.mag.length + x.w.den.length + 1 + x.dx.mag.length + x.dx.den.length).tmod 3 = 0))) rfl
     refine ew4 @hb4 @rs @hl4 @List.set_set.{0} ?_
     have hcs:=hcs.set (x:=some ⟨11,A.set i [.int .i64 (kk),.int .i64 (kk + 1),.bool (decide ((kk + 1 + 1).tmod 3 = 0)),c3,c4,.bool (decide ((kk + 1 + 1 + 1 + x.w.mag.length + x.w.den.length).tmod 3 = 0)),c6,c7,.bool (decide ((kk + 1 + 1 + 1 + x.w.mag.length + x.w.den.length + 1 + x.dx.mag.length + x.dx.den.length).tmod 3 = 0)),c9,c10]⟩) hno
     have G4:=F4.trans (fr_set (σ:=s4) (o:=o) (x:=some ⟨11,A.set i [.int .i64 (kk),.int .i64 (kk + 1),.bool (decide ((kk + 1 + 1).tmod 3 = 0)),c3,c4,.bool (decide ((kk + 1 + 1 + 1 + x.w.mag.length + x.w.den.length).tmod 3 = 0)),c6,c7,.bool (decide ((kk + 1 + 1 + 1 + x.w.mag.length + x.w.den.length + 1 + x.dx.mag.length + x.dx.den.length).tmod 3 = 0)),c9,c10]⟩) (by simp))
     obtain ⟨s5,hr,hcs,hf5⟩:=hcs.call 9 (mk_markIntS h.d_laws_markIntS (l:=x.dy.mag) (k:=kk + 1 + 1 + 1 + x.w.mag.length + x.w.den.length + 1 + x.dx.mag.length + x.dx.den.length + 1) (by omega) (by omega)) rfl rfl
     refine RefK_mk hr rfl hf5.len (by simp) ?_
     have hb5:=(hf5.old o (by simpa using hl4) hno).trans (objAt_seteq hl4)
     have hl5:=objAt_lt hb5
     have F5:=G4.trans (hf5.mono (by simp +contextual))
     refine ew4 @hb5 @rs @hl5 @List.set_set.{0} ?_
     have G5:=F5
     obtain ⟨s6,hr,hcs,hf6⟩:=hcs.call 10 (mk_markIntS h.d_laws_markIntS (l:=x.dy.den) (k:=kk + 1 + 1 + 1 + x.w.mag.length + x.w.den.length + 1 + x.dx.mag.length + x.dx.den.length + 1 + x.dy.mag.length) (by omega) (by omega)) rfl rfl
     refine RefK_mk hr rfl hf6.len (by simp) ?_
     have hb6:=(hf6.old o hl5 hno).trans hb5
     have hl6:=objAt_lt hb6
     have F6:=G5.trans (hf6.mono (by simp +contextual))
     refine ew4 @hb6 @rs @hl6 @List.set_set.{0} ?_
     refine ⟨(i + 1,s6),by dsimp only;omega,⟨by dsimp only;omega,?_,?_⟩,by (refine Fg_env ?_;exact fgW)⟩
     ·dsimp only
      rw [← hms,hkk]
      show OwV _ _ (.sl 11 (List.map Lk.cells _)) _
      rw [List.map_set]
      exact hre _ _ _ hcs hb6 F6
     ·exact h3.trans (F6.mono (by simpa using ⟨hoo,hoc⟩))
    ·have : i = l.length:=by omega
     subst this
     refine ew1 @hc ?_
     exact ⟨h2,h3⟩
  obtain ⟨r,σ',h2,rfl,h3,h4⟩:=this
  rw [mkTo_all] at h3
  exact ⟨σ',h2,h3,h4⟩
def Pa.ct (x : Pa) : Nat:=1 + 1 + x.share.mag.length + x.share.den.length + 1 + x.dx.mag.length + x.dx.den.length + 1 + x.dy.mag.length + x.dy.den.length
def Pa.mk3 (k : Int) (x : Pa) : Pa:=⟨k,⟨decide ((k + 1).tmod 3 = 0),cnt x.share.mag.length (k + 1 + 1),cnt x.share.den.length (k + 1 + 1 + x.share.mag.length)⟩,⟨decide ((k + 1 + 1 + x.share.mag.length + x.share.den.length).tmod 3 = 0),cnt x.dx.mag.length (k + 1 + 1 + x.share.mag.length + x.share.den.length + 1),cnt x.dx.den.length (k + 1 + 1 + x.share.mag.length + x.share.den.length + 1 + x.dx.mag.length)⟩,⟨decide ((k + 1 + 1 + x.share.mag.length + x.share.den.length + 1 + x.dx.mag.length + x.dx.den.length).tmod 3 = 0),cnt x.dy.mag.length (k + 1 + 1 + x.share.mag.length + x.share.den.length + 1 + x.dx.mag.length + x.dx.den.length + 1),cnt x.dy.den.length (k + 1 + 1 + x.share.mag.length + x.share.den.length + 1 + x.dx.mag.length + x.dx.den.length + 1 + x.dy.mag.length)⟩⟩
theorem mk_markParentS {T : Nat → Option Fn} (h : D_laws_markParentS T) {l : List Pa} {k : Int} (hl : szL Pa.sz l ≤ 1000000000:=by first | omega | assumption | (simp;omega)) (hk : 0 ≤ k ∧ k + cnL Pa.ct l l.length ≤ 1000000000000:=by first | omega | assumption | (simp;omega)) :
  Mk T 119 (pasV l) k (pasV (mkL Pa.mk3 Pa.ct k l)) (k + cnL Pa.ct l l.length):=by
 refine mk_iff fun σ v os ho hn=>?_
 have hll : l.length ≤ 1000000000:=by unfold szL at hl;omega
 rcases ho.sl_inv with ⟨e,rfl,rfl⟩ | ⟨o,R0,os',rfl,_,_,hos,_⟩
 ·have el : l = []:=by simpa using e
  subst el
  have : ∃ r σ',Run T (.fn 119 [.sl 10 [],iv k] σ) (.fn r σ') ∧ (r = iv k ∧ σ' = σ):=by
   refine run_end (fun _ _=>false) h.hT rfl rfl ?_
   dsimp only [F_laws_markParentS,oN,oS,oG,oK,oA,oH,oV,cI,St.enter,List.length_cons,List.length_nil,Nat.zero_add]
   refine ew ?_
   refine loop_at (fun _ _=>false) (α:=Nat) (fun i=>⟨argE [.sl 10 [],iv k,.any,.any,.any,iv 0],σ,σ.length,0,[],[]⟩) (fun i=>i = 0) (fun i=>i) rfl 0 ?_ ?_ ?_
   ·rfl
   ·(refine Fg_env ?_;exact fgW)
   ·rintro i rfl
    refine ew ?_
    refine brK_dec (fun hc=>absurd hc (by omega)) fun hc=>?_
    (refine ew ?_;try with_reducible exact True.intro)
  obtain ⟨r,σ',h2,rfl,rfl⟩:=this
  exact ⟨σ',by simpa [cnL] using h2,ho,Fr.refl _ _⟩
 ·rw [List.length_map] at ho ⊢
  have : ∃ r σ',Run T (.fn 119 [.msl o 0 l.length,iv k] σ) (.fn r σ') ∧ (r = iv (k + cnL Pa.ct l l.length) ∧ OwV σ' (.msl o 0 l.length) (pasV (mkTo Pa.mk3 Pa.ct k l l.length)) os ∧ Fr os σ σ'):=by
   refine run_end (fun x d=>x == 57) h.hT rfl rfl ?_
   dsimp only [F_laws_markParentS,oN,oS,oG,oK,oA,oH,oV,cI,St.enter,List.length_cons,List.length_nil,Nat.zero_add]
   refine ew ?_
   refine loop_at (fun x d=>x == 57) (α:=Nat × Store) (fun q=>⟨argE [.msl o 0 l.length,iv (k + cnL Pa.ct l q.1),.any,.any,.any,iv (q.1 : Nat)],q.2,σ.length,0,[],[]⟩) (fun q=>q.1 ≤ l.length ∧ OwV q.2 (.msl o 0 l.length) (pasV (mkTo Pa.mk3 Pa.ct k l q.1)) os ∧ Fr os σ q.2) (fun q=>l.length - q.1) rfl (0,σ) ?_ ?_ ?_
   ·exact ⟨by omega,by rw [mkTo_0];exact ho,Fr.refl _ _⟩
   ·(refine Fg_env ?_) <;> (try (refine ew1 @cnL_0 ?_;try with_reducible exact True.intro)) <;> (repeat' (first | refine ⟨?_,?_⟩ | exact EvV_int (by omega) | exact EvV_of (by simp) | exact EvV_nil _))
   ·rintro ⟨i,s⟩ ⟨hi,h2,h3⟩
    dsimp only at hi h2 h3
    have hls:=h3.len
    obtain ⟨A,hob,hM⟩:=h2.obj
    refine ew1 @hob ?_
    refine brK_dec (fun hc=>?_) fun hc=>?_
    ·have hil : i < l.length:=by omega
     obtain ⟨o',M',cs,oc,hv,hob',hM',hRi,hcs,hoc,hoo,hno,hre⟩:=h2.row_inv hn (i:=i) (mg? (by rw [mkTo_len _ _ _ _ hi];exact hil))
     rw [List.length_map,mkTo_len _ _ _ _ hi] at hv
     cases hv
     rw [hob] at hob'
     cases hob'
     rw [mkTo_at _ _ _ _ hil] at hcs
     obtain ⟨x,hx⟩ : ∃ x,l.getD i default = x:=⟨_,rfl⟩
     rw [hx] at hcs
     have hcn:=cnL_s Pa.ct l hil
     have hcl:=cnL_le Pa.ct l (i:=i + 1) hil
     have hms:=mkTo_set Pa.mk3 Pa.ct k l hil
     rw [hx] at hcn hms
     rw [hcn] at hcl
     obtain ⟨kk,hkk⟩ : ∃ kk,k + (cnL Pa.ct l i : Int) = kk:=⟨_,rfl⟩
     obtain ⟨c0,c1,c2,c3,c4,c5,c6,c7,c8,c9,rfl⟩ : ∃ c0 c1 c2 c3 c4 c5 c6 c7 c8 c9,cs = [c0,c1,c2,c3,c4,c5,c6,c7,c8,c9]:=by
      have:=hcs.ow.len
      match cs,this with
      | [a0,a1,a2,a3,a4,a5,a6,a7,a8,a9],_=>exact ⟨a0,a1,a2,a3,a4,a5,a6,a7,a8,a9,rfl⟩
     have hlo:=objAt_lt hob
     have rs : ∀ r,(A.set i r)[i]? = some r:=fun r=>by rw [List.getElem?_set_self (by omega)]
     have hct : Pa.ct x = 1 + 1 + x.share.mag.length + x.share.den.length + 1 + x.dx.mag.length + x.dx.den.length + 1 + x.dy.mag.length + x.dy.den.length:=rfl
     have hxs : Pa.sz x ≤ 1000000000:=by
      have:=szL_at Pa.sz hil
      rw [hx] at this
      omega
     simp only [Pa.sz,R.sz] at hxs
     have F0 : Fr (o :: oc) s s:=Fr.refl _ _
     have hcs:=hcs.sca 0 (.int .i64 (kk)) rfl
     have hcs:=hcs.sca 1 (.bool (decide ((kk + 1).tmod 3 = 0))) rfl
     refine ew7 @hkk @hc @hob @hRi @hlo @rs @List.set_set.{0} ?_
     have hcs:=hcs.set (x:=some ⟨10,A.set i [.int .i64 (kk),.bool (decide ((kk + 1).tmod 3 = 0)),c2,c3,c4,c5,c6,c7,c8,c9]⟩) hno
     have G0:=F0.trans (fr_set (σ:=s) (o:=o) (x:=some ⟨10,A.set i [.int .i64 (kk),.bool (decide ((kk + 1).tmod 3 = 0)),c2,c3,c4,c5,c6,c7,c8,c9]⟩) (by simp))
     obtain ⟨s1,hr,hcs,hf1⟩:=hcs.call 2 (mk_markIntS h.d_laws_markIntS (l:=x.share.mag) (k:=kk + 1 + 1) (by omega) (by omega)) rfl rfl
     refine RefK_mk hr rfl hf1.len (by simp) ?_
     have hb1:=(hf1.old o (by simpa using hlo) hno).trans (objAt_seteq hlo)
     have hl1:=objAt_lt hb1
     have F1:=G0.trans (hf1.mono (by simp +contextual))
     refine ew4 @hb1 @rs @hl1 @List.set_set.{0} ?_
     have G1:=F1
     obtain ⟨s2,hr,hcs,hf2⟩:=hcs.call 3 (mk_markIntS h.d_laws_markIntS (l:=x.share.den) (k:=kk + 1 + 1 + x.share.mag.length) (by omega) (by omega)) rfl rfl
     refine RefK_mk hr rfl hf2.len (by simp) ?_
     have hb2:=(hf2.old o hl1 hno).trans hb1
     have hl2:=objAt_lt hb2
     have F2:=G1.trans (hf2.mono (by simp +contextual))
     have hcs:=hcs.sca 4 (.bool (decide ((kk + 1 + 1 + x.share.mag.length + x.share.den.length).tmod 3 = 0))) rfl
     refine ew4 @hb2 @rs @hl2 @List.set_set.{0} ?_
     have hcs:=hcs.set (x:=some ⟨10,A.set i [.int .i64 (kk),.bool (decide ((kk + 1).tmod 3 = 0)),c2,c3,.bool (decide ((kk + 1 + 1 + x.share.mag.length + x.share.den.length).tmod 3 = 0)),c5,c6,c7,c8,c9]⟩) hno
     have G2:=F2.trans (fr_set (σ:=s2) (o:=o) (x:=some ⟨10,A.set i [.int .i64 (kk),.bool (decide ((kk + 1).tmod 3 = 0)),c2,c3,.bool (decide ((kk + 1 + 1 + x.share.mag.length + x.share.den.length).tmod 3 = 0)),c5,c6,c7,c8,c9]⟩) (by simp))
     obtain ⟨s3,hr,hcs,hf3⟩:=hcs.call 5 (mk_markIntS h.d_laws_markIntS (l:=x.dx.mag) (k:=kk + 1 + 1 + x.share.mag.length + x.share.den.length + 1) (by omega) (by omega)) rfl rfl
     refine RefK_mk hr rfl hf3.len (by simp) ?_
     have hb3:=(hf3.old o (by simpa using hl2) hno).trans (objAt_seteq hl2)
     have hl3:=objAt_lt hb3
     have F3:=G2.trans (hf3.mono (by simp +contextual))
     refine ew4 @hb3 @rs @hl3 @List.set_set.{0} ?_
     have G3:=F3
     obtain ⟨s4,hr,hcs,hf4⟩:=hcs.call 6 (mk_markIntS h.d_laws_markIntS (l:=x.dx.den) (k:=kk + 1 + 1 + x.share.mag.length + x.share.den.length + 1 + x.dx.mag.length) (by omega) (by omega)) rfl rfl
     refine RefK_mk hr rfl hf4.len (by simp) ?_
     have hb4:=(hf4.old o hl3 hno).trans hb3
     have hl4:=objAt_lt hb4
     have F4:=G3.trans (hf4.mono (by simp +contextual))
     have hcs:=hcs.sca 7 (.bool (decide ((kk + 1 + 1 + x.share.mag.length + x.share.den.length + 1 + x.dx.mag.length + x.dx.den.length).tmod 3 = 0))) rfl
     refine ew4 @hb4 @rs @hl4 @List.set_set.{0} ?_
     have hcs:=hcs.set (x:=some ⟨10,A.set i [.int .i64 (kk),.bool (decide ((kk + 1).tmod 3 = 0)),c2,c3,.bool (decide ((kk + 1 + 1 + x.share.mag.length + x.share.den.length).tmod 3 = 0)),c5,c6,.bool (decide ((kk + 1 + 1 + x.share.mag.length + x.share.den.length + 1 + x.dx.mag.length + x.dx.den.length).tmod 3 = 0)),c8,c9]⟩) hno
     have G4:=F4.trans (fr_set (σ:=s4) (o:=o) (x:=some ⟨10,A.set i [.int .i64 (kk),.bool (decide ((kk + 1).tmod 3 = 0)),c2,c3,.bool (decide ((kk + 1 + 1 + x.share.mag.length + x.share.den.length).tmod 3 = 0)),c5,c6,.bool (decide ((kk + 1 + 1 + x.share.mag.length + x.share.den.length + 1 + x.dx.mag.length + x.dx.den.length).tmod 3 = 0)),c8,c9]⟩) (by simp))
     obtain ⟨s5,hr,hcs,hf5⟩:=hcs.call 8 (mk_markIntS h.d_laws_markIntS (l:=x.dy.mag) (k:=kk + 1 + 1 + x.share.mag.length + x.share.den.length + 1 + x.dx.mag.length + x.dx.den.length + 1) (by omega) (by omega)) rfl rfl
     refine RefK_mk hr rfl hf5.len (by simp) ?_
     have hb5:=(hf5.old o (by simpa using hl4) hno).trans (objAt_seteq hl4)
     have hl5:=objAt_lt hb5
     have F5:=G4.trans (hf5.mono (by simp +contextual))
     refine ew4 @hb5 @rs @hl5 @List.set_set.{0} ?_
     have G5:=F5
     obtain ⟨s6,hr,hcs,hf6⟩:=hcs.call 9 (mk_markIntS h.d_laws_markIntS (l:=x.dy.den) (k:=kk + 1 + 1 + x.share.mag.length + x.share.den.length + 1 + x.dx.mag.length + x.dx.den.length + 1 + x.dy.mag.length) (by omega) (by omega)) rfl rfl
     refine RefK_mk hr rfl hf6.len (by simp) ?_
     have hb6:=(hf6.old o hl5 hno).trans hb5
     have hl6:=objAt_lt hb6
     have F6:=G5.trans (hf6.mono (by simp +contextual))
     refine ew4 @hb6 @rs @hl6 @List.set_set.{0} ?_
     refine ⟨(i + 1,s6),by dsimp only;omega,⟨by dsimp only;omega,?_,?_⟩,by (refine Fg_env ?_;exact fgW)⟩
     ·dsimp only
      rw [← hms,hkk]
      show OwV _ _ (.sl 10 (List.map Pa.cells _)) _
      rw [List.map_set]
      exact hre _ _ _ hcs hb6 F6
     ·exact h3.trans (F6.mono (by simpa using ⟨hoo,hoc⟩))
    ·have : i = l.length:=by omega
     subst this
     refine ew1 @hc ?_
     exact ⟨h2,h3⟩
  obtain ⟨r,σ',h2,rfl,h3,h4⟩:=this
  rw [mkTo_all] at h3
  exact ⟨σ',h2,h3,h4⟩
def Cd.ct (x : Cd) : Nat:=1 + 1 + x.total.mag.length + x.total.den.length + cnL Pa.ct x.ps x.ps.length
def Cd.mk3 (k : Int) (x : Cd) : Cd:=⟨k,⟨decide ((k + 1).tmod 3 = 0),cnt x.total.mag.length (k + 1 + 1),cnt x.total.den.length (k + 1 + 1 + x.total.mag.length)⟩,mkL Pa.mk3 Pa.ct (k + 1 + 1 + x.total.mag.length + x.total.den.length) x.ps⟩
def Tn.ct (x : Tn) : Nat:=1 + 1 + cnL Lk.ct x.own x.own.length + 1 + 1 + x.cond.total.mag.length + x.cond.total.den.length + cnL Pa.ct x.cond.ps x.cond.ps.length + cnL Lk.ct x.msgs x.msgs.length + 1 + x.energy.mag.length + x.energy.den.length
def Tn.mk3 (k : Int) (x : Tn) : Tn:=⟨k,k + 1,mkL Lk.mk3 Lk.ct (k + 1 + 1) x.own,⟨k + 1 + 1 + cnL Lk.ct x.own x.own.length,⟨decide ((k + 1 + 1 + cnL Lk.ct x.own x.own.length + 1).tmod 3 = 0),cnt x.cond.total.mag.length (k + 1 + 1 + cnL Lk.ct x.own x.own.length + 1 + 1),cnt x.cond.total.den.length (k + 1 + 1 + cnL Lk.ct x.own x.own.length + 1 + 1 + x.cond.total.mag.length)⟩,mkL Pa.mk3 Pa.ct (k + 1 + 1 + cnL Lk.ct x.own x.own.length + 1 + 1 + x.cond.total.mag.length + x.cond.total.den.length) x.cond.ps⟩,mkL Lk.mk3 Lk.ct (k + 1 + 1 + cnL Lk.ct x.own x.own.length + 1 + 1 + x.cond.total.mag.length + x.cond.total.den.length + cnL Pa.ct x.cond.ps x.cond.ps.length) x.msgs,⟨decide ((k + 1 + 1 + cnL Lk.ct x.own x.own.length + 1 + 1 + x.cond.total.mag.length + x.cond.total.den.length + cnL Pa.ct x.cond.ps x.cond.ps.length + cnL Lk.ct x.msgs x.msgs.length).tmod 3 = 0),cnt x.energy.mag.length (k + 1 + 1 + cnL Lk.ct x.own x.own.length + 1 + 1 + x.cond.total.mag.length + x.cond.total.den.length + cnL Pa.ct x.cond.ps x.cond.ps.length + cnL Lk.ct x.msgs x.msgs.length + 1),cnt x.energy.den.length (k + 1 + 1 + cnL Lk.ct x.own x.own.length + 1 + 1 + x.cond.total.mag.length + x.cond.total.den.length + cnL Pa.ct x.cond.ps x.cond.ps.length + cnL Lk.ct x.msgs x.msgs.length + 1 + x.energy.mag.length)⟩⟩
def F_laws_markBigInt : Fn:=⟨2,10,[.tmp 4],(.seq (.reg false 1 [oN 2 (.box (.t 0)),oK 4 1 (.mov (cI 0))]) (.seq (.reg false 0 [oN 5 (.fld 1 (.t 2)),oN 6 (.load 1 false (.t 5)),oN 7 (oV 1),oN 8 (.call 57 [(.t 6),(.t 7)]),oN 1 (oV 8)]) (.seq (.reg false 0 [oN 9 (oV 1),oN 4 (oV 9)]) .ret)))⟩
structure D_laws_markBigInt (T : Nat → Option Fn) : Prop where
 hT : T 56 = some F_laws_markBigInt
 d_laws_markIntS : D_laws_markIntS T
def F_laws_markRat : Fn:=⟨2,14,[.tmp 4],(.seq (.reg false 1 [oN 2 (.box (.t 0)),oK 4 1 (.mov (cI 0))]) (.seq (.reg false 0 [oN 5 (.fld 0 (.t 2)),oN 6 (.load 2 true (.t 5)),oN 7 (oV 1),oN 8 (.call 56 [(.t 6),(.t 7)]),oN 1 (oV 8)]) (.seq (.reg false 0 [oN 9 (.fld 2 (.t 2)),oN 10 (.load 1 false (.t 9)),oN 11 (oV 1),oN 12 (.call 57 [(.t 10),(.t 11)]),oN 1 (oV 12)]) (.seq (.reg false 0 [oN 13 (oV 1),oN 4 (oV 13)]) .ret))))⟩
structure D_laws_markRat (T : Nat → Option Fn) : Prop where
 hT : T 41 = some F_laws_markRat
 d_laws_markBigInt : D_laws_markBigInt T
 d_laws_markIntS : D_laws_markIntS T
def F_laws_markConditional : Fn:=⟨2,14,[.tmp 4],(.seq (.reg false 1 [oN 2 (.box (.t 0)),oK 4 1 (.mov (cI 0))]) (.seq (.reg false 0 [oN 5 (.fld 1 (.t 2)),oN 6 (.load 3 true (.t 5)),oN 7 (oV 1),oN 8 (.call 41 [(.t 6),(.t 7)]),oN 1 (oV 8)]) (.seq (.reg false 0 [oN 9 (.fld 4 (.t 2)),oN 10 (.load 1 false (.t 9)),oN 11 (oV 1),oN 12 (.call 119 [(.t 10),(.t 11)]),oN 1 (oV 12)]) (.seq (.reg false 0 [oN 13 (oV 1),oN 4 (oV 13)]) .ret))))⟩
structure D_laws_markConditional (T : Nat → Option Fn) : Prop where
 hT : T 367 = some F_laws_markConditional
 d_laws_markRat : D_laws_markRat T
 d_laws_markParentS : D_laws_markParentS T
theorem ivc {a b : Int} (h : a = b) : iv a = iv b:=by rw [h]
def V.els : V → List V
 | .agg l=>l
 | _=>[]
def Bi.ct2 (x : Bi) : Nat:=x.mag.length
def Bi.mk2 (k : Int) (x : Bi) : Bi:=⟨x.neg,cnt x.mag.length k⟩
theorem mk_markBigInt {T : Nat → Option Fn} (h : D_laws_markBigInt T) {x : Bi} {k : Int} (hl : x.mag.length ≤ 1000000000:=by first | omega | assumption | (simp;omega)) (hk : 0 ≤ k ∧ k + Bi.ct2 x ≤ 1000000000000:=by first | omega | assumption | (simp;omega)) :
  Mk T 56 (biV x) k (biV (Bi.mk2 k x)) (k + Bi.ct2 x):=by
 refine mk_iff fun σ v os ho hn=>?_
 have hk':=hk
 simp only [Bi.ct2] at hk'
 obtain ⟨cs,rfl,hcs⟩:=ho.agg_inv
 replace hcs : Cs _ _ _ _:=⟨hcs,hn⟩
 obtain ⟨c0,c1,rfl⟩ : ∃ c0 c1,cs = [c0,c1]:=by
  have:=hcs.ow.len
  match cs,this with
  | [a0,a1],_=>exact ⟨a0,a1,rfl⟩
 have hlf:=hcs.ow.leaf rfl
 have hce:=cells_agg hlf
 have lfs : c0.leaf = true ∧ c1.leaf = true:=by simpa using hlf
 have key : ∃ r σ',Run T (.fn 56 [.agg [c0,c1],iv k] σ) (.fn r σ') ∧ (r = iv (k + Bi.ct2 x) ∧ Cs σ' [c0,c1] ((biV (Bi.mk2 k x) : V).els) os ∧ Fr os σ σ'):=by
  refine run_end (fun x d=>x == 57) h.hT rfl rfl ?_
  dsimp only [F_laws_markBigInt,oN,oS,oG,oK,oA,oH,oV,cI,St.enter,List.length_cons,List.length_nil,Nat.zero_add]
  refine ew ?_
  have F0 : Fr os σ (σ ++ [some ⟨2,[[c0,c1]]⟩]):=fr_snoc
  replace hcs:=hcs.snoc (x:=some ⟨2,[[c0,c1]]⟩)
  have hno : σ.length ∉ os:=fun hm=>absurd (ho.lt _ hm) (by omega)
  refine ew2 @hce @lfs ?_
  obtain ⟨s1,hr,hcs,hf1⟩:=hcs.call 1 (mk_markIntS h.d_laws_markIntS (l:=x.mag) (k:=k) (by first | omega | (simp only [Bi.ct2,R.ct2,Bi.ct2];omega)) (by first | omega | (simp only [Bi.ct2,R.ct2,Bi.ct2];omega))) rfl rfl
  refine RefK_mk hr rfl hf1.len (by simp) ?_
  have hb1:=(hf1.old σ.length (by simp) hno).trans (objAt_snoc _ _)
  have F1:=F0.trans hf1
  have hlq1:=objAt_lt hb1
  refine ew2 @hb1 @lfs ?_
  exact ⟨ivc (by simp only [Bi.ct2];first | done | omega),hcs,F1⟩
 obtain ⟨r,σ',h2,rfl,h3,h4⟩:=key
 exact ⟨σ',h2,owV_agg h3.ow,h4⟩
def R.ct2 (x : R) : Nat:=Bi.ct2 x.num + x.den.length
def R.mk2 (k : Int) (x : R) : R:=⟨x.neg,cnt x.mag.length k,cnt x.den.length (k + x.mag.length)⟩
theorem mk_markRat {T : Nat → Option Fn} (h : D_laws_markRat T) {x : R} {k : Int} (hl : x.sz ≤ 1000000000:=by first | omega | assumption | (simp;omega)) (hk : 0 ≤ k ∧ k + R.ct2 x ≤ 1000000000000:=by first | omega | assumption | (simp;omega)) :
  Mk T 41 (ratV x) k (ratV (R.mk2 k x)) (k + R.ct2 x):=by
 refine mk_iff fun σ v os ho hn=>?_
 have hl':=hl
 simp only [R.sz] at hl'
 have hk':=hk
 simp only [R.ct2,Bi.ct2] at hk'
 obtain ⟨cs,rfl,hcs⟩:=ho.agg_inv
 replace hcs : Cs _ _ _ _:=⟨hcs,hn⟩
 obtain ⟨c0,c1,c2,rfl⟩ : ∃ c0 c1 c2,cs = [c0,c1,c2]:=by
  have:=hcs.ow.len
  match cs,this with
  | [a0,a1,a2],_=>exact ⟨a0,a1,a2,rfl⟩
 have hlf:=hcs.ow.leaf rfl
 have hce:=cells_agg hlf
 have lfs : c0.leaf = true ∧ c1.leaf = true ∧ c2.leaf = true:=by simpa using hlf
 have key : ∃ r σ',Run T (.fn 41 [.agg [c0,c1,c2],iv k] σ) (.fn r σ') ∧ (r = iv (k + R.ct2 x) ∧ Cs σ' [c0,c1,c2] ((ratV (R.mk2 k x) : V).els) os ∧ Fr os σ σ'):=by
  refine run_end (fun x d=>x == 56 || x == 57) h.hT rfl rfl ?_
  dsimp only [F_laws_markRat,oN,oS,oG,oK,oA,oH,oV,cI,St.enter,List.length_cons,List.length_nil,Nat.zero_add]
  refine ew ?_
  have F0 : Fr os σ (σ ++ [some ⟨3,[[c0,c1,c2]]⟩]):=fr_snoc
  replace hcs:=hcs.snoc (x:=some ⟨3,[[c0,c1,c2]]⟩)
  have hno : σ.length ∉ os:=fun hm=>absurd (ho.lt _ hm) (by omega)
  refine ew2 @hce @lfs ?_
  obtain ⟨s1,hr,hcs,hf1⟩:=hcs.part 0 2 (mk_markBigInt h.d_laws_markBigInt (x:=x.num) (k:=k) (by first | omega | (simp only [R.sz,R.ct2,Bi.ct2];omega)) (by first | omega | (simp only [R.sz,R.ct2,Bi.ct2];omega))) rfl (by simp)
  refine RefK_mk hr rfl hf1.len (by simp) ?_
  have hb1:=(hf1.old σ.length (by simp) hno).trans (objAt_snoc _ _)
  have F1:=F0.trans hf1
  have hlq1:=objAt_lt hb1
  refine ew2 @hb1 @lfs ?_
  obtain ⟨s2,hr,hcs,hf2⟩:=hcs.call 2 (mk_markIntS h.d_laws_markIntS (l:=x.den) (k:=k + Bi.ct2 x.num) (by first | omega | (simp only [R.sz,R.ct2,Bi.ct2];omega)) (by first | omega | (simp only [R.sz,R.ct2,Bi.ct2];omega))) rfl rfl
  refine RefK_mk hr rfl hf2.len (by simp) ?_
  have hb2:=(hf2.old σ.length (objAt_lt hb1) hno).trans (hb1)
  have F2:=F1.trans hf2
  have hlq2:=objAt_lt hb2
  refine ew2 @hb2 @lfs ?_
  exact ⟨ivc (by simp only [R.ct2,Bi.ct2];first | done | omega),hcs,F2⟩
 obtain ⟨r,σ',h2,rfl,h3,h4⟩:=key
 exact ⟨σ',h2,owV_agg h3.ow,h4⟩
def Pt.ct2 (x : Pt) : Nat:=x.x.ct2 + x.y.ct2
def Pt.mk2 (k : Int) (x : Pt) : Pt:=⟨R.mk2 (k) x.x,R.mk2 (k + x.x.ct2) x.y⟩
def Lk.ct2 (x : Lk) : Nat:=x.w.ct2 + x.dx.ct2 + x.dy.ct2
def Lk.mk2 (k : Int) (x : Lk) : Lk:=⟨x.a,x.b,R.mk2 (k) x.w,R.mk2 (k + x.w.ct2) x.dx,R.mk2 (k + x.w.ct2 + x.dx.ct2) x.dy⟩
def Cd.ct2 (x : Cd) : Nat:=x.total.ct2 + cnL Pa.ct x.ps x.ps.length
def Cd.mk2 (k : Int) (x : Cd) : Cd:=⟨x.node,R.mk2 (k) x.total,mkL Pa.mk3 Pa.ct (k + x.total.ct2) x.ps⟩
theorem mk_markConditional {T : Nat → Option Fn} (h : D_laws_markConditional T) {x : Cd} {k : Int} (hl : x.sz ≤ 1000000000:=by first | omega | assumption | (simp;omega)) (hk : 0 ≤ k ∧ k + Cd.ct2 x ≤ 1000000000000:=by first | omega | assumption | (simp;omega)) :
  Mk T 367 (cdV x) k (cdV (Cd.mk2 k x)) (k + Cd.ct2 x):=by
 refine mk_iff fun σ v os ho hn=>?_
 have hl':=hl
 simp only [Cd.sz,R.sz] at hl'
 have hk':=hk
 simp only [Cd.ct2,R.ct2,Bi.ct2] at hk'
 obtain ⟨cs,rfl,hcs⟩:=ho.agg_inv
 replace hcs : Cs _ _ _ _:=⟨hcs,hn⟩
 obtain ⟨c0,c1,c2,c3,c4,rfl⟩ : ∃ c0 c1 c2 c3 c4,cs = [c0,c1,c2,c3,c4]:=by
  have:=hcs.ow.len
  match cs,this with
  | [a0,a1,a2,a3,a4],_=>exact ⟨a0,a1,a2,a3,a4,rfl⟩
 have hlf:=hcs.ow.leaf rfl
 have hce:=cells_agg hlf
 have lfs : c0.leaf = true ∧ c1.leaf = true ∧ c2.leaf = true ∧ c3.leaf = true ∧ c4.leaf = true:=by simpa using hlf
 have key : ∃ r σ',Run T (.fn 367 [.agg [c0,c1,c2,c3,c4],iv k] σ) (.fn r σ') ∧ (r = iv (k + Cd.ct2 x) ∧ Cs σ' [c0,c1,c2,c3,c4] ((cdV (Cd.mk2 k x) : V).els) os ∧ Fr os σ σ'):=by
  refine run_end (fun x d=>x == 119 || x == 41) h.hT rfl rfl ?_
  dsimp only [F_laws_markConditional,oN,oS,oG,oK,oA,oH,oV,cI,St.enter,List.length_cons,List.length_nil,Nat.zero_add]
  refine ew ?_
  have F0 : Fr os σ (σ ++ [some ⟨5,[[c0,c1,c2,c3,c4]]⟩]):=fr_snoc
  replace hcs:=hcs.snoc (x:=some ⟨5,[[c0,c1,c2,c3,c4]]⟩)
  have hno : σ.length ∉ os:=fun hm=>absurd (ho.lt _ hm) (by omega)
  refine ew2 @hce @lfs ?_
  obtain ⟨s1,hr,hcs,hf1⟩:=hcs.part 1 3 (mk_markRat h.d_laws_markRat (x:=x.total) (k:=k) (by first | omega | (simp only [Cd.sz,R.sz,R.ct2,Bi.ct2];omega)) (by first | omega | (simp only [Cd.sz,R.sz,R.ct2,Bi.ct2];omega))) rfl (by simp)
  refine RefK_mk hr rfl hf1.len (by simp) ?_
  have hb1:=(hf1.old σ.length (by simp) hno).trans (objAt_snoc _ _)
  have F1:=F0.trans hf1
  have hlq1:=objAt_lt hb1
  refine ew2 @hb1 @lfs ?_
  obtain ⟨s2,hr,hcs,hf2⟩:=hcs.call 4 (mk_markParentS h.d_laws_markParentS (l:=x.ps) (k:=k + x.total.ct2) (by first | omega | (simp only [Cd.sz,R.sz,R.ct2,Bi.ct2];omega)) (by first | omega | (simp only [Cd.sz,R.sz,R.ct2,Bi.ct2];omega))) rfl rfl
  refine RefK_mk hr rfl hf2.len (by simp) ?_
  have hb2:=(hf2.old σ.length (objAt_lt hb1) hno).trans (hb1)
  have F2:=F1.trans hf2
  have hlq2:=objAt_lt hb2
  refine ew2 @hb2 @lfs ?_
  exact ⟨ivc (by simp only [Cd.ct2,R.ct2,Bi.ct2];first | done | omega),hcs,F2⟩
 obtain ⟨r,σ',h2,rfl,h3,h4⟩:=key
 exact ⟨σ',h2,owV_agg h3.ow,h4⟩
theorem szL_memb {α : Type} {f : α → Nat} {l : List α} {x : α} {n : Nat} (h : szL f l ≤ n) (hx : x ∈ l) : f x ≤ n:=by
 have : ∀ l : List α,x ∈ l → f x ≤ (l.map f).sum:=by
  intro l
  induction l with
  | nil=>intro h;simp at h
  |
   cons y l ih =>
   intro h
   rw [List.map_cons,List.sum_cons]
   rcases List.mem_cons.1 h with rfl | h
   ·omega
   ·have:=ih h;omega
 have:=this l hx
 unfold szL at h
 omega
theorem po_toLink {T : Nat → Option Fn} (h : D_laws_toLink T) {x : Lk} (hl : x.sz ≤ 1048576:=by first | omega | assumption | (simp;omega)) : PO T 44 [lkV x] (lkV x):=by
 simp only [Lk.sz,R.sz] at hl
 refine po_end2 (fun x d=>x == 48) h.hT rfl rfl ?_
 dsimp only [F_laws_toLink,oN,oS,oG,oK,oA,oH,oV,cI,St.enter,List.length_cons,List.length_nil,Nat.zero_add]
 refine ew ?_
 have O:=fun s : Store=>@ow_nil 3 s
 replace O:=fun s=>(O s).int .i64 x.a
 replace O:=fun s=>(O s).int .i64 x.b
 refine RefK_got (po_toRat h.d_laws_toRat (r:=x.w) (by first | omega | (simp only [Lk.sz,R.sz];omega))) (by (refine ew ?_;try with_reducible exact True.intro)) ?_
 intro r σ1 os g
 have lq : 3 ≤ σ1.length:=g.len
 have B0:=g.at 0 (by simp) rfl
 have B1:=g.at 1 (by simp) rfl
 have B2:=g.at 2 (by simp) rfl
 replace O:=(O _).got g (by simp)
 obtain ⟨a0,d0,_,_,rfl,_,k1,k2⟩:=g.ow.rat_inv
 replace O:=O.flat rfl
 have la:=k1.leaf rfl
 have ld:=k2.leaf rfl
 have lfs:=And.intro la ld
 have fc:=fun q=>cells_agg (cs:=[.bool x.w.neg,a0,d0]) (by simp [la,ld,show ∀ b,V.leaf (.bool b) = true from fun _=>rfl]) q
 clear g
 refine ew6 @B0 @B1 @B2 @lq @lfs @fc ?_
 refine RefK_got (po_toRat h.d_laws_toRat (r:=x.dx) (by first | omega | (simp only [Lk.sz,R.sz];omega))) (by (refine ew6 @B0 @B1 @B2 @lq @lfs @fc ?_;try with_reducible exact True.intro)) ?_
 intro r σ2 os g
 have lp:=lq
 replace lq : 3 ≤ σ2.length:=by have:=g.len;simp at this;omega
 replace B0:=(g.old 0 (by simp;omega)).trans ((objAt_setne (by decide)).trans B0)
 replace B1:=(g.old 1 (by simp;omega)).trans ((objAt_setne (by decide)).trans B1)
 replace B2:=(g.old 2 (by simp;omega)).trans (objAt_seteq (by omega))
 replace O:=(O.set (by decide)).got g (by simp;omega)
 obtain ⟨a1,d1,_,_,rfl,_,k1,k2⟩:=g.ow.rat_inv
 replace O:=O.flat rfl
 have la:=k1.leaf rfl
 have ld:=k2.leaf rfl
 replace lfs:=And.intro lfs (And.intro la ld)
 replace fc:=fun q=>cells_agg (cs:=[.bool x.dx.neg,a1,d1]) (by simp [la,ld,show ∀ b,V.leaf (.bool b) = true from fun _=>rfl]) q
 clear g
 refine ew6 @B0 @B1 @B2 @lq @lfs @fc ?_
 refine RefK_got (po_toRat h.d_laws_toRat (r:=x.dy) (by first | omega | (simp only [Lk.sz,R.sz];omega))) (by (refine ew6 @B0 @B1 @B2 @lq @lfs @fc ?_;try with_reducible exact True.intro)) ?_
 intro r σ3 os g
 have lp:=lq
 replace lq : 3 ≤ σ3.length:=by have:=g.len;simp at this;omega
 replace B0:=(g.old 0 (by simp;omega)).trans ((objAt_setne (by decide)).trans B0)
 replace B1:=(g.old 1 (by simp;omega)).trans ((objAt_setne (by decide)).trans B1)
 replace B2:=(g.old 2 (by simp;omega)).trans (objAt_seteq (by omega))
 replace O:=(O.set (by decide)).got g (by simp;omega)
 obtain ⟨a2,d2,_,_,rfl,_,k1,k2⟩:=g.ow.rat_inv
 replace O:=O.flat rfl
 have la:=k1.leaf rfl
 have ld:=k2.leaf rfl
 replace lfs:=And.intro lfs (And.intro la ld)
 replace fc:=fun q=>cells_agg (cs:=[.bool x.dy.neg,a2,d2]) (by simp [la,ld,show ∀ b,V.leaf (.bool b) = true from fun _=>rfl]) q
 clear g
 refine ew6 @B0 @B1 @B2 @lq @lfs @fc ?_
 exact ((O.set (by decide)).set (by decide)).fin
theorem po_toLinkS {T : Nat → Option Fn} (h : D_laws_toLinkS T) {l : List Lk} (hl : szL Lk.sz l ≤ 1048576:=by first | omega | assumption | (simp;omega)) : PO T 21 [lksV l] (lksV l):=by
 have hll : l.length ≤ 1048576:=by unfold szL at hl;omega
 exact po_toS (cl:=Lk.cells) (z:=[iv 0,iv 0,.bool false,.nils,.nils,.bool false,.nils,.nils,.bool false,.nils,.nils]) (h.hT.trans rfl) (by decide) hll (fun x hx=>⟨rfl,st_Lk l _ (List.mem_map.2 ⟨x,hx,rfl⟩),rfl⟩) fun x hx=>po_toLink h.d_laws_toLink (x:=x) (szL_memb (f:=Lk.sz) hl hx)
def F_impl_copyRat : Fn:=⟨1,15,[.cell 2 3 true],(.seq (.reg false 2 [oN 1 (.box (.t 0)),oK 2 1 (.alloc [.bool false,.nils,.nils])]) (.seq (.reg true 0 [oN 3 (.fld 0 (.t 1)),oA 4 0 (.fld 0 (.t 3)) [0],oA 5 0 (.load 1 false (.t 4)) [1],oN 6 (.fld 0 (.t 1)),oA 7 0 (.fld 1 (.t 6)) [3],oA 8 0 (.load 1 false (.t 7)) [4],oA 9 0 (.call 139 [(.t 8)]) [5],oA 10 0 (.build [.bool false,.nils] [(0,1,(.t 5)),(1,1,(.t 9))]) [2,6],oN 11 (.fld 2 (.t 1)),oA 12 0 (.load 1 false (.t 11)) [8],oA 13 0 (.call 139 [(.t 12)]) [9,6],oA 14 0 (.build [.bool false,.nils,.nils] [(0,2,(.t 10)),(2,1,(.t 13))]) [7,10],⟨none,none,0,.store 3 (.t 2) (.t 14),[11,10,0,1,2,3,4,5,6,7,8,9,10,11]⟩]) .ret))⟩
structure D_impl_copyRat (T : Nat → Option Fn) : Prop where
 hT : T 145 = some F_impl_copyRat
 d_impl_copyInts : D_impl_copyInts T
def F_impl_copyLink : Fn:=⟨1,17,[.cell 2 11 true],(.seq (.reg false 2 [oN 1 (.box (.t 0)),oK 2 1 (.alloc [.int .i64 0,.int .i64 0,.bool false,.nils,.nils,.bool false,.nils,.nils,.bool false,.nils,.nils])]) (.seq (.reg true 0 [oN 3 (.fld 0 (.t 1)),oA 4 0 (.load 1 false (.t 3)) [0],oN 5 (.fld 1 (.t 1)),oA 6 0 (.load 1 false (.t 5)) [2],oN 7 (.fld 2 (.t 1)),oA 8 0 (.load 3 true (.t 7)) [4],oA 9 0 (.call 145 [(.t 8)]) [5],oN 10 (.fld 5 (.t 1)),oA 11 0 (.load 3 true (.t 10)) [7],oA 12 0 (.call 145 [(.t 11)]) [8,6],oN 13 (.fld 8 (.t 1)),oA 14 0 (.load 3 true (.t 13)) [10],oA 15 0 (.call 145 [(.t 14)]) [11,9],oA 16 0 (.build [.int .i64 0,.int .i64 0,.bool false,.nils,.nils,.bool false,.nils,.nils,.bool false,.nils,.nils] [(0,1,(.t 4)),(1,1,(.t 6)),(2,3,(.t 9)),(5,3,(.t 12)),(8,3,(.t 15))]) [1,3,6,9,12],⟨none,none,0,.store 11 (.t 2) (.t 16),[13,12,0,1,2,3,4,5,6,7,8,9,10,11,12,13]⟩]) .ret))⟩
structure D_impl_copyLink (T : Nat → Option Fn) : Prop where
 hT : T 133 = some F_impl_copyLink
 d_impl_copyRat : D_impl_copyRat T
def F_impl_copyLinks : Fn:=⟨1,20,[.tmp 2],(.seq (.reg false 0 [oN 2 (.mov (.c (.nils)))]) (.seq (.reg false 1 [oN 6 (.mkSl 11 [.int .i64 0,.int .i64 0,.bool false,.nils,.nils,.bool false,.nils,.nils,.bool false,.nils,.nils] 0 []),oK 3 1 (oV 6)]) (.seq (.seq (.reg false 0 [oN 7 (oV 0),oN 8 (.len (.t 7)),oN 9 (.mov (cI 0))]) (.block 0 (.loop (.seq (.reg false 0 [oN 10 (.bin .lss (.t 9) (.t 8))]) (.seq (.cond (.t 10) .skip (.exit 0)) (.seq (.block 1 (.seq (.reg false 1 [oK 11 1 (.idx 11 (.t 7) (.t 9)),oK 12 1 (.load 11 true (.t 11)),oN 5 (.alloc [.int .i64 0,.int .i64 0,.bool false,.nils,.nils,.bool false,.nils,.nils,.bool false,.nils,.nils]),⟨none,none,1,.store 11 (.t 5) (.t 12),[]⟩]) (.reg false 2 [oK 13 2 (oV 3),oK 14 2 (.load 11 true (.t 5)),oK 15 2 (.call 133 [(.t 14)]),oN 16 (.mkSl 11 [.int .i64 0,.int .i64 0,.bool false,.nils,.nils,.bool false,.nils,.nils,.bool false,.nils,.nils] 1 [(0,(.t 15))]),oK 17 1 (.app 11 184 (.t 13) (.t 16)),oK 3 2 (oV 17)]))) (.reg false 0 [oN 18 (.bin .add (.t 9) (cI 1)),oN 9 (oV 18)]))))))) (.seq (.reg false 0 [oN 19 (oV 3),oN 2 (oV 19)]) .ret))))⟩
structure D_impl_copyLinks (T : Nat → Option Fn) : Prop where
 hT : T 110 = some F_impl_copyLinks
 d_impl_copyLink : D_impl_copyLink T
def F_impl_copyConditional : Fn:=⟨1,40,[.cell 2 5 true],(.seq (.reg false 2 [oN 1 (.box (.t 0)),oK 2 1 (.alloc [.int .i64 0,.bool false,.nils,.nils,.nils])]) (.seq (.reg true 1 [oK 7 1 (.fld 0 (.t 1)),oA 8 1 (.load 1 false (.t 7)) [0],oK 9 1 (.fld 1 (.t 1)),oA 10 1 (.load 3 true (.t 9)) [2],oA 11 1 (.call 145 [(.t 10)]) [3],oA 12 1 (.build [.int .i64 0,.bool false,.nils,.nils,.nils] [(0,1,(.t 8)),(1,3,(.t 11))]) [1,4],oN 3 (.alloc [.int .i64 0,.bool false,.nils,.nils,.nils]),⟨none,none,1,.store 5 (.t 3) (.t 12),[6,5,4,0,1,2,3,4,5,6]⟩]) (.seq (.seq (.reg false 0 [oN 13 (.fld 4 (.t 1)),oN 14 (.load 1 false (.t 13)),oN 15 (.len (.t 14)),oN 16 (.mov (cI 0))]) (.block 0 (.loop (.seq (.reg false 0 [oN 17 (.bin .lss (.t 16) (.t 15))]) (.seq (.cond (.t 17) .skip (.exit 0)) (.seq (.block 1 (.seq (.reg false 1 [oK 18 1 (.idx 10 (.t 14) (.t 16)),oK 19 1 (.load 10 true (.t 18)),oN 5 (.alloc [.int .i64 0,.bool false,.nils,.nils,.bool false,.nils,.nils,.bool false,.nils,.nils]),⟨none,none,1,.store 10 (.t 5) (.t 19),[]⟩]) (.seq (.reg true 1 [oK 20 1 (.fld 0 (.t 5)),oA 21 1 (.load 1 false (.t 20)) [0],oK 22 1 (.fld 1 (.t 5)),oA 23 1 (.load 3 true (.t 22)) [2],oA 24 1 (.call 145 [(.t 23)]) [3],oK 25 1 (.fld 4 (.t 5)),oA 26 1 (.load 3 true (.t 25)) [5],oA 27 1 (.call 145 [(.t 26)]) [6,4],oK 28 1 (.fld 7 (.t 5)),oA 29 1 (.load 3 true (.t 28)) [8],oA 30 1 (.call 145 [(.t 29)]) [9,7],oA 31 1 (.build [.int .i64 0,.bool false,.nils,.nils,.bool false,.nils,.nils,.bool false,.nils,.nils] [(0,1,(.t 21)),(1,3,(.t 24)),(4,3,(.t 27)),(7,3,(.t 30))]) [1,4,7,10],oN 6 (.alloc [.int .i64 0,.bool false,.nils,.nils,.bool false,.nils,.nils,.bool false,.nils,.nils]),⟨none,none,1,.store 10 (.t 6) (.t 31),[12,11,10,0,1,2,3,4,5,6,7,8,9,10,11,12]⟩]) (.reg false 2 [oK 32 2 (.fld 4 (.t 3)),oK 33 2 (.load 1 false (.t 32)),oK 34 2 (.load 10 true (.t 6)),oN 35 (.mkSl 10 [.int .i64 0,.bool false,.nils,.nils,.bool false,.nils,.nils,.bool false,.nils,.nils] 1 [(0,(.t 34))]),oK 36 1 (.app 10 176 (.t 33) (.t 35)),oK 37 2 (.fld 4 (.t 3)),⟨none,none,2,.store 1 (.t 37) (.t 36),[]⟩])))) (.reg false 0 [oN 38 (.bin .add (.t 16) (cI 1)),oN 16 (oV 38)]))))))) (.seq (.reg false 0 [oN 39 (.load 5 true (.t 3)),oS (.store 5 (.t 2) (.t 39))]) .ret))))⟩
structure D_impl_copyConditional (T : Nat → Option Fn) : Prop where
 hT : T 183 = some F_impl_copyConditional
 d_impl_copyRat : D_impl_copyRat T
theorem po_copyRat {T : Nat → Option Fn} (h : D_impl_copyRat T) {r : R} (hl : r.sz ≤ 1048576:=by first | omega | assumption | (simp;omega)) : PO T 145 [ratV r] (ratV r):=by
 simp only [R.sz] at hl
 refine po_end2 (fun x d=>x == 139) h.hT rfl rfl ?_
 dsimp only [F_impl_copyRat,oN,oS,oG,oK,oA,oH,oV,cI,St.enter,List.length_cons,List.length_nil,Nat.zero_add]
 refine ew ?_
 have O:=fun s : Store=>(@ow_nil 2 s).bool r.neg
 refine OwnK_got0 (po_copyInts h.d_impl_copyInts (l:=r.mag) (by omega)) (by (refine ew ?_;try with_reducible exact True.intro)) (by (refine ew ?_;try with_reducible exact True.intro)) ?_
 intro v1 σ1 o1 g
 have B1:=g.at 1 (by simp) rfl
 have B0:=g.at 0 (by simp) rfl
 have lq : 2 ≤ σ1.length:=g.len
 have lf:=g.lf rfl
 have lb:=g.lfb rfl
 replace O:=(O _).got g (by simp)
 refine ew5 @B0 @B1 @lq @lf @lb ?_
 refine OwnK_got0 (po_copyInts h.d_impl_copyInts (l:=r.den) (by omega)) (by (refine ew ?_;try with_reducible exact True.intro)) (by (refine ew ?_;try with_reducible exact True.intro)) ?_
 intro v2 σ2 o2 g2
 replace B1:=(g2.old 1 (by omega)).trans B1
 have lq2 : 2 ≤ σ2.length:=by have:=g2.len;omega
 have lf2:=g2.lf rfl
 have lb2:=g2.lfb rfl
 replace O:=O.got g2 (by omega)
 refine ew6 @B1 @lq2 @lf2 @lb2 @lf @lb ?_
 refine ⟨by unfold OkA;decide +kernel,?_⟩
 refine ew1 @lq2 ?_
 exact (O.set (by decide)).fin
theorem po_copyLink {T : Nat → Option Fn} (h : D_impl_copyLink T) {x : Lk} (hl : x.sz ≤ 1048576:=by first | omega | assumption | (simp;omega)) : PO T 133 [lkV x] (lkV x):=by
 simp only [Lk.sz,R.sz] at hl
 refine po_end2 (fun x d=>x == 145) h.hT rfl rfl ?_
 dsimp only [F_impl_copyLink,oN,oS,oG,oK,oA,oH,oV,cI,St.enter,List.length_cons,List.length_nil,Nat.zero_add]
 refine ew ?_
 have O:=fun s : Store=>@ow_nil 2 s
 replace O:=fun s=>(O s).int .i64 x.a
 replace O:=fun s=>(O s).int .i64 x.b
 refine OwnK_got0 (po_copyRat h.d_impl_copyRat (r:=x.w) (by simp only [R.sz];omega)) (by (refine ew ?_;try with_reducible exact True.intro)) (by (refine ew ?_;try with_reducible exact True.intro)) ?_
 intro r σ1 os g
 have lq : 2 ≤ σ1.length:=g.len
 have B0:=g.at 0 (by simp) rfl
 have B1:=g.at 1 (by simp) rfl
 replace O:=(O _).got g (by simp)
 obtain ⟨a0,d0,_,_,rfl,_,k1,k2⟩:=g.ow.rat_inv
 replace O:=O.flat rfl
 have la:=k1.leaf rfl
 have ld:=k2.leaf rfl
 have lfs:=And.intro la ld
 have fc:=(fun q=>cells_agg (cs:=[.bool x.w.neg,a0,d0]) (by simp [la,ld,show ∀ b,V.leaf (.bool b) = true from fun _=>rfl]) q)
 clear g
 refine ew5 @B0 @B1 @lq @lfs @fc ?_
 refine OwnK_got0 (po_copyRat h.d_impl_copyRat (r:=x.dx) (by simp only [R.sz];omega)) (by (refine ew5 @B0 @B1 @lq @lfs @fc ?_;try with_reducible exact True.intro)) (by (refine ew5 @B0 @B1 @lq @lfs @fc ?_;try with_reducible exact True.intro)) ?_
 intro r σ2 os g
 replace B0:=(g.old 0 (by omega)).trans B0
 replace B1:=(g.old 1 (by omega)).trans B1
 replace O:=O.got g (by omega)
 replace lq : 2 ≤ σ2.length:=by have:=g.len;omega
 obtain ⟨a1,d1,_,_,rfl,_,k1,k2⟩:=g.ow.rat_inv
 replace O:=O.flat rfl
 have la:=k1.leaf rfl
 have ld:=k2.leaf rfl
 replace lfs:=And.intro lfs (And.intro la ld)
 replace fc:=And.intro fc (fun q=>cells_agg (cs:=[.bool x.dx.neg,a1,d1]) (by simp [la,ld,show ∀ b,V.leaf (.bool b) = true from fun _=>rfl]) q)
 clear g
 refine ew5 @B0 @B1 @lq @lfs @fc ?_
 refine OwnK_got0 (po_copyRat h.d_impl_copyRat (r:=x.dy) (by simp only [R.sz];omega)) (by (refine ew5 @B0 @B1 @lq @lfs @fc ?_;try with_reducible exact True.intro)) (by (refine ew5 @B0 @B1 @lq @lfs @fc ?_;try with_reducible exact True.intro)) ?_
 intro r σ3 os g
 replace B0:=(g.old 0 (by omega)).trans B0
 replace B1:=(g.old 1 (by omega)).trans B1
 replace O:=O.got g (by omega)
 replace lq : 2 ≤ σ3.length:=by have:=g.len;omega
 obtain ⟨a2,d2,_,_,rfl,_,k1,k2⟩:=g.ow.rat_inv
 replace O:=O.flat rfl
 have la:=k1.leaf rfl
 have ld:=k2.leaf rfl
 replace lfs:=And.intro lfs (And.intro la ld)
 replace fc:=And.intro fc (fun q=>cells_agg (cs:=[.bool x.dy.neg,a2,d2]) (by simp [la,ld,show ∀ b,V.leaf (.bool b) = true from fun _=>rfl]) q)
 clear g
 refine ew5 @B0 @B1 @lq @lfs @fc ?_
 refine ⟨by unfold OkA;decide +kernel,?_⟩
 refine ew1 @lq ?_
 exact (O.set (by decide)).fin
theorem po_copyLinks {T : Nat → Option Fn} (h : D_impl_copyLinks T) {l : List Lk} (hl : szL Lk.sz l ≤ 1048576:=by first | omega | assumption | (simp;omega)) : PO T 110 [lksV l] (lksV l):=by
 have hll : l.length ≤ 1048576:=by unfold szL at hl;omega
 refine po_end2 (fun x d=>x == 133) h.hT rfl rfl ?_
 dsimp only [F_impl_copyLinks,oN,oS,oG,oK,oA,oH,oV,cI,St.enter,List.length_cons,List.length_nil,Nat.zero_add]
 refine ew ?_
 refine loop_at (fun x d=>x == 133) (α:=Nat × Store × V × List (List V)) (fun q=>⟨argE [.any,.any,.nils,q.2.2.1,.any,.any,.any,lksV l,iv (l.length : Nat),iv (q.1 : Nat)],q.2.1,0,0,[],[]⟩) (fun q=>q.1 ≤ l.length ∧ Grow q.2.1 q.2.2.1 11 q.2.2.2 ((l.take q.1).map Lk.cells)) (fun q=>l.length - q.1) rfl (0,[none],.nils,[]) ?_ ?_ ?_
 ·exact ⟨by omega,grow_nil⟩
 ·(refine Fg_env ?_;exact fgW)
 ·rintro ⟨i,s,v,A⟩ ⟨hi,hG⟩
  dsimp only at hi hG
  by_cases hc : (i : Int) < (l.length : Nat)
  ·have hil : i < l.length:=by omega
   have hAl : A.length = i:=by have:=hG.len;simp at this;omega
   obtain ⟨x,hx⟩ : ∃ x,l.getD i default = x:=⟨_,rfl⟩
   have hts:=take_map_succ Lk.cells l hil
   have hxs : x.sz ≤ 1048576:=by have:=szL_memb (f:=Lk.sz) hl (getD_mem hil);rw [hx] at this;exact this
   rw [hx] at hts
   have e4 : ∀ σ : Store,resolve σ FD (lkV x) = some (lkV x):=fun σ=>res_agg_still (st_Lk [x] _ (by simp))
   rcases hG.cases with ⟨rfl,h1,rfl⟩ | ⟨o,rfl,ho,hlt⟩
   ·refine ew3 @hc @mg @hx ?_
    refine RefK_got (po_copyLink h.d_impl_copyLink hxs) (by (refine ew1 @e4 ?_;try with_reducible exact True.intro)) ?_
    intro r σ2 os g
    obtain ⟨cs,rfl,k1⟩:=g.ow.agg_inv
    have gl : s.length + 3 ≤ σ2.length:=by have:=g.len;simp at this;omega
    have lf:=cells_agg (k1.leaf rfl)
    have cl1 : cs.length = 11:=k1.len
    refine ew3 @lf @cl1 @gl ?_
    refine ⟨by omega,(i + 1,(σ2.set (s.length + 1) (some ⟨11,[cs]⟩)).set (s.length + 1 + 1) (some ⟨11,[cs]⟩),.msl (s.length + 1 + 1) 0 1,[cs]),by dsimp only;omega,⟨by dsimp only;omega,?_⟩,by (refine Fg_env ?_;exact fgW)⟩
    dsimp only
    rw [hts]
    exact hG.appN (fun q hq=>by simp only [List.append_assoc];exact objAt_app_lt hq) (by simp) g (by omega) (by simp) (by omega) (by simp) (by omega)
   ·refine ew5 @hc @mg @hx @ho @hlt ?_
    refine RefK_got (po_copyLink h.d_impl_copyLink hxs) (by (refine ew1 @e4 ?_;try with_reducible exact True.intro)) ?_
    intro r σ2 os g
    obtain ⟨cs,rfl,k1⟩:=g.ow.agg_inv
    have gl : s.length + 3 ≤ σ2.length:=by have:=g.len;simp at this;omega
    have lf:=cells_agg (k1.leaf rfl)
    have cl1 : cs.length = 11:=k1.len
    have ho2:=(g.old o (by simp;omega)).trans ((by simp only [List.append_assoc];exact objAt_app_lt hlt : _ = objAt s o).trans ho)
    refine ew5 @lf @cl1 @gl @ho2 @hlt ?_
    refine ⟨by omega,(i + 1,((σ2.set (s.length + 1) (some ⟨11,[cs]⟩)).set o none).set (s.length + 1 + 1) (some ⟨11,A ++ [cs]⟩),.msl (s.length + 1 + 1) 0 (A.length + 1),A ++ [cs]),by dsimp only;omega,⟨by dsimp only;omega,?_⟩,by (refine Fg_env ?_;exact fgW)⟩
    dsimp only
    rw [hts]
    exact hG.appM (fun q hq=>by simp only [List.append_assoc];exact objAt_app_lt hq) (by simp) g (by omega) (by simp) (by omega) (by simp) (by omega)
  ·have ei : i = l.length:=by omega
   subst ei
   rw [List.take_length] at hG
   rcases hG.cases with ⟨rfl,h1,rfl⟩ | ⟨o,rfl,ho,hlt⟩
   ·refine ew1 @hc ?_
    exact hG.fin
   ·refine ew1 @hc ?_
    exact hG.fin
theorem lkOk_ok {l : Lk} (h : lkOk l = true) : l.w.ok = true ∧ l.dx.ok = true ∧ l.dy.ok = true ∧ 0 < sgnR l.w:=by
 unfold lkOk at h
 simp only [Bool.and_eq_true,decide_eq_true_eq] at h
 exact ⟨sgnR_ok h.1.1.2,h.1.2,h.2,h.1.1.2⟩
def putI : List Int → Int → List Int
 | [],n=>[n]
 | x :: l,n=>if x < n then x :: putI l n else if x = n then x :: l else n :: x :: l
theorem putI_at {l : List Int} {n : Int} {k : Nat} (hk : k ≤ l.length) (h : ∀ j,j < k → l.getD j 0 < n) (h2 : k < l.length → ¬ l.getD k 0 < n) :
  putI l n = if k < l.length ∧ l.getD k 0 = n then l else l.take k ++ n :: l.drop k:=by
 induction l generalizing k with
 | nil=>simp [putI]
 |
  cons x l ih =>
  cases k with
  |
   zero =>
   have h3:=h2 (by simp)
   simp only [List.getD_cons_zero] at h3
   unfold putI
   rw [if_neg h3]
   by_cases e : x = n
   ·simp [e]
   ·simp [e]
  |
   succ k =>
   have h3:=h 0 (by omega)
   simp only [List.getD_cons_zero] at h3
   unfold putI
   rw [if_pos h3,ih (k:=k) (by simpa using hk) (fun j hj=>by have:=h (j + 1) (by omega);simpa using this) (fun hj=>by have:=h2 (by simpa using hj);simpa using this)]
   simp only [List.length_cons,List.getD_cons_succ,List.take_succ_cons,List.drop_succ_cons,List.cons_append,Nat.add_lt_add_iff_right]
   split <;> rfl
def Asc (l : List Int) : Prop:=l.Pairwise (· < ·)
theorem putI_mem {l : List Int} {n a : Int} : a ∈ putI l n ↔ a = n ∨ a ∈ l:=by
 induction l with
 | nil=>simp [putI]
 |
  cons x l ih =>
  unfold putI
  split
  ·rw [List.mem_cons,ih,List.mem_cons]
   constructor
   ·rintro (h | h | h) <;> simp [h]
   ·rintro (h | h | h) <;> simp [h]
  ·split
   ·rename_i e;subst e
    constructor
    ·intro h;exact .inr h
    ·rintro (h | h)
     ·rw [h];simp
     ·exact h
   ·simp
theorem putI_asc {l : List Int} {n : Int} (h : Asc l) : Asc (putI l n):=by
 unfold Asc at *
 induction l with
 | nil=>simp [putI]
 |
  cons x l ih =>
  rw [List.pairwise_cons] at h
  unfold putI
  split
  ·rename_i hx
   rw [List.pairwise_cons]
   refine ⟨fun a ha=>?_,ih h.2⟩
   rcases putI_mem.1 ha with rfl | ha
   ·exact hx
   ·exact h.1 a ha
  ·split
   ·rw [List.pairwise_cons];exact h
   ·rename_i h1 h2
    have : n < x:=by omega
    rw [List.pairwise_cons,List.pairwise_cons]
    refine ⟨fun a ha=>?_,h⟩
    rcases List.mem_cons.1 ha with rfl | ha
    ·exact this
    ·have:=h.1 a ha;omega
theorem putI_len (l : List Int) (n : Int) : (putI l n).length ≤ l.length + 1:=by
 induction l with
 | nil=>simp [putI]
 |
  cons x l ih =>
  unfold putI
  split
  ·simp;omega
  ·split <;> simp
theorem asc_ext : ∀ {l m : List Int},Asc l → Asc m → (∀ a,a ∈ l ↔ a ∈ m) → l = m
 | [],[],_,_,_=>rfl
 | [],y :: m,_,_,h=>absurd ((h y).2 (by simp)) (by simp)
 | x :: l,[],_,_,h=>absurd ((h x).1 (by simp)) (by simp)
 |
  x :: l,y :: m,hl,hm,h=>by
  unfold Asc at hl hm
  rw [List.pairwise_cons] at hl hm
  have e : x = y:=by
   rcases List.mem_cons.1 ((h x).1 (by simp)) with h1 | h1
   ·exact h1
   ·rcases List.mem_cons.1 ((h y).2 (by simp)) with h2 | h2
    ·exact h2.symm
    ·have:=hl.1 y h2;have:=hm.1 x h1;omega
  subst e
  congr 1
  refine asc_ext hl.2 hm.2 fun a=>?_
  constructor
  ·intro ha
   rcases List.mem_cons.1 ((h a).1 (by simp [ha])) with h1 | h1
   ·have:=hl.1 a ha;omega
   ·exact h1
  ·intro ha
   rcases List.mem_cons.1 ((h a).2 (by simp [ha])) with h1 | h1
   ·have:=hm.1 a ha;omega
   ·exact h1
theorem nodup_le : ∀ {a b : List Int},a.Nodup → (∀ x ∈ a,x ∈ b) → a.length ≤ b.length
 | [],b,_,_=>by simp
 |
  x :: a,b,hn,h=>by
  rw [List.nodup_cons] at hn
  have hx:=h x (by simp)
  have:=nodup_le (a:=a) (b:=b.erase x) hn.2 fun y hy=>by
   have hyx : y ≠ x:=fun e=>hn.1 (e ▸ hy)
   exact (List.mem_erase_of_ne hyx).2 (h y (by simp [hy]))
  rw [List.length_erase_of_mem hx] at this
  have:=List.length_pos_of_mem hx
  simp only [List.length_cons];omega
theorem asc_nodup {l : List Int} (h : Asc l) : l.Nodup:=by
 unfold Asc at h
 exact h.imp fun h e=>by omega
def F_spec_l07Put : Fn:=⟨2,48,[.tmp 4],(.seq (.reg false 0 [oN 4 (.mov (.c (.nils)))]) (.seq (.reg false 0 [oN 5 (.mov (cI 0))]) (.seq (.block 0 (.loop (.seq (.seq (.reg false 0 [oN 7 (oV 5),oN 8 (oV 0),oN 9 (.len (.t 8)),oN 10 (.bin .lss (.t 7) (.t 9)),oN 11 (oV 10),oG 11 true 12 (oV 0),oG 11 true 13 (oV 5),oG 11 true 14 (.idx 1 (.t 12) (.t 13)),oG 11 true 15 (.load 1 false (.t 14)),oG 11 true 16 (oV 1),oG 11 true 17 (.bin .lss (.t 15) (.t 16)),oN 18 (.pick (.t 11) (.t 17) (.c (.bool false)))]) (.cond (.t 18) .skip (.exit 0))) (.block 1 (.reg false 0 [oN 19 (oV 5),oN 20 (.bin .add (.t 19) (cI 1)),oN 5 (oV 20)]))))) (.seq (.seq (.reg false 0 [oN 21 (oV 5),oN 22 (oV 0),oN 23 (.len (.t 22)),oN 24 (.bin .lss (.t 21) (.t 23)),oN 25 (oV 24),oG 25 true 26 (oV 0),oG 25 true 27 (oV 5),oG 25 true 28 (.idx 1 (.t 26) (.t 27)),oG 25 true 29 (.load 1 false (.t 28)),oG 25 true 30 (oV 1),oG 25 true 31 (.bin .eql (.t 29) (.t 30)),oN 32 (.pick (.t 25) (.t 31) (.c (.bool false)))]) (.cond (.t 32) (.seq (.reg false 0 [oN 33 (oV 0),oN 4 (oV 33)]) .ret) .skip)) (.seq (.reg false 2 [oN 34 (.mkSl 1 [.int .i64 0] 0 []),oK 35 2 (oV 0),oK 36 2 (oV 5),oK 37 2 (.slice 1 (.t 35) none (some (.t 36))),oK 38 1 (.app 1 8 (.t 34) (.t 37)),oK 6 2 (oV 38)]) (.seq (.reg false 2 [oK 39 2 (oV 6),oK 40 2 (oV 1),oN 41 (.mkSl 1 [.int .i64 0] 1 [(0,(.t 40))]),oK 42 1 (.app 1 8 (.t 39) (.t 41)),oK 6 2 (oV 42)]) (.seq (.reg false 1 [oK 43 1 (oV 6),oK 44 1 (oV 0),oK 45 1 (oV 5),oK 46 1 (.slice 1 (.t 44) (some (.t 45)) none),oN 47 (.app 1 8 (.t 43) (.t 46)),oK 4 1 (oV 47)]) .ret)))))))⟩
structure D_spec_l07Put (T : Nat → Option Fn) : Prop where
 hT : T 237 = some F_spec_l07Put
theorem c_l07Put {T : Nat → Option Fn} (h : D_spec_l07Put T) {l : List Int} {n : Int} (hl : l.length ≤ 100000000:=by first | omega | assumption | (simp;omega)) : PF T 237 [ints l,iv n] (ints (putI l n)):=by
 refine pf_endL (fun _ _=>false) h.hT rfl rfl ?_
 dsimp only [F_spec_l07Put,oN,oS,oG,oK,oA,oH,oV,cI]
 refine ev ?_
 refine loop_at (fun _ _=>false) (α:=Nat) (fun i=>⟨argE [ints l,iv n,.any,.any,.nils,iv (i : Nat)],[],0,0,[],[]⟩) (fun i=>i ≤ l.length ∧ ∀ j,j < i → l.getD j 0 < n) (fun i=>l.length - i) rfl 0 ?_ ?_ ?_
 ·exact ⟨by omega,by intro j hj;omega⟩
 ·(refine Fg_env ?_;exact fgV)
 ·rintro i ⟨hi,hj⟩
  refine ev ?_
  by_cases hc : (i : Int) < (l.length : Nat)
  ·by_cases hx : l.getD i 0 < n
   ·refine ev2 @hc @hx ?_
    refine ⟨i + 1,by omega,⟨by omega,fun j hj'=>?_⟩,by (refine Fg_env ?_;exact fgV)⟩
    by_cases e : j = i
    ·subst e;exact hx
    ·exact hj j (by omega)
   ·rw [putI_at hi hj fun _=>hx]
    by_cases he : l.getD i 0 = n
    ·refine ev4 @hc @hx @he @Int.lt_irrefl ?_
     rw [if_pos (by omega)]
     exact laxV_refl _
    ·rw [if_neg fun k=>he k.2]
     have hd : ¬ l.drop i = []:=by
      intro e
      have:=congrArg List.length e
      simp at this;omega
     have ld : (l.drop i).length = l.length - i:=by simp
     have lt : (l.take i).length = i:=by simp;omega
     obtain ⟨d,hde⟩ : ∃ d,l.drop i = d:=⟨_,rfl⟩
     obtain ⟨t,hte⟩ : ∃ t,l.take i = t:=⟨_,rfl⟩
     refine ev3 @hc @hx @he ?_
     rw [hde] at hd ld ⊢
     rw [hte] at lt ⊢
     simp only [irows_nil']
     refine ⟨fun e=>?_,fun e=>?_⟩
     ·subst e
      refine ⟨by omega,fun k=>absurd k hd,fun _=>⟨by omega,?_⟩⟩
      simp only [EVi]
      refine ev1 @EVi ?_
      exact laxV_refl _
     ·refine ⟨by omega,by omega,?_⟩
      simp only [EVi]
      refine ev1 @EVi ?_
      refine ⟨fun k=>absurd (irows_nil'.1 k) hd,fun _=>⟨by simp;omega,?_⟩⟩
      rw [List.append_assoc]
      exact laxV_refl _
  ·have ei : i = l.length:=by omega
   subst ei
   rw [putI_at (Nat.le_refl _) hj fun h=>absurd h (Nat.lt_irrefl _),if_neg fun h=>Nat.lt_irrefl _ h.1]
   simp only [List.take_length,List.drop_length]
   refine ev2 @hc @List.drop_length.{0} ?_
   simp only [irows_nil']
   refine ⟨fun e=>?_,fun e=>⟨by omega,by omega,?_⟩⟩
   ·subst e
    refine ⟨by omega,?_⟩
    simp only [EVi]
    refine ev1 @EVi ?_
    exact laxV_refl _
   ·simp only [EVi]
    refine ev1 @EVi ?_
    exact ⟨fun _=>laxV_refl _,fun k=>absurd (by simp [irows]) k⟩
def ends (l : List Lk) (v : Int) : Bool:=l.any fun x=>decide (x.a = v) || decide (x.b = v)
def nodesI (l : List Lk) (v : Nat) : List Int:=((List.range v).filter fun (u : Nat)=>decide (1 ≤ u) && ends l u).map fun u=>((u : Nat) : Int)
def netAt (l : List Cd) (i : Nat) : Prop :=
 cdOk (l.getD i default) = true ∧ (∀ k,k < (l.getD i default).ps.length → ((l.getD i default).ps.getD k default).node = 0 ∨ ∃ j,i < j ∧ j < l.length ∧ (l.getD j default).node = ((l.getD i default).ps.getD k default).node) ∧
  ∀ j,i < j → j < l.length → (l.getD j default).node ≠ (l.getD i default).node
noncomputable instance (l : List Cd) : Decidable (∀ i,i < l.length → netAt l i):=Classical.propDecidable _
theorem lkOk_nd {l : Lk} (h : lkOk l = true) : 0 ≤ l.a ∧ l.a < l.b ∧ l.b ≤ 9:=by
 unfold lkOk nd at h
 simp only [Bool.and_eq_true,decide_eq_true_eq] at h
 omega
theorem lksOk_at {l : List Lk} (h : lksOk l = true) {k : Nat} (hk : k < l.length) : lkOk (l.getD k default) = true:=by
 have:=allB_iff.1 h k hk
 unfold lksAt at this
 simp only [Bool.and_eq_true] at this
 exact this.1
def nodesM (l : List Lk) : List Int:=if lksOk l = true then nodesI l 10 else []
def ordP (l : List Lk) (o : List Int) : Prop:=lksOk l = true ∧ o.length = (nodesM l).length ∧ ∀ x ∈ nodesM l,x ∈ o
instance (l : List Lk) (o : List Int) : Decidable (ordP l o):=inferInstanceAs (Decidable (_ ∧ _ ∧ _))
def F_spec_l07Near : Fn:=⟨2,33,[.tmp 4],(.seq (.reg false 0 [oN 4 (.mov (.c (.nils)))]) (.seq (.reg false 1 [oN 8 (.mkSl 1 [.int .i64 0] 0 []),oK 5 1 (oV 8)]) (.seq (.seq (.reg false 0 [oN 9 (oV 0),oN 10 (.len (.t 9)),oN 11 (.mov (cI 0))]) (.block 0 (.loop (.seq (.reg false 0 [oN 12 (.bin .lss (.t 11) (.t 10))]) (.seq (.cond (.t 12) .skip (.exit 0)) (.seq (.block 1 (.seq (.reg false 1 [oK 13 1 (.idx 11 (.t 9) (.t 11)),oK 14 1 (.load 11 true (.t 13)),oN 7 (.alloc [.int .i64 0,.int .i64 0,.bool false,.nils,.nils,.bool false,.nils,.nils,.bool false,.nils,.nils]),⟨none,none,1,.store 11 (.t 7) (.t 14),[]⟩]) (.seq (.seq (.reg false 0 [oN 15 (.fld 0 (.t 7)),oN 16 (.load 1 false (.t 15)),oN 17 (oV 1),oN 18 (.bin .eql (.t 16) (.t 17))]) (.cond (.t 18) (.reg false 0 [oN 19 (oV 5),oN 20 (.fld 1 (.t 7)),oN 21 (.load 1 false (.t 20)),oN 22 (.call 237 [(.t 19),(.t 21)]),oN 5 (oV 22)]) .skip)) (.seq (.reg false 0 [oN 23 (.fld 1 (.t 7)),oN 24 (.load 1 false (.t 23)),oN 25 (oV 1),oN 26 (.bin .eql (.t 24) (.t 25))]) (.cond (.t 26) (.reg false 0 [oN 27 (oV 5),oN 28 (.fld 0 (.t 7)),oN 29 (.load 1 false (.t 28)),oN 30 (.call 237 [(.t 27),(.t 29)]),oN 5 (oV 30)]) .skip))))) (.reg false 0 [oN 31 (.bin .add (.t 11) (cI 1)),oN 11 (oV 31)]))))))) (.seq (.reg false 0 [oN 32 (oV 5),oN 4 (oV 32)]) .ret))))⟩
structure D_spec_l07Near (T : Nat → Option Fn) : Prop where
 hT : T 238 = some F_spec_l07Near
 d_spec_l07Put : D_spec_l07Put T
theorem lkLess_iff {k l : Lk} : lkLess k l = true ↔ k.a < l.a ∨ (k.a = l.a ∧ k.b < l.b):=by simp [lkLess]
theorem lkLess_trans {k l m : Lk} (h : lkLess k l = true) (h2 : lkLess l m = true) : lkLess k m = true:=by
 rw [lkLess_iff] at *;omega
theorem lksOk_adj {l : List Lk} (h : lksOk l = true) {i : Nat} (hi : i + 1 < l.length) : lkLess (l.getD i default) (l.getD (i + 1) default) = true:=by
 have:=allB_iff.1 h (i + 1) hi
 unfold lksAt at this
 simp only [Bool.and_eq_true,Bool.or_eq_true,decide_eq_true_eq] at this
 rcases this.2 with h | h
 ·omega
 ·exact h
theorem lksOk_lt {l : List Lk} (h : lksOk l = true) : ∀ (j i : Nat),i < j → j < l.length → lkLess (l.getD i default) (l.getD j default) = true
 | 0,i,hi,_=>by omega
 |
  j + 1,i,hi,hj=>by
  have ha:=lksOk_adj h hj
  by_cases e : i = j
  ·subst e;exact ha
  ·exact lkLess_trans (lksOk_lt h j i (by omega) (by omega)) ha
theorem getD_get {α : Type} [Inhabited α] {l : List α} {i : Nat} (h : i < l.length) : l.getD i default = l[i]:=by
 rw [List.getD_eq_getElem?_getD,List.getElem?_eq_getElem h];rfl
theorem lksOk_pw {l : List Lk} (h : lksOk l = true) : l.Pairwise fun k l=>lkLess k l = true ∧ 0 ≤ k.a ∧ k.a < k.b ∧ 0 ≤ l.a ∧ l.a < l.b:=by
 rw [List.pairwise_iff_getElem]
 intro i j hi hj hij
 have h1:=lksOk_lt h j i hij hj
 have h2:=lkOk_nd (lksOk_at h hi)
 have h3:=lkOk_nd (lksOk_at h hj)
 rw [getD_get hi,getD_get hj] at h1
 rw [getD_get hi] at h2
 rw [getD_get hj] at h3
 exact ⟨h1,h2.1,h2.2.1,h3.1,h3.2.1⟩
theorem lksOk_mem {l : List Lk} (h : lksOk l = true) {x : Lk} (hx : x ∈ l) : lkOk x = true:=by
 obtain ⟨i,hi⟩:=List.mem_iff_getElem?.1 hx
 have hlt:=(List.getElem?_eq_some_iff.1 hi).1
 have:=lksOk_at h hlt
 rwa [List.getD_eq_getElem?_getD,hi] at this
def nbOf (v : Int) (x : Lk) : Option Int:=if x.a = v then some x.b else if x.b = v then some x.a else none
def nbStep (v : Int) (out : List Int) (x : Lk) : List Int:=if x.b = v then putI (if x.a = v then putI out x.b else out) x.a else (if x.a = v then putI out x.b else out)
def nbS (l : List Lk) (v : Int) (i : Nat) : List Int:=(l.take i).foldl (nbStep v) []
def nbI (l : List Lk) (v : Int) (i : Nat) : List Int:=(l.take i).filterMap (nbOf v)
theorem nbS_0 (l : List Lk) (v : Int) : nbS l v 0 = []:=by simp [nbS]
theorem take_snoc {α : Type} [Inhabited α] {l : List α} {i : Nat} (h : i < l.length) : l.take (i + 1) = l.take i ++ [l.getD i default]:=by
 rw [List.take_add_one,List.getElem?_eq_getElem h,List.getD_eq_getElem?_getD,List.getElem?_eq_getElem h];rfl
theorem nbS_s (l : List Lk) (v : Int) {i : Nat} (h : i < l.length) : nbS l v (i + 1) = nbStep v (nbS l v i) (l.getD i default):=by
 unfold nbS;rw [take_snoc h,List.foldl_append];rfl
theorem nbStep_len (v : Int) (out : List Int) (x : Lk) : (nbStep v out x).length ≤ out.length + 2:=by
 have h1:=putI_len (if x.a = v then putI out x.b else out) x.a
 have h2:=putI_len out x.b
 unfold nbStep
 split at h1 <;> (split <;> (try split) <;> omega)
theorem nbS_len (l : List Lk) (v : Int) {i : Nat} (h : i ≤ l.length) : (nbS l v i).length ≤ 2 * i:=by
 induction i with
 | zero=>simp [nbS_0]
 |
  succ i ih =>
  rw [nbS_s l v h]
  have:=ih (by omega)
  have:=nbStep_len v (nbS l v i) (l.getD i default)
  omega
theorem nbStep_mem {v : Int} {out : List Int} {x : Lk} {a : Int} : a ∈ nbStep v out x ↔ a ∈ out ∨ (x.a = v ∧ a = x.b) ∨ (x.b = v ∧ a = x.a):=by
 unfold nbStep
 split <;> split <;> simp_all [putI_mem] <;> (constructor <;> rintro (h | h) <;> simp_all)
theorem nbF_mem {v : Int} : ∀ (l : List Lk) (out : List Int) (a : Int),a ∈ l.foldl (nbStep v) out ↔ a ∈ out ∨ ∃ x ∈ l,(x.a = v ∧ a = x.b) ∨ (x.b = v ∧ a = x.a)
 | [],out,a=>by simp
 |
  x :: l,out,a=>by
  rw [List.foldl_cons,nbF_mem l,nbStep_mem]
  simp only [List.mem_cons,exists_eq_or_imp,or_assoc]
theorem nbStep_asc {v : Int} {out : List Int} {x : Lk} (h : Asc out) : Asc (nbStep v out x):=by
 unfold nbStep
 split <;> split <;> first | exact putI_asc (putI_asc h) | exact putI_asc h | exact h
theorem nbF_asc {v : Int} : ∀ (l : List Lk) (out : List Int),Asc out → Asc (l.foldl (nbStep v) out)
 | [],out,h=>h
 | x :: l,out,h=>nbF_asc l _ (nbStep_asc h)
theorem nb_eq {l : List Lk} (h : lksOk l = true) (v : Int) : nbS l v l.length = nbI l v l.length:=by
 unfold nbS nbI
 rw [List.take_length]
 refine asc_ext (nbF_asc _ _ .nil) ?_ fun a=>?_
 ·refine List.Pairwise.filterMap _ ?_ (lksOk_pw h)
  rintro k m ⟨h1,h2,h3,h4,h5⟩ b hb b' hb'
  rw [lkLess_iff] at h1
  unfold nbOf at hb hb'
  split at hb <;> split at hb' <;> (try split at hb) <;> (try split at hb') <;> simp_all <;> omega
 ·rw [nbF_mem,List.mem_filterMap]
  simp only [List.not_mem_nil,false_or]
  constructor
  ·rintro ⟨x,hx,h1⟩
   refine ⟨x,hx,?_⟩
   have:=lkOk_nd (lksOk_mem h hx)
   unfold nbOf
   rcases h1 with ⟨h1,rfl⟩ | ⟨h1,rfl⟩
   ·rw [if_pos h1]
   ·rw [if_neg (by omega),if_pos h1]
  ·rintro ⟨x,hx,h1⟩
   refine ⟨x,hx,?_⟩
   unfold nbOf at h1
   split at h1
   ·simp_all
   ·split at h1 <;> simp_all
theorem c_l07Near {T : Nat → Option Fn} (h : D_spec_l07Near T) {l : List Lk} {v : Int} (hw : wfL Lk.wf l:=by first | omega | assumption | (simp;omega)) (hl : l.length ≤ 1048576:=by first | omega | assumption | (simp;omega)) (hok : lksOk l = true:=by assumption) : PF T 238 [lksV l,iv v] (ints (nbI l v l.length)):=by
 rw [← nb_eq hok]
 refine pf_endL (fun _ _=>false) h.hT rfl rfl ?_
 dsimp only [F_spec_l07Near,oN,oS,oG,oK,oA,oH,oV,cI]
 refine ev ?_
 refine loop_at (fun _ _=>false) (α:=Nat) (fun i=>⟨argE [.any,iv v,.any,.any,.nils,ints (nbS l v i),.any,.any,.any,lksV l,iv (l.length : Nat),iv (i : Nat)],[],0,0,[],[]⟩) (fun i=>i ≤ l.length) (fun i=>l.length - i) rfl 0 ?_ ?_ ?_
 ·omega
 ·rw [nbS_0,show ints [] = .sl 1 [] from rfl]
  (refine Fg_re [] (by simp) (by intro p hp;cases hp) rfl ?_) <;> (try (refine ev ?_;try with_reducible exact True.intro)) <;> (repeat' (first | exact True.intro | omega | exact CanE_ptr rfl (by simp) | refine ⟨?_,?_⟩ | exact of_eq_true (CanE_nil _ _ _) | exact CanE_of rfl (by simp;done) | exact CanE_of rfl rfl | (refine CanE_msl rfl ?_ rfl;simp [irows];done) | (refine CanE_msl rfl ?_ rfl;simp [irows];omega) | (refine CanE_frz ?_ ?_;(focus ((refine ev ?_;try with_reducible exact True.intro);done));(intro q hq k s0 l0;simp;done))))
 ·intro i hi
  have hnl:=nbS_len l v hi
  refine ev ?_
  refine brK_dec (fun hc=>?_) fun hc=>?_ <;> (refine ev2 @hc @mg ?_;try with_reducible exact True.intro)
  ·have hil : i < l.length:=by omega
   have es:=nbS_s l v hil
   unfold nbStep at es
   by_cases ha : (l.getD i default).a = v
   ·have c1:=c_l07Put h.d_spec_l07Put (l:=nbS l v i) (n:=(l.getD i default).b) (by omega)
    simp only [if_pos ha] at es
    by_cases hb : (l.getD i default).b = v
    ·have:=lkOk_nd (lksOk_at hok hil)
     omega
    ·rw [if_neg hb] at es
     refine ev1 @ha ?_
     refine PFK_of c1 ?_
     refine ev1 @hb ?_
     rw [← es]
     exact ⟨i + 1,by omega,by omega,by (refine Fg_re [] (by simp) (by intro p hp;cases hp) rfl ?_) <;> (try (refine ev ?_;try with_reducible exact True.intro)) <;> (repeat' (first | exact True.intro | omega | exact CanE_ptr rfl (by simp) | refine ⟨?_,?_⟩ | exact of_eq_true (CanE_nil _ _ _) | exact CanE_of rfl (by simp;done) | exact CanE_of rfl rfl | (refine CanE_msl rfl ?_ rfl;simp [irows];done) | (refine CanE_msl rfl ?_ rfl;simp [irows];omega) | (refine CanE_frz ?_ ?_;(focus ((refine ev ?_;try with_reducible exact True.intro);done));(intro q hq k s0 l0;simp;done))))⟩
   ·have c1:=c_l07Put h.d_spec_l07Put (l:=nbS l v i) (n:=(l.getD i default).a) (by omega)
    simp only [if_neg ha] at es
    by_cases hb : (l.getD i default).b = v
    ·rw [if_pos hb] at es
     refine ev2 @ha @hb ?_
     refine PFK_of c1 ?_
     refine ev ?_
     rw [← es]
     exact ⟨i + 1,by omega,by omega,by (refine Fg_re [] (by simp) (by intro p hp;cases hp) rfl ?_) <;> (try (refine ev ?_;try with_reducible exact True.intro)) <;> (repeat' (first | exact True.intro | omega | exact CanE_ptr rfl (by simp) | refine ⟨?_,?_⟩ | exact of_eq_true (CanE_nil _ _ _) | exact CanE_of rfl (by simp;done) | exact CanE_of rfl rfl | (refine CanE_msl rfl ?_ rfl;simp [irows];done) | (refine CanE_msl rfl ?_ rfl;simp [irows];omega) | (refine CanE_frz ?_ ?_;(focus ((refine ev ?_;try with_reducible exact True.intro);done));(intro q hq k s0 l0;simp;done))))⟩
    ·rw [if_neg hb] at es
     refine ev2 @ha @hb ?_
     rw [← es]
     exact ⟨i + 1,by omega,by omega,by (refine Fg_re [] (by simp) (by intro p hp;cases hp) rfl ?_) <;> (try (refine ev ?_;try with_reducible exact True.intro)) <;> (repeat' (first | exact True.intro | omega | exact CanE_ptr rfl (by simp) | refine ⟨?_,?_⟩ | exact of_eq_true (CanE_nil _ _ _) | exact CanE_of rfl (by simp;done) | exact CanE_of rfl rfl | (refine CanE_msl rfl ?_ rfl;simp [irows];done) | (refine CanE_msl rfl ?_ rfl;simp [irows];omega) | (refine CanE_frz ?_ ?_;(focus ((refine ev ?_;try with_reducible exact True.intro);done));(intro q hq k s0 l0;simp;done))))⟩
  ·have : i = l.length:=by omega
   subst this
   exact laxV_refl _
end Go.Ml
end
