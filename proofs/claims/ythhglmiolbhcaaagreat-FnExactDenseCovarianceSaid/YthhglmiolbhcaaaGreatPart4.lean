/- A small language for the functions of this claim, its soundness, contracts. -/
import Derived.Test.YthhglmiolbhcaaaGreatPart3
set_option linter.unusedSimpArgs false
set_option linter.unusedVariables false
set_option maxRecDepth 100000
set_option maxHeartbeats 16000000
section
namespace Go.Ml
def rT (l : List R) : List V:=(l.map R.cells).flatten
theorem rT_app (l : List R) (r : R) : rT (l ++ [r]) = rT l ++ r.cells:=by simp [rT]
theorem flat3 : ∀ {A : List (List V)},(∀ r ∈ A,r.length = 3) → A.flatten.length = 3 * A.length
 | [],_=>rfl
 |
  a :: A,h=>by
  rw [List.flatten_cons,List.length_append,flat3 fun r hr=>h r (by simp [hr]),h a (by simp),List.length_cons];omega
theorem rT_len (l : List R) : (rT l).length = 3 * l.length:=by
 unfold rT
 rw [flat3 (fun r hr=>by obtain ⟨x,_,rfl⟩:=List.mem_map.1 hr;rfl),List.length_map]
def Rd2 (s : Store) (v w : V) (X Y : List R) : Prop :=
 (X = [] ∧ Y = [] ∧ v = .nils ∧ w = .nils) ∨ ∃ p q,p ≠ q ∧ v = .msl p 0 X.length ∧ w = .msl q 0 Y.length ∧ objAt s p = some ⟨3,X.map R.cells⟩ ∧ objAt s q = some ⟨3,Y.map R.cells⟩
theorem Rd2.fr {s s2 : Store} {v w : V} {X Y : List R} (h : Rd2 s v w X Y) (hf : ∀ p,p < s.length → objAt s2 p = objAt s p) : Rd2 s2 v w X Y:=by
 rcases h with h | ⟨p,q,h1,h2,h3,h4,h5⟩
 ·exact .inl h
 ·exact .inr ⟨p,q,h1,h2,h3,(hf p (objAt_lt h4)).trans h4,(hf q (objAt_lt h5)).trans h5⟩
theorem matOk_row {m : List (List R)} {cols : Int} (h : matOk m cols = true) : (∀ i,i < m.length → ((m.getD i default).length : Int) = cols ∧ ∀ j,j < (m.getD i default).length → ((m.getD i default).getD j default).ok = true) ∧ m.length ≤ 10:=by
 unfold matOk at h
 simp only [Bool.and_eq_true,decide_eq_true_eq] at h
 refine ⟨fun i hi=>?_,h.2⟩
 have:=allB_iff.1 h.1 i hi
 unfold matAt at this
 simp only [Bool.and_eq_true,decide_eq_true_eq] at this
 exact ⟨this.1,allB_iff.1 this.2⟩
theorem matOk_of {m : List (List R)} {cols : Int} (h : ∀ r ∈ m,(r.length : Int) = cols) (hl : m.length ≤ 10) : matOk m cols = m.all fun r=>r.all R.ok:=by
 cases ha : m.all fun r=>r.all R.ok
 ·obtain ⟨r,hr,hb⟩:=List.all_eq_false.1 ha
  have hb : r.all R.ok = false:=by simpa using hb
  obtain ⟨x,hx,hxb⟩:=List.all_eq_false.1 hb
  obtain ⟨i,hi⟩:=List.mem_iff_getElem?.1 hr
  obtain ⟨j,hj⟩:=List.mem_iff_getElem?.1 hx
  have hil:=(List.getElem?_eq_some_iff.1 hi).1
  have hjl:=(List.getElem?_eq_some_iff.1 hj).1
  refine matOk_f hil ?_
  have e1 : m.getD i default = r:=by rw [List.getD_eq_getElem?_getD,hi];rfl
  have e2 : r.getD j default = x:=by rw [List.getD_eq_getElem?_getD,hj];rfl
  unfold matAt
  rw [e1,allB_f hjl (by rw [e2];simpa using hxb),Bool.and_false]
 ·rw [matOk_t,decide_eq_true hl]
  intro i hi
  have hm:=getD_mem (l:=m) hi
  have h1:=h _ hm
  have h2:=List.all_eq_true.1 ha _ hm
  unfold matAt
  rw [decide_eq_true h1,Bool.true_and]
  refine allB_t fun j hj=>?_
  exact List.all_eq_true.1 h2 _ (getD_mem hj)
theorem mat_ok {m : List (List R)} {n : Nat} (h : ∀ r ∈ m,(∀ x ∈ r,x.cn) ∧ r.length ≤ n) (hn : n ≤ 20) (hl : m.length ≤ 10) : szL (szL R.sz) m ≤ 100000 ∧ wfL (wfL R.wf) m:=by
 refine ⟨?_,by omega,fun r hr=>rs_wf (h r hr).1 (by have:=(h r hr).2;omega)⟩
 have:=szL_bd (f:=szL R.sz) (k:=1000) (l:=m) fun r hr=>by
  have h1:=szL_bd (f:=R.sz) (k:=48) (l:=r) fun x hx=>by have:=cn_len ((h r hr).1 x hx);unfold R.sz;omega
  have h2:=(h r hr).2
  have : r.length * 49 ≤ 20 * 49:=Nat.mul_le_mul_right _ (by omega)
  omega
 have : m.length * 1001 ≤ 10 * 1001:=Nat.mul_le_mul_right _ hl
 omega
theorem OwnK_refN {T : Nat → Option Fn} {f : Nat} {as : List Src} {dst : Option Nat} {env : Nat → V} {σ : Store} {kp bs : Nat} {rs ms : List Nat} {k : List Nat → List Nat → Bool → St → Prop} {ρ : List Nat} {as' : List V} {r v : V} (hn : ρ.Nodup)
  (hρ : ∀ o,o ∈ ρ → ∃ l,objAt σ o = some ⟨1,irows l⟩) (ha : (as.map fun s=>mapV (place ρ) (s.ev env)) = as') (hr : Run T (.fn f as' (gcS ρ σ)) (.fn r (gcS ρ σ))) (hv : ∀ n,mapV (back ρ n) r = v)
  (hk : k ρ [] false ⟨updO env dst v,σ,kp,bs,rs,ms⟩) : OwnK T f as dst ⟨env,σ,kp,bs,rs,ms⟩ k:=by
 subst ha
 exact .inr (.inr (.inr ⟨ρ,r,v,hn,fun o ho=>by obtain ⟨l,h⟩:=hρ o ho;exact ⟨_,h,fun g=>mapO_ints g l⟩,hr,hv,hk⟩))
theorem OwnK_idn {T : Nat → Option Fn} {f : Nat} {as : List Src} {dst : Option Nat} {env : Nat → V} {σ σ' : Store} {kp bs : Nat} {rs ms : List Nat} {k : List Nat → List Nat → Bool → St → Prop} {as' : List V} {r : V}
  (h : Run T (.fn f as' σ) (.fn r σ')) (ha : (as.map fun s=>s.ev env) = as') (hl : σ.length ≤ σ'.length) (hb : σ.length ≤ bs) (hk : k (List.range σ.length) (List.range σ.length) true ⟨updO env dst r,σ',kp,bs,rs,ms⟩) :
  OwnK T f as dst ⟨env,σ,kp,bs,rs,ms⟩ k:=by
 subst ha
 exact .inr (.inr (.inl ⟨r,σ',h,hl,hb,hk⟩))
def renA (g : Nat → Nat) (a : Acc) : Acc:=⟨a.i,a.R.map g,a.W.map g,a.n⟩
section
variable {g : Nat → Nat} {L L0 : Nat} (hinj : ∀ x y,g x = g y ↔ x = y) (hlt : ∀ x,g x < L ↔ x < L0)
include hinj in
theorem ren_contains (l : List Nat) (p : Nat) : (l.map g).contains (g p) = l.contains p:=by
 rw [Bool.eq_iff_iff,List.contains_iff_mem,List.contains_iff_mem,List.mem_map]
 constructor
 ·rintro ⟨q,h1,h2⟩
  rw [(hinj _ _).1 h2] at h1;exact h1
 ·exact fun h=>⟨p,h,rfl⟩
include hlt in
theorem below_ren (a b : Acc) : belowA L (renA g a) (renA g b) = belowA L0 a b:=by
 unfold belowA renA
 simp only [List.all_map,Function.comp_def]
 simp only [hlt]
include hinj hlt in
theorem apart_ren (d e : OpI) (a b : Acc) : apartA L d e (renA g a) (renA g b) = apartA L0 d e a b:=by
 unfold apartA
 rw [below_ren hlt,below_ren hlt]
 simp only [renA,List.all_map,Function.comp_def]
 simp only [ren_contains hinj]
 congr 6
 ·congr 1
  funext p
  congr 2
  funext q
  rw [bne,bne]
  congr 1
  rw [Bool.eq_iff_iff,beq_iff_eq,beq_iff_eq];exact hinj _ _
include hinj hlt in
theorem okA_ren {B : Nat → List Nat} {ops : List OpI} : ∀ l : List Acc,okA L B ops (l.map (renA g)) = okA L0 B ops l
 | []=>rfl
 |
  a :: l=>by
  simp only [List.map_cons,okA,List.all_map,Function.comp_def]
  rw [okA_ren l]
  congr 2
  funext b
  have h1 : (renA g a).i = a.i:=rfl
  have h2 : (renA g b).i = b.i:=rfl
  rw [apart_ren hinj hlt,h1,h2]
include hinj hlt in
theorem OkA_ren {ops : List OpI} {l l0 : List Acc} (he : l = l0.map (renA g)) (hk : OkA L0 ops l0) : OkA L ops l:=by
 unfold OkA at hk ⊢
 rw [he,← List.map_reverse,okA_ren hinj hlt]
 exact hk
end
def gN (l : List Nat) (L x : Nat) : Nat:=match l[x]? with
 | some y=>y
 | none=>L + x
theorem gN_lt {l : List Nat} {L : Nat} (hl : ∀ o ∈ l,o < L) (x : Nat) : gN l L x < L ↔ x < l.length:=by
 unfold gN
 cases h : l[x]? with
 |
  none =>
  have:=List.getElem?_eq_none_iff.1 h
  simp only []
  omega
 |
  some y =>
  have h1:=(List.getElem?_eq_some_iff.1 h).1
  have h2:=hl y (List.mem_of_getElem? h)
  simp only []
  omega
theorem gN_inj {l : List Nat} {L : Nat} (hl : ∀ o ∈ l,o < L) (hn : l.Nodup) (x y : Nat) : gN l L x = gN l L y ↔ x = y:=by
 constructor
 ·intro e
  have hx:=gN_lt hl x
  have hy:=gN_lt hl y
  by_cases h : x < l.length
  ·have h2 : y < l.length:=hy.1 (e ▸ hx.2 h)
   unfold gN at e
   rw [List.getElem?_eq_getElem h,List.getElem?_eq_getElem h2] at e
   exact (List.getElem_inj hn).1 e
  ·have h2 : ¬ y < l.length:=fun k=>h (hx.1 (e ▸ hy.2 k))
   unfold gN at e
   rw [List.getElem?_eq_none (by omega),List.getElem?_eq_none (by omega)] at e
   simp only [] at e
   omega
 ·rintro rfl;rfl
theorem OkA_all3 {ops : List OpI} {aF : Nat → Nat → Nat → List Acc} (a b c L : Nat) (hn : [a,b,c].Nodup) (hl : ∀ o ∈ [a,b,c],o < L) (ha : ∀ (g : Nat → Nat) (a b c : Nat),aF (g a) (g b) (g c) = (aF a b c).map (renA g)) (h : OkA 3 ops (aF 0 1 2)) : OkA L ops (aF a b c) :=
 OkA_ren (g:=gN [a,b,c] L) (gN_inj hl hn) (gN_lt hl) (ha (gN [a,b,c] L) 0 1 2) h
theorem nd2 {a b : Nat} (h : a ≠ b) : [a,b].Nodup:=by simp [h]
theorem nd3 {a b c : Nat} (h : a ≠ b) (h2 : a ≠ c) (h3 : b ≠ c) : [a,b,c].Nodup:=by simp [h,h2,h3]
theorem nd4 {a b c d : Nat} (h : a ≠ b) (h2 : a ≠ c) (h3 : a ≠ d) (h4 : b ≠ c) (h5 : b ≠ d) (h6 : c ≠ d) : [a,b,c,d].Nodup:=by simp [h,h2,h3,h4,h5,h6]
theorem lt2 {a b L : Nat} (h : a < L) (h2 : b < L) : ∀ o ∈ [a,b],o < L:=by simp [h,h2]
theorem lt3 {a b c L : Nat} (h : a < L) (h2 : b < L) (h3 : c < L) : ∀ o ∈ [a,b,c],o < L:=by simp [h,h2,h3]
end Go.Ml
end
section
namespace Go.Ml
def F_spec_InformationMatrix : Fn:=⟨1,101,[.tmp 2],(.seq (.reg false 0 [oN 2 (.mov (.c (.nils)))]) (.seq (.reg false 1 [oN 13 (.mkSl 1 [.nils] 0 []),oK 3 1 (oV 13)]) (.seq (.seq (.reg false 0 [oN 14 (oV 0),oN 15 (.call 193 [(.t 14)]),oN 16 (.un .not (.t 15))]) (.cond (.t 16) (.seq (.reg false 0 [oN 2 (.mov (.c (.nils)))]) .ret) .skip)) (.seq (.reg false 0 [oN 17 (oV 0),oN 18 (.call 222 [(.t 17)]),oN 4 (oV 18)]) (.seq (.seq (.reg false 0 [oN 19 (oV 4),oN 20 (.len (.t 19)),oN 21 (.mov (cI 0))]) (.block 0 (.loop (.seq (.reg false 0 [oN 22 (.bin .lss (.t 21) (.t 20))]) (.seq (.cond (.t 22) .skip (.exit 0)) (.seq (.block 1 (.seq (.reg false 0 [oN 23 (.idx 1 (.t 19) (.t 21)),oN 24 (.load 1 false (.t 23)),oN 6 (oV 24)]) (.seq (.reg false 1 [oN 25 (.mkSl 3 [.bool false,.nils,.nils] 0 []),oK 7 1 (oV 25)]) (.seq (.seq (.reg false 0 [oN 26 (oV 4),oN 27 (.len (.t 26)),oN 28 (.mov (cI 0))]) (.block 2 (.loop (.seq (.reg false 0 [oN 29 (.bin .lss (.t 28) (.t 27))]) (.seq (.cond (.t 29) .skip (.exit 2)) (.seq (.block 3 (.seq (.reg false 0 [oN 30 (.idx 1 (.t 26) (.t 28)),oN 31 (.load 1 false (.t 30)),oN 9 (oV 31)]) (.seq (.reg false 1 [oK 32 1 (.call 36 [(cI 0)]),oN 10 (.alloc [.bool false,.nils,.nils]),⟨none,none,1,.store 3 (.t 10) (.t 32),[]⟩]) (.seq (.seq (.reg false 0 [oN 33 (oV 0),oN 34 (.len (.t 33)),oN 35 (.mov (cI 0))]) (.block 4 (.loop (.seq (.reg false 0 [oN 36 (.bin .lss (.t 35) (.t 34))]) (.seq (.cond (.t 36) .skip (.exit 4)) (.seq (.block 5 (.seq (.reg false 1 [oK 37 1 (.idx 11 (.t 33) (.t 35)),oK 38 1 (.load 11 true (.t 37)),oN 12 (.alloc [.int .i64 0,.int .i64 0,.bool false,.nils,.nils,.bool false,.nils,.nils,.bool false,.nils,.nils]),⟨none,none,1,.store 11 (.t 12) (.t 38),[]⟩]) (.seq (.seq (.reg false 0 [oN 39 (oV 6),oN 40 (oV 9),oN 41 (.bin .eql (.t 39) (.t 40)),oN 42 (oV 41),oG 42 true 43 (.fld 0 (.t 12)),oG 42 true 44 (.load 1 false (.t 43)),oG 42 true 45 (oV 6),oG 42 true 46 (.bin .eql (.t 44) (.t 45)),oG 42 true 47 (oV 46),oG 47 false 48 (.fld 1 (.t 12)),oG 47 false 49 (.load 1 false (.t 48)),oG 47 false 50 (oV 6),oG 47 false 51 (.bin .eql (.t 49) (.t 50)),oG 42 true 52 (.pick (.t 47) (.c (.bool true)) (.t 51)),oN 53 (.pick (.t 42) (.t 52) (.c (.bool false)))]) (.cond (.t 53) (.reg false 0 [oN 54 (.load 3 true (.t 10)),oN 55 (.fld 2 (.t 12)),oN 56 (.load 3 true (.t 55)),oN 57 (.call 189 [(.t 54),(.t 56)]),oS (.store 3 (.t 10) (.t 57))]) .skip)) (.seq (.reg false 0 [oN 58 (.fld 0 (.t 12)),oN 59 (.load 1 false (.t 58)),oN 60 (oV 6),oN 61 (.bin .eql (.t 59) (.t 60)),oN 62 (oV 61),oG 62 true 63 (.fld 1 (.t 12)),oG 62 true 64 (.load 1 false (.t 63)),oG 62 true 65 (oV 9),oG 62 true 66 (.bin .eql (.t 64) (.t 65)),oN 67 (.pick (.t 62) (.t 66) (.c (.bool false))),oN 68 (oV 67),oG 68 false 69 (.fld 0 (.t 12)),oG 68 false 70 (.load 1 false (.t 69)),oG 68 false 71 (oV 9),oG 68 false 72 (.bin .eql (.t 70) (.t 71)),oG 68 false 73 (oV 72),oG 73 true 74 (.fld 1 (.t 12)),oG 73 true 75 (.load 1 false (.t 74)),oG 73 true 76 (oV 6),oG 73 true 77 (.bin .eql (.t 75) (.t 76)),oG 68 false 78 (.pick (.t 73) (.t 77) (.c (.bool false))),oN 79 (.pick (.t 68) (.c (.bool true)) (.t 78))]) (.cond (.t 79) (.reg false 0 [oN 80 (.load 3 true (.t 10)),oN 81 (.fld 2 (.t 12)),oN 82 (.load 3 true (.t 81)),oN 83 (.call 203 [(.t 80),(.t 82)]),oS (.store 3 (.t 10) (.t 83))]) .skip))))) (.reg false 0 [oN 84 (.bin .add (.t 35) (cI 1)),oN 35 (oV 84)]))))))) (.reg false 2 [oK 85 2 (oV 7),oK 86 2 (.load 3 true (.t 10)),oN 87 (.mkSl 3 [.bool false,.nils,.nils] 1 [(0,(.t 86))]),oK 88 1 (.app 3 56 (.t 85) (.t 87)),oK 7 2 (oV 88)]))))) (.reg false 0 [oN 89 (.bin .add (.t 28) (cI 1)),oN 28 (oV 89)]))))))) (.reg false 2 [oK 90 2 (oV 3),oK 91 2 (oV 7),oN 92 (.mkSl 1 [.nils] 1 [(0,(.t 91))]),oK 93 1 (.app 1 24 (.t 90) (.t 92)),oK 3 2 (oV 93)]))))) (.reg false 0 [oN 94 (.bin .add (.t 21) (cI 1)),oN 21 (oV 94)]))))))) (.seq (.seq (.reg false 0 [oN 95 (oV 3),oN 96 (oV 4),oN 97 (.len (.t 96)),oN 98 (.call 91 [(.t 95),(.t 97)]),oN 99 (.un .not (.t 98))]) (.cond (.t 99) (.seq (.reg false 0 [oN 2 (.mov (.c (.nils)))]) .ret) .skip)) (.seq (.reg false 0 [oN 100 (oV 3),oN 2 (oV 100)]) .ret)))))))⟩
structure D_spec_InformationMatrix (T : Nat → Option Fn) : Prop where
 hT : T 337 = some F_spec_InformationMatrix
 d_spec_RatFromInt : D_spec_RatFromInt T
 d_spec_IsMatrix : D_spec_IsMatrix T
 d_spec_RatAdd : D_spec_RatAdd T
 d_spec_IsLinkSet : D_spec_IsLinkSet T
 d_spec_RatSub : D_spec_RatSub T
 d_spec_NodesOf : D_spec_NodesOf T
def F_impl_informationOf : Fn:=⟨3,63,[.cell 6 3 true],(.seq (.reg false 1 [oN 6 (.alloc [.bool false,.nils,.nils])]) (.seq (.reg false 1 [oK 10 1 (.call 39 [(cI 0)]),oN 7 (.alloc [.bool false,.nils,.nils]),⟨none,none,1,.store 3 (.t 7) (.t 10),[]⟩]) (.seq (.seq (.reg false 0 [oN 11 (oV 0),oN 12 (.len (.t 11)),oN 13 (.mov (cI 0))]) (.block 0 (.loop (.seq (.reg false 0 [oN 14 (.bin .lss (.t 13) (.t 12))]) (.seq (.cond (.t 14) .skip (.exit 0)) (.seq (.block 1 (.seq (.reg false 1 [oK 15 1 (.idx 11 (.t 11) (.t 13)),oK 16 1 (.load 11 true (.t 15)),oN 9 (.alloc [.int .i64 0,.int .i64 0,.bool false,.nils,.nils,.bool false,.nils,.nils,.bool false,.nils,.nils]),⟨none,none,1,.store 11 (.t 9) (.t 16),[]⟩]) (.seq (.seq (.reg false 0 [oN 17 (oV 1),oN 18 (oV 2),oN 19 (.bin .eql (.t 17) (.t 18)),oN 20 (oV 19),oG 20 true 21 (.fld 0 (.t 9)),oG 20 true 22 (.load 1 false (.t 21)),oG 20 true 23 (oV 1),oG 20 true 24 (.bin .eql (.t 22) (.t 23)),oG 20 true 25 (oV 24),oG 25 false 26 (.fld 1 (.t 9)),oG 25 false 27 (.load 1 false (.t 26)),oG 25 false 28 (oV 1),oG 25 false 29 (.bin .eql (.t 27) (.t 28)),oG 20 true 30 (.pick (.t 25) (.c (.bool true)) (.t 29)),oN 31 (.pick (.t 20) (.t 30) (.c (.bool false)))]) (.cond (.t 31) (.reg false 0 [oN 32 (.load 3 true (.t 7)),oN 33 (.fld 2 (.t 9)),oN 34 (.load 3 true (.t 33)),oN 35 (.call 131 [(.t 32),(.t 34)]),oS (.store 3 (.t 7) (.t 35))]) .skip)) (.seq (.reg false 0 [oN 36 (.fld 0 (.t 9)),oN 37 (.load 1 false (.t 36)),oN 38 (oV 1),oN 39 (.bin .eql (.t 37) (.t 38)),oN 40 (oV 39),oG 40 true 41 (.fld 1 (.t 9)),oG 40 true 42 (.load 1 false (.t 41)),oG 40 true 43 (oV 2),oG 40 true 44 (.bin .eql (.t 42) (.t 43)),oN 45 (.pick (.t 40) (.t 44) (.c (.bool false))),oN 46 (oV 45),oG 46 false 47 (.fld 0 (.t 9)),oG 46 false 48 (.load 1 false (.t 47)),oG 46 false 49 (oV 2),oG 46 false 50 (.bin .eql (.t 48) (.t 49)),oG 46 false 51 (oV 50),oG 51 true 52 (.fld 1 (.t 9)),oG 51 true 53 (.load 1 false (.t 52)),oG 51 true 54 (oV 1),oG 51 true 55 (.bin .eql (.t 53) (.t 54)),oG 46 false 56 (.pick (.t 51) (.t 55) (.c (.bool false))),oN 57 (.pick (.t 46) (.c (.bool true)) (.t 56))]) (.cond (.t 57) (.reg false 0 [oN 58 (.fld 2 (.t 9)),oN 59 (.load 3 true (.t 58)),oN 60 (.call 161 [(.t 59)]),oS (.store 3 (.t 7) (.t 60))]) .skip))))) (.reg false 0 [oN 61 (.bin .add (.t 13) (cI 1)),oN 13 (oV 61)]))))))) (.seq (.reg false 0 [oN 62 (.load 3 true (.t 7)),oS (.store 3 (.t 6) (.t 62))]) .ret))))⟩
structure D_impl_informationOf (T : Nat → Option Fn) : Prop where
 hT : T 277 = some F_impl_informationOf
 d_impl_RatFromInt : D_impl_RatFromInt T
 d_impl_ratAdd : D_impl_ratAdd T
 d_impl_ratNeg : D_impl_ratNeg T
def F_impl_InformationMatrix : Fn:=⟨1,46,[.tmp 2],(.seq (.reg false 0 [oN 2 (.mov (.c (.nils)))]) (.seq (.seq (.reg false 0 [oN 10 (oV 0),oN 11 (.call 89 [(.t 10)]),oN 12 (.un .not (.t 11))]) (.cond (.t 12) (.seq (.reg false 0 [oN 2 (.mov (.c (.nils)))]) .ret) .skip)) (.seq (.reg false 0 [oN 13 (oV 0),oN 14 (.call 180 [(.t 13)]),oN 3 (oV 14)]) (.seq (.reg false 1 [oN 15 (.mkSl 1 [.nils] 0 []),oK 4 1 (oV 15)]) (.seq (.seq (.reg false 0 [oN 16 (oV 3),oN 17 (.len (.t 16)),oN 18 (.mov (cI 0))]) (.block 0 (.loop (.seq (.reg false 0 [oN 19 (.bin .lss (.t 18) (.t 17))]) (.seq (.cond (.t 19) .skip (.exit 0)) (.seq (.block 1 (.seq (.reg false 0 [oN 20 (.idx 1 (.t 16) (.t 18)),oN 21 (.load 1 false (.t 20)),oN 6 (oV 21)]) (.seq (.reg false 1 [oN 22 (.mkSl 3 [.bool false,.nils,.nils] 0 []),oK 7 1 (oV 22)]) (.seq (.seq (.reg false 0 [oN 23 (oV 3),oN 24 (.len (.t 23)),oN 25 (.mov (cI 0))]) (.block 2 (.loop (.seq (.reg false 0 [oN 26 (.bin .lss (.t 25) (.t 24))]) (.seq (.cond (.t 26) .skip (.exit 2)) (.seq (.block 3 (.seq (.reg false 0 [oN 27 (.idx 1 (.t 23) (.t 25)),oN 28 (.load 1 false (.t 27)),oN 9 (oV 28)]) (.reg false 2 [oK 29 2 (oV 7),oK 30 2 (oV 0),oK 31 2 (oV 6),oK 32 2 (oV 9),oK 33 2 (.call 277 [(.t 30),(.t 31),(.t 32)]),oN 34 (.mkSl 3 [.bool false,.nils,.nils] 1 [(0,(.t 33))]),oK 35 1 (.app 3 56 (.t 29) (.t 34)),oK 7 2 (oV 35)]))) (.reg false 0 [oN 36 (.bin .add (.t 25) (cI 1)),oN 25 (oV 36)]))))))) (.seq (.seq (.reg false 0 [oN 37 (oV 7),oN 38 (.call 244 [(.t 37)]),oN 39 (.un .not (.t 38))]) (.cond (.t 39) (.seq (.reg false 0 [oN 2 (.mov (.c (.nils)))]) .ret) .skip)) (.reg false 2 [oK 40 2 (oV 4),oK 41 2 (oV 7),oN 42 (.mkSl 1 [.nils] 1 [(0,(.t 41))]),oK 43 1 (.app 1 24 (.t 40) (.t 42)),oK 4 2 (oV 43)])))))) (.reg false 0 [oN 44 (.bin .add (.t 18) (cI 1)),oN 18 (oV 44)]))))))) (.seq (.reg false 0 [oN 45 (oV 4),oN 2 (oV 45)]) .ret))))))⟩
structure D_impl_InformationMatrix (T : Nat → Option Fn) : Prop where
 hT : T 275 = some F_impl_InformationMatrix
 d_impl_IsLinkSet : D_impl_IsLinkSet T
 d_impl_nodesOf : D_impl_nodesOf T
 d_impl_goodRow : D_impl_goodRow T
 d_impl_informationOf : D_impl_informationOf T
theorem rn_bigMake {T : Nat → Option Fn} (h : D_impl_bigMake T) {neg : Bool} {n : Nat} (hn : 0 < n) (hl : (mk n).length ≤ 60) :
  Run T (.fn 68 [.bool neg,.msl 0 0 (mk n).length] [some ⟨1,irows (mk n)⟩]) (.fn (.agg [.bool neg,.msl 0 0 (mk n).length]) [some ⟨1,irows (mk n)⟩]):=by
 obtain ⟨σ',hr,hold,hlen⟩:=rf_bigMake h (neg:=neg) (n:=n) (σ:=[some ⟨1,irows (mk n)⟩]) (o:=0) rfl hn hl
 have:=Run.gcF [0] (by simp) (fun i hi=>by
  have : i = 0:=by simpa using hi
  subst this;rfl) hr
 have e : gcS [0] σ' = [some ⟨1,irows (mk n)⟩]:=by
  have h0 : objAt σ' 0 = some ⟨1,irows (mk n)⟩:=hold 0 (by simp)
  simp [gcS,h0,mapO_ints]
 rw [e] at this
 simpa [mapV,mapV.mapL,place] using this
theorem OwnK_big {T : Nat → Option Fn} (h : D_impl_bigMake T) {as : List Src} {dst : Option Nat} {env : Nat → V} {σ : Store} {kp bs : Nat} {rs ms : List Nat} {k : List Nat → List Nat → Bool → St → Prop} {neg : Bool} {n o : Nat}
  (h0 : objAt σ o = some ⟨1,irows (mk n)⟩) (hn : 0 < n) (ha : (as.map fun s=>s.ev env) = [.bool neg,.msl o 0 (mk n).length]) (hl : (mk n).length ≤ 60)
  (hk : k [o] [] false ⟨updO env dst (.agg [.bool neg,.msl o 0 (mk n).length]),σ,kp,bs,rs,ms⟩) : OwnK T 68 as dst ⟨env,σ,kp,bs,rs,ms⟩ k:=by
 have e1 : gcS [o] σ = [some ⟨1,irows (mk n)⟩]:=by simp [gcS,h0,mapO_ints]
 have ha2 : (as.map fun s=>mapV (place [o]) (s.ev env)) = [.bool neg,.msl 0 0 (mk n).length]:=by
  have:=congrArg (List.map (mapV (place [o]))) ha
  rw [List.map_map] at this
  refine Eq.trans this ?_
  simp [mapV,place]
 refine OwnK_refN (ρ:=[o]) (by simp) (fun q hq=>⟨_,by simp at hq;subst hq;exact h0⟩) ha2 (r:=.agg [.bool neg,.msl 0 0 (mk n).length]) (by rw [e1];exact rn_bigMake h hn hl) (fun n=>by simp [mapV,mapV.mapL,back]) hk
theorem po_ratNegP {T : Nat → Option Fn} (h : D_impl_ratNeg T) {q : Rat} (ha : Q.ok (some q)) (hq : q.num ≠ 0) : PO T 161 [ratV (Q.raw (some q))] (ratV (Q.raw (negQ (some q)))):=by
 obtain ⟨l1,l2⟩:=q_bd ha
 have e : Q.raw (negQ (some q)) = ⟨!decide (q.num < 0),mk q.num.natAbs,mk q.den⟩:=by
  simp only [negQ,Q.raw,Rat.neg_num,Rat.neg_den,Int.natAbs_neg,R.mk.injEq,and_true]
  have e2 : sg (!decide (q.num < 0)) q.num.natAbs = -q.num:=by
   by_cases h1 : q.num < 0
   ·simp [sg,h1];omega
   ·simp [sg,h1];omega
  by_cases h1 : q.num < 0
  ·rw [decide_eq_true h1]
   simp [bi]
   omega
  ·rw [decide_eq_false h1]
   simp [bi]
   omega
 rw [e]
 refine po_end2 (fun x d=>x == 139 || x == 68) h.hT rfl rfl ?_
 dsimp only [F_impl_ratNeg,oN,oS,oG,oK,oA,oH,oV,cI,St.enter,List.length_cons,List.length_nil,Nat.zero_add]
 refine ew ?_
 refine PFK_of (c_goodS h.d_impl_good) ?_
 refine ew ?_
 have hmp:=ln_pos.2 (show 0 < q.num.natAbs by omega)
 refine OwnK_got0 (po_copyInts h.d_impl_copyInts (l:=mk q.num.natAbs) (by omega)) (by (refine ew ?_;try with_reducible exact True.intro);rfl) rfl ?_
 intro v1 q1 o1 g1
 have k1:=g1.ow
 rcases k1.ints_inv with ⟨h1,_,_⟩ | ⟨o,rfl,h1,ho1⟩
 ·rw [h1] at hmp;simp at hmp
 have f1 : ∀ p ∈ o1,2 ≤ p:=g1.fresh
 have n1:=g1.nd
 have B0:=g1.at 0 (by simp) rfl
 have B1:=g1.at 1 (by simp) rfl
 have lq1 : 2 ≤ q1.length:=g1.len
 have old1:=g1.old
 clear g1
 refine ew ?_
 refine OwnK_big h.d_impl_bigMake (neg:=!decide (q.num < 0)) h1 (by omega) rfl (by omega) ?_
 refine ew3 @B0 @numK_any @or_sc ?_
 refine OwnK_got0 (po_copyInts h.d_impl_copyInts (l:=mk q.den) (by omega)) (by (refine ew ?_;try with_reducible exact True.intro);rfl) rfl ?_
 intro v2 q2 o2 g2
 have k2:=g2.ow
 have l2':=k2.leaf rfl
 have f2 : ∀ p ∈ o2,q1.length ≤ p:=g2.fresh
 have n2:=g2.nd
 have B1':=g2.at 1 (by omega) B1
 have lq2 : q1.length ≤ q2.length:=g2.len
 have old2:=g2.old
 clear g2
 have h2q : 2 ≤ q2.length:=by omega
 have fc : v2.cells? = some [v2]:=by
  rcases k2.ints_inv with ⟨_,rfl,_⟩ | ⟨o',rfl,_,_⟩ <;> rfl
 have fc2:=fun k=>cells_lf (v:=v2) l2' k
 refine ew7 @B1' @l2' @h2q @numK_any @or_sc @fc @fc2 ?_
 refine ⟨by unfold OkA;rfl,?_⟩
 have k1lt:=k1.lt
 refine fin_of (owV_rat (o1:=o1) (o2:=o2) (k1.frame fun p hp=>?_) (k2.frame fun p hp=>?_)) ?_
 ·have:=f1 p hp
  rw [objAt_setne (by omega),old2 p (k1lt p hp)]
 ·have:=f2 p hp
  rw [objAt_setne (by omega)]
 ·rw [List.nodup_append]
  refine ⟨n1,n2,fun x hx y hy e=>?_⟩
  have:=k1lt x hx
  have:=f2 y hy
  omega
theorem po_ratNegR {T : Nat → Option Fn} (h : D_impl_ratNeg T) {r : R} (hr : r.cn) (hs : 0 < sgnR r) : PO T 161 [ratV r] (ratV (negR r)):=by
 cases hq : r.q with
 | none=>unfold sgnR at hs;rw [hq] at hs;simp [signQ] at hs
 |
  some q =>
  have ha : Q.ok (some q):=by rw [← hq];exact q_ok r
  have hn : q.num ≠ 0:=fun e=>by
   unfold sgnR at hs
   rw [hq] at hs
   simp [signQ,e,sgn] at hs
  have:=po_ratNegP h ha hn
  unfold negR
  rw [hq]
  rw [← hq,hr] at this
  rw [hq] at this
  exact this
def imStep (v u : Int) (s : R) (l : Lk) : R :=
 if (l.a = v ∧ l.b = u) ∨ (l.a = u ∧ l.b = v) then negR l.w
 else if v = u ∧ (l.a = v ∨ l.b = v) then addR s l.w else s
def imP (s : List Lk) (v u : Int) : Nat → R
 | 0=>intR 0
 | k + 1=>imStep v u (imP s v u k) (s.getD k default)
theorem imP_cn (s : List Lk) (v u : Int) : ∀ k,(imP s v u k).cn
 | 0=>intR_cn (by decide)
 |
  k + 1=>by
  have:=imP_cn s v u k
  simp only [imP]
  unfold imStep
  split
  ·exact negR_cn _
  ·split
   ·exact addR_cn _ _
   ·exact this
def imR (s : List Lk) (v : Int) (j : Nat) : List R:=((nodesM s).take j).map fun u=>imP s v u s.length
def imM (s : List Lk) (i : Nat) : List (List R):=((nodesM s).take i).map fun v=>imR s v (nodesM s).length
theorem imR_s {s : List Lk} {v : Int} {j : Nat} (h : j < (nodesM s).length) : imR s v (j + 1) = imR s v j ++ [imP s v ((nodesM s).getD j default) s.length]:=by
 unfold imR;rw [take_snoc h,List.map_append];rfl
theorem imM_s {s : List Lk} {i : Nat} (h : i < (nodesM s).length) : imM s (i + 1) = imM s i ++ [imR s ((nodesM s).getD i default) (nodesM s).length]:=by
 unfold imM;rw [take_snoc h,List.map_append];rfl
theorem imR_len {s : List Lk} {v : Int} {j : Nat} (h : j ≤ (nodesM s).length) : (imR s v j).length = j:=by unfold imR;rw [List.length_map,List.length_take];omega
theorem imM_len {s : List Lk} {i : Nat} (h : i ≤ (nodesM s).length) : (imM s i).length = i:=by unfold imM;rw [List.length_map,List.length_take];omega
theorem imR_cn (s : List Lk) (v : Int) (j : Nat) : ∀ r ∈ imR s v j,r.cn:=fun r hr=>by
 obtain ⟨u,_,rfl⟩:=List.mem_map.1 hr;exact imP_cn _ _ _ _
def imG (s : List Lk) : Bool:=lksOk s && (imM s (nodesM s).length).all fun r=>r.all R.ok
def imV (s : List Lk) : List (List R):=if imG s = true then imM s (nodesM s).length else []
theorem imV_bad {s : List Lk} (h : imG s = false) : imV s = []:=by unfold imV;rw [h];rfl
theorem imV_good {s : List Lk} (h : imG s = true) : imV s = imM s (nodesM s).length:=if_pos h
theorem imG_l {s : List Lk} (h : lksOk s = false) : imG s = false:=by unfold imG;rw [h];rfl
theorem imG_row {s : List Lk} {i : Nat} (hi : i < (nodesM s).length) (h : (imR s ((nodesM s).getD i default) (nodesM s).length).all R.ok = false) : imG s = false:=by
 unfold imG
 rw [List.all_eq_false.2 ⟨imR s ((nodesM s).getD i default) (nodesM s).length,by unfold imM;rw [List.take_length];exact List.mem_map.2 ⟨_,getD_mem hi,rfl⟩,by rw [h];simp⟩,Bool.and_false]
theorem imG_all {s : List Lk} (hb : lksOk s = true) (h : ∀ i,i < (nodesM s).length → (imR s ((nodesM s).getD i default) (nodesM s).length).all R.ok = true) : imG s = true:=by
 unfold imG
 rw [hb,Bool.true_and,List.all_eq_true]
 intro r hr
 unfold imM at hr
 rw [List.take_length] at hr
 obtain ⟨v,hv,rfl⟩:=List.mem_map.1 hr
 obtain ⟨i,hi⟩:=List.mem_iff_getElem?.1 hv
 have hil:=(List.getElem?_eq_some_iff.1 hi).1
 have:=h i hil
 rwa [List.getD_eq_getElem?_getD,hi] at this
theorem imM_ok (s : List Lk) : ∀ r ∈ imM s (nodesM s).length,(∀ x ∈ r,x.cn) ∧ r.length = (nodesM s).length:=fun r hr=>by
 obtain ⟨v,_,rfl⟩:=List.mem_map.1 hr
 exact ⟨imR_cn _ _ _,imR_len (Nat.le_refl _)⟩
theorem imV_ok (s : List Lk) : szL (szL R.sz) (imV s) ≤ 100000 ∧ wfL (wfL R.wf) (imV s):=by
 cases h : imG s
 ·rw [imV_bad h];exact ⟨by simp [szL],by simp [wfL]⟩
 ·rw [imV_good h]
  have hn:=nodesM_len s
  refine mat_ok (n:=10) (fun r hr=>⟨(imM_ok s r hr).1,by have:=(imM_ok s r hr).2;omega⟩) (by omega) (by rw [imM_len (Nat.le_refl _)];exact hn)
theorem subR_0 {w : R} (h : w.ok = true) : subR (intR 0) w = negR w:=by
 unfold subR negR
 rw [intR_q (by decide)]
 obtain ⟨q,h1,rfl⟩:=ok_raw h
 have hk : Q.ok (some q):=h1
 rw [q_raw hk]
 show (norm (((0 : Int) : Rat) + -q)).raw = (Q.raw (some (-q)))
 have e : ((0 : Int) : Rat) + -q = -q:=by
  rw [Rat.intCast_zero,Rat.zero_add]
 rw [e]
 unfold norm
 rw [if_pos (show fits (-q) = true from negQ_ok hk)]
def LAt (n : Nat) (v : V) (A : List (List V)) (M : List (Nat × Obj)) : Prop:=(A = [] ∧ v = .nils ∧ M = []) ∨ ∃ p,v = .msl p 0 A.length ∧ M = [(p,⟨n,A⟩)]
def tO (l : List (List R)) : List V:=(l.map fun r=>[ratsV r]).flatten
theorem tO_app (l : List (List R)) (r : List R) : tO (l ++ [r]) = tO l ++ [ratsV r]:=by simp [tO]
theorem flat1k : ∀ {A : List (List V)},(∀ r ∈ A,r.length = 1) → A.flatten.length = A.length
 | [],_=>rfl
 |
  a :: A,h=>by
  rw [List.flatten_cons,List.length_append,flat1k fun r hr=>h r (by simp [hr]),h a (by simp),List.length_cons];omega
theorem tO_len (l : List (List R)) : (tO l).length = l.length:=by
 unfold tO
 rw [flat1k (fun r hr=>by obtain ⟨x,_,rfl⟩:=List.mem_map.1 hr;rfl),List.length_map]
theorem mm_rows {n : Nat} {A : List (List V)} {r : List V} (h : ∀ r ∈ A,r.length = n) (hr : r.length = n) : ∀ x ∈ A ++ [r],x.length = n:=fun x hx=>by
 rcases List.mem_append.1 hx with hx | hx
 ·exact h x hx
 ·rw [List.mem_singleton.1 hx];exact hr
def zrow (x : Nat × List R) : List V:=[.msl x.1 0 x.2.length]
def MatA (s : Store) (v : V) (Z : List (Nat × List R)) : Prop:=((Z = [] ∧ v = .nils) ∨ ∃ q,v = .msl q 0 Z.length ∧ objAt s q = some ⟨1,Z.map zrow⟩) ∧ ∀ x ∈ Z,objAt s x.1 = some ⟨3,x.2.map R.cells⟩
theorem MatA.fr {s s2 : Store} {v : V} {Z : List (Nat × List R)} (h : MatA s v Z) (hf : ∀ p,p < s.length → objAt s2 p = objAt s p) : MatA s2 v Z :=
 ⟨h.1.imp id fun ⟨q,e,hq⟩=>⟨q,e,(hf q (objAt_lt hq)).trans hq⟩,fun x hx=>(hf _ (objAt_lt (h.2 x hx))).trans (h.2 x hx)⟩
theorem MatA.map {s : Store} {m : Nat} : ∀ {Z : List (Nat × List R)},(∀ x ∈ Z,objAt s x.1 = some ⟨3,x.2.map R.cells⟩) → ((Z.map zrow).mapM fun r=>r.mapM (resolve s (m + 2))) = some ((Z.map (·.2)).map fun r=>[ratsV r])
 | [],_=>rfl
 |
  x :: Z,h=>by
  have hx:=h x (by simp)
  have e : resolve s (m + 2) (.msl x.1 0 x.2.length) = some (ratsV x.2):=by
   have h2:=st_R x.2
   unfold resolve
   simp only [hx]
   rw [if_pos (by simp),List.drop_zero,List.take_of_length_le (by simp),mapM_stillR (n:=m) h2]
   rfl
  have ih:=MatA.map (m:=m) (Z:=Z) fun y hy=>h y (by simp [hy])
  rw [List.map_cons,List.mapM_cons,ih]
  have : (zrow x).mapM (resolve s (m + 2)) = some [ratsV x.2]:=by
   unfold zrow
   rw [List.mapM_cons,e]
   rfl
  rw [this]
  rfl
theorem MatA.res {s : Store} {q : Nat} {Z : List (Nat × List R)} (h : ∀ x ∈ Z,objAt s x.1 = some ⟨3,x.2.map R.cells⟩) (hq : objAt s q = some ⟨1,Z.map zrow⟩) : resolve s FD (.msl q 0 Z.length) = some (ratssV (Z.map (·.2))):=by
 show resolve s (9 + 2 + 1) _ = _
 unfold resolve
 simp only [hq]
 rw [if_pos (by simp),List.drop_zero,List.take_of_length_le (by simp),MatA.map h]
 rfl
def RowN (s : Store) (n0 : Nat) (v : V) (L : List R) : Prop:=(L = [] ∧ v = .nils) ∨ ∃ p,v = .msl p 0 L.length ∧ n0 ≤ p ∧ objAt s p = some ⟨3,L.map R.cells⟩
theorem RowN.fr {s s2 : Store} {v : V} {n0 : Nat} {L : List R} (h : RowN s n0 v L) (hf : ∀ p,p < s.length → objAt s2 p = objAt s p) : RowN s2 n0 v L :=
 h.imp id fun ⟨q,e,hn,hq⟩=>⟨q,e,hn,(hf q (objAt_lt hq)).trans hq⟩
def F_spec_l09Copy : Fn:=⟨1,35,[.tmp 2],(.seq (.reg false 0 [oN 2 (.mov (.c (.nils)))]) (.seq (.reg false 1 [oN 9 (.mkSl 1 [.nils] 0 []),oK 3 1 (oV 9)]) (.seq (.seq (.reg false 0 [oN 10 (oV 0),oN 11 (.len (.t 10)),oN 12 (.mov (cI 0))]) (.block 0 (.loop (.seq (.reg false 0 [oN 13 (.bin .lss (.t 12) (.t 11))]) (.seq (.cond (.t 13) .skip (.exit 0)) (.seq (.block 1 (.seq (.reg false 0 [oN 14 (.idx 1 (.t 10) (.t 12)),oN 15 (.load 1 false (.t 14)),oN 5 (oV 15)]) (.seq (.reg false 1 [oN 16 (.mkSl 3 [.bool false,.nils,.nils] 0 []),oK 6 1 (oV 16)]) (.seq (.seq (.reg false 0 [oN 17 (oV 5),oN 18 (.len (.t 17)),oN 19 (.mov (cI 0))]) (.block 2 (.loop (.seq (.reg false 0 [oN 20 (.bin .lss (.t 19) (.t 18))]) (.seq (.cond (.t 20) .skip (.exit 2)) (.seq (.block 3 (.seq (.reg false 1 [oK 21 1 (.idx 3 (.t 17) (.t 19)),oK 22 1 (.load 3 true (.t 21)),oN 8 (.alloc [.bool false,.nils,.nils]),⟨none,none,1,.store 3 (.t 8) (.t 22),[]⟩]) (.reg false 2 [oK 23 2 (oV 6),oK 24 2 (.load 3 true (.t 8)),oK 25 2 (.call 204 [(.t 24)]),oN 26 (.mkSl 3 [.bool false,.nils,.nils] 1 [(0,(.t 25))]),oK 27 1 (.app 3 56 (.t 23) (.t 26)),oK 6 2 (oV 27)]))) (.reg false 0 [oN 28 (.bin .add (.t 19) (cI 1)),oN 19 (oV 28)]))))))) (.reg false 2 [oK 29 2 (oV 3),oK 30 2 (oV 6),oN 31 (.mkSl 1 [.nils] 1 [(0,(.t 30))]),oK 32 1 (.app 1 24 (.t 29) (.t 31)),oK 3 2 (oV 32)]))))) (.reg false 0 [oN 33 (.bin .add (.t 12) (cI 1)),oN 12 (oV 33)]))))))) (.seq (.reg false 0 [oN 34 (oV 3),oN 2 (oV 34)]) .ret))))⟩
structure D_spec_l09Copy (T : Nat → Option Fn) : Prop where
 hT : T 325 = some F_spec_l09Copy
 d_spec_l04Copy : D_spec_l04Copy T
def F_spec_ReduceRows : Fn:=⟨2,154,[.tmp 4,.tmp 5],(.seq (.reg false 0 [oN 4 (.mov (.c (.nils))),oN 5 (.mov (.c (.bool false)))]) (.seq (.seq (.reg false 0 [oN 15 (oV 0),oN 16 (oV 1),oN 17 (.call 91 [(.t 15),(.t 16)]),oN 18 (.un .not (.t 17)),oN 19 (oV 18),oG 19 false 20 (oV 1),oG 19 false 21 (oV 0),oG 19 false 22 (.len (.t 21)),oG 19 false 23 (.bin .lss (.t 20) (.t 22)),oN 24 (.pick (.t 19) (.c (.bool true)) (.t 23))]) (.cond (.t 24) (.seq (.reg false 0 [oN 4 (.mov (.c (.nils))),oN 5 (.mov (.c (.bool false)))]) .ret) .skip)) (.seq (.reg false 0 [oN 25 (oV 0),oN 26 (.call 325 [(.t 25)]),oN 6 (oV 26)]) (.seq (.seq (.reg false 0 [oN 27 (oV 6),oN 28 (.len (.t 27)),oN 29 (.mov (cI 0))]) (.block 0 (.loop (.seq (.reg false 0 [oN 30 (.bin .lss (.t 29) (.t 28))]) (.seq (.cond (.t 30) .skip (.exit 0)) (.seq (.block 1 (.seq (.reg false 0 [oN 31 (oV 29),oN 7 (oV 31)]) (.seq (.reg false 0 [oN 32 (oV 7),oN 8 (oV 32)]) (.seq (.block 2 (.loop (.seq (.seq (.reg false 0 [oN 33 (oV 8),oN 34 (oV 6),oN 35 (.len (.t 34)),oN 36 (.bin .lss (.t 33) (.t 35)),oN 37 (oV 36),oG 37 true 38 (oV 6),oG 37 true 39 (oV 8),oG 37 true 40 (.idx 1 (.t 38) (.t 39)),oG 37 true 41 (.load 1 false (.t 40)),oG 37 true 42 (oV 7),oG 37 true 43 (.idx 3 (.t 41) (.t 42)),oG 37 true 44 (.load 3 true (.t 43)),oG 37 true 45 (.call 99 [(.t 44)]),oG 37 true 46 (.bin .eql (.t 45) (cI 0)),oN 47 (.pick (.t 37) (.t 46) (.c (.bool false)))]) (.cond (.t 47) .skip (.exit 2))) (.block 3 (.reg false 0 [oN 48 (oV 8),oN 49 (.bin .add (.t 48) (cI 1)),oN 8 (oV 49)]))))) (.seq (.seq (.reg false 0 [oN 50 (oV 8),oN 51 (oV 6),oN 52 (.len (.t 51)),oN 53 (.bin .eql (.t 50) (.t 52))]) (.cond (.t 53) (.seq (.reg false 0 [oN 4 (.mov (.c (.nils))),oN 5 (.mov (.c (.bool false)))]) .ret) .skip)) (.seq (.reg false 0 [oN 54 (oV 6),oN 55 (oV 7),oN 56 (.idx 1 (.t 54) (.t 55)),oN 57 (.load 1 false (.t 56)),oN 9 (oV 57)]) (.seq (.reg false 0 [oN 58 (oV 6),oN 59 (oV 7),oN 60 (oV 6),oN 61 (oV 8),oN 62 (.idx 1 (.t 60) (.t 61)),oN 63 (.load 1 false (.t 62)),oN 64 (.idx 1 (.t 58) (.t 59)),oS (.store 1 (.t 64) (.t 63))]) (.seq (.reg false 0 [oN 65 (oV 6),oN 66 (oV 8),oN 67 (oV 9),oN 68 (.idx 1 (.t 65) (.t 66)),oS (.store 1 (.t 68) (.t 67))]) (.seq (.reg false 1 [oK 69 1 (oV 6),oK 70 1 (oV 7),oK 71 1 (.idx 1 (.t 69) (.t 70)),oK 72 1 (.load 1 false (.t 71)),oK 73 1 (oV 7),oK 74 1 (.idx 3 (.t 72) (.t 73)),oK 75 1 (.load 3 true (.t 74)),oN 10 (.alloc [.bool false,.nils,.nils]),⟨none,none,1,.store 3 (.t 10) (.t 75),[]⟩]) (.seq (.seq (.reg false 0 [oN 76 (oV 6),oN 77 (oV 7),oN 78 (.idx 1 (.t 76) (.t 77)),oN 79 (.load 1 false (.t 78)),oN 80 (.len (.t 79)),oN 81 (.mov (cI 0))]) (.block 4 (.loop (.seq (.reg false 0 [oN 82 (.bin .lss (.t 81) (.t 80))]) (.seq (.cond (.t 82) .skip (.exit 4)) (.seq (.block 5 (.seq (.reg false 0 [oN 83 (oV 81),oN 11 (oV 83)]) (.reg true 0 [oN 84 (oV 6),oN 85 (oV 7),oA 86 0 (.idx 1 (.t 84) (.t 85)) [0,1],oA 87 0 (.load 1 false (.t 86)) [2],oN 88 (oV 11),oN 89 (oV 6),oN 90 (oV 7),oA 91 0 (.idx 1 (.t 89) (.t 90)) [5,6],oA 92 0 (.load 1 false (.t 91)) [7],oN 93 (oV 11),oA 94 0 (.idx 3 (.t 92) (.t 93)) [8,9],oA 95 0 (.load 3 true (.t 94)) [10],oN 96 (.load 3 true (.t 10)),oA 97 0 (.call 200 [(.t 95),(.t 96)]) [11,12],oA 98 0 (.idx 3 (.t 87) (.t 88)) [3,4,0,1,2,3,4,5,6,7,8,9,10,11,12,13],⟨none,none,0,.store 3 (.t 98) (.t 97),[14,13,13,0,1,2,3,4,5,6,7,8,9,10,11,12,13]⟩]))) (.reg false 0 [oN 99 (.bin .add (.t 81) (cI 1)),oN 81 (oV 99)]))))))) (.seq (.seq (.reg false 0 [oN 100 (oV 6),oN 101 (.len (.t 100)),oN 102 (.mov (cI 0))]) (.block 6 (.loop (.seq (.reg false 0 [oN 103 (.bin .lss (.t 102) (.t 101))]) (.seq (.cond (.t 103) .skip (.exit 6)) (.seq (.block 7 (.seq (.reg false 0 [oN 104 (oV 102),oN 12 (oV 104)]) (.seq (.reg false 1 [oK 105 1 (oV 6),oK 106 1 (oV 12),oK 107 1 (.idx 1 (.t 105) (.t 106)),oK 108 1 (.load 1 false (.t 107)),oK 109 1 (oV 7),oK 110 1 (.idx 3 (.t 108) (.t 109)),oK 111 1 (.load 3 true (.t 110)),oN 13 (.alloc [.bool false,.nils,.nils]),⟨none,none,1,.store 3 (.t 13) (.t 111),[]⟩]) (.seq (.reg false 0 [oN 112 (oV 6),oN 113 (oV 12),oN 114 (.idx 1 (.t 112) (.t 113)),oN 115 (.load 1 false (.t 114)),oN 116 (.len (.t 115)),oN 117 (.mov (cI 0))]) (.block 8 (.loop (.seq (.reg false 0 [oN 118 (.bin .lss (.t 117) (.t 116))]) (.seq (.cond (.t 118) .skip (.exit 8)) (.seq (.block 9 (.seq (.reg false 0 [oN 119 (oV 117),oN 14 (oV 119)]) (.seq (.reg false 0 [oN 120 (oV 12),oN 121 (oV 7),oN 122 (.bin .neq (.t 120) (.t 121))]) (.cond (.t 122) (.reg true 0 [oN 123 (oV 6),oN 124 (oV 12),oA 125 0 (.idx 1 (.t 123) (.t 124)) [0,1],oA 126 0 (.load 1 false (.t 125)) [2],oN 127 (oV 14),oN 128 (oV 6),oN 129 (oV 12),oA 130 0 (.idx 1 (.t 128) (.t 129)) [5,6],oA 131 0 (.load 1 false (.t 130)) [7],oN 132 (oV 14),oA 133 0 (.idx 3 (.t 131) (.t 132)) [8,9],oA 134 0 (.load 3 true (.t 133)) [10],oN 135 (.load 3 true (.t 13)),oN 136 (oV 6),oN 137 (oV 7),oA 138 0 (.idx 1 (.t 136) (.t 137)) [13,14],oA 139 0 (.load 1 false (.t 138)) [15],oN 140 (oV 14),oA 141 0 (.idx 3 (.t 139) (.t 140)) [16,17],oA 142 0 (.load 3 true (.t 141)) [18],oA 143 0 (.call 201 [(.t 135),(.t 142)]) [12,19],oA 144 0 (.call 203 [(.t 134),(.t 143)]) [11,20,20],oA 145 0 (.idx 3 (.t 126) (.t 127)) [3,4,0,1,2,3,4,5,6,7,8,9,10,11,12,13,14,15,16,17,18,19,20,21],⟨none,none,0,.store 3 (.t 145) (.t 144),[22,21,21,0,1,2,3,4,5,6,7,8,9,10,11,12,13,14,15,16,17,18,19,20,21]⟩]) .skip)))) (.reg false 0 [oN 146 (.bin .add (.t 117) (cI 1)),oN 117 (oV 146)])))))))))) (.reg false 0 [oN 147 (.bin .add (.t 102) (cI 1)),oN 102 (oV 147)]))))))) (.seq (.reg false 0 [oN 148 (oV 6),oN 149 (oV 1),oN 150 (.call 91 [(.t 148),(.t 149)]),oN 151 (.un .not (.t 150))]) (.cond (.t 151) (.seq (.reg false 0 [oN 4 (.mov (.c (.nils))),oN 5 (.mov (.c (.bool false)))]) .ret) .skip))))))))))))) (.reg false 0 [oN 152 (.bin .add (.t 29) (cI 1)),oN 29 (oV 152)]))))))) (.seq (.reg false 0 [oN 153 (oV 6),oN 4 (oV 153),oN 5 (.mov (.c (.bool true)))]) .ret)))))⟩
structure D_spec_ReduceRows (T : Nat → Option Fn) : Prop where
 hT : T 310 = some F_spec_ReduceRows
 d_spec_IsMatrix : D_spec_IsMatrix T
 d_spec_RatSign : D_spec_RatSign T
 d_spec_RatDiv : D_spec_RatDiv T
 d_spec_RatMul : D_spec_RatMul T
 d_spec_RatSub : D_spec_RatSub T
 d_spec_l09Copy : D_spec_l09Copy T
def F_impl_subtractRow : Fn:=⟨3,30,[.tmp 6],(.seq (.reg false 1 [oN 5 (.box (.t 2)),oK 6 1 (.mov (.c (.bool false)))]) (.seq (.seq (.reg false 0 [oN 8 (oV 0),oN 9 (.len (.t 8)),oN 10 (.mov (cI 0))]) (.block 0 (.loop (.seq (.reg false 0 [oN 11 (.bin .lss (.t 10) (.t 9))]) (.seq (.cond (.t 11) .skip (.exit 0)) (.seq (.block 1 (.seq (.reg false 0 [oN 12 (oV 10),oN 7 (oV 12)]) (.reg true 0 [oN 13 (oV 0),oN 14 (oV 7),oN 15 (oV 0),oN 16 (oV 7),oA 17 0 (.idx 3 (.t 15) (.t 16)) [2,3],oA 18 0 (.load 3 true (.t 17)) [4],oN 19 (oV 1),oN 20 (oV 7),oA 21 0 (.idx 3 (.t 19) (.t 20)) [6,7],oA 22 0 (.load 3 true (.t 21)) [8],oN 23 (.load 3 true (.t 5)),oA 24 0 (.call 157 [(.t 22),(.t 23)]) [9,10],oA 25 0 (.call 159 [(.t 18),(.t 24)]) [5,11,11],oA 26 0 (.idx 3 (.t 13) (.t 14)) [0,1,0,1,2,3,4,5,6,7,8,9,10,11,12],⟨none,none,0,.store 3 (.t 26) (.t 25),[13,12,12,0,1,2,3,4,5,6,7,8,9,10,11,12]⟩]))) (.reg false 0 [oN 27 (.bin .add (.t 10) (cI 1)),oN 10 (oV 27)]))))))) (.seq (.reg false 0 [oN 28 (oV 0),oN 29 (.call 244 [(.t 28)]),oN 6 (oV 29)]) .ret)))⟩
structure D_impl_subtractRow (T : Nat → Option Fn) : Prop where
 hT : T 245 = some F_impl_subtractRow
 d_impl_ratMul : D_impl_ratMul T
 d_impl_ratSub : D_impl_ratSub T
 d_impl_goodRow : D_impl_goodRow T
def F_impl_ReduceRows : Fn:=⟨2,145,[.tmp 4,.tmp 5],(.seq (.reg false 0 [oN 4 (.mov (.c (.nils))),oN 5 (.mov (.c (.bool false)))]) (.seq (.reg false 0 [oN 15 (oV 0),oN 16 (.len (.t 15)),oN 6 (oV 16)]) (.seq (.seq (.reg false 0 [oN 17 (oV 0),oN 18 (oV 1),oN 19 (.call 93 [(.t 17),(.t 18)]),oN 20 (.un .not (.t 19)),oN 21 (oV 20),oG 21 false 22 (oV 1),oG 21 false 23 (oV 6),oG 21 false 24 (.bin .lss (.t 22) (.t 23)),oN 25 (.pick (.t 21) (.c (.bool true)) (.t 24))]) (.cond (.t 25) (.seq (.reg false 0 [oN 4 (.mov (.c (.nils))),oN 5 (.mov (.c (.bool false)))]) .ret) .skip)) (.seq (.reg false 1 [oN 26 (.mkSl 1 [.nils] 0 []),oK 7 1 (oV 26)]) (.seq (.seq (.reg false 0 [oN 27 (oV 0),oN 28 (.len (.t 27)),oN 29 (.mov (cI 0))]) (.block 0 (.loop (.seq (.reg false 0 [oN 30 (.bin .lss (.t 29) (.t 28))]) (.seq (.cond (.t 30) .skip (.exit 0)) (.seq (.block 1 (.seq (.reg false 0 [oN 31 (.idx 1 (.t 27) (.t 29)),oN 32 (.load 1 false (.t 31)),oN 9 (oV 32)]) (.reg false 4 [oK 33 4 (oV 7),oN 34 (.mkSl 3 [.bool false,.nils,.nils] 0 []),oK 35 4 (oV 9),oK 36 1 (.app 3 56 (.t 34) (.t 35)),oK 37 2 (.mkSl 1 [.nils] 1 [(0,(.t 36))]),oK 38 3 (.app 1 24 (.t 33) (.t 37)),oK 7 4 (oV 38)]))) (.reg false 0 [oN 39 (.bin .add (.t 29) (cI 1)),oN 29 (oV 39)]))))))) (.seq (.seq (.reg false 0 [oN 10 (.mov (cI 0))]) (.block 2 (.loop (.seq (.seq (.reg false 0 [oN 40 (oV 10),oN 41 (oV 6),oN 42 (.bin .lss (.t 40) (.t 41))]) (.cond (.t 42) .skip (.exit 2))) (.seq (.block 3 (.seq (.reg false 0 [oN 45 (oV 10),oN 11 (oV 45)]) (.seq (.block 4 (.loop (.seq (.seq (.reg false 0 [oN 46 (oV 11),oN 47 (oV 6),oN 48 (.bin .lss (.t 46) (.t 47)),oN 49 (oV 48),oG 49 true 50 (oV 7),oG 49 true 51 (oV 11),oG 49 true 52 (.idx 1 (.t 50) (.t 51)),oG 49 true 53 (.load 1 false (.t 52)),oG 49 true 54 (oV 10),oG 49 true 55 (.idx 3 (.t 53) (.t 54)),oG 49 true 56 (.load 3 true (.t 55)),oG 49 true 57 (.call 124 [(.t 56)]),oG 49 true 58 (.bin .eql (.t 57) (cI 0)),oN 59 (.pick (.t 49) (.t 58) (.c (.bool false)))]) (.cond (.t 59) .skip (.exit 4))) (.block 5 (.reg false 0 [oN 60 (oV 11),oN 61 (.bin .add (.t 60) (cI 1)),oN 11 (oV 61)]))))) (.seq (.seq (.reg false 0 [oN 62 (oV 11),oN 63 (oV 6),oN 64 (.bin .eql (.t 62) (.t 63))]) (.cond (.t 64) (.seq (.reg false 0 [oN 4 (.mov (.c (.nils))),oN 5 (.mov (.c (.bool false)))]) .ret) .skip)) (.seq (.reg true 0 [oN 65 (oV 7),oN 66 (oV 10),oN 67 (oV 7),oN 68 (oV 11),oN 69 (oV 7),oN 70 (oV 11),oA 71 0 (.idx 1 (.t 69) (.t 70)) [4,5],oA 72 0 (.load 1 false (.t 71)) [6],oN 73 (oV 7),oN 74 (oV 10),oA 75 0 (.idx 1 (.t 73) (.t 74)) [8,9],oA 76 0 (.load 1 false (.t 75)) [10],oA 77 0 (.idx 1 (.t 65) (.t 66)) [0,1,0,1,4,5,6,7,11],⟨none,none,0,.store 1 (.t 77) (.t 72),[12,7,0,1,4,5,6,7,11]⟩,oA 78 0 (.idx 1 (.t 67) (.t 68)) [2,3,0,1,2,3,4,5,6,7,8,9,10,11,12,13],⟨none,none,0,.store 1 (.t 78) (.t 76),[14,11,13,0,1,2,3,4,5,6,7,8,9,10,11,12,13]⟩]) (.seq (.reg false 1 [oK 79 1 (oV 7),oK 80 1 (oV 10),oK 81 1 (.idx 1 (.t 79) (.t 80)),oK 82 1 (.load 1 false (.t 81)),oK 83 1 (oV 10),oK 84 1 (.idx 3 (.t 82) (.t 83)),oK 85 1 (.load 3 true (.t 84)),oN 12 (.alloc [.bool false,.nils,.nils]),⟨none,none,1,.store 3 (.t 12) (.t 85),[]⟩]) (.seq (.seq (.reg false 0 [oN 86 (oV 7),oN 87 (oV 10),oN 88 (.idx 1 (.t 86) (.t 87)),oN 89 (.load 1 false (.t 88)),oN 90 (.len (.t 89)),oN 91 (.mov (cI 0))]) (.block 6 (.loop (.seq (.reg false 0 [oN 92 (.bin .lss (.t 91) (.t 90))]) (.seq (.cond (.t 92) .skip (.exit 6)) (.seq (.block 7 (.seq (.reg false 0 [oN 93 (oV 91),oN 13 (oV 93)]) (.reg true 0 [oN 94 (oV 7),oN 95 (oV 10),oA 96 0 (.idx 1 (.t 94) (.t 95)) [0,1],oA 97 0 (.load 1 false (.t 96)) [2],oN 98 (oV 13),oN 99 (oV 7),oN 100 (oV 10),oA 101 0 (.idx 1 (.t 99) (.t 100)) [5,6],oA 102 0 (.load 1 false (.t 101)) [7],oN 103 (oV 13),oA 104 0 (.idx 3 (.t 102) (.t 103)) [8,9],oA 105 0 (.load 3 true (.t 104)) [10],oN 106 (.load 3 true (.t 12)),oA 107 0 (.call 156 [(.t 105),(.t 106)]) [11,12],oA 108 0 (.idx 3 (.t 97) (.t 98)) [3,4,0,1,2,3,4,5,6,7,8,9,10,11,12,13],⟨none,none,0,.store 3 (.t 108) (.t 107),[14,13,13,0,1,2,3,4,5,6,7,8,9,10,11,12,13]⟩]))) (.reg false 0 [oN 109 (.bin .add (.t 91) (cI 1)),oN 91 (oV 109)]))))))) (.seq (.seq (.reg false 0 [oN 110 (oV 7),oN 111 (oV 10),oN 112 (.idx 1 (.t 110) (.t 111)),oN 113 (.load 1 false (.t 112)),oN 114 (.call 244 [(.t 113)]),oN 115 (.un .not (.t 114))]) (.cond (.t 115) (.seq (.reg false 0 [oN 4 (.mov (.c (.nils))),oN 5 (.mov (.c (.bool false)))]) .ret) .skip)) (.seq (.reg false 0 [oN 116 (oV 7),oN 117 (.len (.t 116)),oN 118 (.mov (cI 0))]) (.block 8 (.loop (.seq (.reg false 0 [oN 119 (.bin .lss (.t 118) (.t 117))]) (.seq (.cond (.t 119) .skip (.exit 8)) (.seq (.block 9 (.seq (.reg false 0 [oN 120 (oV 118),oN 14 (oV 120)]) (.seq (.reg true 0 [oN 121 (oV 14),oN 122 (oV 10),oA 123 0 (.bin .neq (.t 121) (.t 122)) [0,1],oA 124 0 (oV 123) [2],oH 124 true 125 0 (oV 7) [3],oH 124 true 126 0 (oV 14) [3],oH 124 true 127 0 (.idx 1 (.t 125) (.t 126)) [4,5,3],oH 124 true 128 0 (.load 1 false (.t 127)) [6,3],oH 124 true 129 0 (oV 7) [3],oH 124 true 130 0 (oV 10) [3],oH 124 true 131 0 (.idx 1 (.t 129) (.t 130)) [8,9,3],oH 124 true 132 0 (.load 1 false (.t 131)) [10,3],oH 124 true 133 0 (oV 7) [3],oH 124 true 134 0 (oV 14) [3],oH 124 true 135 0 (.idx 1 (.t 133) (.t 134)) [12,13,3],oH 124 true 136 0 (.load 1 false (.t 135)) [14,3],oH 124 true 137 0 (oV 10) [3],oH 124 true 138 0 (.idx 3 (.t 136) (.t 137)) [15,16,3],oH 124 true 139 0 (.load 3 true (.t 138)) [17,3],oH 124 true 140 0 (.call 245 [(.t 128),(.t 132),(.t 139)]) [7,11,18,3,3],oH 124 true 141 0 (.un .not (.t 140)) [19,3],oA 142 0 (.pick (.t 124) (.t 141) (.c (.bool false))) [3,20]]) (.cond (.t 142) (.seq (.reg false 0 [oN 4 (.mov (.c (.nils))),oN 5 (.mov (.c (.bool false)))]) .ret) .skip)))) (.reg false 0 [oN 143 (.bin .add (.t 118) (cI 1)),oN 118 (oV 143)]))))))))))))))) (.reg false 0 [oN 43 (oV 10),oN 44 (.bin .add (.t 43) (cI 1)),oN 10 (oV 44)])))))) (.seq (.reg false 0 [oN 144 (oV 7),oN 4 (oV 144),oN 5 (.mov (.c (.bool true)))]) .ret)))))))⟩
structure D_impl_ReduceRows (T : Nat → Option Fn) : Prop where
 hT : T 243 = some F_impl_ReduceRows
 d_impl_IsMatrix : D_impl_IsMatrix T
 d_impl_ratSign : D_impl_ratSign T
 d_impl_ratDiv : D_impl_ratDiv T
 d_impl_goodRow : D_impl_goodRow T
 d_impl_subtractRow : D_impl_subtractRow T
abbrev MF:=Nat → List R
def elF (M : MF) (i j : Nat) : R:=(M i).getD j default
def rrP (M : MF) (k : Nat) : Nat → Nat → Nat
 | 0,p=>p
 | f + 1,p=>if sgnR (elF M p k) = 0 then rrP M k f (p + 1) else p
def rrPv (n : Nat) (M : MF) (k : Nat) : Nat:=rrP M k (n - k) k
theorem rrP_z {M : MF} {k n p : Nat} (h : p < n) (hz : sgnR (elF M p k) = 0) : rrP M k (n - p) p = rrP M k (n - (p + 1)) (p + 1):=by
 rw [show n - p = (n - (p + 1)) + 1 by omega];exact if_pos hz
theorem rrP_n {M : MF} {k n p : Nat} (h : p < n) (hz : ¬ sgnR (elF M p k) = 0) : rrP M k (n - p) p = p:=by
 rw [show n - p = (n - (p + 1)) + 1 by omega];exact if_neg hz
def rrSwap (M : MF) (k p : Nat) : MF:=fun i=>if i = p then M k else if i = k then M p else M i
def rrDiv (r : List R) (k : Nat) : List R:=r.map fun x=>divR x (r.getD k default)
def rrSub (r b : List R) (f : R) : List R:=(List.range r.length).map fun j=>subR (r.getD j default) (mulR (b.getD j default) f)
def rrOne (n : Nat) (M : MF) (k : Nat) : MF:=rrSwap M k (rrPv n M k)
def rrTwo (n : Nat) (M : MF) (k : Nat) : MF:=fun i=>if i = k then rrDiv (rrOne n M k k) k else rrOne n M k i
def rrTri (M : MF) (k : Nat) : MF:=fun i=>if i = k then M k else rrSub (M i) (M k) (elF M i k)
def rrMix (M : MF) (k i0 : Nat) : MF:=fun i=>if i < i0 then rrTri M k i else M i
def allOk (n : Nat) (M : MF) : Bool:=allB n fun i=>(M i).all R.ok
def rrStep (n : Nat) (M : MF) (k : Nat) : Option MF :=
 if (decide (rrPv n M k < n) && allOk n (rrTri (rrTwo n M k) k)) = true then some (rrTri (rrTwo n M k) k) else none
def rrIt (n : Nat) (m : MF) : Nat → Option MF
 | 0=>some m
 | k + 1=>(rrIt n m k).bind fun M=>rrStep n M k
theorem rrIt_none {n : Nat} {m : MF} {k : Nat} (h : rrIt n m k = none) : ∀ j,k ≤ j → rrIt n m j = none
 | 0,hj=>by
        have : k = 0:=by omega
        subst this;exact h
 |
  j + 1,hj=>by
  by_cases e : k = j + 1
  ·subst e;exact h
  ·unfold rrIt;rw [rrIt_none h j (by omega)];rfl
theorem rrIt_s {n : Nat} {m M : MF} {k : Nat} (h : rrIt n m k = some M) : rrIt n m (k + 1) = rrStep n M k:=by
 show (rrIt n m k).bind _ = _
 rw [h];rfl
def mF (m : List (List R)) : MF:=fun i=>m.getD i default
def rrC (m : List (List R)) (c : Int) : Bool:=matOk m c && decide ((m.length : Int) ≤ c)
def rrV (m : List (List R)) (c : Int) : Option MF:=if rrC m c = true then rrIt m.length (mF m) m.length else none
def rrM (m : List (List R)) (c : Int) : List (List R):=match rrV m c with
 | some M=>(List.range m.length).map M
 | none=>[]
def rrB (m : List (List R)) (c : Int) : Bool:=(rrV m c).isSome
theorem rrV_bad {m : List (List R)} {c : Int} (h : rrC m c = false) : rrM m c = [] ∧ rrB m c = false:=by
 have e : rrV m c = none:=by unfold rrV;rw [h];rfl
 unfold rrM rrB
 rw [e];exact ⟨rfl,rfl⟩
theorem rrV_none {m : List (List R)} {c : Int} {k : Nat} (hc : rrC m c = true) (h : rrIt m.length (mF m) k = none) (hk : k ≤ m.length) : rrM m c = [] ∧ rrB m c = false:=by
 have e : rrV m c = none:=by unfold rrV;rw [if_pos hc];exact rrIt_none h _ hk
 unfold rrM rrB
 rw [e];exact ⟨rfl,rfl⟩
theorem rrV_some {m : List (List R)} {c : Int} {M : MF} (hc : rrC m c = true) (h : rrIt m.length (mF m) m.length = some M) : rrM m c = (List.range m.length).map M ∧ rrB m c = true:=by
 have e : rrV m c = some M:=by unfold rrV;rw [if_pos hc];exact h
 unfold rrM rrB
 rw [e];exact ⟨rfl,rfl⟩
def OkM (n c : Nat) (M : MF) : Prop:=∀ i,i < n → (M i).length = c ∧ ∀ x ∈ M i,x.cn
theorem OkM.el {n c : Nat} {M : MF} (h : OkM n c M) {i j : Nat} (hi : i < n) (hj : j < c) : (elF M i j).cn:=(h i hi).2 _ (getD_mem (by rw [(h i hi).1];exact hj))
theorem rrDiv_len (r : List R) (k : Nat) : (rrDiv r k).length = r.length:=by unfold rrDiv;simp
theorem rrSub_len (r b : List R) (f : R) : (rrSub r b f).length = r.length:=by unfold rrSub;simp
theorem rrDiv_cn (r : List R) (k : Nat) : ∀ x ∈ rrDiv r k,x.cn:=fun x hx=>by
 obtain ⟨y,_,rfl⟩:=List.mem_map.1 hx;exact divR_cn _ _
theorem rrSub_cn (r b : List R) (f : R) : ∀ x ∈ rrSub r b f,x.cn:=fun x hx=>by
 obtain ⟨y,_,rfl⟩:=List.mem_map.1 hx;exact subR_cn _ _
theorem rrSub_at (r b : List R) (f : R) {j : Nat} (h : j < r.length) : (rrSub r b f).getD j default = subR (r.getD j default) (mulR (b.getD j default) f):=by
 unfold rrSub
 rw [List.getD_eq_getElem?_getD,List.getElem?_map,List.getElem?_range h];rfl
theorem rrDiv_at (r : List R) (k : Nat) {j : Nat} (h : j < r.length) : (rrDiv r k).getD j default = divR (r.getD j default) (r.getD k default):=by
 unfold rrDiv
 generalize r.getD k default = y
 rw [List.getD_eq_getElem?_getD,List.getElem?_map,List.getD_eq_getElem?_getD,List.getElem?_eq_getElem h];rfl
theorem OkM.swap {n c : Nat} {M : MF} (h : OkM n c M) {k p : Nat} (hk : k < n) (hp : p < n) : OkM n c (rrSwap M k p):=fun i hi=>by
 unfold rrSwap
 split
 ·exact h k hk
 ·split
  ·exact h p hp
  ·exact h i hi
theorem OkM.one {n c : Nat} {M : MF} (h : OkM n c M) {k : Nat} (hk : k < n) (hp : rrPv n M k < n) : OkM n c (rrOne n M k):=h.swap hk hp
theorem OkM.two {n c : Nat} {M : MF} (h : OkM n c M) {k : Nat} (hk : k < n) (hp : rrPv n M k < n) : OkM n c (rrTwo n M k):=fun i hi=>by
 unfold rrTwo
 split
 ·exact ⟨by rw [rrDiv_len];exact (h.one hk hp k hk).1,rrDiv_cn _ _⟩
 ·exact h.one hk hp i hi
theorem OkM.tri {n c : Nat} {M : MF} (h : OkM n c M) {k : Nat} (hk : k < n) : OkM n c (rrTri M k):=fun i hi=>by
 unfold rrTri
 split
 ·exact h k hk
 ·exact ⟨by rw [rrSub_len];exact (h i hi).1,rrSub_cn _ _ _⟩
theorem rrMix_0 (M : MF) (k : Nat) : rrMix M k 0 = M:=by funext i;unfold rrMix;rw [if_neg (by omega)]
theorem OkM.mix {n c : Nat} {M : MF} (h : OkM n c M) {k : Nat} (hk : k < n) (i0 : Nat) : OkM n c (rrMix M k i0):=fun i hi=>by
 unfold rrMix
 split
 ·exact h.tri hk i hi
 ·exact h i hi
theorem OkM.step {n c : Nat} {M M' : MF} (h : OkM n c M) {k : Nat} (hk : k < n) (e : rrStep n M k = some M') : OkM n c M':=by
 unfold rrStep at e
 split at e
 ·rename_i hc
  simp only [Bool.and_eq_true,decide_eq_true_eq] at hc
  cases e
  exact (h.two hk hc.1).tri hk
 ·cases e
theorem allOk_iff {n : Nat} {M : MF} : allOk n M = true ↔ ∀ i,i < n → (M i).all R.ok = true:=allB_iff
theorem allOk_f {n : Nat} {M : MF} {i : Nat} (hi : i < n) (h : (M i).all R.ok = false) : allOk n M = false:=allB_f hi h
theorem rrStep_p {n : Nat} {M : MF} {k : Nat} (h : ¬ rrPv n M k < n) : rrStep n M k = none:=by
 unfold rrStep;rw [decide_eq_false h];rfl
theorem rrStep_f {n : Nat} {M : MF} {k : Nat} (h : allOk n (rrTri (rrTwo n M k) k) = false) : rrStep n M k = none:=by
 unfold rrStep;rw [h,Bool.and_false];rfl
theorem rrStep_t {n : Nat} {M : MF} {k : Nat} (hp : rrPv n M k < n) (h : allOk n (rrTri (rrTwo n M k) k) = true) : rrStep n M k = some (rrTri (rrTwo n M k) k):=by
 unfold rrStep;rw [h,decide_eq_true hp];rfl
theorem rrC_ok {m : List (List R)} {c : Int} (h : rrC m c = true) : m.length ≤ 10 ∧ (m.length : Int) ≤ c ∧ matOk m c = true ∧ OkM m.length c.toNat (mF m):=by
 unfold rrC at h
 simp only [Bool.and_eq_true,decide_eq_true_eq] at h
 obtain ⟨h1,h2⟩:=matOk_row h.1
 refine ⟨h2,h.2,h.1,fun i hi=>⟨?_,fun x hx=>?_⟩⟩
 ·have:=(h1 i hi).1;unfold mF;omega
 ·obtain ⟨j,hj⟩:=List.mem_iff_getElem?.1 hx
  have hl:=(List.getElem?_eq_some_iff.1 hj).1
  have:=(h1 i hi).2 j hl
  unfold mF at hj
  rw [List.getD_eq_getElem?_getD,hj] at this
  exact cn_ok this
def mixL {α : Type} (a b : List α) (j : Nat) : List α:=a.take j ++ b.drop j
theorem mixL_0 {α : Type} (a b : List α) : mixL a b 0 = b:=by simp [mixL]
theorem mixL_all {α : Type} (a b : List α) (h : b.length ≤ a.length) (h2 : a.length ≤ b.length) : mixL a b b.length = a:=by
 unfold mixL;rw [List.drop_length,List.append_nil,List.take_of_length_le h2]
theorem mixL_len {α : Type} {a b : List α} {j : Nat} (h : a.length = b.length) : (mixL a b j).length = b.length:=by simp [mixL];omega
theorem mixL_set {α : Type} {a b : List α} {j : Nat} {x d : α} (h : a.length = b.length) (hj : j < b.length) (hx : a.getD j d = x) : (mixL a b j).set j x = mixL a b (j + 1):=by
 have e : (a.take j).length = j:=by simp;omega
 have hja : j < a.length:=by omega
 unfold mixL
 rw [List.set_append_right _ _ (by omega),e,Nat.sub_self,List.drop_eq_getElem_cons hj,List.set_cons_zero]
 have e2 : a.take (j + 1) = a.take j ++ [a[j]]:=by rw [List.take_add_one,List.getElem?_eq_getElem hja];rfl
 have e3 : x = a[j]:=by rw [← hx,List.getD_eq_getElem?_getD,List.getElem?_eq_getElem hja];rfl
 rw [e2,List.append_assoc,e3];rfl
theorem mixL_at {α : Type} {a b : List α} {j : Nat} {d : α} (h : a.length = b.length) {i : Nat} (hi : j ≤ i) (hl : j ≤ b.length) : (mixL a b j).getD i d = b.getD i d:=by
 have e : (a.take j).length = j:=by simp;omega
 unfold mixL
 rw [List.getD_eq_getElem?_getD,List.getElem?_append_right (by omega),e,List.getElem?_drop,List.getD_eq_getElem?_getD]
 congr 2;omega
def LimbOk (s : Store) (v : V) (l : List Int) : Prop:=v = ints l ∨ ∃ o,v = .msl o 0 l.length ∧ objAt s o = some ⟨1,irows l⟩
def CellOk (s : Store) (c : List V) (x : R) : Prop:=∃ v1 v2,c = [.bool x.neg,v1,v2] ∧ LimbOk s v1 x.mag ∧ LimbOk s v2 x.den
def RowOk (s : Store) (A : List (List V)) (r : List R) : Prop:=A.length = r.length ∧ ∀ j,j < r.length → CellOk s (A.getD j []) (r.getD j default)
def Kp (s s2 : Store) : Prop:=∀ o l,objAt s o = some ⟨1,irows l⟩ → objAt s2 o = objAt s o
theorem Kp.refl (s : Store) : Kp s s:=fun _ _ _=>rfl
theorem Kp.trans {a b c : Store} (h : Kp a b) (k : Kp b c) : Kp a c:=fun o l e=>(k o l ((h o l e).trans e)).trans (h o l e)
theorem Kp.old {s s2 : Store} (h : ∀ o,o < s.length → objAt s2 o = objAt s o) : Kp s s2:=fun o l e=>h o (objAt_lt e)
theorem LimbOk.fr {s s2 : Store} {v : V} {l : List Int} (h : LimbOk s v l) (k : Kp s s2) : LimbOk s2 v l:=h.imp id fun ⟨o,e,ho⟩=>⟨o,e,(k o l ho).trans ho⟩
theorem CellOk.fr {s s2 : Store} {c : List V} {x : R} (h : CellOk s c x) (k : Kp s s2) : CellOk s2 c x:=by
 obtain ⟨v1,v2,e,h1,h2⟩:=h;exact ⟨v1,v2,e,h1.fr k,h2.fr k⟩
theorem RowOk.fr {s s2 : Store} {A : List (List V)} {r : List R} (h : RowOk s A r) (k : Kp s s2) : RowOk s2 A r:=⟨h.1,fun j hj=>(h.2 j hj).fr k⟩
theorem LimbOk.leaf {s : Store} {v : V} {l : List Int} (h : LimbOk s v l) : v.leaf = true:=by
 rcases h with rfl | ⟨o,rfl,_⟩ <;> rfl
theorem LimbOk.res {s : Store} {v : V} {l : List Int} (h : LimbOk s v l) (n : Nat) : resolve s (n + 3) v = some (ints l):=by
 rcases h with rfl | ⟨o,rfl,ho⟩
 ·rfl
 ·have:=res_mslS (n:=n + 1) ho (ir_still l)
  rwa [ir_len] at this
theorem limb_frz {s : Store} (l : List Int) : LimbOk s (ints l) l:=.inl rfl
theorem cell_frz {s : Store} (x : R) : CellOk s x.cells x:=⟨_,_,rfl,limb_frz _,limb_frz _⟩
theorem row_frz {s : Store} (r : List R) : RowOk s (r.map R.cells) r:=⟨by simp,fun j hj=>by rw [mg hj];exact cell_frz _⟩
theorem CellOk.mm {s : Store} {c : List V} {x : R} (h : CellOk s c x) (n : Nat) : c.mapM (resolve s (n + 3)) = some x.cells:=by
 obtain ⟨v1,v2,rfl,h1,h2⟩:=h
 simp only [List.mapM_cons,List.mapM_nil,h1.res,h2.res]
 rfl
theorem CellOk.res {s : Store} {c : List V} {x : R} (h : CellOk s c x) : resolve s FD (.agg c) = some (ratV x):=by
 show resolve s (8 + 3 + 1) _ = _
 rw [resolve,h.mm 8];rfl
theorem RowOk.mm {s : Store} {A : List (List V)} {r : List R} (h : RowOk s A r) (n : Nat) : (A.mapM fun (c : List V)=>c.mapM (resolve s (n + 3))) = some (r.map R.cells):=by
 obtain ⟨hl,h⟩:=h
 induction r generalizing A with
 |
  nil =>
  have : A = []:=List.eq_nil_of_length_eq_zero hl
  subst this;rfl
 |
  cons x r ih =>
  rcases A with _ | ⟨a,A⟩
  ·simp at hl
  have h0:=h 0 (by simp)
  simp only [List.getD_cons_zero] at h0
  rw [List.mapM_cons,h0.mm n,ih (by simpa using hl) fun j hj=>by simpa using h (j + 1) (by simpa using hj)]
  rfl
theorem RowOk.resN {s : Store} {A : List (List V)} {r : List R} {p : Nat} (h : RowOk s A r) (hp : objAt s p = some ⟨3,A⟩) (n : Nat) : resolve s (n + 4) (.msl p 0 r.length) = some (ratsV r):=by
 rw [resolve]
 simp only [hp]
 rw [if_pos (by rw [h.1];omega),List.drop_zero,List.take_of_length_le (by rw [h.1];omega),h.mm n];rfl
theorem RowOk.res {s : Store} {A : List (List V)} {r : List R} {p : Nat} (h : RowOk s A r) (hp : objAt s p = some ⟨3,A⟩) : resolve s FD (.msl p 0 r.length) = some (ratsV r):=h.resN hp 8
theorem limb_ow {s : Store} {v : V} {l : List Int} {os : List Nat} (h : OwV s v (ints l) os) : LimbOk s v l ∧ ∀ o ∈ os,∃ l,objAt s o = some ⟨1,irows l⟩:=by
 rcases h.ints_inv with ⟨rfl,rfl,rfl⟩ | ⟨o,rfl,ho,rfl⟩
 ·exact ⟨.inl rfl,by simp⟩
 ·exact ⟨.inr ⟨o,rfl,ho⟩,fun q hq=>by rw [List.mem_singleton.1 hq];exact ⟨_,ho⟩⟩
theorem cell_ow {s : Store} {c : List V} {x : R} {os : List Nat} (h : OwL s c x.cells os) : CellOk s c x ∧ ∀ o ∈ os,∃ l,objAt s o = some ⟨1,irows l⟩:=by
 obtain ⟨cs,rfl,b⟩:=h.bool_inv
 obtain ⟨v1,cs,o1,o2,rfl,rfl,c,d⟩:=b.inv
 obtain ⟨v2,cs,o3,o4,rfl,rfl,e,f⟩:=d.inv
 obtain ⟨rfl,rfl⟩:=f.nil_inv
 have k1:=limb_ow c
 have k2:=limb_ow e
 refine ⟨⟨v1,v2,rfl,k1.1,k2.1⟩,fun o ho=>?_⟩
 rcases List.mem_append.1 ho with ho | ho
 ·exact k1.2 o ho
 ·exact k2.2 o (by simpa using ho)
theorem row_ow {s : Store} : ∀ {r : List R} {A : List (List V)} {os : List Nat},OwR s A (r.map R.cells) os → RowOk s A r ∧ ∀ o ∈ os,∃ l,objAt s o = some ⟨1,irows l⟩
 |
  [],A,os,h=>by
  simp only [List.map_nil,OwR] at h
  obtain ⟨rfl,rfl⟩:=h
  exact ⟨⟨rfl,by simp⟩,by simp⟩
 |
  x :: r,A,os,h=>by
  simp only [List.map_cons,OwR] at h
  obtain ⟨v,vs',o1,o2,rfl,rfl,h1,h2⟩:=h
  have k1:=cell_ow h1
  have k2:=row_ow h2
  refine ⟨⟨by simp [k2.1.1],fun j hj=>?_⟩,fun o ho=>?_⟩
  ·cases j with
   | zero=>exact k1.1
   | succ j=>simpa using k2.1.2 j (by simpa using hj)
  ·rcases List.mem_append.1 ho with ho | ho
   ·exact k1.2 o ho
   ·exact k2.2 o ho
def orow (n c : Nat) (rp : Nat → Nat) : List (List V):=(List.range n).map fun i=>[.msl (rp i) 0 c]
theorem orow_len (n c : Nat) (rp : Nat → Nat) : (orow n c rp).length = n:=by simp [orow]
theorem orow_at {n c : Nat} {rp : Nat → Nat} {i : Nat} (h : i < n) : (orow n c rp)[i]? = some [.msl (rp i) 0 c]:=by
 unfold orow;rw [List.getElem?_map,List.getElem?_range h];rfl
theorem orow_set {n c : Nat} {rp : Nat → Nat} {i p : Nat} : (orow n c rp).set i [.msl p 0 c] = orow n c fun x=>if x = i then p else rp x:=by
 apply List.ext_getElem?
 intro x
 unfold orow
 rw [List.getElem?_set]
 simp only [List.length_map,List.length_range,List.getElem?_map]
 by_cases h : i = x
 ·subst h
  by_cases hn : i < n
  ·simp [hn]
  ·rw [if_pos rfl,if_neg hn,List.getElem?_eq_none (by simpa using hn)];rfl
 ·rw [if_neg h]
  by_cases hn : x < n
  ·rw [List.getElem?_range hn];simp only [Option.map_some];rw [if_neg fun e : x = i=>h e.symm]
  ·rw [List.getElem?_eq_none (by simpa using hn)];rfl
structure Mat (s : Store) (q n c : Nat) (rp : Nat → Nat) (A : Nat → List (List V)) (M : MF) : Prop where
 inj : ∀ i j,i < n → j < n → rp i = rp j → i = j
 out : objAt s q = some ⟨1,orow n c rp⟩
 row : ∀ i,i < n → objAt s (rp i) = some ⟨3,A i⟩
 cel : ∀ i,i < n → RowOk s (A i) (M i)
theorem Mat.lt {s : Store} {q n c : Nat} {rp : Nat → Nat} {A : Nat → List (List V)} {M : MF} (h : Mat s q n c rp A M) : q < s.length ∧ ∀ i,i < n → rp i < s.length:=⟨objAt_lt h.out,fun i hi=>objAt_lt (h.row i hi)⟩
theorem Mat.ne {s : Store} {q n c : Nat} {rp : Nat → Nat} {A : Nat → List (List V)} {M : MF} (h : Mat s q n c rp A M) {i : Nat} (hi : i < n) : rp i ≠ q:=fun e=>by
 have:=h.row i hi
 rw [e,h.out] at this;cases this
theorem Mat.fr {s s2 : Store} {q n c : Nat} {rp : Nat → Nat} {A : Nat → List (List V)} {M : MF} (h : Mat s q n c rp A M) (hf : ∀ p,p < s.length → objAt s2 p = objAt s p) : Mat s2 q n c rp A M :=
 ⟨h.inj,(hf _ h.lt.1).trans h.out,fun i hi=>(hf _ (h.lt.2 i hi)).trans (h.row i hi),fun i hi=>(h.cel i hi).fr (.old hf)⟩
theorem Mat.rres {s : Store} {q n c : Nat} {rp : Nat → Nat} {A : Nat → List (List V)} {M : MF} (h : Mat s q n c rp A M) {i : Nat} (hi : i < n) (hl : (M i).length = c) : resolve s FD (.msl (rp i) 0 c) = some (ratsV (M i)):=by
 have:=(h.cel i hi).res (h.row i hi)
 rwa [hl] at this
theorem Mat.res {s : Store} {q n c : Nat} {rp : Nat → Nat} {A : Nat → List (List V)} {M : MF} (h : Mat s q n c rp A M) (hl : ∀ i,i < n → (M i).length = c) : resolve s FD (.msl q 0 n) = some (ratssV ((List.range n).map M)):=by
 show resolve s (11 + 1) _ = _
 rw [resolve]
 simp only [h.out]
 rw [if_pos (by rw [orow_len];omega),List.drop_zero,List.take_of_length_le (by rw [orow_len];omega)]
 have : ((orow n c rp).mapM fun (r : List V)=>r.mapM (resolve s 11)) = some ((List.range n).map fun i=>[ratsV (M i)]):=by
  unfold orow
  rw [List.mapM_map]
  refine mapM_some fun i hi=>?_
  have hi:=List.mem_range.1 hi
  have h1:=(h.cel i hi).resN (h.row i hi) 7
  rw [hl i hi] at h1
  simp only [Function.comp,List.mapM_cons,List.mapM_nil]
  rw [h1];rfl
 rw [this,Option.map_some]
 unfold ratssV
 rw [List.map_map]
 rfl
theorem Mat.put {s s2 : Store} {q n c k : Nat} {rp : Nat → Nat} {A : Nat → List (List V)} {M : MF} {A2 : List (List V)} {r : List R} (h : Mat s q n c rp A M) (hk : k < n) (hr : objAt s2 (rp k) = some ⟨3,A2⟩) (ho : ∀ o,o < s.length → o ≠ rp k → objAt s2 o = objAt s o) (hok : RowOk s2 A2 r) :
  Mat s2 q n c rp (fun i=>if i = k then A2 else A i) (fun i=>if i = k then r else M i):=by
 have kp : Kp s s2:=fun o l e=>ho o (objAt_lt e) fun e2=>by rw [e2,h.row k hk] at e;cases e
 refine ⟨h.inj,(ho _ h.lt.1 fun e=>h.ne hk e.symm).trans h.out,fun i hi=>?_,fun i hi=>?_⟩
 ·by_cases e : i = k
  ·subst e;rw [if_pos rfl];exact hr
  ·rw [if_neg e];exact (ho _ (h.lt.2 i hi) fun e2=>e (h.inj i k hi hk e2)).trans (h.row i hi)
 ·by_cases e : i = k
  ·subst e;rw [if_pos rfl,if_pos rfl];exact hok
  ·rw [if_neg e,if_neg e];exact (h.cel i hi).fr kp
theorem Mat.ext {s : Store} {q n c : Nat} {rp : Nat → Nat} {A : Nat → List (List V)} {M M2 : MF} (h : Mat s q n c rp A M) (e : ∀ i,i < n → M i = M2 i) : Mat s q n c rp A M2 :=
 ⟨h.inj,h.out,h.row,fun i hi=>e i hi ▸ h.cel i hi⟩
theorem orow_irows {n c : Nat} {rp : Nat → Nat} (hn : 0 < n) (l : List Int) : orow n c rp ≠ irows l:=fun e=>by
 have h1:=orow_at (c:=c) (rp:=rp) hn
 rw [e] at h1
 cases l with
 | nil=>simp [irows] at h1
 | cons x l=>simp [irows] at h1
theorem Mat.swap {s : Store} {q n c k p : Nat} {rp : Nat → Nat} {A : Nat → List (List V)} {M : MF} (h : Mat s q n c rp A M) (hk : k < n) (hp : p < n) {rows : List (List V)} (hrows : rows = ((orow n c rp).set k [.msl (rp p) 0 c]).set p [.msl (rp k) 0 c]) {s2 : Store} (hq : objAt s2 q = some ⟨1,rows⟩) (ho : ∀ o,o ≠ q → o < s.length → objAt s2 o = objAt s o) :
  Mat s2 q n c (fun x=>if x = p then rp k else if x = k then rp p else rp x) (fun x=>if x = p then A k else if x = k then A p else A x) (rrSwap M k p):=by
 have kp : Kp s s2:=fun o l e=>ho o (fun e2=>by
  rw [e2,h.out] at e
  injection e with e
  injection e with _ e
  exact orow_irows (by omega) l e) (objAt_lt e)
 have hr:=fun i hi=>(ho _ (h.ne hi) (h.lt.2 i hi)).trans (h.row i hi)
 have hc:=fun i hi=>(h.cel i hi).fr kp
 refine ⟨fun i j hi hj e=>?_,?_,fun i hi=>?_,fun i hi=>?_⟩
 ·have inj:=h.inj
  by_cases a1 : i = p <;> by_cases b1 : j = p
  ·omega
  ·rw [if_pos a1,if_neg b1] at e
   by_cases b2 : j = k
   ·rw [if_pos b2] at e
    have:=inj k p hk hp e;omega
   ·rw [if_neg b2] at e
    have:=inj k j hk hj e;omega
  ·rw [if_neg a1,if_pos b1] at e
   by_cases b2 : i = k
   ·rw [if_pos b2] at e
    have:=inj p k hp hk e;omega
   ·rw [if_neg b2] at e
    have:=inj i k hi hk e;omega
  ·rw [if_neg a1,if_neg b1] at e
   by_cases a2 : i = k <;> by_cases b2 : j = k
   ·omega
   ·rw [if_pos a2,if_neg b2] at e
    have:=inj p j hp hj e;omega
   ·rw [if_neg a2,if_pos b2] at e
    have:=inj i p hi hp e;omega
   ·rw [if_neg a2,if_neg b2] at e
    exact inj i j hi hj e
 ·rw [hq,hrows,orow_set,orow_set]
 ·split
  ·exact hr k hk
  ·split
   ·exact hr p hp
   ·exact hr i hi
 ·unfold rrSwap
  split
  ·exact hc k hk
  ·split
   ·exact hc p hp
   ·exact hc i hi
structure OwF (s : Store) (A : Nat → List (List V)) (M : MF) (f : Nat → List Nat) (S : Nat → Prop) : Prop where
 ow : ∀ i,S i → OwR s (A i) ((M i).map R.cells) (f i)
 nd : ∀ i,S i → (f i).Nodup
 ap : ∀ i j,S i → S j → i ≠ j → ∀ o ∈ f i,o ∉ f j
theorem owF_no {s : Store} {A : Nat → List (List V)} {M : MF} {f : Nat → List Nat} : OwF s A M f fun _=>False:=⟨fun _ h=>h.elim,fun _ h=>h.elim,fun _ _ h=>h.elim⟩
theorem OwF.kp {s s2 : Store} {A : Nat → List (List V)} {M : MF} {f : Nat → List Nat} {S : Nat → Prop} (h : OwF s A M f S) (k : Kp s s2) : OwF s2 A M f S :=
 ⟨fun i hi=>(h.ow i hi).frame fun o ho=>by obtain ⟨l,hl⟩:=(row_ow (h.ow i hi)).2 o ho;exact k o l hl,h.nd,h.ap⟩
theorem OwF.put {s s2 : Store} {A : Nat → List (List V)} {M : MF} {f : Nat → List Nat} {S : Nat → Prop} {k : Nat} {A2 : List (List V)} {r : List R} {os : List Nat} (h : OwF s A M f S) (kp : Kp s s2) (ho : OwR s2 A2 (r.map R.cells) os) (hn : os.Nodup) (hf : ∀ o ∈ os,s.length ≤ o) :
  OwF s2 (fun i=>if i = k then A2 else A i) (fun i=>if i = k then r else M i) (fun i=>if i = k then os else f i) (fun i=>S i ∨ i = k):=by
 have h2:=h.kp kp
 have lt : ∀ i,S i → ∀ o ∈ f i,o < s.length:=fun i hi=>(h.ow i hi).lt
 refine ⟨fun i hi=>?_,fun i hi=>?_,fun i j hi hj hne o h1 h3=>?_⟩
 ·by_cases e : i = k
  ·subst e;rw [if_pos rfl,if_pos rfl,if_pos rfl];exact ho
  ·rw [if_neg e,if_neg e,if_neg e];exact h2.ow i (hi.resolve_right e)
 ·by_cases e : i = k
  ·subst e;rw [if_pos rfl];exact hn
  ·rw [if_neg e];exact h.nd i (hi.resolve_right e)
 ·by_cases e : i = k
  ·by_cases e2 : j = k
   ·omega
   ·rw [if_pos e] at h1;rw [if_neg e2] at h3
    have:=hf o h1
    have:=lt j (hj.resolve_right e2) o h3
    omega
  ·rw [if_neg e] at h1
   by_cases e2 : j = k
   ·rw [if_pos e2] at h3
    have:=hf o h3
    have:=lt i (hi.resolve_right e) o h1
    omega
   ·rw [if_neg e2] at h3
    exact h.ap i j (hi.resolve_right e) (hj.resolve_right e2) hne o h1 h3
theorem OwF.ext {s : Store} {A : Nat → List (List V)} {M M2 : MF} {f : Nat → List Nat} {S S2 : Nat → Prop} (h : OwF s A M f S) (e : ∀ i,S2 i → S i ∧ M i = M2 i) : OwF s A M2 f S2 :=
 ⟨fun i hi=>(e i hi).2 ▸ h.ow i (e i hi).1,fun i hi=>h.nd i (e i hi).1,fun i j hi hj=>h.ap i j (e i hi).1 (e j hj).1⟩
theorem OwF.fin {s : Store} {q n c : Nat} {rp : Nat → Nat} {A : Nat → List (List V)} {M : MF} {f : Nat → List Nat} (h : Mat s q n c rp A M) (ho : OwF s A M f fun i=>i < n) (hc : 0 < c) (hl : ∀ i,i < n → (M i).length = c) : Fin s (.msl q 0 n) (ratssV ((List.range n).map M)):=by
 have key : ∀ m,m ≤ n → ∃ os,OwR s ((List.range m).map fun i=>[.msl (rp i) 0 c]) (((List.range m).map M).map fun r=>[ratsV r]) os ∧ os.Nodup ∧ ∀ o ∈ os,∃ i,i < m ∧ (o = rp i ∨ o ∈ f i):=by
  intro m
  induction m with
  | zero=>intro _;exact ⟨[],by simp [OwR],.nil,by simp⟩
  |
   succ m ih =>
   intro hm
   obtain ⟨os,k1,k2,k3⟩:=ih (by omega)
   have hm' : m < n:=by omega
   have kinds : ∀ i,i < n → ∀ o ∈ f i,∃ l,objAt s o = some ⟨1,irows l⟩:=fun i hi=>(row_ow (ho.ow i hi)).2
   have hnf : ∀ i j,i < n → j < n → rp i ∉ f j:=fun i j hi hj hm=>by
    obtain ⟨l,hl⟩:=kinds j hj _ hm
    rw [h.row i hi] at hl;cases hl
   have hv : OwV s (.msl (rp m) 0 c) (ratsV (M m)) (rp m :: f m):=by
    unfold ratsV
    simp only [OwV]
    exact .inr ⟨rp m,A m,f m,by rw [List.length_map,hl m hm'],h.row m hm',rfl,ho.ow m hm'⟩
   refine ⟨os ++ (rp m :: f m),?_,?_,fun o ho'=>?_⟩
   ·rw [List.range_succ,List.map_append,List.map_append,List.map_append]
    exact owR_append k1 (owR_1 (owL_1 hv))
   ·rw [List.nodup_append,List.nodup_cons]
    refine ⟨k2,⟨hnf m m hm' hm',ho.nd m hm'⟩,fun x hx y hy e=>?_⟩
    subst e
    obtain ⟨i,hi,hi2⟩:=k3 x hx
    rcases List.mem_cons.1 hy with hy | hy
    ·rcases hi2 with hi2 | hi2
     ·have:=h.inj i m (by omega) hm' (hi2.symm.trans hy);omega
     ·rw [hy] at hi2;exact hnf m i hm' (by omega) hi2
    ·rcases hi2 with hi2 | hi2
     ·rw [hi2] at hy;exact hnf i m (by omega) hm' hy
     ·exact ho.ap i m (by omega) hm' (by omega) x hi2 hy
   ·rcases List.mem_append.1 ho' with ho' | ho'
    ·obtain ⟨i,hi,k⟩:=k3 o ho';exact ⟨i,by omega,k⟩
    ·rcases List.mem_cons.1 ho' with rfl | ho'
     ·exact ⟨m,by omega,.inl rfl⟩
     ·exact ⟨m,by omega,.inr ho'⟩
 obtain ⟨os,k1,k2,k3⟩:=key n (Nat.le_refl _)
 refine fin_of (os:=q :: os) ?_ (List.nodup_cons.2 ⟨fun hm=>?_,k2⟩)
 ·unfold ratssV
  simp only [OwV]
  exact .inr ⟨q,_,os,by simp,h.out,rfl,k1⟩
 ·obtain ⟨i,hi,e | e⟩:=k3 q hm
  ·exact h.ne hi e.symm
  ·obtain ⟨l,hl⟩:=(row_ow (ho.ow i hi)).2 _ e
   rw [h.out] at hl
   injection hl with hl
   injection hl with _ hl
   exact orow_irows (by omega) l hl
theorem mat_sz {m : List (List R)} {n : Nat} (h : ∀ r ∈ m,(∀ x ∈ r,x.cn) ∧ r.length ≤ n) (hn : n ≤ 1048576) (hl : m.length ≤ 10) : szL (szL R.sz) m ≤ 1000000000 ∧ wfL (wfL R.wf) m:=by
 refine ⟨?_,by omega,fun r hr=>⟨by have:=(h r hr).2;omega,fun x hx=>cn_wf ((h r hr).1 x hx)⟩⟩
 have:=szL_bd (f:=szL R.sz) (k:=60000000) (l:=m) fun r hr=>by
  have h1:=szL_bd (f:=R.sz) (k:=48) (l:=r) fun x hx=>by have:=cn_len ((h r hr).1 x hx);unfold R.sz;omega
  have h2:=(h r hr).2
  have : r.length * 49 ≤ 1048576 * 49:=Nat.mul_le_mul_right _ (by omega)
  omega
 have : m.length * 60000001 ≤ 10 * 60000001:=Nat.mul_le_mul_right _ hl
 omega
structure SubI (s0 s : Store) (ri : Nat) (box : Obj) (A : List (List V)) (Z : List R) (j : Nat) (N : List (List V)) (os : List Nat) : Prop where
 row : objAt s ri = some ⟨3,N ++ A.drop j⟩
 nl : N.length = j
 ow : OwR s N ((Z.take j).map R.cells) os
 nd : os.Nodup
 fr : ∀ o ∈ os,s0.length ≤ o
 old : ∀ o,o < s0.length → o ≠ ri → objAt s o = objAt s0 o
 bx : objAt s s0.length = some box
 len : s0.length < s.length
section
variable {s0 s : Store} {ri : Nat} {box : Obj} {A : List (List V)} {Z : List R} {j : Nat} {N : List (List V)} {os : List Nat}
theorem subI_init (hi : objAt s0 ri = some ⟨3,A⟩) : SubI s0 (s0 ++ [some box]) ri box A Z 0 [] [] :=
 ⟨(objAt_snoc_lt (objAt_lt hi)).trans (by rw [List.nil_append,List.drop_zero];exact hi),rfl,by simp [OwR],.nil,by simp,fun o ho _=>objAt_snoc_lt ho,objAt_snoc _ _,by simp⟩
theorem SubI.kp (I : SubI s0 s ri box A Z j N os) (hi : objAt s0 ri = some ⟨3,A⟩) : Kp s0 s:=fun o l e=>I.old o (objAt_lt e) fun e2=>by rw [e2,hi] at e;cases e
theorem SubI.at (I : SubI s0 s ri box A Z j N os) (hj : j < A.length) : (N ++ A.drop j)[j]? = some (A.getD j []):=by
 rw [List.getElem?_append_right (by rw [I.nl];exact Nat.le_refl _),I.nl,Nat.sub_self,List.getElem?_drop,Nat.add_zero,List.getD_eq_getElem?_getD,List.getElem?_eq_getElem hj];rfl
theorem SubI.step (I : SubI s0 s ri box A Z j N os) (hri : ri < s0.length) (hj : j < A.length) (hjZ : j < Z.length) {z : R} (hz : Z.getD j default = z) {q3 : Store} {c : List V} {o3 : List Nat} (old : ∀ o,o < s.length → objAt q3 o = objAt s o) (len : s.length ≤ q3.length)
  (ho : OwL q3 c z.cells o3) (nd3 : o3.Nodup) (fr3 : ∀ o ∈ o3,s.length ≤ o) : SubI s0 (q3.set ri (some ⟨3,(N ++ A.drop j).set j c⟩)) ri box A Z (j + 1) (N ++ [c]) (os ++ o3):=by
 have hl:=I.len
 have ne : ∀ o,ri ≠ o → objAt (q3.set ri (some ⟨3,(N ++ A.drop j).set j c⟩)) o = objAt q3 o:=fun o h=>objAt_setne fun e=>h e.symm
 have e1 : (N ++ A.drop j).set j c = (N ++ [c]) ++ A.drop (j + 1):=by
  rw [List.set_append_right _ _ (by rw [I.nl];exact Nat.le_refl _),I.nl,Nat.sub_self,List.drop_eq_getElem_cons hj,List.set_cons_zero,List.append_assoc];rfl
 refine ⟨?_,by simp [I.nl],?_,?_,fun o h=>?_,fun o h1 h2=>?_,?_,by simp;omega⟩
 ·rw [objAt_seteq (by omega),e1]
 ·rw [take_snoc hjZ,List.map_append,hz]
  refine owR_append (I.ow.frame fun o h=>?_) (owR_1 (ho.frame fun o h=>?_))
  ·have h1:=I.fr o h
   rw [ne o (by omega),old o (I.ow.lt o h)]
  ·have:=fr3 o h
   rw [ne o (by omega)]
 ·rw [List.nodup_append]
  refine ⟨I.nd,nd3,fun x hx y hy e=>?_⟩
  have:=I.ow.lt x hx
  have:=fr3 y hy
  omega
 ·rcases List.mem_append.1 h with h | h
  ·exact I.fr o h
  ·have:=fr3 o h;omega
 ·rw [ne o (fun e=>h2 e.symm),old o (by omega),I.old o h1 h2]
 ·rw [ne _ (by omega),old _ (by omega),I.bx]
theorem SubI.fin (I : SubI s0 s ri box A Z j N os) (h1 : j = A.length) (h2 : j = Z.length) : objAt s ri = some ⟨3,N⟩ ∧ OwR s N (Z.map R.cells) os:=by
 have a:=I.row
 have b:=I.ow
 rw [h1,List.drop_length,List.append_nil] at a
 rw [h2,List.take_length] at b
 exact ⟨a,b⟩
end
theorem LimbOk.r11 {s : Store} {v : V} {l : List Int} (h : LimbOk s v l) : resolve s 11 v = some (ints l):=h.res 8
theorem LimbOk.rch {s : Store} {v : V} {l : List Int} (h : LimbOk s v l) : ∀ n,∀ o ∈ reach s n v,∃ l,objAt s o = some ⟨1,irows l⟩:=by
 intro n o ho
 rcases h with rfl | ⟨q,rfl,hq⟩
 ·cases n <;> simp [reach] at ho
 ·cases n with
  | zero=>simp [reach] at ho
  |
   succ n =>
   simp only [reach,hq,List.mem_cons,List.mem_flatMap] at ho
   rcases ho with rfl | ⟨r,hr,c,hc,ho⟩
   ·exact ⟨_,hq⟩
   ·have hs:=ir_still l r hr c hc
    cases n with
    | zero=>simp [reach] at ho
    | succ n=>rw [reach_still hs] at ho;cases ho
theorem CellOk.rch {s : Store} {c : List V} {x : R} (h : CellOk s c x) : ∀ n,∀ o ∈ reach s n (.agg c),∃ l,objAt s o = some ⟨1,irows l⟩:=by
 intro n o ho
 obtain ⟨v1,v2,rfl,h1,h2⟩:=h
 cases n with
 | zero=>simp [reach] at ho
 |
  succ n =>
  rw [reach_agg] at ho
  obtain ⟨c,hc,ho⟩:=ho
  simp only [List.mem_cons,List.not_mem_nil,or_false] at hc
  rcases hc with rfl | rfl | rfl
  ·cases n <;> simp [reach] at ho
  ·exact h1.rch n o ho
  ·exact h2.rch n o ho
theorem rn_subtractRow {T : Nat → Option Fn} (h : D_impl_subtractRow T) {s0 : Store} {ri rk : Nat} {A B : List (List V)} {X Y : List R} {f : R} {w1 w2 : V}
  (hi : objAt s0 ri = some ⟨3,A⟩) (hk : objAt s0 rk = some ⟨3,B⟩) (hne : ri ≠ rk) (hA : RowOk s0 A X) (hB : RowOk s0 B Y) (hl : Y.length = X.length) (hf1 : LimbOk s0 w1 f.mag) (hf2 : LimbOk s0 w2 f.den)
  (cX : ∀ x ∈ X,x.cn) (cY : ∀ x ∈ Y,x.cn) (cf : f.cn) (hX : X.length ≤ 1048576) :
  ∃
   s' A' os,Run T (.fn 245 [.msl ri 0 X.length,.msl rk 0 X.length,.agg [.bool f.neg,w1,w2]] s0) (.fn (.bool ((rrSub X Y f).all R.ok)) s') ∧
   objAt s' ri = some ⟨3,A'⟩ ∧ OwR s' A' ((rrSub X Y f).map R.cells) os ∧ os.Nodup ∧ (∀ o ∈ os,s0.length ≤ o) ∧ (∀ o,o < s0.length → o ≠ ri → objAt s' o = objAt s0 o) ∧ s0.length ≤ s'.length:=by
 have lw:=And.intro hf1.leaf hf2.leaf
 have hZl:=rrSub_len X Y f
 have hZc:=rrSub_cn X Y f
 have hZa:=fun j (hj : j < X.length)=>rrSub_at X Y f hj
 have hri:=objAt_lt hi
 have hrk:=objAt_lt hk
 have hAl:=hA.1
 have : ∃ r s',Run T (.fn 245 [.msl ri 0 X.length,.msl rk 0 X.length,.agg [.bool f.neg,w1,w2]] s0) (.fn r s') ∧ (r = .bool ((rrSub X Y f).all R.ok) ∧ ∃ A' os,
   objAt s' ri = some ⟨3,A'⟩ ∧ OwR s' A' ((rrSub X Y f).map R.cells) os ∧ os.Nodup ∧ (∀ o ∈ os,s0.length ≤ o) ∧ (∀ o,o < s0.length → o ≠ ri → objAt s' o = objAt s0 o) ∧ s0.length ≤ s'.length):=by
  generalize rrSub X Y f = Z at *
  obtain ⟨p,hp⟩ : ∃ p,p = s0.length:=⟨_,rfl⟩
  have hpri : ri ≠ p:=by omega
  have hprk : rk ≠ p:=by omega
  refine run_end (fun x d=>x == 157 || x == 159) h.hT rfl rfl ?_
  dsimp only [F_impl_subtractRow,oN,oS,oG,oK,oA,oH,oV,cI,St.enter,List.length_cons,List.length_nil,Nat.zero_add]
  refine ew ?_
  have hi1 : objAt (s0 ++ [some (⟨3,[[.bool f.neg,w1,w2]]⟩ : Obj)]) ri = some ⟨3,A⟩:=(objAt_snoc_lt hri).trans hi
  refine ew2 @lw @hi ?_
  refine loop_at (fun x d=>x == 157 || x == 159) (α:=Nat × Store × List (List V) × List Nat) (fun q=>⟨argE [.msl ri 0 X.length,.msl rk 0 X.length,.any,.any,.any,.ptr s0.length 0 0,.any,.any,.msl ri 0 X.length,iv (X.length : Nat),iv (q.1 : Nat)],q.2.1,s0.length,0,[],[]⟩) (fun q=>q.1 ≤ X.length ∧ SubI s0 q.2.1 ri ⟨3,[[.bool f.neg,w1,w2]]⟩ A Z q.1 q.2.2.1 q.2.2.2) (fun q=>X.length - q.1) rfl (0,s0 ++ [some (⟨3,[[.bool f.neg,w1,w2]]⟩ : Obj)],[],[]) ?_ ?_ ?_
  ·exact ⟨by omega,subI_init hi⟩
  ·(refine Fg_env ?_;exact fgW)
  ·rintro ⟨j,s,N,os⟩ ⟨hj,I⟩
   dsimp only at hj I
   have hls:=I.len
   have hbx:=I.bx
   rw [← hp] at hbx ⊢
   by_cases hc : (j : Int) < (X.length : Nat)
   ·have hjl : j < X.length:=by omega
    obtain ⟨a1,a2,ea,ka1,ka2⟩:=hA.2 j hjl
    obtain ⟨b1,b2,eb,kb1,kb2⟩:=hB.2 j (by omega)
    have kp:=I.kp hi
    have cx:=cX _ (getD_mem hjl)
    have cy:=cY _ (getD_mem (l:=Y) (i:=j) (by omega))
    have hz:=hZa j hjl
    have gA:=I.at (by omega)
    rw [ea] at gA
    have gB : B[j]? = some (B.getD j []):=by
     have hjB : j < B.length:=by rw [hB.1];omega
     rw [List.getD_eq_getElem?_getD,List.getElem?_eq_getElem hjB];rfl
    rw [eb] at gB
    have orow:=I.row
    have ork:=(I.old rk hrk (fun e=>hne e.symm)).trans hk
    have hrs : ri < s.length:=by omega
    have hks : rk < s.length:=by omega
    have hps : p < s.length:=by omega
    replace kb1:=kb1.fr kp
    replace kb2:=kb2.fr kp
    have kw1:=hf1.fr kp
    have kw2:=hf2.fr kp
    replace ka1:=ka1.fr kp
    replace ka2:=ka2.fr kp
    generalize X.getD j default = x at *
    generalize Y.getD j default = y at *
    have stp:=fun (q3 : Store) (c : List V) (o3 : List Nat) old len ho nd3 fr3=>I.step (q3:=q3) (c:=c) (o3:=o3) hri (by omega) (by omega) hz old len ho nd3 fr3
    generalize hL : N ++ List.drop j A = L at *
    have R1:=And.intro (And.intro kb1.r11 kb2.r11) (And.intro kw1.r11 kw2.r11)
    refine ew6 @hc (And.intro orow (And.intro ork hbx)) (And.intro gA gB) @R1 @numK_any @or_sc ?_
    refine OwnK_gotP (fun o=>∃ l,objAt s o = some ⟨1,irows l⟩) (show PO T 157 [ratV y,ratV f] (ratV (mulR y f)) from po_ratMulR h.d_impl_ratMul cy cf) (by (refine ew3 @R1 @numK_any @or_sc ?_;try with_reducible exact True.intro)) ?_ ?_
    ·intro o ho
     have ho : o ∈ reach s (11 + 1) (.agg [.bool y.neg,b1,b2]) ++ (reach s (11 + 1) (.agg [.bool f.neg,w1,w2]) ++ []):=ho
     rw [List.append_nil] at ho
     rcases List.mem_append.1 ho with ho | ho
     ·exact CellOk.rch ⟨_,_,rfl,kb1,kb2⟩ _ o ho
     ·exact CellOk.rch ⟨_,_,rfl,kw1,kw2⟩ _ o ho
    intro Q1 r q2 o2 hQ1 G
    have hmc:=mulR_cn y f
    generalize mulR y f = mm at *
    obtain ⟨_,rfl,hQ⟩:=G.ow.agg_inv
    obtain ⟨m1,m2,rfl⟩:=hQ.rat
    obtain ⟨v1,v2,e,km1,km2⟩:=(cell_ow hQ).1
    simp only [List.cons.injEq,and_true,true_and] at e
    obtain ⟨rfl,rfl⟩:=e
    have gl2 : s.length ≤ q2.length:=G.len
    replace ka1:=ka1.fr (.old G.old)
    replace ka2:=ka2.fr (.old G.old)
    have R2:=And.intro (And.intro ka1.r11 ka2.r11) (And.intro km1.r11 km2.r11)
    refine ew3 @R2 @numK_any @or_sc ?_
    refine OwnK_gotP (fun o=>∃ l,objAt q2 o = some ⟨1,irows l⟩) (show PO T 159 [ratV x,ratV mm] (ratV (subR x mm)) from po_ratSubR h.d_impl_ratSub cx hmc) (by (refine ew3 @R2 @numK_any @or_sc ?_;try with_reducible exact True.intro)) ?_ ?_
    ·intro o ho
     have ho : o ∈ reach q2 (11 + 1) (.agg [.bool x.neg,a1,a2]) ++ (reach q2 (11 + 1) (.agg [.bool mm.neg,m1,m2]) ++ []):=ho
     rw [List.append_nil] at ho
     rcases List.mem_append.1 ho with ho | ho
     ·exact CellOk.rch ⟨_,_,rfl,ka1,ka2⟩ _ o ho
     ·exact CellOk.rch ⟨_,_,rfl,km1,km2⟩ _ o ho
    intro Q2 r q3 o3 hQ2 G2
    generalize subR x mm = z at *
    obtain ⟨_,rfl,hQ⟩:=G2.ow.agg_inv
    obtain ⟨z1,z2,rfl⟩:=hQ.rat
    have lz:=OwL.leaf hQ rfl
    simp only [List.all_cons,List.all_nil,Bool.and_true,Bool.and_eq_true] at lz
    have gl3 : q2.length ≤ q3.length:=G2.len
    have old3 : ∀ o,o < s.length → objAt q3 o = objAt s o:=fun o ho=>(G2.old o (by omega)).trans (G.old o ho)
    have row3:=(old3 ri hrs).trans orow
    have hr3 : ri < q3.length:=by omega
    have stp2:=stp q3 _ o3 old3 (by omega) hQ G2.nd (fun o ho=>by have:=G2.fresh o ho;omega)
    have nri : ∀ (q : Store) (l : List Int),objAt q ri = some ⟨3,L⟩ → objAt q ri ≠ some ⟨1,irows l⟩:=fun q l e k=>by rw [e] at k;cases k
    have n1 : ∀ o ∈ Q1,o ≠ ri:=fun o ho e=>by
     obtain ⟨l,hl⟩:=hQ1 o ho
     exact nri s l orow (e ▸ hl)
    have n2 : ∀ o ∈ Q2,o ≠ ri:=fun o ho e=>by
     obtain ⟨l,hl⟩:=hQ2 o ho
     exact nri q2 l ((G.old ri hrs).trans orow) (e ▸ hl)
    clear hQ1 hQ2 stp
    refine ew5 @lz (And.intro row3 hr3) @gA @numK_any @or_sc ?_
    refine ⟨?_,?_⟩
    ·have d1 : ri < s.length:=hrs
     clear stp2 old3 row3 hr3
     revert Q2
     refine OkA_dropA _ (fun R=>∀ o ∈ R,o ≠ ri) 2 12 rfl (fun _=>rfl) ?_ ?_
     ·intro R hR b hb w hw hm
      simp only [List.mem_cons,List.not_mem_nil,or_false] at hb
      rcases hb with rfl | rfl | rfl | rfl | rfl | rfl | rfl | rfl | rfl | rfl | rfl | rfl | rfl | rfl | rfl
      all_goals first | (cases hw;done) | (rw [List.mem_singleton.1 hw] at hm;exact hR _ hm rfl)
     revert Q1
     refine OkA_dropA _ (fun R=>∀ o ∈ R,o ≠ ri) 3 11 rfl (fun _=>rfl) ?_ ?_
     ·intro R hR b hb w hw hm
      simp only [List.mem_cons,List.not_mem_nil,or_false] at hb
      rcases hb with rfl | rfl | rfl | rfl | rfl | rfl | rfl | rfl | rfl | rfl | rfl | rfl | rfl | rfl | rfl
      all_goals first | (cases hw;done) | (rw [List.mem_singleton.1 hw] at hm;exact hR _ hm rfl)
     refine OkA_all3 (aF:=fun a b c=>[⟨14,[a],[a],false⟩,⟨13,[a],[],false⟩,⟨12,[],[],true⟩,⟨11,[],[],true⟩,⟨10,[c],[],false⟩,⟨9,[b],[],false⟩,⟨8,[b],[],false⟩,⟨7,[],[],false⟩,⟨6,[],[],false⟩,⟨5,[a],[],false⟩,⟨4,[a],[],false⟩,⟨3,[],[],false⟩,⟨2,[],[],false⟩,⟨1,[],[],false⟩,⟨0,[],[],false⟩]) ri rk p s.length ?_ ?_ ?_ ?_
     ·exact nd3 hne hpri hprk
     ·exact lt3 hrs hks hps
     ·exact fun _ _ _ _=>rfl
     ·unfold OkA;decide +kernel
    ·refine ⟨(j + 1,?st,N ++ [[.bool z.neg,z1,z2]],os ++ o3),?c1,⟨?c2,?c4⟩,?c3⟩
     case c3=>dsimp only;(refine Fg_env ?_;exact fgW)
     case c1=>dsimp only;omega
     case c2=>dsimp only;omega
     case c4=>exact stp2
   ·have hje : j = X.length:=by omega
    obtain ⟨f1,f2⟩:=I.fin (by omega) (by omega)
    have rw1:=(row_ow f2).1
    have Rf:=rw1.res f1
    rw [hZl] at Rf
    have cg:=c_goodRow h.d_impl_goodRow hZc (by omega)
    refine ew2 @hc @Rf ?_
    refine PFK_of cg ?_
    refine ew ?_
    subst hp
    exact ⟨N,os,f1,f2,I.nd,I.fr,I.old,by omega⟩
 obtain ⟨r,s',h1,rfl,A',os,h2⟩:=this
 exact ⟨s',A',os,h1,h2⟩
end Go.Ml
end
section
namespace Go.Ml
structure SumI (s : Store) (X : R) (x1 x2 : V) (os : List Nat) : Prop where
 a1 : objAt s 1 = some ⟨3,[[.bool X.neg,x1,x2]]⟩
 ow : OwL s [.bool X.neg,x1,x2] X.cells os
 nd : os.Nodup
 fr : ∀ o ∈ os,2 ≤ o
 a0 : objAt s 0 = some ⟨3,[[.bool false,.nils,.nils]]⟩
 len : 2 ≤ s.length
theorem SumI.snoc {s : Store} {X : R} {x1 x2 : V} {os : List Nat} (h : SumI s X x1 x2 os) {a : Option Obj} : SumI (s ++ [a]) X x1 x2 os:=by
 have:=h.len
 refine ⟨(objAt_snoc_lt (by omega)).trans h.a1,h.ow.frame fun o ho=>objAt_snoc_lt (h.ow.lt o ho),h.nd,h.fr,(objAt_snoc_lt (by omega)).trans h.a0,by simp;omega⟩
theorem SumI.put {s q : Store} {X Z : R} {x1 x2 z1 z2 : V} {os o2 : List Nat} (h : SumI s X x1 x2 os) (hq : OwL q [.bool Z.neg,z1,z2] Z.cells o2) (nd : o2.Nodup) (fr : ∀ o ∈ o2,s.length ≤ o) (old : ∀ o,o < s.length → objAt q o = objAt s o) (hl : s.length ≤ q.length) :
  SumI (q.set 1 (some ⟨3,[[.bool Z.neg,z1,z2]]⟩)) Z z1 z2 o2:=by
 have:=h.len
 refine ⟨objAt_seteq (by omega),hq.frame fun o ho=>objAt_setne (by have:=fr o ho;omega),nd,fun o ho=>by have:=fr o ho;omega,?_,by simp;omega⟩
 rw [objAt_setne (by omega),old 0 (by omega),h.a0]
theorem po_informationOf {T : Nat → Option Fn} (h : D_impl_informationOf T) {S : List Lk} {v u : Int} (hb : lksOk S = true) (hl : S.length ≤ 1048576) : PO T 277 [lksV S,iv v,iv u] (ratV (imP S v u S.length)):=by
 refine po_end2 (fun x d=>x == 39 || x == 131 || x == 161) h.hT rfl rfl ?_
 dsimp only [F_impl_informationOf,oN,oS,oG,oK,oA,oH,oV,cI,St.enter,List.length_cons,List.length_nil,Nat.zero_add]
 refine ew ?_
 refine RefK_got (po_RatFromInt h.d_impl_RatFromInt (n:=0)) (by (refine ew ?_;try with_reducible exact True.intro)) ?_
 intro r q1 o1 G
 obtain ⟨_,rfl,hQ⟩:=G.ow.agg_inv
 obtain ⟨x1,x2,rfl⟩:=hQ.rat
 have l1:=OwL.leaf hQ rfl
 simp only [List.all_cons,List.all_nil,Bool.and_true,Bool.and_eq_true] at l1
 have gl : 2 ≤ q1.length:=by have:=G.len;simpa using this
 have g0 : objAt q1 0 = some ⟨3,[[.bool false,.nils,.nils]]⟩:=G.old 0 (by simp)
 have S0 : SumI (q1.set 1 (some ⟨3,[[.bool (intR 0).neg,x1,x2]]⟩)) (intR 0) x1 x2 o1:=by
  have f1:=G.fresh
  refine ⟨objAt_seteq (by omega),hQ.frame fun o ho=>objAt_setne (by have:=f1 o ho;simp at this;omega),G.nd,fun o ho=>by have:=f1 o ho;simp at this;omega,by rw [objAt_setne (by omega)];exact g0,by simp;omega⟩
 refine ew3 @l1 @gl @List.set_set.{0} ?_
 refine loop_at (fun x d=>x == 39 || x == 131 || x == 161) (α:=Nat × Store × V × V × List Nat) (fun q=>⟨argE [.any,iv v,iv u,.any,.any,.any,.ptr 0 0 0,.ptr 1 0 0,.any,.any,.any,lksV S,iv (S.length : Nat),iv (q.1 : Nat)],q.2.1,0,0,[],[]⟩) (fun q=>q.1 ≤ S.length ∧ SumI q.2.1 (imP S v u q.1) q.2.2.1 q.2.2.2.1 q.2.2.2.2) (fun q=>S.length - q.1) rfl (0,q1.set 1 (some ⟨3,[[.bool (intR 0).neg,x1,x2]]⟩),x1,x2,o1) ?_ ?_ ?_
 ·exact ⟨Nat.zero_le _,S0⟩
 ·(refine Fg_env ?_;exact fgW)
 ·clear S0 g0 gl l1 hQ G
  rintro ⟨k,s,x1,x2,os⟩ ⟨hk,I⟩
  dsimp only at hk I
  have hX:=imP_cn S v u k
  have I1:=I.a1
  have I0:=I.a0
  have hsl:=I.len
  have lx:=I.ow.leaf rfl
  simp only [List.all_cons,List.all_nil,Bool.and_true,Bool.and_eq_true] at lx
  by_cases hc : (k : Int) < (S.length : Nat)
  ·have hkl : k < S.length:=by omega
   have hx : (S.map Lk.cells).getD k [] = (S.getD k default).cells:=mg hkl
   have es : imP S v u (k + 1) = imStep v u (imP S v u k) (S.getD k default):=rfl
   have hlk:=lksOk_mem hb (getD_mem hkl)
   obtain ⟨hn0,hn1,hn2⟩:=lkOk_nd hlk
   obtain ⟨kw,kx,ky,kp⟩:=lkOk_ok hlk
   have cw:=cn_ok kw
   generalize S.getD k default = l at *
   generalize imP S v u k = X at *
   have Gx:=I.snoc (a:=some ⟨11,[l.cells]⟩)
   obtain ⟨w1,w2,e,km1,km2⟩:=(cell_ow I.ow).1
   simp only [List.cons.injEq,and_true,true_and] at e
   obtain ⟨rfl,rfl⟩:=e
   have R1:=And.intro (fun a : Option Obj=>(km1.fr (s2:=s ++ [a]) (.old fun o ho=>objAt_snoc_lt ho)).r11) (fun a : Option Obj=>(km2.fr (s2:=s ++ [a]) (.old fun o ho=>objAt_snoc_lt ho)).r11)
   have e4 : ∀ σ : Store,resolve σ FD (ratV l.w) = some (ratV l.w):=fun σ=>res_agg_still (st_R [l.w] _ (by simp))
   unfold imStep at es
   by_cases huv : v = u
   ·have f0 : (v = u) = True:=eq_true huv
    by_cases h1 : l.a = v
    ·have f1 : (l.a = v) = True:=eq_true (by omega)
     have f2 : (l.b = v) = False:=eq_false (by omega)
     have f3 : (l.b = u) = False:=eq_false (by omega)
     have f4 : (l.a = u) = True:=eq_true (by omega)
     refine ew4 @hc @hx (And.intro f0 (And.intro f1 (And.intro f2 (And.intro f3 f4)))) @I1 ?_
     refine RefK_got (po_ratAddR h.d_impl_ratAdd hX cw) (by (refine ew3 @R1 @e4 @hx ?_;try with_reducible exact True.intro);try rfl) ?_
     intro r q2 o2 G
     obtain ⟨_,rfl,hQ⟩:=G.ow.agg_inv
     obtain ⟨z1,z2,rfl⟩:=hQ.rat
     have lz:=OwL.leaf hQ rfl
     simp only [List.all_cons,List.all_nil,Bool.and_true,Bool.and_eq_true] at lz
     have gl : s.length + 1 ≤ q2.length:=by have:=G.len;simpa using this
     have B1 : objAt q2 1 = some ⟨3,[[.bool X.neg,x1,x2]]⟩:=(G.old 1 (by simp;omega)).trans Gx.a1
     have B9 : objAt q2 s.length = some ⟨11,[l.cells]⟩:=(G.old s.length (by simp)).trans (objAt_snoc _ _)
     have Z:=Gx.put hQ G.nd (fun o ho=>G.fresh o ho) (fun o ho=>G.old o ho) G.len
     have hns : s.length ≠ 1:=by omega
     have h1q : 1 < q2.length:=by omega
     refine ew5 @lz @B1 @B9 (And.intro f0 (And.intro f1 (And.intro f2 (And.intro f3 f4)))) @List.set_set.{0} ?_
     refine ⟨(k + 1,?st1,z1,z2,o2),?c1,⟨?c2,?c4⟩,?c3⟩
     case c3=>dsimp only;(refine Fg_env ?_;exact fgW)
     case c1=>dsimp only;omega
     case c2=>dsimp only;omega
     case c4 =>
      dsimp only
      rw [es,if_neg (by omega),if_pos (by omega)]
      exact Z
    ·by_cases h2 : l.b = v
     ·have f1 : (l.a = v) = False:=eq_false (by omega)
      have f2 : (l.b = v) = True:=eq_true (by omega)
      have f3 : (l.b = u) = True:=eq_true (by omega)
      have f4 : (l.a = u) = False:=eq_false (by omega)
      refine ew4 @hc @hx (And.intro f0 (And.intro f1 (And.intro f2 (And.intro f3 f4)))) @I1 ?_
      refine RefK_got (po_ratAddR h.d_impl_ratAdd hX cw) (by (refine ew3 @R1 @e4 @hx ?_;try with_reducible exact True.intro);try rfl) ?_
      intro r q2 o2 G
      obtain ⟨_,rfl,hQ⟩:=G.ow.agg_inv
      obtain ⟨z1,z2,rfl⟩:=hQ.rat
      have lz:=OwL.leaf hQ rfl
      simp only [List.all_cons,List.all_nil,Bool.and_true,Bool.and_eq_true] at lz
      have gl : s.length + 1 ≤ q2.length:=by have:=G.len;simpa using this
      have B1 : objAt q2 1 = some ⟨3,[[.bool X.neg,x1,x2]]⟩:=(G.old 1 (by simp;omega)).trans Gx.a1
      have B9 : objAt q2 s.length = some ⟨11,[l.cells]⟩:=(G.old s.length (by simp)).trans (objAt_snoc _ _)
      have Z:=Gx.put hQ G.nd (fun o ho=>G.fresh o ho) (fun o ho=>G.old o ho) G.len
      have hns : s.length ≠ 1:=by omega
      have h1q : 1 < q2.length:=by omega
      refine ew5 @lz @B1 @B9 (And.intro f0 (And.intro f1 (And.intro f2 (And.intro f3 f4)))) @List.set_set.{0} ?_
      refine ⟨(k + 1,?st2,z1,z2,o2),?c1,⟨?c2,?c4⟩,?c3⟩
      case c3=>dsimp only;(refine Fg_env ?_;exact fgW)
      case c1=>dsimp only;omega
      case c2=>dsimp only;omega
      case c4 =>
       dsimp only
       rw [es,if_neg (by omega),if_pos (by omega)]
       exact Z
     ·have f1 : (l.a = v) = False:=eq_false (by omega)
      have f2 : (l.b = v) = False:=eq_false (by omega)
      have f3 : (l.b = u) = False:=eq_false (by omega)
      have f4 : (l.a = u) = False:=eq_false (by omega)
      refine ew4 @hc @hx (And.intro f0 (And.intro f1 (And.intro f2 (And.intro f3 f4)))) @I1 ?_
      refine ⟨(k + 1,?st3,x1,x2,os),?c1,⟨?c2,?c4⟩,?c3⟩
      case c3=>dsimp only;(refine Fg_env ?_;exact fgW)
      case c1=>dsimp only;omega
      case c2=>dsimp only;omega
      case c4 =>
       dsimp only
       rw [es,if_neg (by omega),if_neg (by omega)]
       exact Gx
   ·have f0 : (v = u) = False:=eq_false huv
    by_cases h1 : l.a = v
    ·by_cases h2 : l.b = u
     ·have f1 : (l.a = v) = True:=eq_true (by omega)
      have f3 : (l.b = u) = True:=eq_true (by omega)
      have f4 : (l.a = u) = False:=eq_false (by omega)
      refine ew4 @hc @hx (And.intro f0 (And.intro f1 (And.intro f3 f4))) @I1 ?_
      refine RefK_got (po_ratNegR h.d_impl_ratNeg cw kp) (by (refine ew3 @R1 @e4 @hx ?_;try with_reducible exact True.intro);try rfl) ?_
      intro r q2 o2 G
      obtain ⟨_,rfl,hQ⟩:=G.ow.agg_inv
      obtain ⟨z1,z2,rfl⟩:=hQ.rat
      have lz:=OwL.leaf hQ rfl
      simp only [List.all_cons,List.all_nil,Bool.and_true,Bool.and_eq_true] at lz
      have gl : s.length + 1 ≤ q2.length:=by have:=G.len;simpa using this
      have B1 : objAt q2 1 = some ⟨3,[[.bool X.neg,x1,x2]]⟩:=(G.old 1 (by simp;omega)).trans Gx.a1
      have B9 : objAt q2 s.length = some ⟨11,[l.cells]⟩:=(G.old s.length (by simp)).trans (objAt_snoc _ _)
      have Z:=Gx.put hQ G.nd (fun o ho=>G.fresh o ho) (fun o ho=>G.old o ho) G.len
      have hns : s.length ≠ 1:=by omega
      have h1q : 1 < q2.length:=by omega
      refine ew5 @lz @B1 @B9 (And.intro f0 (And.intro f1 (And.intro f3 f4))) @List.set_set.{0} ?_
      refine ⟨(k + 1,?st4,z1,z2,o2),?c1,⟨?c2,?c4⟩,?c3⟩
      case c3=>dsimp only;(refine Fg_env ?_;exact fgW)
      case c1=>dsimp only;omega
      case c2=>dsimp only;omega
      case c4 =>
       dsimp only
       rw [es,if_pos (by omega)]
       exact Z
     ·have f1 : (l.a = v) = True:=eq_true (by omega)
      have f3 : (l.b = u) = False:=eq_false (by omega)
      have f4 : (l.a = u) = False:=eq_false (by omega)
      refine ew4 @hc @hx (And.intro f0 (And.intro f1 (And.intro f3 f4))) @I1 ?_
      refine ⟨(k + 1,?st5,x1,x2,os),?c1,⟨?c2,?c4⟩,?c3⟩
      case c3=>dsimp only;(refine Fg_env ?_;exact fgW)
      case c1=>dsimp only;omega
      case c2=>dsimp only;omega
      case c4 =>
       dsimp only
       rw [es,if_neg (by omega),if_neg (by omega)]
       exact Gx
    ·by_cases h2 : l.a = u
     ·by_cases h3 : l.b = v
      ·have f1 : (l.a = v) = False:=eq_false (by omega)
       have f4 : (l.a = u) = True:=eq_true (by omega)
       have f2 : (l.b = v) = True:=eq_true (by omega)
       refine ew4 @hc @hx (And.intro f0 (And.intro f1 (And.intro f4 f2))) @I1 ?_
       refine RefK_got (po_ratNegR h.d_impl_ratNeg cw kp) (by (refine ew3 @R1 @e4 @hx ?_;try with_reducible exact True.intro);try rfl) ?_
       intro r q2 o2 G
       obtain ⟨_,rfl,hQ⟩:=G.ow.agg_inv
       obtain ⟨z1,z2,rfl⟩:=hQ.rat
       have lz:=OwL.leaf hQ rfl
       simp only [List.all_cons,List.all_nil,Bool.and_true,Bool.and_eq_true] at lz
       have gl : s.length + 1 ≤ q2.length:=by have:=G.len;simpa using this
       have B1 : objAt q2 1 = some ⟨3,[[.bool X.neg,x1,x2]]⟩:=(G.old 1 (by simp;omega)).trans Gx.a1
       have B9 : objAt q2 s.length = some ⟨11,[l.cells]⟩:=(G.old s.length (by simp)).trans (objAt_snoc _ _)
       have Z:=Gx.put hQ G.nd (fun o ho=>G.fresh o ho) (fun o ho=>G.old o ho) G.len
       have hns : s.length ≠ 1:=by omega
       have h1q : 1 < q2.length:=by omega
       refine ew5 @lz @B1 @B9 (And.intro f0 (And.intro f1 (And.intro f4 f2))) @List.set_set.{0} ?_
       refine ⟨(k + 1,?st6,z1,z2,o2),?c1,⟨?c2,?c4⟩,?c3⟩
       case c3=>dsimp only;(refine Fg_env ?_;exact fgW)
       case c1=>dsimp only;omega
       case c2=>dsimp only;omega
       case c4 =>
        dsimp only
        rw [es,if_pos (by omega)]
        exact Z
      ·have f1 : (l.a = v) = False:=eq_false (by omega)
       have f4 : (l.a = u) = True:=eq_true (by omega)
       have f2 : (l.b = v) = False:=eq_false (by omega)
       refine ew4 @hc @hx (And.intro f0 (And.intro f1 (And.intro f4 f2))) @I1 ?_
       refine ⟨(k + 1,?st7,x1,x2,os),?c1,⟨?c2,?c4⟩,?c3⟩
       case c3=>dsimp only;(refine Fg_env ?_;exact fgW)
       case c1=>dsimp only;omega
       case c2=>dsimp only;omega
       case c4 =>
        dsimp only
        rw [es,if_neg (by omega),if_neg (by omega)]
        exact Gx
     ·have f1 : (l.a = v) = False:=eq_false (by omega)
      have f4 : (l.a = u) = False:=eq_false (by omega)
      refine ew4 @hc @hx (And.intro f0 (And.intro f1 f4)) @I1 ?_
      refine ⟨(k + 1,?st8,x1,x2,os),?c1,⟨?c2,?c4⟩,?c3⟩
      case c3=>dsimp only;(refine Fg_env ?_;exact fgW)
      case c1=>dsimp only;omega
      case c2=>dsimp only;omega
      case c4 =>
       dsimp only
       rw [es,if_neg (by omega),if_neg (by omega)]
       exact Gx
  ·have hke : k = S.length:=by omega
   rw [hke] at I I1 hX
   generalize imP S v u S.length = X at *
   refine ew5 @hc @I1 @I0 @lx @List.set_set.{0} ?_
   have f1:=I.fr
   exact fin_of (owV_agg (I.ow.frame fun o ho=>objAt_setne (by have:=f1 o ho;omega))) I.nd
theorem po_iInformationMatrix {T : Nat → Option Fn} (h : D_impl_InformationMatrix T) {S : List Lk} (hw : wfL Lk.wf S) (hl : S.length ≤ 1048576) : PO T 275 [lksV S] (ratssV (imV S)):=by
 have ci:=c_iIsLinkSet h.d_impl_IsLinkSet hw
 cases hb : lksOk S
 ·rw [hb] at ci
  rw [imV_bad (imG_l hb)]
  refine po_end2 (fun _ _=>false) h.hT rfl rfl ?_
  dsimp only [F_impl_InformationMatrix,oN,oS,oG,oK,oA,oH,oV,cI,St.enter,List.length_cons,List.length_nil,Nat.zero_add]
  refine ew ?_
  refine PFK_of ci ?_
  refine ew ?_
  exact fin_nil
 rw [hb] at ci
 have cn:=(po_inodesOf h.d_impl_nodesOf (l:=S) hw).frz (dep_ints _ _)
 rw [← nodesM_t hb] at cn
 have hnl:=nodesM_len S
 refine po_end2 (fun x d=>x == 277) h.hT rfl rfl ?_
 dsimp only [F_impl_InformationMatrix,oN,oS,oG,oK,oA,oH,oV,cI,St.enter,List.length_cons,List.length_nil,Nat.zero_add]
 refine ew ?_
 refine PFK_of ci ?_
 refine ew ?_
 refine PFK_of cn ?_
 refine ew ?_
 refine loop_at (fun x d=>x == 277) (α:=Nat × Store × V × List (List V) × List Nat × List (Nat × Obj)) (fun q=>⟨argE [lksV S,.any,.any,ints (nodesM S),q.2.2.1,.any,.any,.any,.any,.any,.any,.any,.any,.any,.any,.any,ints (nodesM S),iv ((nodesM S).length : Nat),iv (q.1 : Nat)],q.2.1,0,0,[],[]⟩) (fun q=>(q.1 ≤ (nodesM S).length ∧ LAt 1 q.2.2.1 q.2.2.2.1 q.2.2.2.2.2 ∧ (∀ r ∈ q.2.2.2.1,r.length = 1) ∧ q.2.2.2.1.length = q.1 ∧ ∀ z,z < q.1 → (imR S ((nodesM S).getD z default) (nodesM S).length).all R.ok = true) ∧ Ep q.2.1 q.2.2.2.1.flatten (tO (imM S q.1)) q.2.2.2.2.1 q.2.2.2.2.2) (fun q=>(nodesM S).length - q.1) rfl (0,[none],.nils,[],[],[]) ?_ ?_ ?_
 ·exact ⟨⟨by omega,.inl ⟨rfl,rfl,rfl⟩,by simp,rfl,by intro z hz;omega⟩,⟨⟨by simp [tO,imM,OwL],.nil⟩,by simp⟩⟩
 ·(refine Fg_env ?_;exact fgW)
 ·rintro ⟨i,s,v4,OA,os,M⟩ ⟨⟨hi,hv6,hOA,hOl,hok⟩,E⟩
  dsimp only at hi hv6 hOA hOl hok E
  by_cases hcc : (i : Int) < ((nodesM S).length : Nat)
  ·have hil : i < (nodesM S).length:=by omega
   have eO:=imM_s hil
   have hTO : OA.flatten.length = (tO (imM S i)).length:=by rw [flat1k hOA,tO_len,imM_len hi];omega
   have hbad:=imG_row hil
   have hok2 : (imR S ((nodesM S).getD i default) (nodesM S).length).all R.ok = true → ∀ z,z < i + 1 → (imR S ((nodesM S).getD z default) (nodesM S).length).all R.ok = true:=fun h z hz=>by
    by_cases e : z = i
    ·subst e;exact h
    ·exact hok z (by omega)
   generalize hTOe : tO (imM S i) = TO at *
   obtain ⟨v,hv⟩ : ∃ v,(nodesM S).getD i 0 = v:=⟨_,rfl⟩
   rw [show (nodesM S).getD i default = v from hv] at eO hbad hok2
   refine ew2 @hcc @hv ?_
   refine loop_at (fun x d=>x == 277) (α:=Nat × Store × V × List (List V) × List Nat × List (Nat × Obj)) (fun q=>⟨argE [lksV S,.any,.any,ints (nodesM S),v4,.any,iv v,q.2.2.1,.any,.any,.any,.any,.any,.any,.any,.any,ints (nodesM S),iv ((nodesM S).length : Nat),iv (i : Nat),.any,.any,.any,.any,ints (nodesM S),iv ((nodesM S).length : Nat),iv (q.1 : Nat)],q.2.1,0,0,[],[]⟩) (fun q=>(q.1 ≤ (nodesM S).length ∧ LAt 3 q.2.2.1 q.2.2.2.1 q.2.2.2.2.2 ∧ (∀ r ∈ q.2.2.2.1,r.length = 3) ∧ q.2.2.2.1.length = q.1) ∧ Ep q.2.1 (q.2.2.2.1.flatten ++ OA.flatten) (rT (imR S v q.1) ++ TO) q.2.2.2.2.1 (q.2.2.2.2.2 ++ M)) (fun q=>(nodesM S).length - q.1) rfl (0,s ++ [none],.nils,[],os,[]) ?_ ?_ ?_
   ·exact ⟨⟨by omega,.inl ⟨rfl,rfl,rfl⟩,by simp,rfl⟩,by simpa [rT,imR] using E.snoc⟩
   ·(refine Fg_env ?_;exact fgW)
   ·rintro ⟨j,s,v8,RA,os,N⟩ ⟨⟨hj,hv8,hRA,hRl⟩,E⟩
    dsimp only at hj hv8 hRA hRl E
    by_cases hcj : (j : Int) < ((nodesM S).length : Nat)
    ·have hjl : j < (nodesM S).length:=by omega
     have eR:=imR_s (v:=v) hjl
     have hTR : RA.flatten.length = (rT (imR S v j)).length:=by rw [flat3 hRA,rT_len,imR_len hj];omega
     generalize hTRe : rT (imR S v j) = TR at *
     obtain ⟨u,hu⟩ : ∃ u,(nodesM S).getD j 0 = u:=⟨_,rfl⟩
     rw [show (nodesM S).getD j default = u from hu] at eR
     have PI:=po_informationOf h.d_impl_informationOf (v:=v) (u:=u) hb hl
     generalize imP S v u S.length = X at *
     refine ew2 @hcj @hu ?_
     refine RefK_got PI (by (refine ew ?_;try with_reducible exact True.intro)) ?_
     intro r q1 o1 G
     obtain ⟨_,rfl,hQ1⟩:=G.ow.agg_inv
     obtain ⟨x1,x2,rfl⟩:=hQ1.rat
     have E1:=E.got (s1:=(s ++ [none]) ++ [none]) (fun o ho=>by simp only [List.append_assoc];exact objAt_app_lt ho) (by simp) hQ1 G.nd G.fresh G.old
     have gl : s.length + 2 ≤ q1.length:=by simpa using G.len
     have l1:=OwL.leaf hQ1 rfl
     simp only [List.all_cons,List.all_nil,Bool.and_true,Bool.and_eq_true] at l1
     have hCl : (RA.flatten ++ OA.flatten).length = (TR ++ TO).length:=by rw [List.length_append,List.length_append,hTR,hTO]
     obtain ⟨os2,E3,hm2⟩:=Ep.swap (a:=RA.flatten ++ OA.flatten) (b:=[.bool X.neg,x1,x2]) (c:=[]) (ta:=TR ++ TO) (tb:=X.cells) (tc:=[]) (by simpa only [List.append_nil] using E1) hCl rfl
     simp only [List.append_nil] at E3
     obtain ⟨os',E5,hm5⟩:=Ep.swap (a:=[.bool X.neg,x1,x2]) (b:=RA.flatten) (c:=OA.flatten) (ta:=X.cells) (tb:=TR) (tc:=TO) E3 rfl hTR
     have E5 : Ep q1 ((RA ++ [[.bool X.neg,x1,x2]]).flatten ++ OA.flatten) ((TR ++ X.cells) ++ TO) os' (N ++ M):=by simpa [List.flatten_append] using E5
     have hos : ∀ o ∈ os',o < s.length ∨ s.length + 2 ≤ o:=fun o ho=>by
      have:=(hm2 o).1 ((hm5 o).1 ho)
      rcases List.mem_append.1 this with h | h
      ·exact .inl (E.oslt o h)
      ·have:=G.fresh o h;simp at this;exact .inr (by omega)
     have hLM : ∀ q ∈ N ++ M,q.1 < s.length ∧ q.1 ∉ os':=fun q hq=>⟨E.lt q hq,(E5.l q hq).2⟩
     have hR':=mm_rows hRA (show ([.bool X.neg,x1,x2] : List V).length = 3 from rfl)
     have hstep : ∀ (S' : Store) (q : Nat),(∀ o ∈ os',objAt S' o = objAt q1 o) → (∀ z ∈ M,objAt S' z.1 = objAt q1 z.1) → s.length ≤ q → q < s.length + 2 → objAt S' q = some ⟨3,RA ++ [[.bool X.neg,x1,x2]]⟩ →
       Ep S' ((RA ++ [[.bool X.neg,x1,x2]]).flatten ++ OA.flatten) (rT (imR S v j ++ [X]) ++ TO) os' ([(q,⟨3,RA ++ [[.bool X.neg,x1,x2]]⟩)] ++ M):=by
      intro S' q h1 h2 h3 h3' h4
      rw [rT_app,hTRe]
      refine E5.to h1 fun z hz=>?_
      rcases List.mem_append.1 hz with hz | hz
      ·rw [List.mem_singleton.1 hz]
       exact .inr ⟨h4,fun hm=>by have:=hos _ hm;dsimp only at this;omega⟩
      ·exact .inl ⟨by simp [hz],h2 z hz⟩
     rcases hv8 with ⟨rfl,rfl,rfl⟩ | ⟨pr,rfl,rfl⟩
     ·refine ew3 @hcj @l1 @gl ?_
      refine ⟨by omega,?_⟩
      refine ⟨(j + 1,?st,.msl (s.length + 1) 0 1,[] ++ [[.bool X.neg,x1,x2]],os',[(s.length + 1,⟨3,[] ++ [[.bool X.neg,x1,x2]]⟩)]),?c1,⟨⟨?c2,.inr ⟨_,rfl,rfl⟩,hR',?c4⟩,?c6⟩,?c3⟩
      case c3=>dsimp only;(refine Fg_env ?_;exact fgW)
      case c1=>dsimp only;omega
      case c2=>dsimp only;omega
      case c4=>dsimp only;simp at hRl ⊢;omega
      case c6 =>
       dsimp only
       rw [eR]
       refine hstep _ _ (fun o ho=>?_) (fun z hz=>?_) (by omega) (by omega) ?_
       ·have:=hos o ho
        have n1 : o ≠ s.length:=by omega
        have n2 : o ≠ s.length + 1:=by omega
        exact obE
       ·have:=(hLM z (by simp [hz])).1
        exact obE
       ·exact objAt_seteq (by simp <;> omega)
     ·have Lr:=E.at0 (p:=pr) (ob:=⟨3,RA⟩) (by simp)
      have Lr2 : objAt q1 pr = some ⟨3,RA⟩:=(G.old pr (by simp;omega)).trans ((by simp only [List.append_assoc];exact objAt_app_lt Lr.2 : _ = objAt s pr).trans Lr.1)
      have hpq : pr < q1.length:=by omega
      refine ew5 @hcj @l1 @gl @Lr2 @hpq ?_
      refine ⟨by omega,?_⟩
      refine ⟨(j + 1,?st2,.msl (s.length + 1) 0 (RA.length + 1),RA ++ [[.bool X.neg,x1,x2]],os',[(s.length + 1,⟨3,RA ++ [[.bool X.neg,x1,x2]]⟩)]),?c1,⟨⟨?c2,.inr ⟨_,by dsimp only;rw [List.length_append];rfl,rfl⟩,hR',?c4⟩,?c6⟩,?c3⟩
      case c3=>dsimp only;(refine Fg_env ?_;exact fgW)
      case c1=>dsimp only;omega
      case c2=>dsimp only;omega
      case c4=>dsimp only;simp at hRl ⊢;omega
      case c6 =>
       dsimp only
       rw [eR]
       refine hstep _ _ (fun o ho=>?_) (fun z hz=>?_) (by omega) (by omega) ?_
       ·have:=hos o ho
        have n1 : o ≠ s.length:=by omega
        have n2 : o ≠ s.length + 1:=by omega
        have ha : o ≠ pr:=fun e=>(hLM (pr,⟨3,RA⟩) (by simp)).2 (e ▸ ho)
        exact obE
       ·have:=(hLM z (by simp [hz])).1
        have hne : z.1 ≠ pr:=fun e=>by
         have k1:=(E.l z (by simp [hz])).1
         rw [e,Lr.1] at k1
         rcases hv6 with ⟨_,_,rfl⟩ | ⟨po,_,rfl⟩
         ·cases hz
         ·rw [List.mem_singleton.1 hz] at k1;cases k1
        exact obE
       ·exact objAt_seteq (by simp <;> omega)
    ·have hje : j = (nodesM S).length:=by omega
     rcases hv8 with ⟨rfl,rfl,rfl⟩ | ⟨pr,rfl,rfl⟩
     ·simp at hRl;omega
     have Lr:=E.at0 (p:=pr) (ob:=⟨3,RA⟩) (by simp)
     rw [hje] at E
     have hRcn:=imR_cn S v (nodesM S).length
     have hRow : (imR S v (nodesM S).length).length = RA.length:=by rw [imR_len (Nat.le_refl _)];omega
     have eO2 : tO (imM S (i + 1)) = TO ++ [ratsV (imR S v (nodesM S).length)]:=by rw [eO,tO_app,hTOe]
     generalize imR S v (nodesM S).length = row at *
     have cg:=c_goodRow h.d_impl_goodRow hRcn (by omega)
     have hRr : ∀ r ∈ row.map R.cells,r.length = 3:=fun r hr=>by obtain ⟨x,_,rfl⟩:=List.mem_map.1 hr;rfl
     have E' : Ep s (RA.flatten ++ OA.flatten) ((row.map R.cells).flatten ++ TO) os ([(pr,⟨3,RA⟩)] ++ M):=E
     have Rf:=E'.listRes (p:=pr) (n:=3) (by simp) hRA hRr (by simp [hRow]) FD (dep_rats _ _)
     cases hg : row.all R.ok
     ·rw [imV_bad (hbad hg)]
      rw [hg] at cg
      refine ew4 @hcj @Rf @numK_any @or_sc ?_
      refine PFK_of cg ?_
      refine ew ?_
      exact fin_nil
     ·have hok3:=hok2 hg
      rw [hg] at cg
      obtain ⟨os1,E1⟩:=E'.close (p:=pr) (n:=3) (by simp) hRA hRr (by simp [hRow])
      obtain ⟨os2,E2,_⟩:=Ep.swap (a:=[.msl pr 0 RA.length]) (b:=OA.flatten) (c:=[]) (ta:=[ratsV row]) (tb:=TO) (tc:=[]) (show Ep s ([V.msl pr 0 RA.length] ++ (OA.flatten ++ [])) ([ratsV row] ++ (TO ++ [])) _ _ from by rw [List.append_nil,List.append_nil];exact E1) rfl hTO
      simp only [List.append_nil] at E2
      have hlt' : ∀ o ∈ os2,o < s.length:=E2.oslt
      have hO':=mm_rows hOA (show ([.msl pr 0 RA.length] : List V).length = 1 from rfl)
      have hstep : ∀ (S' : Store) (q : Nat),(∀ o ∈ os2,objAt S' o = objAt s o) → s.length ≤ q → objAt S' q = some ⟨1,OA ++ [[.msl pr 0 RA.length]]⟩ →
        Ep S' (OA ++ [[V.msl pr 0 RA.length]]).flatten (tO (imM S (i + 1))) os2 [(q,⟨1,OA ++ [[.msl pr 0 RA.length]]⟩)]:=by
       intro S' q h1 h3 h4
       rw [eO2,List.flatten_append,show ([[V.msl pr 0 RA.length]] : List (List V)).flatten = [V.msl pr 0 RA.length] from rfl]
       refine E2.to h1 fun z hz=>?_
       rw [List.mem_singleton.1 hz]
       exact .inr ⟨h4,fun hm=>by have:=hlt' _ hm;dsimp only at this;omega⟩
      refine ew4 @hcj @Rf @numK_any @or_sc ?_
      refine PFK_of cg ?_
      rcases hv6 with ⟨rfl,rfl,rfl⟩ | ⟨po,rfl,rfl⟩
      ·refine ew1 @Lr ?_
       refine ⟨by omega,?_⟩
       refine ⟨(i + 1,?st3,.msl (s.length + 1) 0 1,[] ++ [[.msl pr 0 RA.length]],os2,[(s.length + 1,⟨1,[] ++ [[.msl pr 0 RA.length]]⟩)]),?c1,⟨⟨?c2,.inr ⟨_,rfl,rfl⟩,hO',?c4,hok3⟩,?c6⟩,?c3⟩
       case c3=>dsimp only;(refine Fg_env ?_;exact fgW)
       case c1=>dsimp only;omega
       case c2=>dsimp only;omega
       case c4=>dsimp only;simp at hOl ⊢;omega
       case c6 =>
        refine hstep _ _ (fun o ho=>?_) (by omega) ?_
        ·have:=hlt' o ho
         exact obE
        ·exact objAt_seteq (by simp <;> omega)
      ·have Lo:=E.at0 (p:=po) (ob:=⟨1,OA⟩) (by simp)
       have npo : po ≠ pr:=fun e=>by have:=Lr.1;rw [← e,Lo.1] at this;cases this
       have hno : po ∉ os2:=(E2.l (po,⟨1,OA⟩) (by simp;exact fun e=>npo e)).2
       refine ew2 @Lr @Lo ?_
       refine ⟨by omega,?_⟩
       refine ⟨(i + 1,?st4,.msl (s.length + 1) 0 (OA.length + 1),OA ++ [[.msl pr 0 RA.length]],os2,[(s.length + 1,⟨1,OA ++ [[.msl pr 0 RA.length]]⟩)]),?c1,⟨⟨?c2,.inr ⟨_,by dsimp only;rw [List.length_append];rfl,rfl⟩,hO',?c4,hok3⟩,?c6⟩,?c3⟩
       case c3=>dsimp only;(refine Fg_env ?_;exact fgW)
       case c1=>dsimp only;omega
       case c2=>dsimp only;omega
       case c4=>dsimp only;simp at hOl ⊢;omega
       case c6 =>
        refine hstep _ _ (fun o ho=>?_) (by omega) ?_
        ·have:=hlt' o ho
         have ha : o ≠ po:=fun e=>hno (e ▸ ho)
         exact obE
        ·exact objAt_seteq (by simp <;> omega)
  ·have hie : i = (nodesM S).length:=by omega
   rw [hie] at E hok
   rw [imV_good (imG_all hb hok)]
   have hl2 : (imM S (nodesM S).length).length = OA.length:=by rw [imM_len (Nat.le_refl _)];omega
   generalize imM S (nodesM S).length = mm at *
   rcases hv6 with ⟨rfl,rfl,rfl⟩ | ⟨po,rfl,rfl⟩
   ·have : mm = []:=List.eq_nil_of_length_eq_zero (by simpa using hl2)
    subst this
    refine ew1 @hcc ?_
    exact fin_nil
   ·have hTr : ∀ r ∈ mm.map fun r=>[ratsV r],r.length = 1:=fun r hr=>by obtain ⟨x,_,rfl⟩:=List.mem_map.1 hr;rfl
    obtain ⟨os1,E1⟩:=Ep.close (A:=OA) (T:=mm.map fun r=>[ratsV r]) (c:=[]) (tc:=[]) (p:=po) (n:=1) (by simpa only [List.append_nil,tO] using E) (by simp) hOA hTr (by simp [hl2])
    refine ew1 @hcc ?_
    obtain ⟨v,vs,o1,o2,e,rfl,k1,k2⟩:=E1.c.ow.inv
    simp only [List.cons.injEq] at e
    obtain ⟨rfl,rfl⟩:=e
    obtain ⟨_,rfl⟩:=k2.nil_inv
    exact fin_of k1 (by have:=E1.c.nd;simpa using this)
theorem lksOk_iff {l : List Lk} : lksOk l = true ↔ (∀ x ∈ l,lkOk x = true) ∧ l.Pairwise fun k l=>lkLess k l = true:=by
 constructor
 ·intro h
  exact ⟨fun x hx=>lksOk_mem h hx,(lksOk_pw h).imp fun h=>h.1⟩
 ·rintro ⟨h1,h2⟩
  unfold lksOk
  refine allB_t fun i hi=>?_
  have a:=h1 (l.getD i default) (getD_mem hi)
  unfold lksAt
  rw [List.pairwise_iff_getElem] at h2
  rcases Nat.eq_zero_or_pos i with h0 | h0
  ·subst h0;rw [a,decide_eq_true rfl];rfl
  ·have:=h2 (i - 1) i (by omega) hi (by omega)
   have e1 : l.getD (i - 1) default = l[i - 1]:=by rw [List.getD_eq_getElem?_getD,List.getElem?_eq_getElem];rfl
   have e2 : l.getD i default = l[i]:=by rw [List.getD_eq_getElem?_getD,List.getElem?_eq_getElem];rfl
   rw [← e1,← e2] at this
   rw [a,this,Bool.or_true];rfl
theorem imP_0 {s : List Lk} (hb : lksOk s = true) {v u : Int} (hne : v ≠ u) : ∀ k,k < s.length → ((s.getD k default).a = v ∧ (s.getD k default).b = u) ∨ ((s.getD k default).a = u ∧ (s.getD k default).b = v) → imP s v u k = intR 0:=by
 obtain ⟨h1,h2⟩:=lksOk_iff.1 hb
 intro k hk hc
 have key : ∀ j,j ≤ k → imP s v u j = intR 0:=by
  intro j
  induction j with
  | zero=>intro _;rfl
  |
   succ j ih =>
   intro hj
   have hlt : lkLess (s.getD j default) (s.getD k default) = true:=by
    have:=List.pairwise_iff_getElem.1 h2 j k (by omega) hk (by omega)
    rw [List.getD_eq_getElem?_getD,List.getElem?_eq_getElem (by omega : j < s.length),List.getD_eq_getElem?_getD,List.getElem?_eq_getElem hk]
    exact this
   have a1:=lkOk_nd (h1 _ (getD_mem (l:=s) (i:=j) (by omega)))
   have a2:=lkOk_nd (h1 _ (getD_mem hk))
   unfold lkLess at hlt
   simp only [Bool.or_eq_true,Bool.and_eq_true,decide_eq_true_eq] at hlt
   show imStep v u (imP s v u j) (s.getD j default) = intR 0
   unfold imStep
   rw [if_neg (by omega),if_neg (by omega),ih (by omega)]
 exact key k (Nat.le_refl _)
theorem c_sInformationMatrix {T : Nat → Option Fn} (h : D_spec_InformationMatrix T) {S : List Lk} (hw : wfL Lk.wf S) (hl : S.length ≤ 1048576) : PF T 337 [lksV S] (ratssV (imV S)):=by
 have ci:=c_sIsLinkSet h.d_spec_IsLinkSet hw
 cases hb : lksOk S
 ·rw [hb] at ci
  rw [imV_bad (imG_l hb)]
  refine pf_endL (fun _ _=>false) h.hT rfl rfl ?_
  dsimp only [F_spec_InformationMatrix,oN,oS,oG,oK,oA,oH,oV,cI]
  refine ev ?_
  refine PFK_of ci ?_
  refine ev ?_
  exact of_eq_true (LaxV_nil 1)
 rw [hb] at ci
 have cn:=c_sNodesOfM h.d_spec_NodesOf hw hl
 have hnl:=nodesM_len S
 have c0:=c_sRatFromInt h.d_spec_RatFromInt (n:=0) (by omega)
 have hP0:=fun v u (hne : v ≠ u) k hk hc=>imP_0 hb hne k hk hc
 refine pf_endL (fun x d=>x == 403) h.hT rfl rfl ?_
 dsimp only [F_spec_InformationMatrix,oN,oS,oG,oK,oA,oH,oV,cI]
 refine ew ?_
 refine PFK_of ci ?_
 refine ew ?_
 refine PFK_of cn ?_
 refine ew ?_
 refine loop_at (fun x d=>x == 403) (α:=Nat × Store × V × List (Nat × List R)) (fun q=>⟨argE [lksV S,.any,.any,q.2.2.1,ints (nodesM S),.any,.any,.any,.any,.any,.any,.any,.any,.any,.any,.any,.any,.any,.any,ints (nodesM S),iv ((nodesM S).length : Nat),iv (q.1 : Nat)],q.2.1,0,0,[],[]⟩) (fun q=>q.1 ≤ (nodesM S).length ∧ MatA q.2.1 q.2.2.1 q.2.2.2 ∧ q.2.2.2.map (·.2) = imM S q.1) (fun q=>(nodesM S).length - q.1) rfl (0,[none],.nils,[]) ?_ ?_ ?_
 ·exact ⟨by omega,⟨.inl ⟨rfl,rfl⟩,by simp⟩,rfl⟩
 ·(refine Fg_env ?_;exact fgW)
 ·rintro ⟨i,s,v5,Z⟩ ⟨hi,hM,hZ⟩
  dsimp only at hi hM hZ
  have hZl : Z.length = i:=by rw [← List.length_map (f:=fun x : Nat × List R=>x.2),hZ,imM_len hi]
  by_cases hcc : (i : Int) < ((nodesM S).length : Nat)
  ·have hil : i < (nodesM S).length:=by omega
   have eO:=imM_s hil
   obtain ⟨v,hv⟩ : ∃ v,(nodesM S).getD i 0 = v:=⟨_,rfl⟩
   rw [show (nodesM S).getD i default = v from hv] at eO
   refine ew2 @hcc @hv ?_
   refine loop_at (fun x d=>x == 403) (α:=Nat × Store × V × List R) (fun q=>⟨argE [lksV S,.any,.any,v5,ints (nodesM S),.any,iv v,q.2.2.1,.any,.any,.any,.any,.any,.any,.any,.any,.any,.any,.any,ints (nodesM S),iv ((nodesM S).length : Nat),iv (i : Nat),.any,.any,.any,.any,ints (nodesM S),iv ((nodesM S).length : Nat),iv (q.1 : Nat)],q.2.1,0,0,[],[]⟩) (fun q=>q.1 ≤ (nodesM S).length ∧ (∀ p,p < s.length → objAt q.2.1 p = objAt s p) ∧ s.length ≤ q.2.1.length ∧ RowN q.2.1 s.length q.2.2.1 q.2.2.2 ∧ q.2.2.2 = imR S v q.1) (fun q=>(nodesM S).length - q.1) rfl (0,s ++ [none],.nils,[]) ?_ ?_ ?_
   ·exact ⟨by omega,fun p hp=>objAt_snoc_lt hp,by simp,.inl ⟨rfl,rfl⟩,rfl⟩
   ·(refine Fg_env ?_;exact fgW)
   ·rintro ⟨j,t,v7,L⟩ ⟨hj,hf,hst,hR,hL⟩
    dsimp only at hj hf hst hR hL
    have hLl : L.length = j:=by rw [hL,imR_len hj]
    by_cases hcj : (j : Int) < ((nodesM S).length : Nat)
    ·have hjl : j < (nodesM S).length:=by omega
     have eR:=imR_s (v:=v) hjl
     rw [← hL] at eR
     obtain ⟨u,hu⟩ : ∃ u,(nodesM S).getD j 0 = u:=⟨_,rfl⟩
     rw [show (nodesM S).getD j default = u from hu] at eR
     refine ew2 @hcj @hu ?_
     refine PFK_of c0 ?_
     refine ew ?_
     have hm0 : objAt (t ++ [some (⟨3,[(intR 0).cells]⟩ : Obj)]) t.length = some ⟨3,[(intR 0).cells]⟩:=objAt_snoc _ _
     have hf0 : ∀ p,p < t.length → objAt (t ++ [some (⟨3,[(intR 0).cells]⟩ : Obj)]) p = objAt t p:=fun p hp=>objAt_snoc_lt hp
     generalize hS0 : t ++ [some (⟨3,[(intR 0).cells]⟩ : Obj)] = S0 at *
     generalize hm : t.length = m at *
     clear hS0
     refine loop_at (fun x d=>x == 403) (α:=Nat × Store) (fun q=>⟨argE [lksV S,.any,.any,v5,ints (nodesM S),.any,iv v,v7,.any,iv u,.ptr m 0 0,.any,.any,.any,.any,.any,.any,.any,.any,ints (nodesM S),iv ((nodesM S).length : Nat),iv (i : Nat),.any,.any,.any,.any,ints (nodesM S),iv ((nodesM S).length : Nat),iv (j : Nat),.any,.any,.any,.any,lksV S,iv (S.length : Nat),iv (q.1 : Nat)],q.2,0,0,[],[]⟩) (fun q=>q.1 ≤ S.length ∧ objAt q.2 m = some ⟨3,[(imP S v u q.1).cells]⟩ ∧ ∀ p,p < m → objAt q.2 p = objAt t p) (fun q=>S.length - q.1) rfl (0,S0) ?_ ?_ ?_
     ·exact ⟨Nat.zero_le _,hm0,hf0⟩
     ·(refine Fg_env ?_;exact fgW)
     ·clear hm0 hf0
      rintro ⟨k,w⟩ ⟨hk,hw1,hfw⟩
      dsimp only at hk hw1 hfw
      have hX:=imP_cn S v u k
      have hwl:=objAt_lt hw1
      by_cases hc : (k : Int) < (S.length : Nat)
      ·have hkl : k < S.length:=by omega
       have hx : (S.map Lk.cells).getD k [] = (S.getD k default).cells:=mg hkl
       have es : imP S v u (k + 1) = imStep v u (imP S v u k) (S.getD k default):=rfl
       have hlk:=lksOk_mem hb (getD_mem hkl)
       obtain ⟨hn0,hn1,hn2⟩:=lkOk_nd hlk
       obtain ⟨kw,kx,ky,kp⟩:=lkOk_ok hlk
       have cw:=cn_ok kw
       have hz:=fun hne hc=>hP0 v u hne k hkl hc
       generalize S.getD k default = l at *
       generalize imP S v u k = X at *
       have cadd:=c_sRatAdd h.d_spec_RatAdd (cn_wf hX) (cn_wf cw)
       have csub:=c_sRatSub h.d_spec_RatSub (cn_wf hX) (cn_wf cw)
       have hmn : m ≠ w.length:=by omega
       have hb9 : ∀ x : Option Obj,objAt (w.set m x ++ [some ⟨11,[l.cells]⟩]) w.length = some ⟨11,[l.cells]⟩:=fun x=>by
        have:=objAt_snoc (w.set m x) (some (⟨11,[l.cells]⟩ : Obj))
        rwa [List.length_set] at this
       unfold imStep at es
       by_cases huv : v = u
       ·have f0 : (v = u) = True:=eq_true huv
        by_cases h1 : l.a = v
        ·have f1 : (l.a = v) = True:=eq_true (by omega)
         have f2 : (l.b = v) = False:=eq_false (by omega)
         have f3 : (l.b = u) = False:=eq_false (by omega)
         have f4 : (l.a = u) = True:=eq_true (by omega)
         skip
         refine ew4 @hc @hx (And.intro f0 (And.intro f1 (And.intro f2 (And.intro f3 f4)))) @hw1 ?_
         refine PFK_of cadd ?_
         refine ew3 (And.intro f0 (And.intro f1 (And.intro f2 (And.intro f3 f4)))) @hw1 @hb9 ?_
         refine ⟨(k + 1,?st1),?c1,⟨?c2,?c4,?c5⟩,?c3⟩
         case c3=>dsimp only;(refine Fg_env ?_;exact fgW)
         case c1=>dsimp only;omega
         case c2=>dsimp only;omega
         case c4 =>
          dsimp only
          rw [es,if_neg (by omega),if_pos (by omega)]
          simp (disch:=first | omega | (simp only [List.length_append,List.length_set,List.length_cons,List.length_nil];omega)) only [EVs]
          try rfl
         case c5 =>
          dsimp only
          intro p hp
          have:=hfw p hp
          rw [← this]
          exact obE
        ·by_cases h2 : l.b = v
         ·have f1 : (l.a = v) = False:=eq_false (by omega)
          have f2 : (l.b = v) = True:=eq_true (by omega)
          have f3 : (l.b = u) = True:=eq_true (by omega)
          have f4 : (l.a = u) = False:=eq_false (by omega)
          skip
          refine ew4 @hc @hx (And.intro f0 (And.intro f1 (And.intro f2 (And.intro f3 f4)))) @hw1 ?_
          refine PFK_of cadd ?_
          refine ew3 (And.intro f0 (And.intro f1 (And.intro f2 (And.intro f3 f4)))) @hw1 @hb9 ?_
          refine ⟨(k + 1,?st2),?c1,⟨?c2,?c4,?c5⟩,?c3⟩
          case c3=>dsimp only;(refine Fg_env ?_;exact fgW)
          case c1=>dsimp only;omega
          case c2=>dsimp only;omega
          case c4 =>
           dsimp only
           rw [es,if_neg (by omega),if_pos (by omega)]
           simp (disch:=first | omega | (simp only [List.length_append,List.length_set,List.length_cons,List.length_nil];omega)) only [EVs]
           try rfl
          case c5 =>
           dsimp only
           intro p hp
           have:=hfw p hp
           rw [← this]
           exact obE
         ·have f1 : (l.a = v) = False:=eq_false (by omega)
          have f2 : (l.b = v) = False:=eq_false (by omega)
          have f3 : (l.b = u) = False:=eq_false (by omega)
          have f4 : (l.a = u) = False:=eq_false (by omega)
          refine ew4 @hc @hx (And.intro f0 (And.intro f1 (And.intro f2 (And.intro f3 f4)))) @hw1 ?_
          refine ⟨(k + 1,?st3),?c1,⟨?c2,?c4,?c5⟩,?c3⟩
          case c3=>dsimp only;(refine Fg_env ?_;exact fgW)
          case c1=>dsimp only;omega
          case c2=>dsimp only;omega
          case c4 =>
           dsimp only
           rw [es,if_neg (by omega),if_neg (by omega),← hw1]
           exact obE
          case c5 =>
           dsimp only
           intro p hp
           have:=hfw p hp
           rw [← this]
           exact obE
       ·have f0 : (v = u) = False:=eq_false huv
        by_cases h1 : l.a = v
        ·by_cases h2 : l.b = u
         ·have f1 : (l.a = v) = True:=eq_true (by omega)
          have f3 : (l.b = u) = True:=eq_true (by omega)
          have f4 : (l.a = u) = False:=eq_false (by omega)
          rw [hz huv (by omega),subR_0 kw] at csub
          rw [hz huv (by omega)] at hw1
          refine ew4 @hc @hx (And.intro f0 (And.intro f1 (And.intro f3 f4))) @hw1 ?_
          refine PFK_of csub ?_
          refine ew3 (And.intro f0 (And.intro f1 (And.intro f3 f4))) @hw1 @hb9 ?_
          refine ⟨(k + 1,?st4),?c1,⟨?c2,?c4,?c5⟩,?c3⟩
          case c3=>dsimp only;(refine Fg_env ?_;exact fgW)
          case c1=>dsimp only;omega
          case c2=>dsimp only;omega
          case c4 =>
           dsimp only
           rw [es,if_pos (by omega)]
           simp (disch:=first | omega | (simp only [List.length_append,List.length_set,List.length_cons,List.length_nil];omega)) only [EVs]
           try rfl
          case c5 =>
           dsimp only
           intro p hp
           have:=hfw p hp
           rw [← this]
           exact obE
         ·have f1 : (l.a = v) = True:=eq_true (by omega)
          have f3 : (l.b = u) = False:=eq_false (by omega)
          have f4 : (l.a = u) = False:=eq_false (by omega)
          refine ew4 @hc @hx (And.intro f0 (And.intro f1 (And.intro f3 f4))) @hw1 ?_
          refine ⟨(k + 1,?st5),?c1,⟨?c2,?c4,?c5⟩,?c3⟩
          case c3=>dsimp only;(refine Fg_env ?_;exact fgW)
          case c1=>dsimp only;omega
          case c2=>dsimp only;omega
          case c4 =>
           dsimp only
           rw [es,if_neg (by omega),if_neg (by omega),← hw1]
           exact obE
          case c5 =>
           dsimp only
           intro p hp
           have:=hfw p hp
           rw [← this]
           exact obE
        ·by_cases h2 : l.a = u
         ·by_cases h3 : l.b = v
          ·have f1 : (l.a = v) = False:=eq_false (by omega)
           have f4 : (l.a = u) = True:=eq_true (by omega)
           have f2 : (l.b = v) = True:=eq_true (by omega)
           rw [hz huv (by omega),subR_0 kw] at csub
           rw [hz huv (by omega)] at hw1
           refine ew4 @hc @hx (And.intro f0 (And.intro f1 (And.intro f4 f2))) @hw1 ?_
           refine PFK_of csub ?_
           refine ew3 (And.intro f0 (And.intro f1 (And.intro f4 f2))) @hw1 @hb9 ?_
           refine ⟨(k + 1,?st6),?c1,⟨?c2,?c4,?c5⟩,?c3⟩
           case c3=>dsimp only;(refine Fg_env ?_;exact fgW)
           case c1=>dsimp only;omega
           case c2=>dsimp only;omega
           case c4 =>
            dsimp only
            rw [es,if_pos (by omega)]
            simp (disch:=first | omega | (simp only [List.length_append,List.length_set,List.length_cons,List.length_nil];omega)) only [EVs]
            try rfl
           case c5 =>
            dsimp only
            intro p hp
            have:=hfw p hp
            rw [← this]
            exact obE
          ·have f1 : (l.a = v) = False:=eq_false (by omega)
           have f4 : (l.a = u) = True:=eq_true (by omega)
           have f2 : (l.b = v) = False:=eq_false (by omega)
           refine ew4 @hc @hx (And.intro f0 (And.intro f1 (And.intro f4 f2))) @hw1 ?_
           refine ⟨(k + 1,?st7),?c1,⟨?c2,?c4,?c5⟩,?c3⟩
           case c3=>dsimp only;(refine Fg_env ?_;exact fgW)
           case c1=>dsimp only;omega
           case c2=>dsimp only;omega
           case c4 =>
            dsimp only
            rw [es,if_neg (by omega),if_neg (by omega),← hw1]
            exact obE
           case c5 =>
            dsimp only
            intro p hp
            have:=hfw p hp
            rw [← this]
            exact obE
         ·have f1 : (l.a = v) = False:=eq_false (by omega)
          have f4 : (l.a = u) = False:=eq_false (by omega)
          refine ew4 @hc @hx (And.intro f0 (And.intro f1 f4)) @hw1 ?_
          refine ⟨(k + 1,?st8),?c1,⟨?c2,?c4,?c5⟩,?c3⟩
          case c3=>dsimp only;(refine Fg_env ?_;exact fgW)
          case c1=>dsimp only;omega
          case c2=>dsimp only;omega
          case c4 =>
           dsimp only
           rw [es,if_neg (by omega),if_neg (by omega),← hw1]
           exact obE
          case c5 =>
           dsimp only
           intro p hp
           have:=hfw p hp
           rw [← this]
           exact obE
      ·have hke : k = S.length:=by omega
       rw [hke] at hX hw1
       generalize imP S v u S.length = X at *
       have hu' : objAt w m = some ⟨3,[[.bool X.neg,ints X.mag,ints X.den]]⟩:=hw1
       rcases hR with ⟨rfl,rfl⟩ | ⟨pr,rfl,hnp,hp⟩
       ·refine ew2 @hc @hu' ?_
        refine ⟨by omega,?_⟩
        refine ⟨(j + 1,?st20,.msl (w.length + 1) 0 1,[] ++ [X]),?c1,⟨?c2,?c4,?c5,.inr ⟨_,rfl,?c6,?c7⟩,eR.symm⟩,?c3⟩
        case c3=>dsimp only;(refine Fg_env ?_;exact fgW)
        case c1=>dsimp only;omega
        case c2=>dsimp only;omega
        case c4 =>
         dsimp only
         intro p hp
         rw [← hf p hp,← hfw p (by omega)]
         exact obE
        case c5=>simp;omega
        case c6=>omega
        case c7=>exact objAt_seteq (by simp <;> omega)
       ·have hpl:=objAt_lt hp
        have hpu:=(hfw pr (by omega)).trans hp
        have hpm : pr ≠ m:=by omega
        refine ew3 @hc @hu' @hpu ?_
        refine ⟨by omega,?_⟩
        refine ⟨(j + 1,?st21,.msl (w.length + 1) 0 (L.length + 1),L ++ [X]),?c1,⟨?c2,?c4,?c5,.inr ⟨_,by rw [List.length_append];rfl,?c6,?c7⟩,eR.symm⟩,?c3⟩
        case c3=>dsimp only;(refine Fg_env ?_;exact fgW)
        case c1=>dsimp only;omega
        case c2=>dsimp only;omega
        case c4 =>
         dsimp only
         intro p hp
         rw [← hf p hp,← hfw p (by omega)]
         exact obE
        case c5=>simp;omega
        case c6=>omega
        case c7 =>
         dsimp only
         rw [List.map_append]
         exact objAt_seteq (by simp <;> omega)
    ·have hje : j = (nodesM S).length:=by omega
     rw [hje] at hL
     rcases hR with ⟨rfl,rfl⟩ | ⟨pr,rfl,hnp,hp⟩
     ·simp at hLl;omega
     have hpl:=objAt_lt hp
     rw [← hL] at eO
     have hM':=hM.fr (s2:=t) fun p hp=>hf p hp
     rcases hM with ⟨⟨rfl,rfl⟩ | ⟨q,rfl,hq⟩,hMr⟩
     ·refine ew2 @hcj @hp ?_
      refine ⟨by omega,?_⟩
      refine ⟨(i + 1,?st22,.msl (t.length + 1) 0 1,[] ++ [(pr,L)]),?c1,⟨?c2,⟨.inr ⟨_,rfl,?c4⟩,?c5⟩,?c6⟩,?c3⟩
      case c3=>dsimp only;(refine Fg_env ?_;exact fgW)
      case c1=>dsimp only;omega
      case c2=>dsimp only;omega
      case c4=>exact objAt_seteq (by simp <;> omega)
      case c5 =>
       dsimp only
       intro x hx
       rw [List.mem_singleton.1 hx]
       dsimp only
       rw [← hp]
       exact obE
      case c6=>rw [List.map_append,hZ];exact eO.symm
     ·have hqt:=(hf q (objAt_lt hq)).trans hq
      have hql:=objAt_lt hq
      have hqp : q ≠ pr:=by omega
      refine ew3 @hcj @hp @hqt ?_
      refine ⟨by omega,?_⟩
      refine ⟨(i + 1,?st23,.msl (t.length + 1) 0 (Z.length + 1),Z ++ [(pr,L)]),?c1,⟨?c2,⟨.inr ⟨_,by rw [List.length_append];rfl,?c4⟩,?c5⟩,?c6⟩,?c3⟩
      case c3=>dsimp only;(refine Fg_env ?_;exact fgW)
      case c1=>dsimp only;omega
      case c2=>dsimp only;omega
      case c4 =>
       dsimp only
       rw [List.map_append]
       exact objAt_seteq (by simp <;> omega)
      case c5 =>
       dsimp only
       intro x hx
       rcases List.mem_append.1 hx with hx | hx
       ·have h1:=hM'.2 x hx
        have h2:=objAt_lt h1
        have hne : x.1 ≠ q:=fun e=>by rw [e,hqt] at h1;cases h1
        rw [← h1]
        exact obE
       ·rw [List.mem_singleton.1 hx]
        dsimp only
        rw [← hp]
        exact obE
      case c6=>rw [List.map_append,hZ];exact eO.symm
  ·have hie : i = (nodesM S).length:=by omega
   rw [hie] at hZ
   have hok:=imM_ok S
   have hlm:=imM_len (s:=S) (i:=(nodesM S).length) (Nat.le_refl _)
   have hmo:=matOk_of (m:=imM S (nodesM S).length) (cols:=((nodesM S).length : Nat)) (fun r hr=>by have:=(hok r hr).2;omega) (by omega)
   have hwf : wfL (wfL R.wf) (imM S (nodesM S).length):=(mat_ok (n:=10) (fun r hr=>⟨(hok r hr).1,by have:=(hok r hr).2;omega⟩) (by omega) (by omega)).2
   have c3:=c_sIsMatrix h.d_spec_IsMatrix (m:=imM S (nodesM S).length) (cols:=((nodesM S).length : Nat)) hwf (by omega)
   have hV : imV S = if matOk (imM S (nodesM S).length) ((nodesM S).length : Nat) = true then imM S (nodesM S).length else []:=by
    unfold imV imG
    rw [hb,Bool.true_and,hmo]
   rw [hV]
   generalize imM S (nodesM S).length = mm at *
   generalize matOk mm ((nodesM S).length : Nat) = x3 at *
   have hx3 : x3 = false ∨ x3 = true:=by cases x3 <;> simp
   rcases hM with ⟨⟨rfl,rfl⟩ | ⟨q,rfl,hq⟩,hMr⟩
   ·have : mm = []:=hZ.symm
    subst this
    refine ew1 @hcc ?_
    refine PFK_of (.laxF (by simp [LaxL,LaxV]) c3 (laxV_refl _)) ?_
    rcases hx3 with hx3 | hx3
    ·refine ew1 @hx3 ?_
     exact of_eq_true (LaxV_nil 1)
    ·refine ew1 @hx3 ?_
     exact of_eq_true (LaxV_nil 1)
   ·have Rf:=MatA.res hMr hq
    rw [hZ] at Rf
    refine ew2 @hcc @Rf ?_
    refine PFK_of c3 ?_
    rcases hx3 with hx3 | hx3
    ·refine ew1 @hx3 ?_
     exact of_eq_true (LaxV_nil 1)
    ·refine ew2 @hx3 @Rf ?_
     exact laxV_refl _
theorem matF_snoc {s s2 : Store} {q q2 p2 i c : Nat} {rp : Nat → Nat} {M : MF} (h : i = 0 ∨ Mat s q i c rp (fun x=>(M x).map R.cells) M) (hq : objAt s2 q2 = some ⟨1,orow i c rp ++ [[.msl p2 0 c]]⟩) (hp : objAt s2 p2 = some ⟨3,(M i).map R.cells⟩) (hpl : s.length ≤ p2)
  (old : ∀ o,o < s.length → o ≠ q → objAt s2 o = objAt s o) : Mat s2 q2 (i + 1) c (fun x=>if x = i then p2 else rp x) (fun x=>(M x).map R.cells) M:=by
 have hlt : ∀ x,x < i → rp x < s.length ∧ rp x ≠ q:=fun x hx=>by
  rcases h with h | h
  ·omega
  ·exact ⟨h.lt.2 x hx,h.ne hx⟩
 refine ⟨fun x y hx hy e=>?_,?_,fun x hx=>?_,fun x hx=>row_frz _⟩
 ·by_cases h1 : x = i
  ·by_cases h2 : y = i
   ·omega
   ·rw [if_pos h1,if_neg h2] at e
    have:=(hlt y (by omega)).1
    omega
  ·by_cases h2 : y = i
   ·rw [if_neg h1,if_pos h2] at e
    have:=(hlt x (by omega)).1
    omega
   ·rw [if_neg h1,if_neg h2] at e
    rcases h with h | h
    ·omega
    ·exact h.inj x y (by omega) (by omega) e
 ·rw [hq]
  unfold orow
  rw [List.range_succ,List.map_append]
  congr 2
  congr 1
  ·refine List.map_congr_left fun x hx=>?_
   have:=List.mem_range.1 hx
   show [V.msl (rp x) 0 c] = [V.msl (if x = i then p2 else rp x) 0 c]
   rw [if_neg (by omega)]
  ·simp
 ·by_cases h1 : x = i
  ·subst h1;rw [if_pos rfl];exact hp
  ·rw [if_neg h1]
   have hxi : x < i:=by omega
   rcases h with h | h
   ·omega
   ·exact (old _ (hlt x hxi).1 (hlt x hxi).2).trans (h.row x hxi)
theorem mat_bd {m : List (List R)} {C : Nat} (hz : szL (szL R.sz) m ≤ 1048576) (h0 : 0 < m.length) (hrl : ∀ i,i < m.length → (m.getD i default).length = C) : C ≤ 1048576:=by
 have h2:=szL_memb (f:=szL R.sz) hz (getD_mem h0)
 have h3:=szL_eq R.sz (m.getD 0 default)
 have:=hrl 0 h0
 omega
theorem getQ {α : Type} {l : List (List α)} {j : Nat} (h : j < l.length) : l[j]? = some (l.getD j []):=by
 rw [List.getD_eq_getElem?_getD,List.getElem?_eq_getElem h];rfl
theorem Mat.cell {s : Store} {q n c : Nat} {rp : Nat → Nat} {A : Nat → List (List V)} {M : MF} (h : Mat s q n c rp A M) (hl : ∀ i,i < n → (M i).length = c) {i j : Nat} (hi : i < n) (hj : j < c) : ∃ a1 a2,(A i)[j]? = some [.bool (elF M i j).neg,a1,a2] ∧ LimbOk s a1 (elF M i j).mag ∧ LimbOk s a2 (elF M i j).den:=by
 have hr:=h.cel i hi
 have hjl : j < (M i).length:=by rw [hl i hi];exact hj
 obtain ⟨a1,a2,e,k1,k2⟩:=hr.2 j hjl
 exact ⟨a1,a2,by rw [getQ (by rw [hr.1];exact hjl),e];rfl,k1,k2⟩
theorem Mat.kpq {s s2 : Store} {q n c : Nat} {rp : Nat → Nat} {A : Nat → List (List V)} {M : MF} (h : Mat s q n c rp A M) (hn : 0 < n) (ho : ∀ o,o ≠ q → o < s.length → objAt s2 o = objAt s o) : Kp s s2:=fun o l e=>ho o (fun e2=>by
  rw [e2,h.out] at e
  injection e with e
  injection e with _ e
  exact orow_irows hn l e) (objAt_lt e)
theorem po_iReduceRows {T : Nat → Option Fn} (h : D_impl_ReduceRows T) {m : List (List R)} {c : Int} (hw : wfL (wfL R.wf) m) (hz : rrC m c = true → szL (szL R.sz) m ≤ 1048576) (hcw : c ≤ 9223372036854775807) : PO T 243 [ratssV m,iv c] (.tup [ratssV (rrM m c),.bool (rrB m c)]):=by
 have c1:=c_iIsMatrix h.d_impl_IsMatrix (m:=m) (cols:=c) hw hcw
 have hml:=hw.1
 cases hc : rrC m c
 ·obtain ⟨e1,e2⟩:=rrV_bad hc
  rw [e1,e2]
  unfold rrC at hc
  generalize matOk m c = x at c1 hc
  have hx : x = false ∨ x = true:=by cases x <;> simp
  refine po_end2 (fun _ _=>false) h.hT rfl rfl ?_
  dsimp only [F_impl_ReduceRows,oN,oS,oG,oK,oA,oH,oV,cI,St.enter,List.length_cons,List.length_nil,Nat.zero_add]
  refine ew ?_
  refine PFK_of c1 ?_
  rcases hx with hx | hx
  ·refine ew1 @hx ?_
   exact (fin_nil (sz:=1)).tup1
  ·have hlt : c < (m.length : Nat):=by
    rw [hx,Bool.true_and,decide_eq_false_iff_not] at hc
    omega
   refine ew2 @hx @hlt ?_
   exact (fin_nil (sz:=1)).tup1
 obtain ⟨h10,hnc,hmo,hok⟩:=rrC_ok hc
 rw [hmo] at c1
 have hlt : ¬ c < (m.length : Nat):=by omega
 obtain ⟨C,rfl⟩ : ∃ C : Nat,c = C:=⟨c.toNat,by omega⟩
 rw [Int.toNat_natCast] at hok
 have hrl : ∀ i,i < m.length → (m.getD i default).length = C:=fun i hi=>(hok i hi).1
 rcases Nat.eq_zero_or_pos m.length with h0 | h0
 ·obtain ⟨e1,e2⟩:=rrV_some hc (M:=mF m) (by rw [h0];rfl)
  rw [h0] at e1
  rw [e1,e2]
  refine po_end2 (fun _ _=>false) h.hT rfl rfl ?_
  dsimp only [F_impl_ReduceRows,oN,oS,oG,oK,oA,oH,oV,cI,St.enter,List.length_cons,List.length_nil,Nat.zero_add]
  refine ew ?_
  refine PFK_of c1 ?_
  refine ew1 @hlt ?_
  refine loop_at (fun _ _=>false) (α:=Nat) (fun i=>⟨argE [.any,.any,.any,.any,.any,.any,iv (m.length : Nat),.nils,.any,.any,.any,.any,.any,.any,.any,.any,.any,.any,.any,.any,.any,.any,.any,.any,.any,.any,.any,ratssV m,iv (m.length : Nat),iv (i : Nat)],[none],0,0,[],[]⟩) (fun i=>i = 0) (fun i=>i) rfl 0 ?_ ?_ ?_
  ·rfl
  ·(refine Fg_env ?_;exact fgW)
  ·rintro i rfl
   have hcc : ¬ (((0 : Nat) : Int) < (m.length : Nat)):=by omega
   refine ew1 @hcc ?_
   refine loop_at (fun _ _=>false) (α:=Nat) (fun k=>⟨argE [.any,.any,.any,.any,.any,.any,iv (m.length : Nat),.nils,.any,.any,iv (k : Nat)],[none],0,0,[],[]⟩) (fun k=>k = 0) (fun k=>k) rfl 0 ?_ ?_ ?_
   ·rfl
   ·(refine Fg_env ?_;exact fgW)
   ·rintro k rfl
    refine ew1 @hcc ?_
    exact (fin_nil (sz:=1)).tup1
 have hC:=mat_bd (hz hc) h0 hrl
 clear hw hz hml
 refine po_end2 (fun x d=>(x == 156 && d == 107) || (x == 245 && d == 140)) h.hT rfl rfl ?_
 dsimp only [F_impl_ReduceRows,oN,oS,oG,oK,oA,oH,oV,cI,St.enter,List.length_cons,List.length_nil,Nat.zero_add]
 refine ew ?_
 refine PFK_of c1 ?_
 refine ew1 @hlt ?_
 refine loop_at (fun x d=>(x == 156 && d == 107) || (x == 245 && d == 140)) (α:=Nat × Store × V × Nat × (Nat → Nat)) (fun q=>⟨argE [.any,.any,.any,.any,.any,.any,iv (m.length : Nat),q.2.2.1,.any,.any,.any,.any,.any,.any,.any,.any,.any,.any,.any,.any,.any,.any,.any,.any,.any,.any,.any,ratssV m,iv (m.length : Nat),iv (q.1 : Nat)],q.2.1,0,0,[],[]⟩) (fun q=>q.1 ≤ m.length ∧ ((q.1 = 0 ∧ q.2.2.1 = .nils) ∨ (0 < q.1 ∧ q.2.2.1 = .msl q.2.2.2.1 0 q.1 ∧ Mat q.2.1 q.2.2.2.1 q.1 C q.2.2.2.2 (fun x=>(mF m x).map R.cells) (mF m)))) (fun q=>m.length - q.1) rfl (0,[none],.nils,0,fun _=>0) ?_ ?_ ?_
 ·exact ⟨by omega,.inl ⟨rfl,rfl⟩⟩
 ·(refine Fg_env ?_;exact fgW)
 ·rintro ⟨i,s,v7,qo,rp⟩ ⟨hi,hM⟩
  dsimp only at hi hM
  by_cases hcc : (i : Int) < (m.length : Nat)
  ·have hil : i < m.length:=by omega
   have hai : (m.map fun r=>[ratsV r]).getD i [] = [ratsV (m.getD i default)]:=mg (f:=fun r : List R=>[ratsV r]) hil
   have hri:=hrl i hil
   have emf : mF m i = m.getD i default:=rfl
   generalize m.getD i default = r at *
   have hne : (r.map R.cells = []) = False:=eq_false fun e=>by
    have:=congrArg List.length e
    simp at this
    subst this
    simp at hri;omega
   rcases hM with ⟨rfl,rfl⟩ | ⟨hi0,rfl,hM⟩
   ·refine ew3 @hcc @hai @hne ?_
    refine ⟨⟨by omega,by omega⟩,by decide,?_⟩
    refine ⟨(0 + 1,?st,.msl (s.length + 3) 0 1,s.length + 3,fun x=>if x = 0 then s.length + 1 else rp x),?c1,⟨?c2,.inr ⟨by omega,rfl,?c4⟩⟩,?c3⟩
    case c3=>dsimp only;(refine Fg_env ?_;exact fgW)
    case c1=>dsimp only;omega
    case c2=>dsimp only;omega
    case c4 =>
     dsimp only
     refine matF_snoc (s:=s) (q:=0) (.inl rfl) ?_ ?_ (by omega) (fun o ho _=>?_)
     ·rw [objAt_seteq (by simp)]
      rw [hri];rfl
     ·rw [emf]
      exact obE
     ·exact obE
   ·have hq:=hM.out
    have hql:=hM.lt.1
    have hoc:=orow_len i C rp
    refine ew5 @hcc @hai @hne @hq @hoc ?_
    refine ⟨⟨by omega,by omega⟩,by omega,?_⟩
    refine ⟨(i + 1,?st2,.msl (s.length + 3) 0 (i + 1),s.length + 3,fun x=>if x = i then s.length + 1 else rp x),?c1,⟨?c2,.inr ⟨by omega,rfl,?c4⟩⟩,?c3⟩
    case c3=>dsimp only;(refine Fg_env ?_;exact fgW)
    case c1=>dsimp only;omega
    case c2=>dsimp only;omega
    case c4 =>
     dsimp only
     refine matF_snoc (s:=s) (q:=qo) (.inr hM) ?_ ?_ (by omega) (fun o ho hne=>?_)
     ·rw [objAt_seteq (by simp)]
      rw [hri]
     ·rw [emf]
      have : s.length + 1 ≠ qo:=by omega
      exact obE
     ·exact obE
  ·have hie : i = m.length:=by omega
   subst hie
   rcases hM with ⟨h1,_⟩ | ⟨_,rfl,hM⟩
   ·omega
   refine ew1 @hcc ?_
   have hql:=hM.lt.1
   refine loop_at (fun x d=>(x == 156 && d == 107) || (x == 245 && d == 140)) (α:=Nat × Store × (Nat → Nat) × (Nat → List (List V)) × MF × (Nat → List Nat)) (fun q=>⟨argE [.any,.any,.any,.any,.any,.any,iv (m.length : Nat),.msl qo 0 m.length,.any,.any,iv (q.1 : Nat)],q.2.1,0,0,[],[]⟩) (fun q=>q.1 ≤ m.length ∧ Mat q.2.1 qo m.length C q.2.2.1 q.2.2.2.1 q.2.2.2.2.1 ∧ rrIt m.length (mF m) q.1 = some q.2.2.2.2.1 ∧ OkM m.length C q.2.2.2.2.1 ∧ (0 < q.1 → OwF q.2.1 q.2.2.2.1 q.2.2.2.2.1 q.2.2.2.2.2 fun i=>i < m.length)) (fun q=>m.length - q.1) rfl (0,s,rp,fun x=>(mF m x).map R.cells,mF m,fun _=>[]) ?_ ?_ ?_
   ·exact ⟨by omega,hM,rfl,hok,fun h=>absurd h (by omega)⟩
   ·(refine Fg_env ?_;exact fgW)
   ·clear hM hok hql hrl hcc hi
    rintro ⟨k,s,rp,A,M,f⟩ ⟨hk,hM,hIt,hOk,hOw⟩
    dsimp only at hk hM hIt hOk hOw
    by_cases hck : (k : Int) < (m.length : Nat)
    ·have hkl : k < m.length:=by omega
     have hkC : k < C:=by omega
     have hql:=hM.lt.1
     refine ew1 @hck ?_
     refine loop_at (fun x d=>(x == 156 && d == 107) || (x == 245 && d == 140)) (α:=Nat) (fun p=>⟨argE [.any,.any,.any,.any,.any,.any,iv (m.length : Nat),.msl qo 0 m.length,.any,.any,iv (k : Nat),iv (p : Nat)],s,0,0,[],[]⟩) (fun p=>k ≤ p ∧ p ≤ m.length ∧ rrP M k (m.length - p) p = rrPv m.length M k) (fun p=>m.length - p) rfl k ?_ ?_ ?_
     ·exact ⟨Nat.le_refl _,by omega,rfl⟩
     ·(refine Fg_env ?_;exact fgW)
     ·rintro p ⟨hkp,hpn,hP⟩
      by_cases hcp : (p : Int) < (m.length : Nat)
      ·have hpl : p < m.length:=by omega
       obtain ⟨a1,a2,gA,ka1,ka2⟩:=hM.cell (fun i hi=>(hOk i hi).1) hpl hkC
       have cs:=c_ratSignR h.d_impl_ratSign (hOk.el hpl hkC)
       have hzz:=rrP_z (M:=M) (k:=k) hpl
       have hnz:=rrP_n (M:=M) (k:=k) hpl
       have hxc:=hOk.el hpl hkC
       obtain ⟨x,hx⟩ : ∃ x,elF M p k = x:=⟨_,rfl⟩
       rw [hx] at gA ka1 ka2 cs hzz hnz hxc
       have R1:=And.intro ka1.r11 ka2.r11
       have O1:=And.intro hM.out (hM.row p hpl)
       have G1:=And.intro (orow_at (c:=C) (rp:=rp) hpl) gA
       refine ew4 @hcp @O1 @G1 @R1 ?_
       refine PFK_of cs ?_
       by_cases hs : sgnR x = 0
       ·refine ew1 @hs ?_
        exact ⟨p + 1,by omega,⟨by omega,by omega,(hzz hs).symm.trans hP⟩,by (refine Fg_env ?_;exact fgW)⟩
       ·have hPv:=(hnz hs).symm.trans hP
        have hpn' : ¬ ((p : Int) = (m.length : Nat)):=by omega
        have gk:=orow_at (c:=C) (rp:=rp) hkl
        obtain ⟨w,gS1⟩ : ∃ w,((orow m.length C rp).set k [V.msl (rp p) 0 C])[p]? = some [w]:=by rw [orow_set];exact ⟨_,orow_at hpl⟩
        have gS2 : (((orow m.length C rp).set k [V.msl (rp p) 0 C]).set p [.msl (rp k) 0 C])[k]? = some [.msl (rp p) 0 C]:=by
         rw [orow_set,orow_set,orow_at hkl]
         by_cases e : k = p
         ·subst e;simp
         ·rw [if_neg e,if_pos rfl]
        have hnq:=hM.ne hpl
        have hpq:=hM.lt.2 p hpl
        have lx:=And.intro ka1.leaf ka2.leaf
        refine ew6 (And.intro hs hpn') @O1 @G1 (And.intro gk (And.intro gS1 gS2)) @lx @List.set_set.{0} ?_
        refine ⟨by unfold OkA;rfl,?_⟩
        have hl2 : (s.set qo (some ⟨1,((orow m.length C rp).set k [V.msl (rp p) 0 C]).set p [.msl (rp k) 0 C]⟩)).length = s.length:=by simp
        have hM2:=hM.swap hkl hpl rfl (s2:=s.set qo (some ⟨1,((orow m.length C rp).set k [V.msl (rp p) 0 C]).set p [.msl (rp k) 0 C]⟩)) (objAt_seteq hql) (fun o h _=>objAt_setne h)
        have kp2:=hM.kpq h0 (s2:=s.set qo (some ⟨1,((orow m.length C rp).set k [V.msl (rp p) 0 C]).set p [.msl (rp k) 0 C]⟩)) (fun o h _=>objAt_setne h)
        replace ka1:=ka1.fr kp2
        replace ka2:=ka2.fr kp2
        generalize s.set qo (some ⟨1,((orow m.length C rp).set k [V.msl (rp p) 0 C]).set p [.msl (rp k) 0 C]⟩) = s2 at *
        rw [← hl2]
        have hp1 : rrPv m.length M k < m.length:=hPv ▸ hpl
        have e1 : rrSwap M k p = rrOne m.length M k:=by unfold rrOne;rw [← hPv]
        rw [e1] at hM2
        have hOk1:=hOk.one hkl hp1
        have exk : elF (rrOne m.length M k) k k = x:=by
         rw [← hx,← e1]
         unfold elF rrSwap
         by_cases e : k = p
         ·rw [if_pos e,e]
         ·rw [if_neg e,if_pos rfl]
        have hL1:=fun i hi=>(hOk1 i hi).1
        have e2w : rrTwo m.length M k = fun i=>if i = k then rrDiv (rrOne m.length M k k) k else rrOne m.length M k i:=rfl
        have hOk2:=hOk.two hkl hp1
        have hstep : rrIt m.length (mF m) (k + 1) = rrStep m.length M k:=rrIt_s hIt
        have hsf:=@rrStep_f m.length M k
        have hst:=rrStep_t (n:=m.length) (M:=M) (k:=k) hp1
        have hOks:=fun M'=>hOk.step (M':=M') hkl
        generalize (fun x=>if x = p then rp k else if x = k then rp p else rp x) = rp2 at hM2
        generalize (fun x=>if x = p then A k else if x = k then A p else A x) = A2 at hM2
        have hDl:=rrDiv_len (rrOne m.length M k k) k
        have hDc:=rrDiv_cn (rrOne m.length M k k) k
        have hDa:=fun j hj=>rrDiv_at (rrOne m.length M k k) k (j:=j) hj
        have hlk:=hL1 k hkl
        have hck2:=fun j hj=>hM2.cell hL1 hkl (j:=j) hj
        have hel:=fun j hj=>hOk1.el hkl (j:=j) hj
        rw [show (rrOne m.length M k k).getD k default = x from exk] at hDa
        generalize rrTwo m.length M k = M2 at *
        generalize hM1 : rrOne m.length M k = M1 at *
        clear hs hzz hnz cs R1 O1 G1 gk gS1 gS2 hnq hpq hpn' hM hOk hOw gA hx hP hPv kp2 hp1 e1 hql hl2 hIt w
        have hrq:=hM2.ne hkl
        have hrl2:=hM2.lt.2 k hkl
        have hql2:=hM2.lt.1
        have hq2:=hM2.out
        have hrk:=hM2.row k hkl
        have hAk:=(hM2.cel k hkl).1
        rw [hlk] at hDl hAk
        have hDl' : (rrDiv (M1 k) k).length = C:=hDl
        have gk:=orow_at (c:=C) (rp:=rp2) hkl
        refine loop_at (fun x d=>(x == 156 && d == 107) || (x == 245 && d == 140)) (α:=Nat × Store × List (List V) × List Nat) (fun q=>⟨argE [.any,.any,.any,.any,.any,.any,iv (m.length : Nat),.msl qo 0 m.length,.any,.any,iv (k : Nat),.any,.ptr s2.length 0 0,.any,.any,.any,.any,.any,.any,.any,.any,.any,.any,.any,.any,.any,.any,.any,.any,.any,.any,.any,.any,.any,.any,.any,.any,.any,.any,.any,.any,.any,.any,.any,.any,.any,.any,.any,.any,.any,.any,.any,.any,.any,.any,.any,.any,.any,.any,.any,.any,.any,.any,.any,.any,.any,.any,.any,.any,.any,.any,.any,.any,.any,.any,.any,.any,.any,.any,.any,.any,.any,.any,.any,.any,.any,.any,.any,.any,.any,iv (C : Nat),iv (q.1 : Nat)],q.2.1,0,0,[],[]⟩) (fun q=>q.1 ≤ C ∧ SubI s2 q.2.1 (rp2 k) ⟨3,[[.bool x.neg,a1,a2]]⟩ (A2 k) (rrDiv (M1 k) k) q.1 q.2.2.1 q.2.2.2) (fun q=>C - q.1) rfl (0,(s2 ++ [none]).set s2.length (some ⟨3,[[.bool x.neg,a1,a2]]⟩),[],[]) ?_ ?_ ?_
        ·exact ⟨by omega,by rw [set_snoc];exact subI_init hrk⟩
        ·(refine Fg_env ?_;exact fgW)
        ·rintro ⟨j,t,N,os⟩ ⟨hj,I⟩
         dsimp only at hj I
         have hlt2:=I.len
         have hbx:=I.bx
         obtain ⟨b,hb⟩ : ∃ b,b = s2.length:=⟨_,rfl⟩
         rw [← hb] at hbx ⊢
         have hqt:=(I.old qo hql2 (fun e=>hrq e.symm)).trans hq2
         have hrt:=I.row
         by_cases hcj : (j : Int) < (C : Nat)
         ·have hjl : j < C:=by omega
          obtain ⟨b1,b2,gB,kb1,kb2⟩:=hck2 j hjl
          have kp:=I.kp hrk
          have cy:=hel j hjl
          have hz:=hDa j (by omega)
          rw [show (M1 k).getD j default = elF M1 k j from rfl] at hz
          have gA:=I.at (by omega)
          have gB2 : (A2 k)[j]? = some ((A2 k).getD j []):=getQ (by omega)
          rw [gB] at gB2
          rw [← Option.some.inj gB2] at gA
          replace kb1:=kb1.fr kp
          replace kb2:=kb2.fr kp
          have kw1:=ka1.fr kp
          have kw2:=ka2.fr kp
          generalize elF M1 k j = y at *
          have stp:=fun (q3 : Store) (c : List V) (o3 : List Nat) old len ho nd3 fr3=>I.step (q3:=q3) (c:=c) (o3:=o3) hrl2 (by omega) (by omega) hz old len ho nd3 fr3
          generalize hL : N ++ List.drop j (A2 k) = L at *
          have R1:=And.intro (And.intro kb1.r11 kb2.r11) (And.intro kw1.r11 kw2.r11)
          have hrs : rp2 k < t.length:=by omega
          have hqs : qo < t.length:=by omega
          have hbs : b < t.length:=by omega
          refine ew6 @hcj (And.intro hqt (And.intro hrt hbx)) (And.intro gk gA) @R1 @numK_any @or_sc ?_
          refine OwnK_gotP (fun o=>∃ l,objAt t o = some ⟨1,irows l⟩) (show PO T 156 [ratV y,ratV x] (ratV (divR y x)) from po_ratDivR h.d_impl_ratDiv cy hxc) (by (refine ew3 @R1 @numK_any @or_sc ?_;try with_reducible exact True.intro)) ?_ ?_
          ·intro o ho
           have ho : o ∈ reach t (11 + 1) (.agg [.bool y.neg,b1,b2]) ++ (reach t (11 + 1) (.agg [.bool x.neg,a1,a2]) ++ []):=ho
           rw [List.append_nil] at ho
           rcases List.mem_append.1 ho with ho | ho
           ·exact CellOk.rch ⟨_,_,rfl,kb1,kb2⟩ _ o ho
           ·exact CellOk.rch ⟨_,_,rfl,kw1,kw2⟩ _ o ho
          intro Q1 r q3 o3 hQ1 G
          generalize divR y x = z at *
          obtain ⟨_,rfl,hQ⟩:=G.ow.agg_inv
          obtain ⟨z1,z2,rfl⟩:=hQ.rat
          have lz:=OwL.leaf hQ rfl
          simp only [List.all_cons,List.all_nil,Bool.and_true,Bool.and_eq_true] at lz
          have gl3 : t.length ≤ q3.length:=G.len
          have old3 : ∀ o,o < t.length → objAt q3 o = objAt t o:=fun o ho=>G.old o ho
          have row3:=(old3 _ hrs).trans hrt
          have hr3 : rp2 k < q3.length:=by omega
          have stp2:=stp q3 _ o3 old3 gl3 hQ G.nd (fun o ho=>G.fresh o ho)
          have n1 : ∀ o ∈ Q1,o ≠ rp2 k:=fun o ho e=>by
           obtain ⟨l,hl⟩:=hQ1 o ho
           rw [e,hrt] at hl;cases hl
          clear hQ1 stp
          refine ew5 @lz (And.intro row3 hr3) @gA @numK_any @or_sc ?_
          refine ⟨?_,?_⟩
          ·clear stp2 old3 row3 hr3
           revert Q1
           refine OkA_dropA _ (fun R=>∀ o ∈ R,o ≠ rp2 k) 2 13 rfl (fun _=>rfl) ?_ ?_
           ·intro R hR b hb w hw hm
            simp only [List.mem_cons,List.not_mem_nil,or_false] at hb
            rcases hb with rfl | rfl | rfl | rfl | rfl | rfl | rfl | rfl | rfl | rfl | rfl | rfl | rfl | rfl | rfl | rfl
            all_goals first | (cases hw;done) | (rw [List.mem_singleton.1 hw] at hm;exact hR _ hm rfl)
           refine OkA_all3 (aF:=fun a b c=>[⟨15,[a],[a],false⟩,⟨14,[a],[],false⟩,⟨13,[],[],true⟩,⟨12,[c],[],false⟩,⟨11,[a],[],false⟩,⟨10,[a],[],false⟩,⟨9,[],[],false⟩,⟨8,[b],[],false⟩,⟨7,[b],[],false⟩,⟨6,[],[],false⟩,⟨5,[],[],false⟩,⟨4,[],[],false⟩,⟨3,[b],[],false⟩,⟨2,[b],[],false⟩,⟨1,[],[],false⟩,⟨0,[],[],false⟩]) (rp2 k) qo b t.length ?_ ?_ ?_ ?_
           ·exact nd3 hrq (by omega) (by omega)
           ·exact lt3 hrs hqs hbs
           ·exact fun _ _ _ _=>rfl
           ·unfold OkA;decide +kernel
          ·refine ⟨(j + 1,?st6,N ++ [[.bool z.neg,z1,z2]],os ++ o3),?c1,⟨?c2,?c4⟩,?c3⟩
           case c3=>dsimp only;(refine Fg_env ?_;exact fgW)
           case c1=>dsimp only;omega
           case c2=>dsimp only;omega
           case c4=>exact stp2
         ·have hje : j = C:=by omega
          obtain ⟨f1,f2⟩:=I.fin (by omega) (by omega)
          have hM3:=hM2.put hkl f1 I.old (row_ow f2).1
          rw [← e2w] at hM3
          have hO3:=((owF_no (s:=s2) (A:=A2) (M:=M1) (f:=fun _=>[])).put (k:=k) (I.kp hrk) f2 I.nd I.fr).ext (M2:=M2) (S2:=fun x=>x < 0 ∨ x = k) (fun i hi=>⟨hi.imp (fun h=>absurd h (Nat.not_lt_zero _)) id,by rw [e2w]⟩)
          have Rf:=hM3.rres hkl (hOk2 k hkl).1
          have cg:=c_goodRow h.d_impl_goodRow (hOk2 k hkl).2 (by rw [(hOk2 k hkl).1];exact hC)
          clear I hrt f1 f2 hM2 hbx hel hck2 hDa hDc hDl hDl' hAk hrk hq2
          rw [← rrMix_0 M2 k] at hM3 hO3
          have et : rrTri M2 k k = M2 k:=if_pos rfl
          cases hg : (M2 k).all R.ok
          ·rw [hg] at cg
           obtain ⟨e1,e2⟩:=rrV_none hc (hstep.trans (hsf (allOk_f hkl (by rw [et];exact hg)))) hkl
           rw [e1,e2]
           refine ew4 @hcj @hqt @gk @Rf ?_
           refine PFK_of cg ?_
           refine ew ?_
           exact (fin_nil (sz:=1)).tup1
          ·rw [hg] at cg
           refine ew4 @hcj @hqt @gk @Rf ?_
           refine PFK_of cg ?_
           refine ew1 @hqt ?_
           refine loop_at (fun x d=>(x == 156 && d == 107) || (x == 245 && d == 140)) (α:=Nat × Store × (Nat → List (List V)) × (Nat → List Nat)) (fun q=>⟨argE [.any,.any,.any,.any,.any,.any,iv (m.length : Nat),.msl qo 0 m.length,.any,.any,iv (k : Nat),.any,.any,.any,.any,.any,.any,.any,.any,.any,.any,.any,.any,.any,.any,.any,.any,.any,.any,.any,.any,.any,.any,.any,.any,.any,.any,.any,.any,.any,.any,.any,.any,.any,.any,.any,.any,.any,.any,.any,.any,.any,.any,.any,.any,.any,.any,.any,.any,.any,.any,.any,.any,.any,.any,.any,.any,.any,.any,.any,.any,.any,.any,.any,.any,.any,.any,.any,.any,.any,.any,.any,.any,.any,.any,.any,.any,.any,.any,.any,.any,.any,.any,.any,.any,.any,.any,.any,.any,.any,.any,.any,.any,.any,.any,.any,.any,.any,.any,.any,.any,.any,.any,.any,.any,.any,.any,iv (m.length : Nat),iv (q.1 : Nat)],q.2.1,0,0,[],[]⟩) (fun q=>q.1 ≤ m.length ∧ Mat q.2.1 qo m.length C rp2 q.2.2.1 (rrMix M2 k q.1) ∧ OwF q.2.1 q.2.2.1 (rrMix M2 k q.1) q.2.2.2 (fun x=>x < q.1 ∨ x = k) ∧ ∀ x,x < q.1 → (rrTri M2 k x).all R.ok = true) (fun q=>m.length - q.1) rfl (0,t,fun i=>if i = k then N else A2 i,fun i=>if i = k then os else []) ?_ ?_ ?_
           ·exact ⟨Nat.zero_le _,hM3,hO3,fun x hx=>absurd hx (Nat.not_lt_zero _)⟩
           ·(refine Fg_env ?_;exact fgW)
           ·clear hM3 hO3 hqt Rf hcj hj hje hb hlt2
            rintro ⟨i,u,A3,f⟩ ⟨hi,hM,hO,hgi⟩
            dsimp only at hi hM hO hgi
            by_cases hci : (i : Int) < (m.length : Nat)
            ·have hil : i < m.length:=by omega
             have hgi2 : (rrTri M2 k i).all R.ok = true → ∀ x,x < i + 1 → (rrTri M2 k x).all R.ok = true:=fun h x hx=>by
              by_cases e : x = i
              ·subst e;exact h
              ·exact hgi x (by omega)
             by_cases hik : i = k
             ·have hik' : ((i : Int) = (k : Nat)) = True:=eq_true (by omega)
              have em : ∀ x,rrMix M2 k (i + 1) x = rrMix M2 k i x:=fun x=>by
               unfold rrMix
               by_cases e : x < i
               ·rw [if_pos e,if_pos (by omega)]
               ·by_cases e2 : x = i
                ·rw [if_neg e,if_pos (by omega),e2,hik,et]
                ·rw [if_neg e,if_neg (by omega)]
              refine ew2 @hci @hik' ?_
              refine ⟨by unfold OkA;rfl,⟨(i + 1,u,A3,f),by dsimp only;omega,⟨by dsimp only;omega,hM.ext fun x _=>(em x).symm,hO.ext fun x hx=>⟨?_,(em x).symm⟩,hgi2 (by rw [hik,et];exact hg)⟩,by (refine Fg_env ?_;exact fgW)⟩⟩
              dsimp only at hx
              omega
             ·have hik' : ((i : Int) = (k : Nat)) = False:=eq_false (by omega)
              have hOm:=hOk2.mix hkl i
              have hlm:=fun x hx=>(hOm x hx).1
              have emi : rrMix M2 k i i = M2 i:=if_neg (Nat.lt_irrefl _)
              have emk : rrMix M2 k i k = M2 k:=by
               unfold rrMix
               split
               ·exact et
               ·rfl
              obtain ⟨w1,w2,gC,kc1,kc2⟩:=hM.cell hlm hil hkC
              rw [show elF (rrMix M2 k i) i k = elF M2 i k by unfold elF;rw [emi]] at gC kc1 kc2
              have etr : rrTri M2 k i = rrSub (M2 i) (M2 k) (elF M2 i k):=if_neg hik
              obtain ⟨u2,A',o',hr,g1,g2,g3,g4,g5,g6⟩:=rn_subtractRow h.d_impl_subtractRow (hM.row i hil) (hM.row k hkl) (fun e=>hik (hM.inj i k hil hkl e)) (hM.cel i hil) (hM.cel k hkl) (by rw [hlm k hkl,hlm i hil]) kc1 kc2 (hOm i hil).2 (hOm k hkl).2 (hOk2.el hil hkC) (by rw [hlm i hil];exact hC)
              rw [hlm i hil,emi,emk,← etr] at hr
              rw [emi,emk,← etr] at g2
              have kp : Kp u u2:=fun o l e=>g5 o (objAt_lt e) (fun e2=>by rw [e2,hM.row i hil] at e;cases e)
              have hM4:=hM.put hil g1 g5 (row_ow g2).1
              have hO4:=hO.put (k:=i) kp g2 g3 g4
              have em : ∀ x,(if x = i then rrTri M2 k i else rrMix M2 k i x) = rrMix M2 k (i + 1) x:=fun x=>by
               unfold rrMix
               by_cases e : x = i
               ·rw [if_pos e,if_pos (by omega),e]
               ·by_cases e2 : x < i
                ·rw [if_neg e,if_pos e2,if_pos (by omega)]
                ·rw [if_neg e,if_neg e2,if_neg (by omega)]
              generalize elF M2 i k = y at *
              have gi:=orow_at (c:=C) (rp:=rp2) hil
              have O1:=And.intro hM.out (hM.row i hil)
              refine ew4 @hci @hik' @O1 (And.intro gi (And.intro gk gC)) ?_
              refine OwnK_idn hr rfl g6 (Nat.le_refl _) ?_
              obtain ⟨bb,hbb⟩ : ∃ bb,(rrTri M2 k i).all R.ok = bb:=⟨_,rfl⟩
              rw [hbb]
              have hb2 : bb = false ∨ bb = true:=by cases bb <;> simp
              rcases hb2 with hb2 | hb2
              ·rw [hb2] at hbb
               obtain ⟨e1,e2⟩:=rrV_none hc (hstep.trans (hsf (allOk_f hil hbb))) hkl
               rw [e1,e2]
               refine ew4 @hb2 @hik' @numK_any @or_sc ?_
               refine ⟨by unfold OkA;rfl,?_⟩
               exact (fin_nil (sz:=1)).tup1
              ·rw [hb2] at hbb
               refine ew4 @hb2 @hik' @numK_any @or_sc ?_
               refine ⟨by unfold OkA;rfl,?_⟩
               refine ⟨(i + 1,u2,fun x=>if x = i then A' else A3 x,fun x=>if x = i then o' else f x),by dsimp only;omega,⟨by dsimp only;omega,hM4.ext fun x _=>em x,hO4.ext fun x hx=>⟨?_,em x⟩,hgi2 hbb⟩,by (refine Fg_env ?_;exact fgW)⟩
               dsimp only at hx
               omega
            ·have hie : i = m.length:=by omega
             subst hie
             have ha : allOk m.length (rrTri M2 k) = true:=allOk_iff.2 hgi
             have hnx:=hst ha
             have em : ∀ x,x < m.length → rrMix M2 k m.length x = rrTri M2 k x:=fun x hx=>by unfold rrMix;rw [if_pos hx]
             refine ew1 @hci ?_
             refine ⟨(k + 1,u,rp2,A3,rrTri M2 k,f),?c1,⟨?c2,?c4,?c5,?c6,?c7⟩,?c3⟩
             case c3=>dsimp only;(refine Fg_env ?_;exact fgW)
             case c1=>dsimp only;omega
             case c2=>dsimp only;omega
             case c4=>exact hM.ext em
             case c5=>exact hstep.trans hnx
             case c6=>exact hOks _ hnx
             case c7=>exact fun _=>hO.ext fun x hx=>⟨.inl hx,em x hx⟩
      ·have hpe : p = m.length:=by omega
       have hnn : rrStep m.length M k = none:=rrStep_p (by rw [← hP,hpe,Nat.sub_self];exact Nat.lt_irrefl _)
       obtain ⟨e1,e2⟩:=rrV_none hc ((rrIt_s hIt).trans hnn) hkl
       rw [e1,e2]
       have hpe' : ((p : Int) = (m.length : Nat)) = True:=eq_true (by omega)
       refine ew2 @hcp @hpe' ?_
       exact (fin_nil (sz:=1)).tup1
    ·have hke : k = m.length:=by omega
     subst hke
     obtain ⟨e1,e2⟩:=rrV_some hc hIt
     rw [e1,e2]
     refine ew1 @hck ?_
     exact (OwF.fin hM (hOw h0) (by omega) fun i hi=>(hOk i hi).1).tup1
def MatF (s : Store) (q n c : Nat) (rp : Nat → Nat) (M : MF) : Prop:=Mat s q n c rp (fun x=>(M x).map R.cells) M
def setR (M : MF) (i : Nat) (r : List R) : MF:=fun x=>if x = i then r else M x
theorem MatF.put {s s2 : Store} {q n c k : Nat} {rp : Nat → Nat} {M : MF} {r : List R} (h : MatF s q n c rp M) (hk : k < n) (hr : objAt s2 (rp k) = some ⟨3,r.map R.cells⟩) (ho : ∀ o,o < s.length → o ≠ rp k → objAt s2 o = objAt s o) : MatF s2 q n c rp (setR M k r):=by
 have:=Mat.put h hk hr ho (row_frz r)
 have e : (fun i=>if i = k then r.map R.cells else (M i).map R.cells) = fun x=>(setR M k r x).map R.cells:=by
  funext i;unfold setR;split <;> rfl
 rw [e] at this
 exact this
theorem MatF.swap {s : Store} {q n c k p : Nat} {rp : Nat → Nat} {M : MF} (h : MatF s q n c rp M) (hk : k < n) (hp : p < n) {rows : List (List V)} (hrows : rows = ((orow n c rp).set k [.msl (rp p) 0 c]).set p [.msl (rp k) 0 c]) {s2 : Store} (hq : objAt s2 q = some ⟨1,rows⟩) (ho : ∀ o,o ≠ q → o < s.length → objAt s2 o = objAt s o) :
  MatF s2 q n c (fun x=>if x = p then rp k else if x = k then rp p else rp x) (rrSwap M k p):=by
 have:=Mat.swap h hk hp hrows hq ho
 have e : (fun x=>if x = p then (M k).map R.cells else if x = k then (M p).map R.cells else (M x).map R.cells) = fun x=>(rrSwap M k p x).map R.cells:=by
  funext i;unfold rrSwap;split
  ·rfl
  ·split <;> rfl
 rw [e] at this
 exact this
theorem MatF.ext {s : Store} {q n c : Nat} {rp : Nat → Nat} {M M2 : MF} (h : MatF s q n c rp M) (e : ∀ i,i < n → M i = M2 i) : MatF s q n c rp M2 :=
 ⟨h.inj,h.out,fun i hi=>by rw [← e i hi];exact h.row i hi,fun i hi=>by rw [← e i hi];exact h.cel i hi⟩
theorem allOk_all (n : Nat) (M : MF) : (((List.range n).map M).all fun r=>r.all R.ok) = allOk n M:=by
 rw [Bool.eq_iff_iff,allOk_iff,List.all_eq_true]
 constructor
 ·intro h i hi;exact h _ (List.mem_map.2 ⟨i,List.mem_range.2 hi,rfl⟩)
 ·intro h r hr
  obtain ⟨i,hi,rfl⟩:=List.mem_map.1 hr
  exact h i (List.mem_range.1 hi)
theorem mixL_self {α : Type} (a : List α) (j : Nat) : mixL a a j = a:=List.take_append_drop j a
theorem rn_l09Copy {T : Nat → Option Fn} (h : D_spec_l09Copy T) {σ : Store} {m : List (List R)} {C : Nat} (h0 : 0 < m.length) (h10 : m.length ≤ 10) (hC0 : 0 < C) (hC : C ≤ 1048576) (hok : OkM m.length C (mF m)) :
  ∃ q σ' rp,Run T (.fn 325 [ratssV m] σ) (.fn (.msl q 0 m.length) σ') ∧ MatF σ' q m.length C rp (mF m) ∧ (∀ o,o < σ.length → objAt σ' o = objAt σ o) ∧ σ.length ≤ σ'.length:=by
 have : ∃ r σ',Run T (.fn 325 [ratssV m] σ) (.fn r σ') ∧ ∃ q rp,r = .msl q 0 m.length ∧ MatF σ' q m.length C rp (mF m) ∧ (∀ o,o < σ.length → objAt σ' o = objAt σ o) ∧ σ.length ≤ σ'.length:=by
  refine run_end (fun _ _=>false) h.hT rfl rfl ?_
  dsimp only [F_spec_l09Copy,oN,oS,oG,oK,oA,oH,oV,cI,St.enter,List.length_cons,List.length_nil,Nat.zero_add]
  refine ew ?_
  refine loop_at (fun _ _=>false) (α:=Nat × Store × V × Nat × (Nat → Nat)) (fun q=>⟨argE [.any,.any,.any,q.2.2.1,.any,.any,.any,.any,.any,.any,ratssV m,iv (m.length : Nat),iv (q.1 : Nat)],q.2.1,σ.length,0,[],[]⟩) (fun q=>q.1 ≤ m.length ∧ ((q.1 = 0 ∧ q.2.2.1 = .nils) ∨ (0 < q.1 ∧ q.2.2.1 = .msl q.2.2.2.1 0 q.1 ∧ MatF q.2.1 q.2.2.2.1 q.1 C q.2.2.2.2 (mF m))) ∧ (∀ o,o < σ.length → objAt q.2.1 o = objAt σ o) ∧ σ.length ≤ q.2.2.2.1 ∧ σ.length ≤ q.2.1.length) (fun q=>m.length - q.1) rfl (0,σ ++ [none],.nils,σ.length,fun _=>0) ?_ ?_ ?_
  ·exact ⟨by omega,.inl ⟨rfl,rfl⟩,fun o ho=>objAt_snoc_lt ho,Nat.le_refl _,by simp⟩
  ·(refine Fg_env ?_;exact fgW)
  ·rintro ⟨i,s,v3,q,rp⟩ ⟨hi,hM,hso,hsq,hsl⟩
   dsimp only at hi hM hso hsq hsl
   by_cases hcc : (i : Int) < (m.length : Nat)
   ·have hil : i < m.length:=by omega
    have hai : (m.map fun r=>[ratsV r]).getD i [] = [ratsV (m.getD i default)]:=mg (f:=fun r : List R=>[ratsV r]) hil
    obtain ⟨hri,hrc⟩:=hok i hil
    have emf : mF m i = m.getD i default:=rfl
    rw [emf] at hri hrc
    generalize m.getD i default = r at *
    refine ew2 @hcc @hai ?_
    refine loop_at (fun _ _=>false) (α:=Nat × Store × V × List R) (fun q=>⟨argE [.any,.any,.any,v3,.any,.any,q.2.2.1,.any,.any,.any,ratssV m,iv (m.length : Nat),iv (i : Nat),.any,.any,.any,.any,ratsV r,iv (r.length : Nat),iv (q.1 : Nat)],q.2.1,σ.length,0,[],[]⟩) (fun q=>q.1 ≤ r.length ∧ (∀ p,p < s.length → objAt q.2.1 p = objAt s p) ∧ s.length ≤ q.2.1.length ∧ RowN q.2.1 s.length q.2.2.1 q.2.2.2 ∧ q.2.2.2 = r.take q.1) (fun q=>r.length - q.1) rfl (0,s ++ [none],.nils,[]) ?_ ?_ ?_
    ·exact ⟨by omega,fun p hp=>objAt_snoc_lt hp,by simp,.inl ⟨rfl,rfl⟩,rfl⟩
    ·(refine Fg_env ?_;exact fgW)
    ·rintro ⟨j,t,v6,L⟩ ⟨hj,hf,hst,hR,hL⟩
     dsimp only at hj hf hst hR hL
     have hLl : L.length = j:=by rw [hL,List.length_take];omega
     by_cases hcj : (j : Int) < (r.length : Nat)
     ·have hjl : j < r.length:=by omega
      have hrj : (r.map R.cells).getD j [] = (r.getD j default).cells:=mg hjl
      have ex:=take_snoc hjl
      rw [← hL] at ex
      have cc:=c_l04Copy h.d_spec_l04Copy (r:=r.getD j default) (by have:=cn_len (hrc _ (getD_mem hjl));unfold R.sz;omega)
      generalize r.getD j default = x at *
      rcases hR with ⟨rfl,rfl⟩ | ⟨pr,rfl,hnp,hp⟩
      ·refine ew2 @hcj @hrj ?_
       refine PFK_of cc ?_
       refine ew ?_
       refine ⟨by omega,?_⟩
       refine ⟨(j + 1,?st2,.msl (t.length + 1 + 1) 0 1,[] ++ [x]),?c1,⟨?c2,?c4,?c5,.inr ⟨_,rfl,?c6,?c7⟩,ex.symm⟩,?c3⟩
       case c3=>dsimp only;(refine Fg_env ?_;exact fgW)
       case c1=>dsimp only;omega
       case c2=>dsimp only;omega
       case c4 =>
        dsimp only
        intro p hp
        rw [← hf p hp]
        exact obE
       case c5=>simp;omega
       case c6=>omega
       case c7=>exact objAt_seteq (by simp <;> omega)
      ·have hpl:=objAt_lt hp
       refine ew3 @hcj @hrj @hp ?_
       refine PFK_of cc ?_
       refine ew1 @hp ?_
       refine ⟨by omega,?_⟩
       refine ⟨(j + 1,?st3,.msl (t.length + 1 + 1) 0 (L.length + 1),L ++ [x]),?c1,⟨?c2,?c4,?c5,.inr ⟨_,by rw [List.length_append];rfl,?c6,?c7⟩,ex.symm⟩,?c3⟩
       case c3=>dsimp only;(refine Fg_env ?_;exact fgW)
       case c1=>dsimp only;omega
       case c2=>dsimp only;omega
       case c4 =>
        dsimp only
        intro p hp
        rw [← hf p hp]
        exact obE
       case c5=>simp;omega
       case c6=>omega
       case c7 =>
        dsimp only
        rw [List.map_append]
        exact objAt_seteq (by simp <;> omega)
     ·have hje : j = r.length:=by omega
      rw [hje,List.take_length] at hL
      subst hL
      rcases hR with ⟨rfl,rfl⟩ | ⟨pr,rfl,hnp,hp⟩
      ·simp at hri;omega
      have hpl:=objAt_lt hp
      rcases hM with ⟨rfl,rfl⟩ | ⟨hi0,rfl,hM⟩
      ·refine ew2 @hcj @hp ?_
       refine ⟨by omega,?_⟩
       refine ⟨(0 + 1,?st4,.msl (t.length + 1) 0 1,t.length + 1,fun x=>if x = 0 then pr else rp x),?c1,⟨?c2,.inr ⟨by omega,rfl,?c4⟩,?c5,?c6,?c7⟩,?c3⟩
       case c3=>dsimp only;(refine Fg_env ?_;exact fgW)
       case c1=>dsimp only;omega
       case c2=>dsimp only;omega
       case c4 =>
        dsimp only
        refine matF_snoc (s:=s) (q:=0) (.inl rfl) ?_ ?_ (by omega) (fun o ho _=>?_)
        ·rw [objAt_seteq (by simp)]
         rw [hri];rfl
        ·rw [emf,← hp]
         exact obE
        ·rw [← hf o ho]
         exact obE
       case c5 =>
        dsimp only
        intro o ho
        rw [← hso o ho,← hf o (by omega)]
        exact obE
       case c6=>dsimp only;omega
       case c7=>simp;omega
      ·have hq:=hM.out
       have hql:=hM.lt.1
       have hoc:=orow_len i C rp
       have hqt:=(hf q hql).trans hq
       refine ew4 @hcj @hp @hqt @hoc ?_
       refine ⟨by omega,?_⟩
       refine ⟨(i + 1,?st5,.msl (t.length + 1) 0 (i + 1),t.length + 1,fun x=>if x = i then pr else rp x),?c1,⟨?c2,.inr ⟨by omega,rfl,?c4⟩,?c5,?c6,?c7⟩,?c3⟩
       case c3=>dsimp only;(refine Fg_env ?_;exact fgW)
       case c1=>dsimp only;omega
       case c2=>dsimp only;omega
       case c4 =>
        dsimp only
        refine matF_snoc (s:=s) (q:=q) (.inr hM) ?_ ?_ (by omega) (fun o ho hne=>?_)
        ·rw [objAt_seteq (by simp)]
         rw [hri]
        ·have : pr ≠ q:=by omega
         rw [emf,← hp]
         exact obE
        ·rw [← hf o ho]
         exact obE
       case c5 =>
        dsimp only
        intro o ho
        have : o ≠ q:=by omega
        rw [← hso o ho,← hf o (by omega)]
        exact obE
       case c6=>dsimp only;omega
       case c7=>simp;omega
   ·have hie : i = m.length:=by omega
    subst hie
    rcases hM with ⟨h1,_⟩ | ⟨_,rfl,hM⟩
    ·omega
    refine ew1 @hcc ?_
    exact ⟨q,rp,rfl,hM,hso,hsl⟩
 obtain ⟨r,σ',h1,q,rp,rfl,h2⟩:=this
 exact ⟨q,σ',rp,h1,h2⟩
theorem MatF.cell {s : Store} {q n c : Nat} {rp : Nat → Nat} {M : MF} (h : MatF s q n c rp M) (hl : ∀ i,i < n → (M i).length = c) {i j : Nat} (hi : i < n) (hj : j < c) : ((M i).map R.cells)[j]? = some (elF M i j).cells:=by
 have hjl : j < (M i).length:=by rw [hl i hi];exact hj
 rw [mg? hjl];rfl
theorem mixL_cell {a b : List R} {j : Nat} (h : a.length = b.length) (hj : j < b.length) : ((mixL a b j).map R.cells)[j]? = some (b.getD j default).cells:=by
 rw [mg? (by rw [mixL_len h];exact hj),mixL_at h (Nat.le_refl _) (by omega)]
theorem mixL_setc {a b : List R} {j : Nat} {x : R} (h : a.length = b.length) (hj : j < b.length) (hx : a.getD j default = x) : ((mixL a b j).map R.cells).set j x.cells = (mixL a b (j + 1)).map R.cells:=by
 rw [← List.map_set,mixL_set h hj hx]
theorem setR_eq (M : MF) (i : Nat) (r : List R) : setR M i r i = r:=if_pos rfl
theorem setR_ne {M : MF} {i x : Nat} {r : List R} (h : x ≠ i) : setR M i r x = M x:=if_neg h
theorem setR_set (M : MF) (i : Nat) (r r2 : List R) : setR (setR M i r) i r2 = setR M i r2:=by
 funext x;unfold setR;split <;> rfl
theorem Mat.resN {s : Store} {q n c : Nat} {rp : Nat → Nat} {A : Nat → List (List V)} {M : MF} (h : Mat s q n c rp A M) (hl : ∀ i,i < n → (M i).length = c) (k : Nat) : resolve s (k + 5) (.msl q 0 n) = some (ratssV ((List.range n).map M)):=by
 rw [resolve]
 simp only [h.out]
 rw [if_pos (by rw [orow_len];omega),List.drop_zero,List.take_of_length_le (by rw [orow_len];omega)]
 have : ((orow n c rp).mapM fun (r : List V)=>r.mapM (resolve s (k + 4))) = some ((List.range n).map fun i=>[ratsV (M i)]):=by
  unfold orow
  rw [List.mapM_map]
  refine mapM_some fun i hi=>?_
  have hi:=List.mem_range.1 hi
  have h1:=(h.cel i hi).resN (h.row i hi) k
  rw [hl i hi] at h1
  simp only [Function.comp,List.mapM_cons,List.mapM_nil]
  rw [h1];rfl
 rw [this,Option.map_some]
 unfold ratssV
 rw [List.map_map]
 rfl
theorem setR_self (M : MF) (i : Nat) : setR M i (M i) = M:=by
 funext x;unfold setR
 by_cases e : x = i
 ·rw [if_pos e,e]
 ·rw [if_neg e]
theorem MatF.rowk {s : Store} {q n c k : Nat} {rp : Nat → Nat} {M : MF} {r : List R} (h : MatF s q n c rp M) (hk : k < n) (e : M k = r) : objAt s (rp k) = some ⟨3,r.map R.cells⟩:=by
 have:=h.row k hk
 rw [← e];exact this
theorem rn_l09Copy0 {T : Nat → Option Fn} (h : D_spec_l09Copy T) {m : List (List R)} (h0 : m.length = 0) : ∃ σ',Run T (.fn 325 [ratssV m] []) (.fn .nils σ'):=by
 have : ∃ r σ',Run T (.fn 325 [ratssV m] []) (.fn r σ') ∧ r = .nils:=by
  refine run_end (fun _ _=>false) h.hT rfl rfl ?_
  dsimp only [F_spec_l09Copy,oN,oS,oG,oK,oA,oH,oV,cI,St.enter,List.length_cons,List.length_nil,Nat.zero_add]
  refine ew ?_
  refine loop_at (fun _ _=>false) (α:=Nat) (fun i=>⟨argE [.any,.any,.any,.nils,.any,.any,.any,.any,.any,.any,ratssV m,iv (m.length : Nat),iv (i : Nat)],[none],0,0,[],[]⟩) (fun i=>i = 0) (fun i=>i) rfl 0 ?_ ?_ ?_
  ·rfl
  ·(refine Fg_env ?_;exact fgW)
  ·rintro i rfl
   have hcc : ¬ (((0 : Nat) : Int) < (m.length : Nat)):=by omega
   (refine ew1 @hcc ?_;try with_reducible exact True.intro)
 obtain ⟨r,σ',h1,rfl⟩:=this
 exact ⟨σ',h1⟩
theorem c_sReduceRows {T : Nat → Option Fn} (h : D_spec_ReduceRows T) {m : List (List R)} {c : Int} (hw : wfL (wfL R.wf) m) (hz : rrC m c = true → szL (szL R.sz) m ≤ 1048576) (hcw : c ≤ 9223372036854775807) : PF T 310 [ratssV m,iv c] (.tup [ratssV (rrM m c),.bool (rrB m c)]):=by
 have c1:=c_sIsMatrix h.d_spec_IsMatrix (m:=m) (cols:=c) hw hcw
 have hml:=hw.1
 cases hc : rrC m c
 ·obtain ⟨e1,e2⟩:=rrV_bad hc
  rw [e1,e2]
  unfold rrC at hc
  generalize matOk m c = x at c1 hc
  have hx : x = false ∨ x = true:=by cases x <;> simp
  refine pf_endL (fun _ _=>false) h.hT rfl rfl ?_
  dsimp only [F_spec_ReduceRows,oN,oS,oG,oK,oA,oH,oV,cI]
  refine ev ?_
  refine PFK_of c1 ?_
  rcases hx with hx | hx
  ·refine ev1 @hx ?_
   exact of_eq_true (by simp [LaxV,LaxL,ratssV])
  ·have hlt : c < (m.length : Nat):=by
    rw [hx,Bool.true_and,decide_eq_false_iff_not] at hc
    omega
   refine ev2 @hx @hlt ?_
   exact of_eq_true (by simp [LaxV,LaxL,ratssV])
 obtain ⟨h10,hnc,hmo,hok⟩:=rrC_ok hc
 rw [hmo] at c1
 have hlt : ¬ c < (m.length : Nat):=by omega
 obtain ⟨C,rfl⟩ : ∃ C : Nat,c = C:=⟨c.toNat,by omega⟩
 rw [Int.toNat_natCast] at hok
 have hrl : ∀ i,i < m.length → (m.getD i default).length = C:=fun i hi=>(hok i hi).1
 rcases Nat.eq_zero_or_pos m.length with h0 | h0
 ·obtain ⟨e1,e2⟩:=rrV_some hc (M:=mF m) (by rw [h0];rfl)
  rw [h0] at e1
  rw [e1,e2]
  obtain ⟨s1,cr⟩:=rn_l09Copy0 h.d_spec_l09Copy h0
  refine pf_endL (fun x d=>(x == 325 && d == 26)) h.hT rfl rfl ?_
  dsimp only [F_spec_ReduceRows,oN,oS,oG,oK,oA,oH,oV,cI]
  refine ew ?_
  refine PFK_of c1 ?_
  refine ew1 @hlt ?_
  refine RefK_mk cr rfl (by simp) (by simp) ?_
  refine ew ?_
  refine loop_at (fun x d=>(x == 325 && d == 26)) (α:=Nat) (fun k=>⟨argE [.any,.any,.any,.any,.any,.any,.nils,.any,.any,.any,.any,.any,.any,.any,.any,.any,.any,.any,.any,.any,.any,.any,.any,.any,.any,.any,.any,.any,iv 0,iv (k : Nat)],s1,0,0,[],[]⟩) (fun k=>k = 0) (fun k=>k) rfl 0 ?_ ?_ ?_
  ·rfl
  ·(refine Fg_env ?_;exact fgW)
  ·rintro k hk
   have hcc : ¬ ((k : Int) < 0):=by omega
   refine ew1 @hcc ?_
   exact of_eq_true (by simp [LaxV,LaxL,ratssV])
 have hC:=mat_bd (hz hc) h0 hrl
 clear hw hz hml
 obtain ⟨qo,s1,rp1,cr,hM1,_,_⟩:=rn_l09Copy h.d_spec_l09Copy (σ:=[]) h0 h10 (by omega) hC hok
 refine pf_endL (fun x d=>(x == 325 && d == 26)) h.hT rfl rfl ?_
 dsimp only [F_spec_ReduceRows,oN,oS,oG,oK,oA,oH,oV,cI]
 refine ew ?_
 refine PFK_of c1 ?_
 refine ew1 @hlt ?_
 refine RefK_mk cr rfl (by simp) (by simp) ?_
 have hq1:=hM1.out
 refine ew1 @hq1 ?_
 refine loop_at (fun x d=>(x == 325 && d == 26)) (α:=Nat × Store × (Nat → Nat) × MF) (fun q=>⟨argE [.any,iv C,.any,.any,.any,.any,.msl qo 0 m.length,.any,.any,.any,.any,.any,.any,.any,.any,.any,.any,.any,.any,.any,.any,.any,.any,.any,.any,.any,.any,.any,iv (m.length : Nat),iv (q.1 : Nat)],q.2.1,0,0,[],[]⟩) (fun q=>q.1 ≤ m.length ∧ MatF q.2.1 qo m.length C q.2.2.1 q.2.2.2 ∧ rrIt m.length (mF m) q.1 = some q.2.2.2 ∧ OkM m.length C q.2.2.2) (fun q=>m.length - q.1) rfl (0,s1,rp1,mF m) ?_ ?_ ?_
 ·exact ⟨by omega,hM1,rfl,hok⟩
 ·(refine Fg_env ?_;exact fgW)
 ·clear hM1 hok hrl cr hq1
  rintro ⟨k,s,rp,M⟩ ⟨hk,hM,hIt,hOk⟩
  dsimp only at hk hM hIt hOk
  by_cases hck : (k : Int) < (m.length : Nat)
  ·have hkl : k < m.length:=by omega
   have hkC : k < C:=by omega
   have hql:=hM.lt.1
   have hq:=hM.out
   refine ew1 @hck ?_
   refine loop_at (fun x d=>(x == 325 && d == 26)) (α:=Nat) (fun p=>⟨argE [.any,iv C,.any,.any,.any,.any,.msl qo 0 m.length,iv (k : Nat),iv (p : Nat),.any,.any,.any,.any,.any,.any,.any,.any,.any,.any,.any,.any,.any,.any,.any,.any,.any,.any,.any,iv (m.length : Nat),iv (k : Nat)],s,0,0,[],[]⟩) (fun p=>k ≤ p ∧ p ≤ m.length ∧ rrP M k (m.length - p) p = rrPv m.length M k) (fun p=>m.length - p) rfl k ?_ ?_ ?_
   ·exact ⟨Nat.le_refl _,by omega,rfl⟩
   ·(refine Fg_env ?_;exact fgW)
   ·rintro p ⟨hkp,hpn,hP⟩
    by_cases hcp : (p : Int) < (m.length : Nat)
    ·have hpl : p < m.length:=by omega
     have gA:=hM.cell (fun i hi=>(hOk i hi).1) hpl hkC
     have hxc:=hOk.el hpl hkC
     have cs:=c_sRatSign h.d_spec_RatSign (cn_wf hxc)
     have hzz:=rrP_z (M:=M) (k:=k) hpl
     have hnz:=rrP_n (M:=M) (k:=k) hpl
     unfold sgnR at hzz hnz
     obtain ⟨x,hx⟩ : ∃ x,elF M p k = x:=⟨_,rfl⟩
     rw [hx] at gA cs hzz hnz hxc
     have O1:=And.intro hq (hM.row p hpl)
     have G1:=And.intro (orow_at (c:=C) (rp:=rp) hpl) gA
     refine ew3 @hcp @O1 @G1 ?_
     refine PFK_of cs ?_
     by_cases hs : signQ x.q = 0
     ·refine ew1 @hs ?_
      exact ⟨p + 1,by omega,⟨by omega,by omega,(hzz hs).symm.trans hP⟩,by (refine Fg_env ?_;exact fgW)⟩
     ·have hPv:=(hnz hs).symm.trans hP
      have hpn' : ¬ ((p : Int) = (m.length : Nat)):=by omega
      have gk:=orow_at (c:=C) (rp:=rp) hkl
      obtain ⟨w,gS1⟩ : ∃ w,((orow m.length C rp).set k [V.msl (rp p) 0 C])[p]? = some [w]:=by rw [orow_set];exact ⟨_,orow_at hpl⟩
      have gS2 : (((orow m.length C rp).set k [V.msl (rp p) 0 C]).set p [.msl (rp k) 0 C])[k]? = some [.msl (rp p) 0 C]:=by
       rw [orow_set,orow_set,orow_at hkl]
       by_cases e : k = p
       ·subst e;simp
       ·rw [if_neg e,if_pos rfl]
      have hnq:=hM.ne hpl
      have hpq:=hM.lt.2 p hpl
      refine ew5 (And.intro hs hpn') @O1 @G1 (And.intro gk (And.intro gS1 gS2)) @List.set_set.{0} ?_
      have hl2 : (s.set qo (some ⟨1,((orow m.length C rp).set k [V.msl (rp p) 0 C]).set p [.msl (rp k) 0 C]⟩)).length = s.length:=by simp
      have hM2:=hM.swap hkl hpl rfl (s2:=s.set qo (some ⟨1,((orow m.length C rp).set k [V.msl (rp p) 0 C]).set p [.msl (rp k) 0 C]⟩)) (objAt_seteq hql) (fun o h _=>objAt_setne h)
      generalize s.set qo (some ⟨1,((orow m.length C rp).set k [V.msl (rp p) 0 C]).set p [.msl (rp k) 0 C]⟩) = s2 at *
      rw [← hl2]
      have hp1 : rrPv m.length M k < m.length:=hPv ▸ hpl
      have e1 : rrSwap M k p = rrOne m.length M k:=by unfold rrOne;rw [← hPv]
      rw [e1] at hM2
      have hOk1:=hOk.one hkl hp1
      have exk : elF (rrOne m.length M k) k k = x:=by
       rw [← hx,← e1]
       unfold elF rrSwap
       by_cases e : k = p
       ·rw [if_pos e,e]
       ·rw [if_neg e,if_pos rfl]
      have hL1:=fun i hi=>(hOk1 i hi).1
      have e2w : rrTwo m.length M k = setR (rrOne m.length M k) k (rrDiv (rrOne m.length M k k) k):=rfl
      have hOk2:=hOk.two hkl hp1
      have hstep : rrIt m.length (mF m) (k + 1) = rrStep m.length M k:=rrIt_s hIt
      have hsf:=@rrStep_f m.length M k
      have hst:=rrStep_t (n:=m.length) (M:=M) (k:=k) hp1
      have hOks:=fun M'=>hOk.step (M':=M') hkl
      generalize (fun x=>if x = p then rp k else if x = k then rp p else rp x) = rp2 at hM2
      have hDl:=rrDiv_len (rrOne m.length M k k) k
      have hDa:=fun j hj=>rrDiv_at (rrOne m.length M k k) k (j:=j) hj
      have hlk:=hL1 k hkl
      have hel:=fun j hj=>hOk1.el hkl (j:=j) hj
      rw [show (rrOne m.length M k k).getD k default = x from exk] at hDa
      generalize rrTwo m.length M k = M2 at *
      generalize hM1 : rrOne m.length M k = M1 at *
      clear hs hzz hnz cs O1 G1 gk gS1 gS2 hnq hpq hpn' hM hOk gA hx hP hPv hp1 e1 hql hl2 hIt w hq
      have hrq:=hM2.ne hkl
      have hrl2:=hM2.lt.2 k hkl
      have gk:=orow_at (c:=C) (rp:=rp2) hkl
      generalize hD : rrDiv (M1 k) k = D at *
      refine loop_at (fun x d=>(x == 325 && d == 26)) (α:=Nat × Store) (fun q=>⟨argE [.any,iv C,.any,.any,.any,.any,.msl qo 0 m.length,iv (k : Nat),.any,.any,.ptr s2.length 0 0,.any,.any,.any,.any,.any,.any,.any,.any,.any,.any,.any,.any,.any,.any,.any,.any,.any,iv (m.length : Nat),iv (k : Nat),.any,.any,.any,.any,.any,.any,.any,.any,.any,.any,.any,.any,.any,.any,.any,.any,.any,.any,.any,.any,.any,.any,.any,.any,.any,.any,.any,.any,.any,.any,.any,.any,.any,.any,.any,.any,.any,.any,.any,.any,.any,.any,.any,.any,.any,.any,.any,.any,.any,.any,iv (C : Nat),iv (q.1 : Nat)],q.2,0,0,[],[]⟩) (fun q=>q.1 ≤ C ∧ MatF q.2 qo m.length C rp2 (setR M1 k (mixL D (M1 k) q.1)) ∧ objAt q.2 s2.length = some ⟨3,[x.cells]⟩) (fun q=>C - q.1) rfl (0,(s2 ++ [none]).set s2.length (some ⟨3,[x.cells]⟩)) ?_ ?_ ?_
      ·refine ⟨Nat.zero_le _,?_,by rw [set_snoc];exact objAt_snoc _ _⟩
       rw [mixL_0,setR_self,set_snoc]
       exact hM2.fr fun o ho=>objAt_snoc_lt ho
      ·(refine Fg_env ?_;exact fgW)
      ·rintro ⟨j,t⟩ ⟨hj,hMt,hbx⟩
       dsimp only at hj hMt hbx
       have hqt:=hMt.out
       have hqs:=hMt.lt.1
       have hrs:=hMt.lt.2 k hkl
       have hrt:=hMt.rowk hkl (setR_eq _ _ _)
       by_cases hcj : (j : Int) < (C : Nat)
       ·have hjl : j < C:=by omega
        have cy:=hel j hjl
        have hz:=hDa j (by omega)
        rw [show (M1 k).getD j default = elF M1 k j from rfl] at hz
        have gB:=mixL_cell (a:=D) (b:=M1 k) (j:=j) (by omega) (by omega)
        rw [show (M1 k).getD j default = elF M1 k j from rfl] at gB
        have gS:=mixL_setc (a:=D) (b:=M1 k) (j:=j) (by omega) (by omega) hz
        have cd:=c_sRatDiv h.d_spec_RatDiv (cn_wf cy) (cn_wf hxc)
        generalize elF M1 k j = y at *
        generalize divR y x = z at *
        have hbs:=objAt_lt hbx
        refine ew3 @hcj (And.intro hqt (And.intro hrt hbx)) (And.intro gk gB) ?_
        refine PFK_of cd ?_
        refine ew2 (And.intro hqt (And.intro hrt hbx)) (And.intro gk gB) ?_
        refine ⟨by unfold OkA;rfl,?_⟩
        refine ⟨(j + 1,?st),?c1,⟨?c2,?c4,?c5⟩,?c3⟩
        case c3=>dsimp only;(refine Fg_env ?_;exact fgW)
        case c1=>dsimp only;omega
        case c2=>dsimp only;omega
        case c4 =>
         dsimp only
         have:=hMt.put (k:=k) (r:=mixL D (M1 k) (j + 1)) hkl (s2:=t.set (rp2 k) (some ⟨3,((mixL D (M1 k) j).map R.cells).set j z.cells⟩)) (by rw [objAt_seteq hrs,gS]) (fun o _ ho=>objAt_setne ho)
         rw [setR_set] at this
         exact this
        case c5 =>
         dsimp only
         rw [objAt_setne (by omega)]
         exact hbx
       ·have hje : j = C:=by omega
        rw [hje,← hlk,mixL_all _ _ (by omega) (by omega),← e2w,hlk] at hMt
        clear hbx hrt hrl2 hqs hrs hD hDl hDa
        refine ew2 @hcj @hqt ?_
        have et : rrTri M2 k k = M2 k:=if_pos rfl
        have hl22:=fun i hi=>(hOk2 i hi).1
        rw [← rrMix_0 M2 k] at hMt
        refine loop_at (fun x d=>(x == 325 && d == 26)) (α:=Nat × Store) (fun q=>⟨argE [.any,iv C,.any,.any,.any,.any,.msl qo 0 m.length,iv (k : Nat),.any,.any,.any,.any,.any,.any,.any,.any,.any,.any,.any,.any,.any,.any,.any,.any,.any,.any,.any,.any,iv (m.length : Nat),iv (k : Nat),.any,.any,.any,.any,.any,.any,.any,.any,.any,.any,.any,.any,.any,.any,.any,.any,.any,.any,.any,.any,.any,.any,.any,.any,.any,.any,.any,.any,.any,.any,.any,.any,.any,.any,.any,.any,.any,.any,.any,.any,.any,.any,.any,.any,.any,.any,.any,.any,.any,.any,.any,.any,.any,.any,.any,.any,.any,.any,.any,.any,.any,.any,.any,.any,.any,.any,.any,.any,.any,.any,.any,iv (m.length : Nat),iv (q.1 : Nat)],q.2,0,0,[],[]⟩) (fun q=>q.1 ≤ m.length ∧ MatF q.2 qo m.length C rp2 (rrMix M2 k q.1)) (fun q=>m.length - q.1) rfl (0,t) ?_ ?_ ?_
        ·exact ⟨Nat.zero_le _,hMt⟩
        ·(refine Fg_env ?_;exact fgW)
        ·clear hMt hqt hM2
         rintro ⟨i,t⟩ ⟨hi,hMt⟩
         dsimp only at hi hMt
         have hqt:=hMt.out
         by_cases hci : (i : Int) < (m.length : Nat)
         ·have hil : i < m.length:=by omega
          have hOm:=hOk2.mix hkl i
          have hlm:=fun x hx=>(hOm x hx).1
          have emi : rrMix M2 k i i = M2 i:=if_neg (Nat.lt_irrefl _)
          have emk : rrMix M2 k i k = M2 k:=by
           unfold rrMix
           split
           ·exact et
           ·rfl
          have gC:=hMt.cell hlm hil hkC
          rw [show elF (rrMix M2 k i) i k = elF M2 i k by unfold elF;rw [emi],emi] at gC
          have hrt:=hMt.rowk hil emi
          have cy:=hOk2.el hil hkC
          have gi:=orow_at (c:=C) (rp:=rp2) hil
          have etr : rrTri M2 k i = if i = k then M2 k else rrSub (M2 i) (M2 k) (elF M2 i k):=rfl
          have emx : ∀ x,setR (rrMix M2 k i) i (rrTri M2 k i) x = rrMix M2 k (i + 1) x:=fun x=>by
           unfold setR rrMix
           by_cases e : x = i
           ·rw [if_pos e,if_pos (by omega),e]
           ·by_cases e2 : x < i
            ·rw [if_neg e,if_pos e2,if_pos (by omega)]
            ·rw [if_neg e,if_neg e2,if_neg (by omega)]
          have hTl : (rrTri M2 k i).length = (M2 i).length:=by
           rw [etr]
           split
           ·rw [hl22 k hkl,hl22 i hil]
           ·rw [rrSub_len]
          have hTa:=fun j hj=>rrSub_at (M2 i) (M2 k) (elF M2 i k) (j:=j) hj
          have helk:=fun j hj=>hOk2.el hkl (j:=j) hj
          have heli:=fun j hj=>hOk2.el hil (j:=j) hj
          have hli:=hl22 i hil
          have hlkk:=hl22 k hkl
          generalize elF M2 i k = y at *
          have hqs:=hMt.lt.1
          have hrl3:=hMt.lt.2 i hil
          refine ew3 @hci (And.intro hqt hrt) (And.intro gi gC) ?_
          refine loop_at (fun x d=>(x == 325 && d == 26)) (α:=Nat × Store) (fun q=>⟨argE [.any,iv C,.any,.any,.any,.any,.msl qo 0 m.length,iv (k : Nat),.any,.any,.any,.any,iv (i : Nat),.ptr t.length 0 0,.any,.any,.any,.any,.any,.any,.any,.any,.any,.any,.any,.any,.any,.any,iv (m.length : Nat),iv (k : Nat),.any,.any,.any,.any,.any,.any,.any,.any,.any,.any,.any,.any,.any,.any,.any,.any,.any,.any,.any,.any,.any,.any,.any,.any,.any,.any,.any,.any,.any,.any,.any,.any,.any,.any,.any,.any,.any,.any,.any,.any,.any,.any,.any,.any,.any,.any,.any,.any,.any,.any,.any,.any,.any,.any,.any,.any,.any,.any,.any,.any,.any,.any,.any,.any,.any,.any,.any,.any,.any,.any,.any,iv (m.length : Nat),iv (i : Nat),.any,.any,.any,.any,.any,.any,.any,.any,.any,.any,.any,.any,.any,iv (C : Nat),iv (q.1 : Nat)],q.2,0,0,[],[]⟩) (fun q=>q.1 ≤ C ∧ MatF q.2 qo m.length C rp2 (setR (rrMix M2 k i) i (mixL (rrTri M2 k i) (M2 i) q.1)) ∧ objAt q.2 t.length = some ⟨3,[y.cells]⟩) (fun q=>C - q.1) rfl (0,t ++ [some (⟨3,[y.cells]⟩ : Obj)]) ?_ ?_ ?_
          ·refine ⟨Nat.zero_le _,?_,objAt_snoc _ _⟩
           rw [mixL_0,← emi,setR_self]
           exact hMt.fr fun o ho=>objAt_snoc_lt ho
          ·(refine Fg_env ?_;exact fgW)
          ·clear hrt hqt gC
           rintro ⟨j,u⟩ ⟨hj,hMu,hbx⟩
           dsimp only at hj hMu hbx
           by_cases hcj2 : (j : Int) < (C : Nat)
           ·have hjl : j < C:=by omega
            by_cases hik : i = k
            ·have hik' : ((i : Int) = (k : Nat)) = True:=eq_true (by omega)
             have e0 : rrTri M2 k i = M2 i:=by rw [etr,if_pos hik,hik]
             refine ew2 @hcj2 @hik' ?_
             refine ⟨(j + 1,u),by dsimp only;omega,⟨by dsimp only;omega,?_,hbx⟩,by (refine Fg_env ?_;exact fgW)⟩
             dsimp only
             rw [e0,mixL_self] at hMu ⊢
             exact hMu
            ·have hik' : ((i : Int) = (k : Nat)) = False:=eq_false (by omega)
             have e0 : rrTri M2 k i = rrSub (M2 i) (M2 k) y:=by rw [etr,if_neg hik]
             have hqu:=hMu.out
             have hru:=hMu.rowk hil (setR_eq _ _ _)
             have hku:=hMu.rowk hkl ((setR_ne (fun e=>hik e.symm)).trans emk)
             have hrs:=hMu.lt.2 i hil
             have hbs:=objAt_lt hbx
             have hz:=hTa j (by omega)
             rw [← e0,show (M2 i).getD j default = elF M2 i j from rfl,show (M2 k).getD j default = elF M2 k j from rfl,mulR_comm] at hz
             have gB:=mixL_cell (a:=rrTri M2 k i) (b:=M2 i) (j:=j) hTl (by omega)
             rw [show (M2 i).getD j default = elF M2 i j from rfl] at gB
             have gK : ((M2 k).map R.cells)[j]? = some (elF M2 k j).cells:=mg? (by omega)
             have gS:=mixL_setc (a:=rrTri M2 k i) (b:=M2 i) (j:=j) hTl (by omega) hz
             have cm:=c_sRatMul h.d_spec_RatMul (cn_wf cy) (cn_wf (helk j hjl))
             have cs:=c_sRatSub h.d_spec_RatSub (cn_wf (heli j hjl)) (cn_wf (mulR_cn y (elF M2 k j)))
             generalize elF M2 k j = r at *
             generalize elF M2 i j = x2 at *
             generalize mulR y r = mm at *
             generalize subR x2 mm = z at *
             refine ew4 @hcj2 @hik' (And.intro hqu (And.intro hru (And.intro hku hbx))) (And.intro gi (And.intro gk (And.intro gB gK))) ?_
             refine PFK_of cm ?_
             refine ew ?_
             refine PFK_of cs ?_
             refine ew2 (And.intro hqu (And.intro hru (And.intro hku hbx))) (And.intro gi (And.intro gk (And.intro gB gK))) ?_
             refine ⟨by unfold OkA;rfl,?_⟩
             refine ⟨(j + 1,?st3),?c1,⟨?c2,?c4,?c5⟩,?c3⟩
             case c3=>dsimp only;(refine Fg_env ?_;exact fgW)
             case c1=>dsimp only;omega
             case c2=>dsimp only;omega
             case c4 =>
              dsimp only
              have:=hMu.put (k:=i) (r:=mixL (rrTri M2 k i) (M2 i) (j + 1)) hil (s2:=u.set (rp2 i) (some ⟨3,((mixL (rrTri M2 k i) (M2 i) j).map R.cells).set j z.cells⟩)) (by rw [objAt_seteq hrs,gS]) (fun o _ ho=>objAt_setne ho)
              rw [setR_set] at this
              exact this
             case c5 =>
              dsimp only
              rw [objAt_setne (by omega)]
              exact hbx
           ·have hje2 : j = C:=by omega
            rw [hje2,← hli,mixL_all _ _ (by omega) (by omega),hli] at hMu
            refine ew1 @hcj2 ?_
            exact ⟨(i + 1,u),by dsimp only;omega,⟨by dsimp only;omega,hMu.ext fun x _=>emx x⟩,by (refine Fg_env ?_;exact fgW)⟩
         ·have hie : i = m.length:=by omega
          subst hie
          have em : ∀ x,x < m.length → rrMix M2 k m.length x = rrTri M2 k x:=fun x hx=>by unfold rrMix;rw [if_pos hx]
          have hM3:=hMt.ext em
          have hOk3:=hOk2.tri hkl
          have Rf:=hM3.res fun i hi=>(hOk3 i hi).1
          have hms:=mat_sz (m:=(List.range m.length).map (rrTri M2 k)) (n:=C) (fun r hr=>by
           obtain ⟨i,hi,rfl⟩:=List.mem_map.1 hr
           have:=hOk3 i (List.mem_range.1 hi)
           exact ⟨this.2,by omega⟩) hC (by simpa using h10)
          have c2:=c_sIsMatrix h.d_spec_IsMatrix (m:=(List.range m.length).map (rrTri M2 k)) (cols:=(C : Nat)) hms.2 hcw
          rw [matOk_of (fun r hr=>by
           obtain ⟨i,hi,rfl⟩:=List.mem_map.1 hr
           have:=(hOk3 i (List.mem_range.1 hi)).1
           omega) (by simpa using h10),allOk_all] at c2
          cases ha : allOk m.length (rrTri M2 k)
          ·rw [ha] at c2
           obtain ⟨e1,e2⟩:=rrV_none hc (hstep.trans (hsf ha)) hkl
           rw [e1,e2]
           refine ew2 @hci @Rf ?_
           refine PFK_of c2 ?_
           refine ew ?_
           exact of_eq_true (by simp [LaxV,LaxL,ratssV])
          ·rw [ha] at c2
           have hnx:=hst ha
           refine ew2 @hci @Rf ?_
           refine PFK_of c2 ?_
           refine ew ?_
           exact ⟨(k + 1,t,rp2,rrTri M2 k),by dsimp only;omega,⟨by dsimp only;omega,hM3,hstep.trans hnx,hOks _ hnx⟩,by (refine Fg_env ?_;exact fgW)⟩
    ·have hpe : p = m.length:=by omega
     have hnn : rrStep m.length M k = none:=rrStep_p (by rw [← hP,hpe,Nat.sub_self];exact Nat.lt_irrefl _)
     obtain ⟨e1,e2⟩:=rrV_none hc ((rrIt_s hIt).trans hnn) hkl
     rw [e1,e2]
     have hpe' : ((p : Int) = (m.length : Nat)) = True:=eq_true (by omega)
     refine ew3 @hcp @hpe' @hq ?_
     exact of_eq_true (by simp [LaxV,LaxL,ratssV])
  ·have hke : k = m.length:=by omega
   subst hke
   obtain ⟨e1,e2⟩:=rrV_some hc hIt
   rw [e1,e2]
   have Rf:=(r1_mslO s qo 0 m.length).symm.trans (hM.resN (fun i hi=>(hOk i hi).1) 6)
   refine ew2 @hck @Rf ?_
   exact laxV_refl _
def F_spec_InvertMatrix : Fn:=⟨1,74,[.tmp 2,.tmp 3],(.seq (.reg false 0 [oN 2 (.mov (.c (.nils))),oN 3 (.mov (.c (.bool false)))]) (.seq (.seq (.reg false 0 [oN 13 (oV 0),oN 14 (oV 0),oN 15 (.len (.t 14)),oN 16 (.call 91 [(.t 13),(.t 15)]),oN 17 (.un .not (.t 16))]) (.cond (.t 17) (.seq (.reg false 0 [oN 2 (.mov (.c (.nils))),oN 3 (.mov (.c (.bool false)))]) .ret) .skip)) (.seq (.reg false 0 [oN 18 (oV 0),oN 19 (.call 325 [(.t 18)]),oN 4 (oV 19)]) (.seq (.seq (.reg false 0 [oN 20 (oV 4),oN 21 (.len (.t 20)),oN 22 (.mov (cI 0))]) (.block 0 (.loop (.seq (.reg false 0 [oN 23 (.bin .lss (.t 22) (.t 21))]) (.seq (.cond (.t 23) .skip (.exit 0)) (.seq (.block 1 (.seq (.reg false 0 [oN 24 (oV 22),oN 5 (oV 24)]) (.seq (.reg false 0 [oN 25 (oV 0),oN 26 (.len (.t 25)),oN 27 (.mov (cI 0))]) (.block 2 (.loop (.seq (.reg false 0 [oN 28 (.bin .lss (.t 27) (.t 26))]) (.seq (.cond (.t 28) .skip (.exit 2)) (.seq (.block 3 (.seq (.reg false 0 [oN 29 (oV 27),oN 6 (oV 29)]) (.seq (.reg false 0 [oN 7 (.mov (cI 0))]) (.seq (.seq (.reg false 0 [oN 30 (oV 5),oN 31 (oV 6),oN 32 (.bin .eql (.t 30) (.t 31))]) (.cond (.t 32) (.reg false 0 [oN 7 (.mov (cI 1))]) .skip)) (.reg true 2 [oK 33 2 (oV 4),oK 34 2 (oV 5),oK 35 2 (oV 4),oK 36 2 (oV 5),oA 37 2 (.idx 1 (.t 35) (.t 36)) [2,3],oA 38 2 (.load 1 false (.t 37)) [4],oK 39 2 (oV 7),oA 40 2 (.call 36 [(.t 39)]) [6],oA 41 0 (.mkSl 3 [.bool false,.nils,.nils] 1 [(0,(.t 40))]) [7],oA 42 1 (.app 3 56 (.t 38) (.t 41)) [5,8,7],oA 43 2 (.idx 1 (.t 33) (.t 34)) [0,1,0,1,2,3,4,5,6,7,8,9],⟨none,none,2,.store 1 (.t 43) (.t 42),[10,9,9,0,1,2,3,4,5,6,7,8,9]⟩]))))) (.reg false 0 [oN 44 (.bin .add (.t 27) (cI 1)),oN 27 (oV 44)]))))))))) (.reg false 0 [oN 45 (.bin .add (.t 22) (cI 1)),oN 22 (oV 45)]))))))) (.seq (.reg false 0 [oN 47 (oV 4),oN 48 (oV 0),oN 49 (.len (.t 48)),oN 50 (.bin .mul (cI 2) (.t 49)),oN 51 (.call 310 [(.t 47),(.t 50)]),oN 46 (oV 51),oN 52 (.extr 0 (.t 46)),oN 53 (.extr 1 (.t 46)),oN 8 (oV 52),oN 9 (oV 53)]) (.seq (.seq (.reg false 0 [oN 54 (oV 9),oN 55 (.un .not (.t 54))]) (.cond (.t 55) (.seq (.reg false 0 [oN 2 (.mov (.c (.nils))),oN 3 (.mov (.c (.bool false)))]) .ret) .skip)) (.seq (.reg false 1 [oN 56 (.mkSl 1 [.nils] 0 []),oK 10 1 (oV 56)]) (.seq (.seq (.reg false 0 [oN 57 (oV 8),oN 58 (.len (.t 57)),oN 59 (.mov (cI 0))]) (.block 4 (.loop (.seq (.reg false 0 [oN 60 (.bin .lss (.t 59) (.t 58))]) (.seq (.cond (.t 60) .skip (.exit 4)) (.seq (.block 5 (.seq (.reg false 0 [oN 61 (.idx 1 (.t 57) (.t 59)),oN 62 (.load 1 false (.t 61)),oN 12 (oV 62)]) (.reg false 4 [oK 63 4 (oV 10),oN 64 (.mkSl 3 [.bool false,.nils,.nils] 0 []),oK 65 4 (oV 12),oK 66 4 (oV 0),oK 67 4 (.len (.t 66)),oK 68 4 (.slice 3 (.t 65) (some (.t 67)) none),oK 69 1 (.app 3 56 (.t 64) (.t 68)),oK 70 2 (.mkSl 1 [.nils] 1 [(0,(.t 69))]),oK 71 3 (.app 1 24 (.t 63) (.t 70)),oK 10 4 (oV 71)]))) (.reg false 0 [oN 72 (.bin .add (.t 59) (cI 1)),oN 59 (oV 72)]))))))) (.seq (.reg false 0 [oN 73 (oV 10),oN 2 (oV 73),oN 3 (.mov (.c (.bool true)))]) .ret)))))))))⟩
structure D_spec_InvertMatrix (T : Nat → Option Fn) : Prop where
 hT : T 336 = some F_spec_InvertMatrix
 d_spec_RatFromInt : D_spec_RatFromInt T
 d_spec_IsMatrix : D_spec_IsMatrix T
 d_spec_ReduceRows : D_spec_ReduceRows T
 d_spec_l09Copy : D_spec_l09Copy T
def F_impl_InvertMatrix : Fn:=⟨1,79,[.tmp 2,.tmp 3],(.seq (.reg false 0 [oN 2 (.mov (.c (.nils))),oN 3 (.mov (.c (.bool false)))]) (.seq (.reg false 0 [oN 15 (oV 0),oN 16 (.len (.t 15)),oN 4 (oV 16)]) (.seq (.seq (.reg false 0 [oN 17 (oV 0),oN 18 (oV 4),oN 19 (.call 93 [(.t 17),(.t 18)]),oN 20 (.un .not (.t 19))]) (.cond (.t 20) (.seq (.reg false 0 [oN 2 (.mov (.c (.nils))),oN 3 (.mov (.c (.bool false)))]) .ret) .skip)) (.seq (.reg false 1 [oN 21 (.mkSl 1 [.nils] 0 []),oK 5 1 (oV 21)]) (.seq (.seq (.reg false 0 [oN 22 (oV 0),oN 23 (.len (.t 22)),oN 24 (.mov (cI 0))]) (.block 0 (.loop (.seq (.reg false 0 [oN 25 (.bin .lss (.t 24) (.t 23))]) (.seq (.cond (.t 25) .skip (.exit 0)) (.seq (.block 1 (.seq (.reg false 0 [oN 26 (oV 24),oN 27 (.idx 1 (.t 22) (.t 24)),oN 28 (.load 1 false (.t 27)),oN 6 (oV 26),oN 7 (oV 28)]) (.seq (.reg false 2 [oN 29 (.mkSl 3 [.bool false,.nils,.nils] 0 []),oK 30 2 (oV 7),oK 31 1 (.app 3 56 (.t 29) (.t 30)),oK 8 2 (oV 31)]) (.seq (.seq (.reg false 0 [oN 9 (.mov (cI 0))]) (.block 2 (.loop (.seq (.seq (.reg false 0 [oN 32 (oV 9),oN 33 (oV 4),oN 34 (.bin .lss (.t 32) (.t 33))]) (.cond (.t 34) .skip (.exit 2))) (.seq (.block 3 (.seq (.reg false 0 [oN 37 (oV 6),oN 38 (oV 9),oN 39 (.bin .eql (.t 37) (.t 38))]) (.cond (.t 39) (.reg false 2 [oK 40 2 (oV 8),oK 41 2 (.call 39 [(cI 1)]),oN 42 (.mkSl 3 [.bool false,.nils,.nils] 1 [(0,(.t 41))]),oK 43 1 (.app 3 56 (.t 40) (.t 42)),oK 8 2 (oV 43)]) (.reg false 2 [oK 44 2 (oV 8),oK 45 2 (.call 39 [(cI 0)]),oN 46 (.mkSl 3 [.bool false,.nils,.nils] 1 [(0,(.t 45))]),oK 47 1 (.app 3 56 (.t 44) (.t 46)),oK 8 2 (oV 47)])))) (.reg false 0 [oN 35 (oV 9),oN 36 (.bin .add (.t 35) (cI 1)),oN 9 (oV 36)])))))) (.reg false 2 [oK 48 2 (oV 5),oK 49 2 (oV 8),oN 50 (.mkSl 1 [.nils] 1 [(0,(.t 49))]),oK 51 1 (.app 1 24 (.t 48) (.t 50)),oK 5 2 (oV 51)]))))) (.reg false 0 [oN 52 (.bin .add (.t 24) (cI 1)),oN 24 (oV 52)]))))))) (.seq (.reg false 0 [oN 54 (oV 5),oN 55 (oV 4),oN 56 (.bin .mul (cI 2) (.t 55)),oN 57 (.call 243 [(.t 54),(.t 56)]),oN 53 (oV 57),oN 58 (.extr 0 (.t 53)),oN 59 (.extr 1 (.t 53)),oN 10 (oV 58),oN 11 (oV 59)]) (.seq (.seq (.reg false 0 [oN 60 (oV 11),oN 61 (.un .not (.t 60))]) (.cond (.t 61) (.seq (.reg false 0 [oN 2 (.mov (.c (.nils))),oN 3 (.mov (.c (.bool false)))]) .ret) .skip)) (.seq (.reg false 1 [oN 62 (.mkSl 1 [.nils] 0 []),oK 12 1 (oV 62)]) (.seq (.seq (.reg false 0 [oN 63 (oV 10),oN 64 (.len (.t 63)),oN 65 (.mov (cI 0))]) (.block 4 (.loop (.seq (.reg false 0 [oN 66 (.bin .lss (.t 65) (.t 64))]) (.seq (.cond (.t 66) .skip (.exit 4)) (.seq (.block 5 (.seq (.reg false 0 [oN 67 (.idx 1 (.t 63) (.t 65)),oN 68 (.load 1 false (.t 67)),oN 14 (oV 68)]) (.reg false 4 [oK 69 4 (oV 12),oN 70 (.mkSl 3 [.bool false,.nils,.nils] 0 []),oK 71 4 (oV 14),oK 72 4 (oV 4),oK 73 4 (.slice 3 (.t 71) (some (.t 72)) none),oK 74 1 (.app 3 56 (.t 70) (.t 73)),oK 75 2 (.mkSl 1 [.nils] 1 [(0,(.t 74))]),oK 76 3 (.app 1 24 (.t 69) (.t 75)),oK 12 4 (oV 76)]))) (.reg false 0 [oN 77 (.bin .add (.t 65) (cI 1)),oN 65 (oV 77)]))))))) (.seq (.reg false 0 [oN 78 (oV 12),oN 2 (oV 78),oN 3 (.mov (.c (.bool true)))]) .ret))))))))))⟩
structure D_impl_InvertMatrix (T : Nat → Option Fn) : Prop where
 hT : T 232 = some F_impl_InvertMatrix
 d_impl_RatFromInt : D_impl_RatFromInt T
 d_impl_IsMatrix : D_impl_IsMatrix T
 d_impl_ReduceRows : D_impl_ReduceRows T
theorem rrV_ok {m : List (List R)} {c : Int} (h : rrB m c = true) : ∃ M,rrM m c = (List.range m.length).map M ∧ OkM m.length c.toNat M ∧ rrC m c = true:=by
 cases hc : rrC m c
 ·rw [(rrV_bad hc).2] at h;cases h
 obtain ⟨h10,hcl,hm,hok⟩:=rrC_ok hc
 cases e : rrIt m.length (mF m) m.length with
 | none=>rw [(rrV_none hc e (Nat.le_refl _)).2] at h;cases h
 |
  some M =>
  refine ⟨M,(rrV_some hc e).1,?_,rfl⟩
  have key : ∀ k,k ≤ m.length → ∀ M,rrIt m.length (mF m) k = some M → OkM m.length c.toNat M:=by
   intro k
   induction k with
   | zero=>intro _ M e;cases e;exact hok
   |
    succ k ih =>
    intro hk M e
    cases e2 : rrIt m.length (mF m) k with
    | none=>rw [rrIt_none e2 _ (Nat.le_succ k)] at e;cases e
    | some M0=>rw [rrIt_s e2] at e;exact (ih (by omega) _ e2).step (by omega) e
  exact key _ (Nat.le_refl _) M e
def wideL (n : Nat) (M : MF) : List (List R):=(List.range n).map M
theorem wideL_len (n : Nat) (M : MF) : (wideL n M).length = n:=by simp [wideL]
theorem wideL_at {n i : Nat} {M : MF} (h : i < n) : mF (wideL n M) i = M i:=by
 unfold mF wideL
 rw [List.getD_eq_getElem?_getD,List.getElem?_map,List.getElem?_range h];rfl
theorem rrC_sz {m : List (List R)} {c : Int} (hc : c ≤ 20) (h : rrC m c = true) : szL (szL R.sz) m ≤ 1048576:=by
 obtain ⟨h10,hcl,hm,hok⟩:=rrC_ok h
 have:=(mat_ok (m:=m) (n:=20) (fun r hr=>by
  obtain ⟨i,hi⟩:=List.mem_iff_getElem?.1 hr
  have hil:=(List.getElem?_eq_some_iff.1 hi).1
  have:=hok i hil
  rw [show mF m i = r by unfold mF;rw [List.getD_eq_getElem?_getD,hi];rfl] at this
  exact ⟨this.2,by omega⟩) (Nat.le_refl _) h10).1
 omega
def ivmU (n i : Nat) : List R:=(List.range n).map fun j=>intR (if i = j then 1 else 0)
def ivmW (m : List (List R)) : MF:=fun i=>m.getD i default ++ ivmU m.length i
def ivmL (m : List (List R)) : List (List R):=wideL m.length (ivmW m)
def ivmB (m : List (List R)) : Bool:=matOk m m.length && rrB (ivmL m) (2 * (m.length : Nat))
def ivmX (m : List (List R)) : List (List R):=if ivmB m = true then (rrM (ivmL m) (2 * (m.length : Nat))).map fun r=>r.drop m.length else []
theorem ivmB_c {m : List (List R)} (h : matOk m m.length = false) : ivmX m = [] ∧ ivmB m = false:=by
 have : ivmB m = false:=by unfold ivmB;rw [h];rfl
 unfold ivmX
 rw [this];exact ⟨rfl,rfl⟩
theorem ivmB_r {m : List (List R)} (h : rrB (ivmL m) (2 * (m.length : Nat)) = false) : ivmX m = [] ∧ ivmB m = false:=by
 have : ivmB m = false:=by unfold ivmB;rw [h,Bool.and_false]
 unfold ivmX
 rw [this];exact ⟨rfl,rfl⟩
theorem ivmB_t {m : List (List R)} (h : matOk m m.length = true) (h2 : rrB (ivmL m) (2 * (m.length : Nat)) = true) : ivmX m = ((rrM (ivmL m) (2 * (m.length : Nat))).map fun r=>r.drop m.length) ∧ ivmB m = true:=by
 have : ivmB m = true:=by unfold ivmB;rw [h,h2];rfl
 unfold ivmX
 rw [this];exact ⟨if_pos rfl,rfl⟩
theorem ivmU_len (n i : Nat) : (ivmU n i).length = n:=by simp [ivmU]
theorem ivm_ok {m : List (List R)} (h : matOk m m.length = true) : m.length ≤ 10 ∧ ∀ i,i < m.length → (m.getD i default).length = m.length ∧ ∀ x ∈ m.getD i default,x.cn:=by
 obtain ⟨h1,h2⟩:=matOk_row h
 refine ⟨h2,fun i hi=>⟨by have:=(h1 i hi).1;omega,fun x hx=>?_⟩⟩
 obtain ⟨j,hj⟩:=List.mem_iff_getElem?.1 hx
 have hl:=(List.getElem?_eq_some_iff.1 hj).1
 have:=(h1 i hi).2 j hl
 rw [List.getD_eq_getElem?_getD (l:=m.getD i default),hj] at this
 exact cn_ok this
theorem ivmU_cn (n i : Nat) : ∀ x ∈ ivmU n i,x.cn:=fun x hx=>by
 obtain ⟨j,_,rfl⟩:=List.mem_map.1 hx
 split
 ·exact intR_cn (by decide)
 ·exact intR_cn (by decide)
theorem ivmL_ok {m : List (List R)} (h : matOk m m.length = true) : ∀ r ∈ ivmL m,(∀ x ∈ r,x.cn) ∧ r.length ≤ 20:=fun r hr=>by
 obtain ⟨h10,hl⟩:=ivm_ok h
 obtain ⟨i,hi,rfl⟩:=List.mem_map.1 hr
 have hi:=List.mem_range.1 hi
 refine ⟨fun x hx=>?_,by unfold ivmW;rw [List.length_append,(hl i hi).1,ivmU_len];omega⟩
 rcases List.mem_append.1 hx with hx | hx
 ·exact (hl i hi).2 x hx
 ·exact ivmU_cn _ _ x hx
theorem ivmX_ok (m : List (List R)) : szL (szL R.sz) (ivmX m) ≤ 100000 ∧ wfL (wfL R.wf) (ivmX m):=by
 cases hb : ivmB m
 ·unfold ivmX;rw [hb];exact ⟨by simp [szL],by simp [wfL]⟩
 ·have h:=hb
  unfold ivmB at h
  simp only [Bool.and_eq_true] at h
  obtain ⟨h10,hl⟩:=ivm_ok h.1
  obtain ⟨M,e,hok,hc⟩:=rrV_ok h.2
  rw [(ivmB_t h.1 h.2).1,e]
  have hw : (ivmL m).length = m.length:=wideL_len _ _
  refine mat_ok (n:=20) (fun r hr=>?_) (Nat.le_refl _) (by simp [hw];omega)
  rw [List.map_map] at hr
  obtain ⟨i,hi,rfl⟩:=List.mem_map.1 hr
  have hi:=List.mem_range.1 hi
  have:=hok i hi
  refine ⟨fun x hx=>this.2 x (List.mem_of_mem_drop hx),?_⟩
  show ((M i).drop m.length).length ≤ 20
  rw [List.length_drop,this.1];omega
theorem owR_drop {σ : Store} : ∀ (n : Nat) {A T : List (List V)} {os : List Nat},OwR σ A T os → ∃ os',OwR σ (A.drop n) (T.drop n) os' ∧ os'.Sublist os
 | 0,A,T,os,h=>⟨os,h,List.Sublist.refl _⟩
 |
  n + 1,A,[],os,h=>by
  simp only [OwR] at h
  obtain ⟨rfl,rfl⟩:=h
  exact ⟨[],by simp [OwR],List.Sublist.refl _⟩
 |
  n + 1,A,t :: T,os,h=>by
  simp only [OwR] at h
  obtain ⟨v,vs',o1,o2,rfl,rfl,h1,h2⟩:=h
  obtain ⟨os',k1,k2⟩:=owR_drop n h2
  exact ⟨os',k1,k2.trans (List.sublist_append_right _ _)⟩
theorem OwF.drop {s : Store} {A : Nat → List (List V)} {M : MF} {f : Nat → List Nat} {n : Nat} (ho : OwF s A M f fun i=>i < n) (d : Nat) : ∃ f',OwF s (fun i=>(A i).drop d) (fun i=>(M i).drop d) f' (fun i=>i < n) ∧ ∀ i,i < n → ∀ o ∈ f' i,o ∈ f i:=by
 have h : ∀ i,∃ os',i < n → OwR s ((A i).drop d) (((M i).drop d).map R.cells) os' ∧ os'.Sublist (f i):=fun i=>by
  by_cases hi : i < n
  ·obtain ⟨os',k1,k2⟩:=owR_drop d (ho.ow i hi)
   rw [← List.map_drop] at k1
   exact ⟨os',fun _=>⟨k1,k2⟩⟩
  ·exact ⟨[],fun h=>absurd h hi⟩
 refine ⟨fun i=>Classical.choose (h i),⟨fun i hi=>?_,fun i hi=>?_,fun i j hi hj hne o h1 h2=>?_⟩,fun i hi o h1=>?_⟩
 ·exact (Classical.choose_spec (h i) hi).1
 ·exact (ho.nd i hi).sublist (Classical.choose_spec (h i) hi).2
 ·exact ho.ap i j hi hj hne o ((Classical.choose_spec (h i) hi).2.subset h1) ((Classical.choose_spec (h j) hj).2.subset h2)
 ·exact (Classical.choose_spec (h i) hi).2.subset h1
theorem owR_mat {σ : Store} {c : Nat} (hc : 0 < c) : ∀ {RR : List (List R)} {rows : List (List V)} {os : List Nat},OwR σ rows (RR.map fun r=>[ratsV r]) os → os.Nodup → (∀ r ∈ RR,r.length = c) →
  ∃
   (rp : Nat → Nat) (A : Nat → List (List V)) (f : Nat → List Nat),rows = orow RR.length c rp ∧ (∀ i,i < RR.length → objAt σ (rp i) = some ⟨3,A i⟩ ∧ OwR σ (A i) ((mF RR i).map R.cells) (f i) ∧ (f i).Nodup ∧ rp i ∈ os ∧ ∀ o ∈ f i,o ∈ os) ∧
   (∀ i j,i < RR.length → j < RR.length → rp i = rp j → i = j) ∧ ∀ i j,i < RR.length → j < RR.length → i ≠ j → ∀ o ∈ f i,o ∉ f j
 |
  [],rows,os,h,_,_=>by
  simp only [List.map_nil,OwR] at h
  obtain ⟨rfl,rfl⟩:=h
  exact ⟨fun _=>0,fun _=>[],fun _=>[],rfl,fun i hi=>absurd hi (Nat.not_lt_zero _),fun i j hi=>absurd hi (Nat.not_lt_zero _),fun i j hi=>absurd hi (Nat.not_lt_zero _)⟩
 |
  r :: RR,rows,os,h,hn,hl=>by
  simp only [List.map_cons,OwR] at h
  obtain ⟨v,vs',o1,o2,rfl,rfl,h1,h2⟩:=h
  rw [List.nodup_append] at hn
  obtain ⟨n1,n2,n3⟩:=hn
  obtain ⟨w,vs,o3,o4,rfl,rfl,h3,h4⟩:=h1.inv
  obtain ⟨rfl,rfl⟩:=h4.nil_inv
  have hr:=hl r (by simp)
  unfold ratsV at h3
  rcases h3.sl_inv with ⟨e,_,_⟩ | ⟨p,A0,f0,rfl,hp,hA,rfl,hR⟩
  ·have:=congrArg List.length e
   simp at this
   rw [this] at hr
   simp at hr
   omega
  rw [List.append_nil] at n1 n3
  rw [List.nodup_cons] at n1
  obtain ⟨rp,A,f,e,k1,k2,k3⟩:=owR_mat hc h2 n2 fun r hr=>hl r (by simp [hr])
  refine ⟨fun i=>match i with | 0=>p | i + 1=>rp i,fun i=>match i with | 0=>A0 | i + 1=>A i,fun i=>match i with | 0=>f0 | i + 1=>f i,?_,fun i hi=>?_,fun i j hi hj e=>?_,fun i j hi hj hne o h1 h2=>?_⟩
  ·rw [e,List.length_cons,List.length_map,hr]
   unfold orow
   rw [List.range_succ_eq_map,List.map_cons,List.map_map]
   rfl
  ·cases i with
   | zero=>exact ⟨hp,hR,n1.2,by simp,fun o h=>by simp [h]⟩
   |
    succ i =>
    obtain ⟨a,b,c,d,e⟩:=k1 i (by simpa using hi)
    exact ⟨a,b,c,by simp [d],fun o h=>by simp [e o h]⟩
  ·cases i with
   |
    zero =>
    cases j with
    | zero=>rfl
    |
     succ j =>
     have:=(k1 j (by simpa using hj)).2.2.2.1
     exact absurd e fun e=>n3 p (by simp) _ this e
   |
    succ i =>
    cases j with
    |
     zero =>
     have:=(k1 i (by simpa using hi)).2.2.2.1
     exact absurd e fun e=>n3 p (by simp) _ this e.symm
    | succ j=>rw [k2 i j (by simpa using hi) (by simpa using hj) e]
  ·cases i with
   |
    zero =>
    cases j with
    | zero=>exact hne rfl
    | succ j=>exact n3 o (by simp [show o ∈ f0 from h1]) o ((k1 j (by simpa using hj)).2.2.2.2 o h2) rfl
   |
    succ i =>
    cases j with
    | zero=>exact n3 o (by simp [show o ∈ f0 from h2]) o ((k1 i (by simpa using hi)).2.2.2.2 o h1) rfl
    | succ j=>exact k3 i j (by simpa using hi) (by simpa using hj) (by omega) o h1 h2
theorem owV_mat {σ : Store} {c : Nat} (hc : 0 < c) {RR : List (List R)} {v : V} {os : List Nat} (h : OwV σ v (ratssV RR) os) (hn : os.Nodup) (hl : ∀ r ∈ RR,r.length = c) (hne : 0 < RR.length) :
  ∃ (q : Nat) (rp : Nat → Nat) (A : Nat → List (List V)) (f : Nat → List Nat),v = .msl q 0 RR.length ∧ Mat σ q RR.length c rp A (mF RR) ∧ OwF σ A (mF RR) f (fun i=>i < RR.length) ∧ ∀ i,i < RR.length → ∀ o ∈ f i,o ∈ os:=by
 unfold ratssV at h
 rcases h.sl_inv with ⟨e,_,_⟩ | ⟨q,rows,os',rfl,hq,_,rfl,hR⟩
 ·rw [List.map_eq_nil_iff] at e
  subst e
  exact absurd hne (Nat.lt_irrefl _)
 rw [List.nodup_cons] at hn
 obtain ⟨rp,A,f,e,k1,k2,k3⟩:=owR_mat hc hR hn.2 hl
 refine ⟨q,rp,A,f,by rw [List.length_map],⟨k2,by rw [hq,e],fun i hi=>(k1 i hi).1,fun i hi=>(row_ow (k1 i hi).2.1).1⟩,⟨fun i hi=>(k1 i hi).2.1,fun i hi=>(k1 i hi).2.2.1,k3⟩,fun i hi o ho=>by simp [(k1 i hi).2.2.2.2 o ho]⟩
theorem po_lax {T : Nat → Option Fn} {f : Nat} {as as' : List V} {t : V} (h : PO T f as t) (ha : LaxL as as') : PO T f as' t:=by
 obtain ⟨r,σ',os,h1,h2,h3,h4⟩:=h
 exact ⟨r,σ',os,.laxF ha h1 (laxV_refl _),h2,h3,h4⟩
theorem rrE {m : List (List R)} {c : Int} (h0 : m.length = 0) (hc : 0 ≤ c) : rrM m c = [] ∧ rrB m c = true:=by
 have em : m = []:=List.eq_nil_of_length_eq_zero h0
 subst em
 have hC : rrC [] c = true:=by
  unfold rrC
  rw [decide_eq_true (by simpa using hc),Bool.and_true]
  rfl
 obtain ⟨e1,e2⟩:=rrV_some hC (M:=mF []) rfl
 exact ⟨e1,e2⟩
theorem OkA_lst {ops : List OpI} {L : Nat} {acc : List Acc} (l : List Nat) (l0 : List Acc) (hn : l.Nodup) (hl : ∀ o ∈ l,o < L) (he : acc = l0.map (renA (gN l L))) (h : OkA l.length ops l0) : OkA L ops acc:=OkA_ren (gN_inj hl hn) (gN_lt hl) he h
def lrow (n : Nat) (rp : Nat → Nat) (M : MF) : List (List V):=(List.range n).map fun x=>[.msl (rp x) 0 (M x).length]
theorem lrow_len (n : Nat) (rp : Nat → Nat) (M : MF) : (lrow n rp M).length = n:=by simp [lrow]
theorem lrow_at {n : Nat} {rp : Nat → Nat} {M : MF} {i : Nat} (h : i < n) : (lrow n rp M)[i]? = some [.msl (rp i) 0 (M i).length]:=by
 unfold lrow;rw [List.getElem?_map,List.getElem?_range h];rfl
theorem lrow_set {n : Nat} {rp : Nat → Nat} {M : MF} {i p : Nat} {r : List R} : (lrow n rp M).set i [.msl p 0 r.length] = lrow n (fun x=>if x = i then p else rp x) (setR M i r):=by
 apply List.ext_getElem?
 intro x
 unfold lrow setR
 rw [List.getElem?_set]
 simp only [List.length_map,List.length_range,List.getElem?_map]
 by_cases h : i = x
 ·subst h
  by_cases hn : i < n
  ·simp [hn]
  ·rw [if_pos rfl,if_neg hn,List.getElem?_eq_none (by simpa using hn)];rfl
 ·rw [if_neg h]
  by_cases hn : x < n
  ·rw [List.getElem?_range hn];simp only [Option.map_some];rw [if_neg (fun e : x = i=>h e.symm),if_neg fun e : x = i=>h e.symm]
  ·rw [List.getElem?_eq_none (by simpa using hn)];rfl
structure MatL (s : Store) (q n : Nat) (rp : Nat → Nat) (M : MF) : Prop where
 inj : ∀ i j,i < n → j < n → rp i = rp j → i = j
 out : objAt s q = some ⟨1,lrow n rp M⟩
 row : ∀ i,i < n → objAt s (rp i) = some ⟨3,(M i).map R.cells⟩
theorem MatF.toL {s : Store} {q n c : Nat} {rp : Nat → Nat} {M : MF} (h : MatF s q n c rp M) (hl : ∀ i,i < n → (M i).length = c) : MatL s q n rp M:=by
 refine ⟨h.inj,?_,h.row⟩
 rw [h.out]
 congr 2
 unfold orow lrow
 exact List.map_congr_left fun x hx=>by rw [hl x (List.mem_range.1 hx)]
theorem MatL.lt {s : Store} {q n : Nat} {rp : Nat → Nat} {M : MF} (h : MatL s q n rp M) : q < s.length ∧ ∀ i,i < n → rp i < s.length:=⟨objAt_lt h.out,fun i hi=>objAt_lt (h.row i hi)⟩
theorem MatL.ne {s : Store} {q n : Nat} {rp : Nat → Nat} {M : MF} (h : MatL s q n rp M) {i : Nat} (hi : i < n) : rp i ≠ q:=fun e=>by
 have:=h.row i hi
 rw [e,h.out] at this;cases this
theorem MatL.ext {s : Store} {q n : Nat} {rp : Nat → Nat} {M M2 : MF} (h : MatL s q n rp M) (e : ∀ i,M i = M2 i) : MatL s q n rp M2:=by
 have : M = M2:=funext e
 subst this;exact h
theorem MatL.res {s : Store} {q n : Nat} {rp : Nat → Nat} {M : MF} (h : MatL s q n rp M) : resolve s FD (.msl q 0 n) = some (ratssV ((List.range n).map M)):=by
 show resolve s (11 + 1) _ = _
 rw [resolve]
 simp only [h.out]
 rw [if_pos (by rw [lrow_len];omega),List.drop_zero,List.take_of_length_le (by rw [lrow_len];omega)]
 have : ((lrow n rp M).mapM fun (r : List V)=>r.mapM (resolve s 11)) = some ((List.range n).map fun i=>[ratsV (M i)]):=by
  unfold lrow
  rw [List.mapM_map]
  refine mapM_some fun i hi=>?_
  have hi:=List.mem_range.1 hi
  have h1:=(row_frz (s:=s) (M i)).resN (h.row i hi) 7
  simp only [Function.comp,List.mapM_cons,List.mapM_nil]
  rw [h1];rfl
 rw [this,Option.map_some]
 unfold ratssV
 rw [List.map_map]
 rfl
theorem MatL.put {s s2 : Store} {q n i p : Nat} {rp : Nat → Nat} {M : MF} {r : List R} (h : MatL s q n rp M) (hi : i < n) (hq : objAt s2 q = some ⟨1,(lrow n rp M).set i [.msl p 0 r.length]⟩) (hp : objAt s2 p = some ⟨3,r.map R.cells⟩) (hpl : s.length ≤ p)
  (ho : ∀ o,o < s.length → o ≠ q → o ≠ rp i → objAt s2 o = objAt s o) : MatL s2 q n (fun x=>if x = i then p else rp x) (setR M i r):=by
 refine ⟨fun x y hx hy e=>?_,by rw [hq,lrow_set],fun x hx=>?_⟩
 ·by_cases h1 : x = i <;> by_cases h2 : y = i
  ·omega
  ·rw [if_pos h1,if_neg h2] at e
   have:=h.lt.2 y hy;omega
  ·rw [if_neg h1,if_pos h2] at e
   have:=h.lt.2 x hx;omega
  ·rw [if_neg h1,if_neg h2] at e
   exact h.inj x y hx hy e
 ·by_cases h1 : x = i
  ·subst h1;rw [if_pos rfl,setR_eq];exact hp
  ·rw [if_neg h1,setR_ne h1,ho _ (h.lt.2 x hx) (h.ne hx) fun e=>h1 (h.inj x i hx hi e)]
   exact h.row x hx
theorem Mat.snoc {s s2 : Store} {q q2 p2 i c : Nat} {rp : Nat → Nat} {A : Nat → List (List V)} {M : MF} (h : i = 0 ∨ (0 < i ∧ Mat s q i c rp A M)) (hq : objAt s2 q2 = some ⟨1,orow i c rp ++ [[.msl p2 0 c]]⟩) (hp : objAt s2 p2 = some ⟨3,A i⟩) (hok : RowOk s2 (A i) (M i)) (hpl : s.length ≤ p2)
  (old : ∀ o,o < s.length → o ≠ q → objAt s2 o = objAt s o) : Mat s2 q2 (i + 1) c (fun x=>if x = i then p2 else rp x) A M:=by
 have hlt : ∀ x,x < i → rp x < s.length ∧ rp x ≠ q:=fun x hx=>by
  rcases h with h | ⟨_,h⟩
  ·omega
  ·exact ⟨h.lt.2 x hx,h.ne hx⟩
 refine ⟨fun x y hx hy e=>?_,?_,fun x hx=>?_,fun x hx=>?_⟩
 ·by_cases h1 : x = i
  ·by_cases h2 : y = i
   ·omega
   ·rw [if_pos h1,if_neg h2] at e
    have:=(hlt y (by omega)).1
    omega
  ·by_cases h2 : y = i
   ·rw [if_neg h1,if_pos h2] at e
    have:=(hlt x (by omega)).1
    omega
   ·rw [if_neg h1,if_neg h2] at e
    rcases h with h | ⟨_,h⟩
    ·omega
    ·exact h.inj x y (by omega) (by omega) e
 ·rw [hq]
  unfold orow
  rw [List.range_succ,List.map_append]
  congr 2
  congr 1
  ·refine List.map_congr_left fun x hx=>?_
   have:=List.mem_range.1 hx
   show [V.msl (rp x) 0 c] = [V.msl (if x = i then p2 else rp x) 0 c]
   rw [if_neg (by omega)]
  ·simp
 ·by_cases h1 : x = i
  ·subst h1;rw [if_pos rfl];exact hp
  ·rw [if_neg h1]
   have hxi : x < i:=by omega
   rcases h with h | ⟨_,h⟩
   ·omega
   ·exact (old _ (hlt x hxi).1 (hlt x hxi).2).trans (h.row x hxi)
 ·by_cases h1 : x = i
  ·subst h1;exact hok
  ·rcases h with h | ⟨hi0,h⟩
   ·omega
   ·exact (h.cel x (by omega)).fr (h.kpq hi0 fun o h1 h2=>old o h2 h1)
theorem RowOk.drop {s : Store} {A : List (List V)} {r : List R} (h : RowOk s A r) (d : Nat) : RowOk s (A.drop d) (r.drop d):=by
 refine ⟨by rw [List.length_drop,List.length_drop,h.1],fun j hj=>?_⟩
 rw [List.length_drop] at hj
 have:=h.2 (d + j) (by omega)
 rw [List.getD_eq_getElem?_getD,List.getElem?_drop,List.getD_eq_getElem?_getD,List.getElem?_drop,← List.getD_eq_getElem?_getD,← List.getD_eq_getElem?_getD]
 exact this
def ivmT (i j : Nat) : List R:=(List.range j).map fun j=>intR (if i = j then 1 else 0)
theorem ivmT_s (i j : Nat) : ivmT i (j + 1) = ivmT i j ++ [intR (if i = j then 1 else 0)]:=by unfold ivmT;rw [List.range_succ,List.map_append];rfl
theorem ivmT_len (i j : Nat) : (ivmT i j).length = j:=by simp [ivmT]
theorem po_iInvertMatrix {T : Nat → Option Fn} (h : D_impl_InvertMatrix T) {m : List (List R)} (wm : wfL (wfL R.wf) m) : PO T 232 [ratssV m] (.tup [ratssV (ivmX m),.bool (ivmB m)]):=by
 have lm:=wm.1
 have c1:=c_iIsMatrix h.d_impl_IsMatrix (m:=m) (cols:=(m.length : Nat)) wm (by omega)
 cases hc : matOk m (m.length : Nat)
 ·obtain ⟨e1,e2⟩:=ivmB_c hc
  rw [e1,e2]
  rw [hc] at c1
  refine po_end2 (fun _ _=>false) h.hT rfl rfl ?_
  dsimp only [F_impl_InvertMatrix,oN,oS,oG,oK,oA,oH,oV,cI,St.enter,List.length_cons,List.length_nil,Nat.zero_add]
  refine ew ?_
  refine PFK_of c1 ?_
  refine ew ?_
  exact (fin_nil (sz:=1)).tup1
 rw [hc] at c1
 obtain ⟨h10,hml⟩:=ivm_ok hc
 have hWl : (ivmL m).length = m.length:=wideL_len _ _
 have wW : wfL (wfL R.wf) (ivmL m):=(mat_ok (fun r hr=>ivmL_ok hc r hr) (Nat.le_refl _) (by omega)).2
 have PR:=po_iReduceRows h.d_impl_ReduceRows (m:=ivmL m) (c:=2 * (m.length : Nat)) wW (fun hc=>rrC_sz (by omega) hc) (by omega)
 clear lm wm
 rcases Nat.eq_zero_or_pos m.length with h0 | h0
 ·obtain ⟨e1,e2⟩:=rrE (m:=ivmL m) (c:=2 * (m.length : Nat)) (by omega) (by omega)
  obtain ⟨e3,e4⟩:=ivmB_t hc e2
  rw [e3,e4,e1]
  rw [e1,e2] at PR
  have PR0:=po_lax (as':=[.nils,iv (2 * (m.length : Nat))]) PR (by
   rw [show ivmL m = [] from List.eq_nil_of_length_eq_zero (by omega)]
   simp only [LaxL,LaxV]
   exact ⟨_,_,rfl,.inl ⟨rfl,.inl rfl⟩,_,_,rfl,rfl,rfl⟩)
  refine po_end2 (fun x d=>x == 243) h.hT rfl rfl ?_
  dsimp only [F_impl_InvertMatrix,oN,oS,oG,oK,oA,oH,oV,cI,St.enter,List.length_cons,List.length_nil,Nat.zero_add]
  refine ew ?_
  refine PFK_of c1 ?_
  refine ew ?_
  refine loop_at (fun x d=>x == 243) (α:=Nat) (fun i=>⟨argE [.any,.any,.any,.any,iv (m.length : Nat),.nils,.any,.any,.any,.any,.any,.any,.any,.any,.any,.any,.any,.any,.any,.any,.any,.any,ratssV m,iv (m.length : Nat),iv (i : Nat)],[none],0,0,[],[]⟩) (fun i=>i = 0) (fun i=>i) rfl 0 ?_ ?_ ?_
  ·rfl
  ·(refine Fg_env ?_;exact fgW)
  ·rintro i hi
   have hcc : ¬ ((i : Int) < (m.length : Nat)):=by omega
   refine ew1 @hcc ?_
   refine RefK_got PR0 (by (refine ew ?_;try with_reducible exact True.intro)) ?_
   intro r s1 o1 G
   obtain ⟨v,rfl,G1⟩:=G.tup1
   have hv:=G1.ow
   rcases hv.sl_inv with ⟨_,rfl,_⟩ | ⟨p,R0,os,rfl,hp,_⟩
   ·refine ew ?_
    refine loop_at (fun x d=>x == 243) (α:=Nat) (fun k=>⟨argE [.any,.any,.any,.any,.any,.any,.any,.any,.any,.any,.any,.any,.nils,.any,.any,.any,.any,.any,.any,.any,.any,.any,.any,.any,.any,.any,.any,.any,.any,.any,.any,.any,.any,.any,.any,.any,.any,.any,.any,.any,.any,.any,.any,.any,.any,.any,.any,.any,.any,.any,.any,.any,.any,.any,.any,.any,.any,.any,.any,.any,.any,.any,.any,.sl 1 [],iv 0,iv (k : Nat)],s1 ++ [none],0,0,[],[]⟩) (fun k=>k = 0) (fun k=>k) rfl 0 ?_ ?_ ?_
    ·rfl
    ·(refine Fg_env ?_;exact fgW)
    ·rintro k hk
     have hcc : ¬ ((k : Int) < 0):=by omega
     refine ew1 @hcc ?_
     exact (fin_nil (sz:=1)).tup1
   ·refine ew1 @hp ?_
    refine loop_at (fun x d=>x == 243) (α:=Nat) (fun k=>⟨argE [.any,.any,.any,.any,.any,.any,.any,.any,.any,.any,.any,.any,.nils,.any,.any,.any,.any,.any,.any,.any,.any,.any,.any,.any,.any,.any,.any,.any,.any,.any,.any,.any,.any,.any,.any,.any,.any,.any,.any,.any,.any,.any,.any,.any,.any,.any,.any,.any,.any,.any,.any,.any,.any,.any,.any,.any,.any,.any,.any,.any,.any,.any,.any,.msl p 0 0,iv 0,iv (k : Nat)],s1 ++ [none],0,0,[],[]⟩) (fun k=>k = 0) (fun k=>k) rfl 0 ?_ ?_ ?_
    ·rfl
    ·(refine Fg_env ?_;exact fgW)
    ·rintro k hk
     have hcc : ¬ ((k : Int) < 0):=by omega
     refine ew1 @hcc ?_
     exact (fin_nil (sz:=1)).tup1
 have cf:=fun (n : Int) (hn : -1000000000000000000 < n ∧ n < 1000000000000000000)=>(po_RatFromInt h.d_impl_RatFromInt hn).frz (dep_rat _ _)
 have cf0:=cf 0 (by omega)
 have cf1:=cf 1 (by omega)
 clear cf
 refine po_end2 (fun x d=>x == 243) h.hT rfl rfl ?_
 dsimp only [F_impl_InvertMatrix,oN,oS,oG,oK,oA,oH,oV,cI,St.enter,List.length_cons,List.length_nil,Nat.zero_add]
 refine ew ?_
 refine PFK_of c1 ?_
 refine ew ?_
 refine loop_at (fun x d=>x == 243) (α:=Nat × Store × V × Nat × (Nat → Nat)) (fun q=>⟨argE [.any,.any,.any,.any,iv (m.length : Nat),q.2.2.1,.any,.any,.any,.any,.any,.any,.any,.any,.any,.any,.any,.any,.any,.any,.any,.any,ratssV m,iv (m.length : Nat),iv (q.1 : Nat)],q.2.1,0,0,[],[]⟩) (fun q=>q.1 ≤ m.length ∧ ((q.1 = 0 ∧ q.2.2.1 = .nils) ∨ (0 < q.1 ∧ q.2.2.1 = .msl q.2.2.2.1 0 q.1 ∧ Mat q.2.1 q.2.2.2.1 q.1 (2 * m.length) q.2.2.2.2 (fun x=>(ivmW m x).map R.cells) (ivmW m)))) (fun q=>m.length - q.1) rfl (0,[none],.nils,0,fun _=>0) ?_ ?_ ?_
 ·exact ⟨by omega,.inl ⟨rfl,rfl⟩⟩
 ·(refine Fg_env ?_;exact fgW)
 ·rintro ⟨i,s,v5,qo,rp⟩ ⟨hi,hM⟩
  dsimp only at hi hM
  by_cases hcc : (i : Int) < (m.length : Nat)
  ·have hil : i < m.length:=by omega
   have hai : (m.map fun r=>[ratsV r]).getD i [] = [ratsV (m.getD i default)]:=mg (f:=fun r : List R=>[ratsV r]) hil
   have hri:=(hml i hil).1
   have emf : ivmW m i = m.getD i default ++ ivmT i m.length:=rfl
   generalize m.getD i default = r at *
   have hne : (r.map R.cells = []) = False:=eq_false fun e=>by
    have:=congrArg List.length e
    simp at this
    subst this
    simp at hri;omega
   refine ew3 @hcc @hai @hne ?_
   refine ⟨⟨by omega,by omega⟩,?_⟩
   have hnil : ∀ j,j = 0 → r ++ ivmT i j = r:=fun j e=>by rw [e];exact List.append_nil r
   refine loop_at (fun x d=>x == 243) (α:=Nat × Store × Nat × Nat) (fun q=>⟨argE [.any,.any,.any,.any,iv (m.length : Nat),v5,iv (i : Nat),.any,.msl q.2.2.1 0 q.2.2.2,iv (q.1 : Nat),.any,.any,.any,.any,.any,.any,.any,.any,.any,.any,.any,.any,ratssV m,iv (m.length : Nat),iv (i : Nat)],q.2.1,0,0,[],[]⟩) (fun q=>q.1 ≤ m.length ∧ q.2.2.2 = r.length + q.1 ∧ objAt q.2.1 q.2.2.1 = some ⟨3,(r ++ ivmT i q.1).map R.cells⟩ ∧ s.length ≤ q.2.2.1 ∧ (∀ o,o < s.length → objAt q.2.1 o = objAt s o) ∧ s.length ≤ q.2.1.length) (fun q=>m.length - q.1) rfl (0,((s ++ [none]) ++ [none]).set (s.length + 1) (some ⟨3,r.map R.cells⟩),s.length + 1,r.length) ?_ ?_ ?_
   ·refine ⟨Nat.zero_le _,rfl,?_,by dsimp only;omega,fun o ho=>?_,by simp⟩
    ·rw [hnil 0 rfl]
     exact objAt_seteq (by simp)
    ·dsimp only
     exact obE
   ·(refine Fg_env ?_;exact fgW)
   ·rintro ⟨j,t,p,l⟩ ⟨hj,hl,hp,hsp,hto,hst⟩
    dsimp only at hj hl hp hsp hto hst
    have hpl:=objAt_lt hp
    have hrl : ((r ++ ivmT i j).map R.cells).length = l:=by rw [List.length_map,List.length_append,ivmT_len,hl]
    by_cases hcj : (j : Int) < (m.length : Nat)
    ·have es : r ++ ivmT i (j + 1) = (r ++ ivmT i j) ++ [intR (if i = j then 1 else 0)]:=by rw [ivmT_s,List.append_assoc]
     generalize r ++ ivmT i j = L at *
     by_cases hij : i = j
     ·have hij' : ((i : Int) = (j : Nat)) = True:=eq_true (by omega)
      refine ew4 @hcj @hij' @hp @hrl ?_
      refine PFK_of cf1 ?_
      refine ew2 @hp @hrl ?_
      refine ⟨⟨by omega,by omega⟩,?_⟩
      refine ⟨(j + 1,?st1,t.length + 1,l + 1),?c1,⟨?c2,by dsimp only;omega,?c4,?c5,?c6,?c7⟩,?c3⟩
      case c3=>dsimp only;(refine Fg_env ?_;exact fgW)
      case c1=>dsimp only;omega
      case c2=>dsimp only;omega
      case c4 =>
       dsimp only
       rw [es,if_pos hij,List.map_append]
       exact objAt_seteq (by simp <;> omega)
      case c5=>dsimp only;omega
      case c6 =>
       dsimp only
       intro o ho
       have : o ≠ p:=by omega
       rw [← hto o ho]
       exact obE
      case c7=>simp;omega
     ·have hij' : ((i : Int) = (j : Nat)) = False:=eq_false (by omega)
      refine ew4 @hcj @hij' @hp @hrl ?_
      refine PFK_of cf0 ?_
      refine ew2 @hp @hrl ?_
      refine ⟨⟨by omega,by omega⟩,?_⟩
      refine ⟨(j + 1,?st2,t.length + 1,l + 1),?c1,⟨?c2,by dsimp only;omega,?c4,?c5,?c6,?c7⟩,?c3⟩
      case c3=>dsimp only;(refine Fg_env ?_;exact fgW)
      case c1=>dsimp only;omega
      case c2=>dsimp only;omega
      case c4 =>
       dsimp only
       rw [es,if_neg hij,List.map_append]
       exact objAt_seteq (by simp <;> omega)
      case c5=>dsimp only;omega
      case c6 =>
       dsimp only
       intro o ho
       have : o ≠ p:=by omega
       rw [← hto o ho]
       exact obE
      case c7=>simp;omega
    ·have hje : j = m.length:=by omega
     rw [hje,← emf] at hp
     rw [hje,← emf] at hrl
     have hr2 : l = 2 * m.length:=by omega
     subst hr2
     rcases hM with ⟨rfl,rfl⟩ | ⟨hi0,rfl,hM⟩
     ·refine ew2 @hcj @hp ?_
      refine ⟨by decide,?_⟩
      refine ⟨(0 + 1,?st3,.msl (t.length + 1) 0 1,t.length + 1,fun x=>if x = 0 then p else rp x),?c1,⟨?c2,.inr ⟨by omega,rfl,?c4⟩⟩,?c3⟩
      case c3=>dsimp only;(refine Fg_env ?_;exact fgW)
      case c1=>dsimp only;omega
      case c2=>dsimp only;omega
      case c4 =>
       dsimp only
       refine matF_snoc (s:=s) (q:=0) (.inl rfl) ?_ ?_ hsp (fun o ho _=>?_)
       ·rw [objAt_seteq (by simp)]
        rfl
       ·rw [← hp]
        exact obE
       ·rw [← hto o ho]
        exact obE
     ·have hq:=hM.out
      have hql:=hM.lt.1
      have hqt:=(hto qo hql).trans hq
      have hoc:=orow_len i (2 * m.length) rp
      refine ew4 @hcj @hp @hqt @hoc ?_
      refine ⟨by omega,?_⟩
      refine ⟨(i + 1,?st4,.msl (t.length + 1) 0 (i + 1),t.length + 1,fun x=>if x = i then p else rp x),?c1,⟨?c2,.inr ⟨by omega,rfl,?c4⟩⟩,?c3⟩
      case c3=>dsimp only;(refine Fg_env ?_;exact fgW)
      case c1=>dsimp only;omega
      case c2=>dsimp only;omega
      case c4 =>
       dsimp only
       refine matF_snoc (s:=s) (q:=qo) (.inr hM) ?_ ?_ hsp (fun o ho hne=>?_)
       ·rw [objAt_seteq (by simp)]
       ·have : p ≠ qo:=by omega
        rw [← hp]
        exact obE
       ·rw [← hto o ho]
        exact obE
  ·have hie : i = m.length:=by omega
   subst hie
   rcases hM with ⟨h1,_⟩ | ⟨_,rfl,hM⟩
   ·omega
   have Rf : resolve s FD (.msl qo 0 m.length) = some (ratssV (ivmL m)):=hM.res fun i hi=>by
    have:=(hml i hi).1
    unfold ivmW
    rw [List.length_append,ivmU_len];omega
   refine ew2 @hcc @Rf ?_
   refine RefK_got PR (by (refine ew1 @Rf ?_;try with_reducible exact True.intro)) ?_
   intro r s1 o1 G
   cases hb : rrB (ivmL m) (2 * (m.length : Nat))
   ·obtain ⟨e1,e2⟩:=ivmB_r hb
    rw [e1,e2]
    rw [hb] at G
    obtain ⟨v,rfl,G1⟩:=G.tup1
    refine ew ?_
    exact (fin_nil (sz:=1)).tup1
   obtain ⟨e1,e2⟩:=ivmB_t hc hb
   rw [e1,e2]
   rw [hb] at G
   obtain ⟨v,rfl,G1⟩:=G.tup1
   obtain ⟨M,eM,hOM,_⟩:=rrV_ok hb
   rw [hWl] at eM hOM
   have hlM : ∀ i,i < m.length → (M i).length = 2 * m.length:=fun i hi=>by have:=(hOM i hi).1;omega
   have hRl : (rrM (ivmL m) (2 * (m.length : Nat))).length = m.length:=by rw [eM];simp
   obtain ⟨q2,rp2,A,f,rfl,hM2,hO,hfo⟩:=owV_mat (c:=2 * m.length) (by omega) G1.ow G1.nd (fun r hr=>by
    rw [eM] at hr
    obtain ⟨i,hi,rfl⟩:=List.mem_map.1 hr
    exact hlM i (List.mem_range.1 hi)) (by omega)
   rw [hRl] at hM2 hO hfo ⊢
   have hmf : ∀ i,i < m.length → mF (rrM (ivmL m) (2 * (m.length : Nat))) i = M i:=fun i hi=>by rw [eM];exact wideL_at hi
   have hM2:=hM2.ext hmf
   have hO:=hO.ext (M2:=M) (S2:=fun i=>i < m.length) fun i hi=>⟨hi,hmf i hi⟩
   have hq2:=hM2.out
   have hql2:=hM2.lt.1
   rw [eM,List.map_map]
   clear hM Rf eM hmf PR
   refine ew1 @hq2 ?_
   refine loop_at (fun x d=>x == 243) (α:=Nat × Store × V × Nat × (Nat → Nat)) (fun q=>⟨argE [.any,.any,.any,.any,iv (m.length : Nat),.any,.any,.any,.any,.any,.any,.any,q.2.2.1,.any,.any,.any,.any,.any,.any,.any,.any,.any,.any,.any,.any,.any,.any,.any,.any,.any,.any,.any,.any,.any,.any,.any,.any,.any,.any,.any,.any,.any,.any,.any,.any,.any,.any,.any,.any,.any,.any,.any,.any,.any,.any,.any,.any,.any,.any,.any,.any,.any,.any,.msl q2 0 m.length,iv (m.length : Nat),iv (q.1 : Nat)],q.2.1,0,0,[],[]⟩) (fun q=>q.1 ≤ m.length ∧ ((q.1 = 0 ∧ q.2.2.1 = .nils) ∨ (0 < q.1 ∧ q.2.2.1 = .msl q.2.2.2.1 0 q.1 ∧ Mat q.2.1 q.2.2.2.1 q.1 m.length q.2.2.2.2 (fun x=>(A x).drop m.length) (fun x=>(M x).drop m.length) ∧ s1.length ≤ q.2.2.2.1)) ∧ (∀ o,o < s1.length → objAt q.2.1 o = objAt s1 o) ∧ s1.length ≤ q.2.1.length) (fun q=>m.length - q.1) rfl (0,s1 ++ [none],.nils,0,fun _=>0) ?_ ?_ ?_
   ·exact ⟨Nat.zero_le _,.inl ⟨rfl,rfl⟩,fun o ho=>objAt_snoc_lt ho,by simp⟩
   ·(refine Fg_env ?_;exact fgW)
   ·rintro ⟨i,u,v12,p,rp3⟩ ⟨hi,hL,huo,hul⟩
    dsimp only at hi hL huo hul
    by_cases hci : (i : Int) < (m.length : Nat)
    ·have hil : i < m.length:=by omega
     have hqu:=(huo q2 hql2).trans hq2
     have hru:=(huo _ (hM2.lt.2 i hil)).trans (hM2.row i hil)
     have gi:=orow_at (c:=2 * m.length) (rp:=rp2) hil
     have hAl : (A i).length = 2 * m.length:=by rw [(hM2.cel i hil).1,hlM i hil]
     have hdl : ((A i).drop m.length).length = m.length:=by rw [List.length_drop,hAl];omega
     have hok:=((hM2.cel i hil).drop m.length).fr (.old huo)
     have hne : ((A i).drop m.length = []) = False:=eq_false fun e=>by rw [e] at hdl;simp at hdl;omega
     have hsub : 2 * m.length - m.length = m.length:=by omega
     have htk : List.take m.length (List.drop m.length (A i)) = List.drop m.length (A i):=List.take_of_length_le (by omega)
     have hn2 : (m.length : Int) ≤ ((2 * m.length : Nat) : Int):=by omega
     rcases hL with ⟨rfl,rfl⟩ | ⟨hi0,rfl,hp,hpl⟩
     ·refine ew5 @hci (And.intro hqu hru) (And.intro gi hAl) (And.intro hsub htk) (And.intro hne hdl) ?_
      refine ⟨⟨by omega,by omega⟩,by decide,?_⟩
      refine ⟨(0 + 1,?st5,.msl (u.length + 3) 0 (0 + 1),u.length + 3,fun x=>if x = 0 then u.length + 1 else rp3 x),?c1,⟨?c2,.inr ⟨by omega,rfl,?c4,?c5⟩,?c6,?c7⟩,?c3⟩
      case c3=>dsimp only;(refine Fg_env ?_;exact fgW)
      case c1=>dsimp only;omega
      case c2=>dsimp only;omega
      case c4 =>
       dsimp only
       refine Mat.snoc (s:=u) (q:=0) (.inl rfl) ?_ ?_ (((hM2.cel _ hil).drop m.length).fr (.old fun o ho=>?_)) (by omega) (fun o ho h2=>?_)
       ·rw [objAt_seteq (by simp <;> omega)]
        try rfl
       ·exact obE
       ·skip
        rw [← huo o ho]
        exact obE
       ·exact obE
      case c5=>dsimp only;omega
      case c6 =>
       dsimp only
       intro o ho
       skip
       rw [← huo o ho]
       exact obE
      case c7=>simp;omega
     ·have hpq:=hp.out
      have hpl2:=hp.lt.1
      have hoc:=orow_len i m.length rp3
      refine ew7 @hci (And.intro hqu hru) (And.intro gi hAl) (And.intro hsub htk) (And.intro hne hdl) @hpq @hoc ?_
      refine ⟨⟨by omega,by omega⟩,⟨by omega,by omega⟩,?_⟩
      refine ⟨(i + 1,?st6,.msl (u.length + 3) 0 (i + 1),u.length + 3,fun x=>if x = i then u.length + 1 else rp3 x),?c1,⟨?c2,.inr ⟨by omega,rfl,?c4,?c5⟩,?c6,?c7⟩,?c3⟩
      case c3=>dsimp only;(refine Fg_env ?_;exact fgW)
      case c1=>dsimp only;omega
      case c2=>dsimp only;omega
      case c4 =>
       dsimp only
       refine Mat.snoc (s:=u) (q:=p) (.inr ⟨hi0,hp⟩) ?_ ?_ (((hM2.cel _ hil).drop m.length).fr (.old fun o ho=>?_)) (by omega) (fun o ho h2=>?_)
       ·rw [objAt_seteq (by simp <;> omega)]
        try rfl
       ·exact obE
       ·have : o ≠ p:=by omega
        rw [← huo o ho]
        exact obE
       ·exact obE
      case c5=>dsimp only;omega
      case c6 =>
       dsimp only
       intro o ho
       have : o ≠ p:=by omega
       rw [← huo o ho]
       exact obE
      case c7=>simp;omega
    ·have hie : i = m.length:=by omega
     subst hie
     rcases hL with ⟨h1,_⟩ | ⟨_,rfl,hp,hpl⟩
     ·omega
     obtain ⟨f',hO',hf'⟩:=hO.drop m.length
     refine ew1 @hci ?_
     exact (OwF.fin hp (hO'.kp (.old huo)) h0 fun i hi=>by rw [List.length_drop,hlM i hi];omega).tup1
theorem MatA.res1 {s : Store} {q : Nat} {Z : List (Nat × List R)} (h : ∀ x ∈ Z,objAt s x.1 = some ⟨3,x.2.map R.cells⟩) (hq : objAt s q = some ⟨1,Z.map zrow⟩) : resO1 s 0 Z.length (some ⟨1,Z.map zrow⟩) = some (ratssV (Z.map (·.2))):=by
 have : resolve s 11 (.msl q 0 Z.length) = some (ratssV (Z.map (·.2))):=by
  show resolve s (8 + 2 + 1) _ = _
  unfold resolve
  simp only [hq]
  rw [if_pos (by simp),List.drop_zero,List.take_of_length_le (by simp),MatA.map h]
  rfl
 rw [← this,r1_mslO,hq]
theorem c_sInvertMatrix {T : Nat → Option Fn} (h : D_spec_InvertMatrix T) {m : List (List R)} (wm : wfL (wfL R.wf) m) : PF T 336 [ratssV m] (.tup [ratssV (ivmX m),.bool (ivmB m)]):=by
 have lm:=wm.1
 have c1:=c_sIsMatrix h.d_spec_IsMatrix (m:=m) (cols:=(m.length : Nat)) wm (by omega)
 cases hc : matOk m (m.length : Nat)
 ·obtain ⟨e1,e2⟩:=ivmB_c hc
  rw [e1,e2]
  rw [hc] at c1
  refine pf_endL (fun _ _=>false) h.hT rfl rfl ?_
  dsimp only [F_spec_InvertMatrix,oN,oS,oG,oK,oA,oH,oV,cI]
  refine ev ?_
  refine PFK_of c1 ?_
  refine ev ?_
  exact of_eq_true (by simp [LaxV,LaxL,ratssV])
 rw [hc] at c1
 obtain ⟨h10,hml⟩:=ivm_ok hc
 have hWl : (ivmL m).length = m.length:=wideL_len _ _
 have wW : wfL (wfL R.wf) (ivmL m):=(mat_ok (fun r hr=>ivmL_ok hc r hr) (Nat.le_refl _) (by omega)).2
 have PR:=c_sReduceRows h.d_spec_ReduceRows (m:=ivmL m) (c:=2 * (m.length : Nat)) wW (fun hc=>rrC_sz (by omega) hc) (by omega)
 clear lm wm
 rcases Nat.eq_zero_or_pos m.length with h0 | h0
 ·obtain ⟨e1,e2⟩:=rrE (m:=ivmL m) (c:=2 * (m.length : Nat)) (by omega) (by omega)
  obtain ⟨e3,e4⟩:=ivmB_t hc e2
  rw [e3,e4,e1]
  rw [e1,e2] at PR
  have PR0 : PF T 310 [.nils,iv (2 * (m.length : Nat))] (.tup [ratssV [],.bool true]):=by
   refine .laxF (args:=[ratssV (ivmL m),iv (2 * (m.length : Nat))]) (r:=.tup [ratssV [],.bool true]) ?_ PR (laxV_refl _)
   rw [show ivmL m = [] from List.eq_nil_of_length_eq_zero (by omega)]
   simp only [LaxL,LaxV]
   exact ⟨_,_,rfl,.inl ⟨rfl,.inl rfl⟩,_,_,rfl,rfl,rfl⟩
  obtain ⟨s1,cr⟩:=rn_l09Copy0 h.d_spec_l09Copy h0
  refine pf_endL (fun x d=>x == 325) h.hT rfl rfl ?_
  dsimp only [F_spec_InvertMatrix,oN,oS,oG,oK,oA,oH,oV,cI]
  refine ew ?_
  refine PFK_of c1 ?_
  refine ew ?_
  refine RefK_mk cr rfl (by simp) (by simp) ?_
  refine ew ?_
  refine loop_at (fun x d=>x == 325) (α:=Nat) (fun i=>⟨argE [ratssV m,.any,.any,.any,.nils,.any,.any,.any,.any,.any,.any,.any,.any,.any,.any,.any,.any,.any,.any,.any,.any,iv 0,iv (i : Nat)],s1,0,0,[],[]⟩) (fun i=>i = 0) (fun i=>i) rfl 0 ?_ ?_ ?_
  ·rfl
  ·(refine Fg_env ?_;exact fgW)
  ·rintro i hi
   have hcc : ¬ ((i : Int) < 0):=by omega
   refine ew1 @hcc ?_
   refine PFK_of PR0 ?_
   refine ew ?_
   refine loop_at (fun x d=>x == 325) (α:=Nat) (fun k=>⟨argE [.any,.any,.any,.any,.any,.any,.any,.any,.any,.any,.nils,.any,.any,.any,.any,.any,.any,.any,.any,.any,.any,.any,.any,.any,.any,.any,.any,.any,.any,.any,.any,.any,.any,.any,.any,.any,.any,.any,.any,.any,.any,.any,.any,.any,.any,.any,.any,.any,.any,.any,.any,.any,.any,.any,.any,.any,.any,ratssV [],iv 0,iv (k : Nat)],s1 ++ [none],0,0,[],[]⟩) (fun k=>k = 0) (fun k=>k) rfl 0 ?_ ?_ ?_
   ·rfl
   ·(refine Fg_env ?_;exact fgW)
   ·rintro k hk
    have hcc : ¬ ((k : Int) < 0):=by omega
    refine ew1 @hcc ?_
    exact of_eq_true (by simp [LaxV,LaxL,ratssV])
 have cf0:=c_sRatFromInt h.d_spec_RatFromInt (n:=0) (by omega)
 have cf1:=c_sRatFromInt h.d_spec_RatFromInt (n:=1) (by omega)
 obtain ⟨qo,s1,rp1,cr,hM1,_,_⟩:=rn_l09Copy h.d_spec_l09Copy (σ:=[]) h0 h10 h0 (by omega) (fun i hi=>hml i hi)
 have hM0:=hM1.toL (fun i hi=>(hml i hi).1)
 have hq1:=hM0.out
 refine pf_endL (fun x d=>x == 325) h.hT rfl rfl ?_
 dsimp only [F_spec_InvertMatrix,oN,oS,oG,oK,oA,oH,oV,cI]
 refine ew ?_
 refine PFK_of c1 ?_
 refine ew ?_
 refine RefK_mk cr rfl (by simp) (by simp) ?_
 refine ew1 @hq1 ?_
 refine loop_at (fun x d=>x == 325) (α:=Nat × Store × (Nat → Nat)) (fun q=>⟨argE [ratssV m,.any,.any,.any,.msl qo 0 m.length,.any,.any,.any,.any,.any,.any,.any,.any,.any,.any,.any,.any,.any,.any,.any,.any,iv (m.length : Nat),iv (q.1 : Nat)],q.2.1,0,0,[],[]⟩) (fun q=>q.1 ≤ m.length ∧ MatL q.2.1 qo m.length q.2.2 (fun x=>if x < q.1 then ivmW m x else mF m x)) (fun q=>m.length - q.1) rfl (0,s1,rp1) ?_ ?_ ?_
 ·exact ⟨Nat.zero_le _,hM0.ext fun x=>(if_neg (Nat.not_lt_zero _)).symm⟩
 ·(refine Fg_env ?_;exact fgW)
 ·clear hM1 hM0 hq1 cr
  rintro ⟨i,s,rp⟩ ⟨hi,hM⟩
  dsimp only at hi hM
  by_cases hcc : (i : Int) < (m.length : Nat)
  ·have hil : i < m.length:=by omega
   have hri:=(hml i hil).1
   have emf : (if i < i then ivmW m i else mF m i) = m.getD i default:=if_neg (Nat.lt_irrefl _)
   have eW : ivmW m i = m.getD i default ++ ivmT i m.length:=rfl
   have eS:=setR_self (fun x=>if x < i then ivmW m x else mF m x) i
   rw [emf] at eS
   have ef : setR (fun x=>if x < i then ivmW m x else mF m x) i (ivmW m i) = fun x=>if x < i + 1 then ivmW m x else mF m x:=by
    funext x
    unfold setR
    by_cases e : x = i
    ·rw [if_pos e,if_pos (by omega),e]
    ·by_cases e2 : x < i
     ·rw [if_neg e]
      dsimp only
      rw [if_pos e2,if_pos (by omega)]
     ·rw [if_neg e]
      dsimp only
      rw [if_neg e2,if_neg (by omega)]
   rw [eW] at ef
   generalize m.getD i default = r at *
   generalize (fun x=>if x < i then ivmW m x else mF m x) = M0 at *
   refine ew1 @hcc ?_
   refine loop_at (fun x d=>x == 325) (α:=Nat × Store × (Nat → Nat)) (fun q=>⟨argE [ratssV m,.any,.any,.any,.msl qo 0 m.length,iv (i : Nat),.any,.any,.any,.any,.any,.any,.any,.any,.any,.any,.any,.any,.any,.any,.any,iv (m.length : Nat),iv (i : Nat),.any,.any,.any,iv (m.length : Nat),iv (q.1 : Nat)],q.2.1,0,0,[],[]⟩) (fun q=>q.1 ≤ m.length ∧ MatL q.2.1 qo m.length q.2.2 (setR M0 i (r ++ ivmT i q.1))) (fun q=>m.length - q.1) rfl (0,s,rp) ?_ ?_ ?_
   ·refine ⟨Nat.zero_le _,?_⟩
    rw [show r ++ ivmT i 0 = r from List.append_nil r,eS]
    exact hM
   ·(refine Fg_env ?_;exact fgW)
   ·clear hM
    rintro ⟨j,t,rp⟩ ⟨hj,hM⟩
    dsimp only at hj hM
    by_cases hcj : (j : Int) < (m.length : Nat)
    ·have es : r ++ ivmT i (j + 1) = (r ++ ivmT i j) ++ [intR (if i = j then 1 else 0)]:=by rw [ivmT_s,List.append_assoc]
     have hLl : (r ++ ivmT i j).length ≤ 20:=by rw [List.length_append,ivmT_len];omega
     have hrow:=hM.row i hil
     have gi:=lrow_at (rp:=rp) (M:=setR M0 i (r ++ ivmT i j)) hil
     rw [setR_eq] at hrow gi
     have hput:=fun (s2 : Store) (p : Nat) (r2 : List R) hq hp hpl ho=>hM.put hil (s2:=s2) (p:=p) (r:=r2) hq hp hpl ho
     simp only [setR_set] at hput
     have hq:=hM.out
     have hql:=hM.lt.1
     have hrs:=hM.lt.2 i hil
     have hrq:=hM.ne hil
     generalize r ++ ivmT i j = L at *
     generalize setR M0 i L = M1 at *
     have hok : ∀ n : Nat,n = t.length → [qo,rp i,n,n + 1].Nodup ∧ ∀ o ∈ [qo,rp i,n,n + 1],o < n + 2:=fun n e=>⟨by simp;omega,by simp;omega⟩
     obtain ⟨o1,o2⟩:=hok _ rfl
     by_cases hij : i = j
     ·have hij' : ((i : Int) = (j : Nat)) = True:=eq_true (by omega)
      refine ew6 @hcj @hij' (And.intro hq hrow) @gi @numK_any @or_sc ?_
      refine PFK_of cf1 ?_
      refine ew4 (And.intro hq hrow) @gi @numK_any @or_sc ?_
      refine ⟨⟨by omega,by omega⟩,?_,?_⟩
      ·refine OkA_lst [qo,rp i,t.length,t.length + 1] [⟨11,[0],[0],false⟩,⟨10,[0],[],false⟩,⟨9,[1,2],[1,3],false⟩,⟨8,[],[2],false⟩,⟨7,[],[],false⟩,⟨6,[],[],false⟩,⟨5,[0],[],false⟩,⟨4,[0],[],false⟩,⟨3,[],[],false⟩,⟨2,[],[],false⟩,⟨1,[],[],false⟩,⟨0,[],[],false⟩] o1 o2 rfl ?_
       show OkA 4 _ _
       unfold OkA;decide +kernel
      refine ⟨(j + 1,?st1,fun x=>if x = i then t.length + 1 else rp x),?c1,⟨?c2,?c4⟩,?c3⟩
      case c3=>dsimp only;(refine Fg_env ?_;exact fgW)
      case c1=>dsimp only;omega
      case c2=>dsimp only;omega
      case c4 =>
       dsimp only
       rw [es,if_pos hij]
       have n1 : t.length + 1 ≠ qo:=by omega
       have n2 : t.length + 1 ≠ rp i:=by omega
       refine hput _ (t.length + 1) _ ?_ ?_ (by omega) (fun o ho h1 h2=>?_)
       ·rw [List.length_append,objAt_seteq (by simp;omega)]
        rfl
       ·rw [List.map_append]
        simp (disch:=first | omega | (simp only [List.length_append,List.length_set,List.length_cons,List.length_nil];omega)) only [EVs]
        rfl
       ·exact obE
     ·have hij' : ((i : Int) = (j : Nat)) = False:=eq_false (by omega)
      refine ew6 @hcj @hij' (And.intro hq hrow) @gi @numK_any @or_sc ?_
      refine PFK_of cf0 ?_
      refine ew4 (And.intro hq hrow) @gi @numK_any @or_sc ?_
      refine ⟨⟨by omega,by omega⟩,?_,?_⟩
      ·refine OkA_lst [qo,rp i,t.length,t.length + 1] [⟨11,[0],[0],false⟩,⟨10,[0],[],false⟩,⟨9,[1,2],[1,3],false⟩,⟨8,[],[2],false⟩,⟨7,[],[],false⟩,⟨6,[],[],false⟩,⟨5,[0],[],false⟩,⟨4,[0],[],false⟩,⟨3,[],[],false⟩,⟨2,[],[],false⟩,⟨1,[],[],false⟩,⟨0,[],[],false⟩] o1 o2 rfl ?_
       show OkA 4 _ _
       unfold OkA;decide +kernel
      refine ⟨(j + 1,?st2,fun x=>if x = i then t.length + 1 else rp x),?c1,⟨?c2,?c4⟩,?c3⟩
      case c3=>dsimp only;(refine Fg_env ?_;exact fgW)
      case c1=>dsimp only;omega
      case c2=>dsimp only;omega
      case c4 =>
       dsimp only
       rw [es,if_neg hij]
       have n1 : t.length + 1 ≠ qo:=by omega
       have n2 : t.length + 1 ≠ rp i:=by omega
       refine hput _ (t.length + 1) _ ?_ ?_ (by omega) (fun o ho h1 h2=>?_)
       ·rw [List.length_append,objAt_seteq (by simp;omega)]
        rfl
       ·rw [List.map_append]
        simp (disch:=first | omega | (simp only [List.length_append,List.length_set,List.length_cons,List.length_nil];omega)) only [EVs]
        rfl
       ·exact obE
    ·have hje : j = m.length:=by omega
     rw [hje,ef] at hM
     refine ew1 @hcj ?_
     exact ⟨(i + 1,t,rp),by dsimp only;omega,⟨by dsimp only;omega,hM⟩,by (refine Fg_env ?_;exact fgW)⟩
  ·have hie : i = m.length:=by omega
   subst hie
   have Rf:=hM.res
   rw [show (List.range m.length).map (fun x=>if x < m.length then ivmW m x else mF m x) = ivmL m from List.map_congr_left fun x hx=>if_pos (List.mem_range.1 hx)] at Rf
   refine ew2 @hcc @Rf ?_
   refine PFK_of PR ?_
   cases hb : rrB (ivmL m) (2 * (m.length : Nat))
   ·obtain ⟨e1,e2⟩:=ivmB_r hb
    rw [e1,e2]
    refine ew ?_
    exact of_eq_true (by simp [LaxV,LaxL,ratssV])
   obtain ⟨e1,e2⟩:=ivmB_t hc hb
   rw [e1,e2]
   obtain ⟨M,eM,hOM,_⟩:=rrV_ok hb
   rw [hWl] at eM hOM
   have hlR : ∀ i,i < m.length → ((rrM (ivmL m) (2 * (m.length : Nat))).getD i default).length = 2 * m.length:=fun i hi=>by
    have:=(hOM i hi).1
    rw [eM,show ((List.range m.length).map M).getD i default = M i from wideL_at hi];omega
   have hRl : (rrM (ivmL m) (2 * (m.length : Nat))).length = m.length:=by rw [eM];simp
   clear eM hOM hM Rf PR
   generalize rrM (ivmL m) (2 * (m.length : Nat)) = RR at *
   refine ew ?_
   refine loop_at (fun x d=>x == 325) (α:=Nat × Store × V × List (Nat × List R)) (fun q=>⟨argE [ratssV m,.any,.any,.any,.any,.any,.any,.any,.any,.any,q.2.2.1,.any,.any,.any,.any,.any,.any,.any,.any,.any,.any,.any,.any,.any,.any,.any,.any,.any,.any,.any,.any,.any,.any,.any,.any,.any,.any,.any,.any,.any,.any,.any,.any,.any,.any,.any,.any,.any,.any,.any,.any,.any,.any,.any,.any,.any,.any,ratssV RR,iv (m.length : Nat),iv (q.1 : Nat)],q.2.1,0,0,[],[]⟩) (fun q=>q.1 ≤ m.length ∧ MatA q.2.1 q.2.2.1 q.2.2.2 ∧ q.2.2.2.map (·.2) = (RR.take q.1).map fun r=>r.drop m.length) (fun q=>m.length - q.1) rfl (0,killAll (s.set qo none) (reachO s (objAt s qo)) ++ [none],.nils,[]) ?_ ?_ ?_
   ·exact ⟨Nat.zero_le _,⟨.inl ⟨rfl,rfl⟩,by simp⟩,rfl⟩
   ·(refine Fg_env ?_) <;> (try (refine ew1 @hRl ?_;try with_reducible exact True.intro)) <;> (repeat' (first | refine ⟨?_,?_⟩ | exact EvV_int (by omega) | exact EvV_of (by simp) | exact EvV_nil _))
   ·rintro ⟨i,t,v10,Z⟩ ⟨hi,hM,hZ⟩
    dsimp only at hi hM hZ
    by_cases hci : (i : Int) < (m.length : Nat)
    ·have hil : i < m.length:=by omega
     have hiR : (i : Int) < (RR.length : Nat):=by omega
     have hai : (RR.map fun r=>[ratsV r]).getD i [] = [ratsV (RR.getD i default)]:=mg (f:=fun r : List R=>[ratsV r]) (by omega)
     have hri:=hlR i hil
     have ex : (RR.take (i + 1)).map (fun r=>r.drop m.length) = (RR.take i).map (fun r=>r.drop m.length) ++ [(RR.getD i default).drop m.length]:=by
      rw [take_snoc (by omega),List.map_append];rfl
     rw [← hZ] at ex
     generalize RR.getD i default = r at *
     have hdl : (r.drop m.length).length = m.length:=by rw [List.length_drop,hri];omega
     have hne : ((r.drop m.length).map R.cells = []) = False:=eq_false fun e=>by
      have h1:=congrArg List.length e
      rw [List.length_map,hdl,List.length_nil] at h1
      omega
     have hmd : (r.map R.cells).drop m.length = (r.drop m.length).map R.cells:=(List.map_drop ..).symm
     have hnr : (m.length : Int) ≤ (r.length : Nat):=by omega
     rcases hM with ⟨⟨rfl,rfl⟩ | ⟨q,rfl,hq⟩,hMr⟩
     ·refine ew4 @hci @hai (And.intro hmd hne) @hdl ?_
      refine ⟨⟨by omega,by omega⟩,by decide,?_⟩
      refine ⟨(i + 1,?st4,.msl (t.length + 3) 0 1,[] ++ [(t.length + 1,r.drop m.length)]),?c1,⟨?c2,⟨.inr ⟨_,rfl,?c4⟩,?c5⟩,?c6⟩,?c3⟩
      case c3=>dsimp only;(refine Fg_env ?_;exact fgW)
      case c1=>dsimp only;omega
      case c2=>dsimp only;omega
      case c4 =>
       dsimp only
       rw [List.map_append,List.map_cons,List.map_nil,show zrow (t.length + 1,r.drop m.length) = [.msl (t.length + 1) 0 m.length] by unfold zrow;rw [hdl]]
       exact objAt_seteq (by simp <;> omega)
      case c5 =>
       dsimp only
       intro x hx
       rw [List.mem_singleton.1 hx]
       dsimp only
       exact obE
      case c6=>rw [List.map_append];exact ex.symm
     ·have hql:=objAt_lt hq
      refine ew5 @hci @hai (And.intro hmd hne) @hdl @hq ?_
      refine ⟨⟨by omega,by omega⟩,by have:=congrArg List.length hZ;simp at this;omega,?_⟩
      refine ⟨(i + 1,?st5,.msl (t.length + 3) 0 (Z.length + 1),Z ++ [(t.length + 1,r.drop m.length)]),?c1,⟨?c2,⟨.inr ⟨_,by rw [List.length_append];rfl,?c4⟩,?c5⟩,?c6⟩,?c3⟩
      case c3=>dsimp only;(refine Fg_env ?_;exact fgW)
      case c1=>dsimp only;omega
      case c2=>dsimp only;omega
      case c4 =>
       dsimp only
       rw [List.map_append,List.map_cons,List.map_nil,show zrow (t.length + 1,r.drop m.length) = [.msl (t.length + 1) 0 m.length] by unfold zrow;rw [hdl]]
       exact objAt_seteq (by simp <;> omega)
      case c5 =>
       dsimp only
       intro x hx
       rcases List.mem_append.1 hx with hx | hx
       ·have h1:=hMr x hx
        have h2:=objAt_lt h1
        have hne : x.1 ≠ q:=fun e=>by rw [e,hq] at h1;cases h1
        rw [← h1]
        exact obE
       ·rw [List.mem_singleton.1 hx]
        dsimp only
        have : t.length + 1 ≠ q:=by omega
        exact obE
      case c6=>rw [List.map_append];exact ex.symm
    ·have hie : i = m.length:=by omega
     rw [hie,← hRl,List.take_length] at hZ
     rw [hRl] at hZ
     rw [← hZ]
     have hZl : Z.length = m.length:=by have:=congrArg List.length hZ;simp at this;omega
     rcases hM with ⟨⟨rfl,rfl⟩ | ⟨q,rfl,hq⟩,hMr⟩
     ·simp at hZl;omega
     ·have Rf:=MatA.res1 hMr hq
      refine ew3 @hci @hq @Rf ?_
      exact laxV_refl _
end Go.Ml
end
