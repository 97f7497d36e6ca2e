/- A small language for the functions of this claim, its soundness, contracts. -/
import Derived.Test.YthhglmiolbhcaaaGreatPart3
set_option linter.unusedSimpArgs false
set_option linter.unusedVariables false
set_option maxRecDepth 100000
set_option maxHeartbeats 16000000
section
namespace Go.Ml
section
variable {s s1 S σ2 : Store} {a b c ta tb tc rs trs cs ts : List V} {os os2 : List Nat} {L L' : List (Nat × Obj)}
theorem Ep.to (E : Ep s cs ts os L) (ho : ∀ o ∈ os,objAt S o = objAt s o) (hL : ∀ q ∈ L',(q ∈ L ∧ objAt S q.1 = objAt s q.1) ∨ (objAt S q.1 = some q.2 ∧ q.1 ∉ os)) : Ep S cs ts os L':=by
 refine ⟨E.c.frame ho,fun q hq=>?_⟩
 rcases hL q hq with ⟨h1,h2⟩ | h
 ·exact ⟨h2.trans (E.l q h1).1,(E.l q h1).2⟩
 ·exact h
theorem Ep.oslt (E : Ep s cs ts os L) : ∀ o ∈ os,o < s.length:=fun o h=>E.c.lt o h
theorem Ep.renewM (E : Ep s (a ++ (b ++ c)) (ta ++ (tb ++ tc)) os L) (hla : a.length = ta.length) (hlb : b.length = tb.length) (h1 : ∀ o,o < s.length → objAt s1 o = objAt s o) (hl : s.length ≤ s1.length) (ho : OwL σ2 rs trs os2) (hn : os2.Nodup) (hf : ∀ o ∈ os2,s1.length ≤ o)
  (old : ∀ o,o < s1.length → objAt σ2 o = objAt s1 o) : ∃ os',Ep σ2 (a ++ (rs ++ c)) (ta ++ (trs ++ tc)) os' L ∧ ∀ o ∈ os',o ∈ os ∨ s1.length ≤ o:=by
 obtain ⟨a1,a2,oa,obc,e,rfl,k1,k2⟩:=owL_split E.c.ow
 obtain ⟨rfl,rfl⟩:=List.append_inj e (by rw [hla];exact k1.len.symm)
 obtain ⟨b1,b2,ob,oc,e,rfl,k3,k4⟩:=owL_split k2
 obtain ⟨rfl,rfl⟩:=List.append_inj e (by rw [hlb];exact k3.len.symm)
 have hlt:=fun o (h : o ∈ oa ++ (ob ++ oc))=>E.c.lt o h
 have nd:=List.nodup_append.1 E.c.nd
 have nd2:=List.nodup_append.1 nd.2.1
 have fr : ∀ o ∈ oa ++ (ob ++ oc),objAt σ2 o = objAt s o:=fun o h=>by
  have:=hlt o h
  rw [old o (by omega),h1 o this]
 refine ⟨oa ++ (os2 ++ oc),⟨⟨owL_append (k1.frame fun o h=>fr o (by simp [h])) (owL_append ho (k4.frame fun o h=>fr o (by simp [h]))),?_⟩,fun q hq=>⟨(old _ (Nat.lt_of_lt_of_le (E.lt q hq) hl)).trans ((h1 _ (E.lt q hq)).trans (E.l q hq).1),fun hm=>?_⟩⟩,fun o h=>?_⟩
 ·rw [List.nodup_append,List.nodup_append]
  refine ⟨nd.1,⟨hn,nd2.2.1,fun x hx y hy e=>?_⟩,fun x hx y hy e=>?_⟩
  ·have:=hf x hx
   have:=hlt y (by simp [hy])
   omega
  ·rcases List.mem_append.1 hy with hy | hy
   ·have:=hf y hy
    have:=hlt x (by simp [hx])
    omega
   ·exact nd.2.2 x hx y (List.mem_append_right _ hy) e
 ·simp only [List.mem_append] at hm
  rcases hm with hm | hm | hm
  ·exact (E.l q hq).2 (by simp [hm])
  ·have:=hf _ hm;have:=E.lt q hq;omega
  ·exact (E.l q hq).2 (by simp [hm])
 ·simp only [List.mem_append] at h
  rcases h with h | h | h
  ·exact .inl (by simp [h])
  ·exact .inr (hf o h)
  ·exact .inl (by simp [h])
theorem Ep.upd {p : Nat} {ob ob0 : Obj} (E : Ep s (a ++ (b ++ c)) (ta ++ (tb ++ tc)) os L) (hp : (p,ob0) ∈ L) (hla : a.length = ta.length) (hlb : b.length = tb.length) (h1 : ∀ o,o < s.length → objAt s1 o = objAt s o) (hl : s.length ≤ s1.length) (ho : OwL σ2 rs trs os2) (hn : os2.Nodup) (hf : ∀ o ∈ os2,s1.length ≤ o)
  (old : ∀ o,o < s1.length → objAt σ2 o = objAt s1 o) (hL : ∀ q ∈ L',(q.1 ≠ p ∧ q ∈ L) ∨ q = (p,ob)) (hs : s1.length ≤ σ2.length) : ∃ os',Ep (σ2.set p (some ob)) (a ++ (rs ++ c)) (ta ++ (trs ++ tc)) os' L':=by
 obtain ⟨os',E2,_⟩:=E.renewM hla hlb h1 hl ho hn hf old
 have hpl:=E.lt _ hp
 exact ⟨os',E2.reloc (E2.l _ hp).2 (by dsimp only at hpl;omega) hL⟩
theorem Ep.cut (E : Ep s (a ++ (b ++ c)) (ta ++ (tb ++ tc)) os L) (hla : a.length = ta.length) (hlb : b.length = tb.length) : ∃ os',Ep s (a ++ c) (ta ++ tc) os' L ∧ ∀ o ∈ os',o ∈ os:=by
 obtain ⟨a1,a2,oa,obc,e,rfl,k1,k2⟩:=owL_split E.c.ow
 obtain ⟨rfl,rfl⟩:=List.append_inj e (by rw [hla];exact k1.len.symm)
 obtain ⟨b1,b2,ob,oc,e,rfl,k3,k4⟩:=owL_split k2
 obtain ⟨rfl,rfl⟩:=List.append_inj e (by rw [hlb];exact k3.len.symm)
 have nd:=List.nodup_append.1 E.c.nd
 have nd2:=List.nodup_append.1 nd.2.1
 refine ⟨oa ++ oc,⟨⟨owL_append k1 k4,?_⟩,fun q hq=>⟨(E.l q hq).1,fun hm=>(E.l q hq).2 ?_⟩⟩,fun o h=>?_⟩
 ·rw [List.nodup_append]
  exact ⟨nd.1,nd2.2.1,fun x hx y hy e=>nd.2.2 x hx y (List.mem_append_right _ hy) e⟩
 ·rcases List.mem_append.1 hm with h | h <;> simp [h]
 ·rcases List.mem_append.1 h with h | h <;> simp [h]
theorem Ep.swap (E : Ep s (a ++ (b ++ c)) (ta ++ (tb ++ tc)) os L) (hla : a.length = ta.length) (hlb : b.length = tb.length) : ∃ os',Ep s (b ++ (a ++ c)) (tb ++ (ta ++ tc)) os' L ∧ ∀ o,o ∈ os' ↔ o ∈ os:=by
 obtain ⟨a1,a2,oa,obc,e,rfl,k1,k2⟩:=owL_split E.c.ow
 obtain ⟨rfl,rfl⟩:=List.append_inj e (by rw [hla];exact k1.len.symm)
 obtain ⟨b1,b2,ob,oc,e,rfl,k3,k4⟩:=owL_split k2
 obtain ⟨rfl,rfl⟩:=List.append_inj e (by rw [hlb];exact k3.len.symm)
 have nd:=List.nodup_append.1 E.c.nd
 have nd2:=List.nodup_append.1 nd.2.1
 have hm : ∀ o,o ∈ ob ++ (oa ++ oc) ↔ o ∈ oa ++ (ob ++ oc):=fun o=>by simp only [List.mem_append];constructor <;> rintro (h | h | h) <;> simp [h]
 refine ⟨ob ++ (oa ++ oc),⟨⟨owL_append k3 (owL_append k1 k4),?_⟩,fun q hq=>⟨(E.l q hq).1,fun h=>(E.l q hq).2 ((hm _).1 h)⟩⟩,hm⟩
 rw [List.nodup_append,List.nodup_append]
 refine ⟨nd2.1,⟨nd.1,nd2.2.1,fun x hx y hy e=>nd.2.2 x hx y (List.mem_append_right _ hy) e⟩,fun x hx y hy e=>?_⟩
 rcases List.mem_append.1 hy with hy | hy
 ·exact nd.2.2 y hy x (List.mem_append_left _ hx) e.symm
 ·exact nd2.2.2 x hx y hy e
theorem Ep.swapP {d td : List V} (E : Ep s (d ++ (a ++ (b ++ c))) (td ++ (ta ++ (tb ++ tc))) os L) (hld : d.length = td.length) (hla : a.length = ta.length) (hlb : b.length = tb.length) : ∃ os',Ep s (d ++ (b ++ (a ++ c))) (td ++ (tb ++ (ta ++ tc))) os' L ∧ ∀ o,o ∈ os' ↔ o ∈ os:=by
 obtain ⟨d1,d2,od,or,e,rfl,k1,k2⟩:=owL_split E.c.ow
 obtain ⟨rfl,rfl⟩:=List.append_inj e (by rw [hld];exact k1.len.symm)
 have nd:=List.nodup_append.1 E.c.nd
 have E2 : Ep s (a ++ (b ++ c)) (ta ++ (tb ++ tc)) or []:=⟨⟨k2,nd.2.1⟩,by simp⟩
 obtain ⟨os',E3,hm⟩:=E2.swap hla hlb
 have hmm : ∀ o,o ∈ od ++ os' ↔ o ∈ od ++ or:=fun o=>by simp only [List.mem_append,hm]
 refine ⟨od ++ os',⟨⟨owL_append k1 E3.c.ow,?_⟩,fun q hq=>⟨(E.l q hq).1,fun h=>(E.l q hq).2 ((hmm _).1 h)⟩⟩,hmm⟩
 rw [List.nodup_append]
 exact ⟨nd.1,E3.c.nd,fun x hx y hy e=>nd.2.2 x hx y ((hm y).1 hy) e⟩
end
theorem owR_flat {σ : Store} {k : Nat} : ∀ {A T : List (List V)} {os : List Nat},(∀ r ∈ A,r.length = k) → (∀ r ∈ T,r.length = k) → A.length = T.length → OwL σ A.flatten T.flatten os → OwR σ A T os
 |
  [],[],os,_,_,_,h=>by
  simp only [List.flatten_nil,OwL] at h
  simp only [OwR];exact h
 | [],t :: T,_,_,_,h,_=>by simp at h
 | a :: A,[],_,_,_,h,_=>by simp at h
 |
  a :: A,t :: T,os,ha,ht,hl,h=>by
  simp only [List.flatten_cons] at h
  obtain ⟨v1,v2,o1,o2,e,rfl,h1,h2⟩:=owL_split h
  have hlen:=h1.len
  have e1:=ha a (by simp)
  have e2:=ht t (by simp)
  obtain ⟨rfl,rfl⟩:=List.append_inj e (by omega)
  simp only [OwR]
  exact ⟨a,A,o1,o2,rfl,rfl,h1,owR_flat (fun r hr=>ha r (by simp [hr])) (fun r hr=>ht r (by simp [hr])) (by simpa using hl) h2⟩
section
variable {s : Store} {A T : List (List V)} {a c ta tc : List V} {os : List Nat} {L : List (Nat × Obj)} {n p k : Nat}
theorem Ep.close (E : Ep s (A.flatten ++ c) (T.flatten ++ tc) os L) (hp : (p,⟨n,A⟩) ∈ L) (ha : ∀ r ∈ A,r.length = k) (ht : ∀ r ∈ T,r.length = k) (hl : A.length = T.length) :
  ∃ os',Ep s (.msl p 0 A.length :: c) (.sl n T :: tc) os' (L.filter fun q=>q.1 != p):=by
 have hfl : A.flatten.length = T.flatten.length:=by
  have e1 : ∀ (X : List (List V)),(∀ r ∈ X,r.length = k) → X.flatten.length = X.length * k:=fun X=>by
   induction X with
   | nil=>intro _;simp
   |
    cons x X ih =>
    intro h
    rw [List.flatten_cons,List.length_append,ih fun r hr=>h r (by simp [hr]),h x (by simp),List.length_cons,Nat.succ_mul]
    omega
  rw [e1 A ha,e1 T ht,hl]
 obtain ⟨v1,v2,o1,o2,e,rfl,h1,h2⟩:=owL_split E.c.ow
 obtain ⟨rfl,rfl⟩:=List.append_inj e (by rw [hfl];exact h1.len.symm)
 have hR:=owR_flat ha ht hl h1
 have hpo:=E.l _ hp
 have nd:=List.nodup_append.1 E.c.nd
 have hv : OwV s (.msl p 0 A.length) (.sl n T) (p :: o1):=by
  simp only [OwV]
  exact .inr ⟨p,A,o1,by rw [hl],hpo.1,rfl,hR⟩
 refine ⟨(p :: o1) ++ o2,⟨⟨owL_v hv h2,?_⟩,fun q hq=>?_⟩⟩
 ·simp only [List.cons_append,List.nodup_cons]
  exact ⟨hpo.2,E.c.nd⟩
 ·obtain ⟨hq1,hq2⟩:=List.mem_filter.1 hq
  have hne : q.1 ≠ p:=by simpa using hq2
  refine ⟨(E.l q hq1).1,fun hm=>?_⟩
  simp only [List.cons_append,List.mem_cons] at hm
  rcases hm with hm | hm
  ·exact hne hm
  ·exact (E.l q hq1).2 hm
theorem Ep.listRes (E : Ep s (A.flatten ++ c) (T.flatten ++ tc) os L) (hp : (p,⟨n,A⟩) ∈ L) (ha : ∀ r ∈ A,r.length = k) (ht : ∀ r ∈ T,r.length = k) (hl : A.length = T.length) (m : Nat) (hd : DepLe m (.sl n T)) : resolve s m (.msl p 0 A.length) = some (.sl n T):=by
 obtain ⟨os',E2⟩:=E.close hp ha ht hl
 obtain ⟨v,vs,o1,o2,e,_,h1,h2⟩:=E2.c.ow.inv
 simp only [List.cons.injEq] at e
 obtain ⟨rfl,rfl⟩:=e
 exact ow_res m h1 hd
end
end Go.Ml
end
section
namespace Go.Ml
def F_spec_InformationVectors : Fn:=⟨1,93,[.tmp 2,.tmp 3],(.seq (.reg false 0 [oN 2 (.mov (.c (.nils))),oN 3 (.mov (.c (.nils)))]) (.seq (.reg false 1 [oN 11 (.mkSl 3 [.bool false,.nils,.nils] 0 []),oK 4 1 (oV 11)]) (.seq (.reg false 1 [oN 12 (.mkSl 3 [.bool false,.nils,.nils] 0 []),oK 5 1 (oV 12)]) (.seq (.seq (.reg false 0 [oN 13 (oV 0),oN 14 (.call 193 [(.t 13)]),oN 15 (.un .not (.t 14))]) (.cond (.t 15) (.seq (.reg false 0 [oN 2 (.mov (.c (.nils))),oN 3 (.mov (.c (.nils)))]) .ret) .skip)) (.seq (.seq (.reg false 0 [oN 16 (oV 0),oN 17 (.call 222 [(.t 16)]),oN 18 (.len (.t 17)),oN 19 (.mov (cI 0))]) (.block 0 (.loop (.seq (.reg false 0 [oN 20 (.bin .lss (.t 19) (.t 18))]) (.seq (.cond (.t 20) .skip (.exit 0)) (.seq (.block 1 (.seq (.reg false 0 [oN 21 (.idx 1 (.t 17) (.t 19)),oN 22 (.load 1 false (.t 21)),oN 7 (oV 22)]) (.seq (.reg false 1 [oK 23 1 (.call 36 [(cI 0)]),oK 24 1 (.call 36 [(cI 0)]),oK 25 1 (.build [.bool false,.nils,.nils,.bool false,.nils,.nils] [(0,3,(.t 23)),(3,3,(.t 24))]),oN 8 (.alloc [.bool false,.nils,.nils,.bool false,.nils,.nils]),⟨none,none,1,.store 6 (.t 8) (.t 25),[]⟩]) (.seq (.seq (.reg false 0 [oN 26 (oV 0),oN 27 (.len (.t 26)),oN 28 (.mov (cI 0))]) (.block 2 (.loop (.seq (.reg false 0 [oN 29 (.bin .lss (.t 28) (.t 27))]) (.seq (.cond (.t 29) .skip (.exit 2)) (.seq (.block 3 (.seq (.reg false 1 [oK 30 1 (.idx 11 (.t 26) (.t 28)),oK 31 1 (.load 11 true (.t 30)),oN 10 (.alloc [.int .i64 0,.int .i64 0,.bool false,.nils,.nils,.bool false,.nils,.nils,.bool false,.nils,.nils]),⟨none,none,1,.store 11 (.t 10) (.t 31),[]⟩]) (.seq (.seq (.reg false 0 [oN 32 (.fld 1 (.t 10)),oN 33 (.load 1 false (.t 32)),oN 34 (oV 7),oN 35 (.bin .eql (.t 33) (.t 34))]) (.cond (.t 35) (.seq (.reg true 0 [oN 36 (.fld 0 (.t 8)),oA 37 0 (.load 3 true (.t 36)) [0],oN 38 (.fld 2 (.t 10)),oA 39 0 (.load 3 true (.t 38)) [2],oN 40 (.fld 5 (.t 10)),oA 41 0 (.load 3 true (.t 40)) [4],oA 42 0 (.call 201 [(.t 39),(.t 41)]) [3,5],oA 43 0 (.call 189 [(.t 37),(.t 42)]) [1,6,6],oA 44 0 (.fld 0 (.t 8)) [0,1,2,3,4,5,6,7],⟨none,none,0,.store 3 (.t 44) (.t 43),[8,7,7,0,1,2,3,4,5,6,7]⟩]) (.reg true 0 [oN 45 (.fld 3 (.t 8)),oA 46 0 (.load 3 true (.t 45)) [0],oN 47 (.fld 2 (.t 10)),oA 48 0 (.load 3 true (.t 47)) [2],oN 49 (.fld 8 (.t 10)),oA 50 0 (.load 3 true (.t 49)) [4],oA 51 0 (.call 201 [(.t 48),(.t 50)]) [3,5],oA 52 0 (.call 189 [(.t 46),(.t 51)]) [1,6,6],oA 53 0 (.fld 3 (.t 8)) [0,1,2,3,4,5,6,7],⟨none,none,0,.store 3 (.t 53) (.t 52),[8,7,7,0,1,2,3,4,5,6,7]⟩])) .skip)) (.seq (.reg false 0 [oN 54 (.fld 0 (.t 10)),oN 55 (.load 1 false (.t 54)),oN 56 (oV 7),oN 57 (.bin .eql (.t 55) (.t 56))]) (.cond (.t 57) (.seq (.reg true 0 [oN 58 (.fld 0 (.t 8)),oA 59 0 (.load 3 true (.t 58)) [0],oN 60 (.fld 2 (.t 10)),oA 61 0 (.load 3 true (.t 60)) [2],oN 62 (.fld 5 (.t 10)),oA 63 0 (.load 3 true (.t 62)) [4],oA 64 0 (.call 201 [(.t 61),(.t 63)]) [3,5],oA 65 0 (.call 203 [(.t 59),(.t 64)]) [1,6,6],oA 66 0 (.fld 0 (.t 8)) [0,1,2,3,4,5,6,7],⟨none,none,0,.store 3 (.t 66) (.t 65),[8,7,7,0,1,2,3,4,5,6,7]⟩]) (.reg true 0 [oN 67 (.fld 3 (.t 8)),oA 68 0 (.load 3 true (.t 67)) [0],oN 69 (.fld 2 (.t 10)),oA 70 0 (.load 3 true (.t 69)) [2],oN 71 (.fld 8 (.t 10)),oA 72 0 (.load 3 true (.t 71)) [4],oA 73 0 (.call 201 [(.t 70),(.t 72)]) [3,5],oA 74 0 (.call 203 [(.t 68),(.t 73)]) [1,6,6],oA 75 0 (.fld 3 (.t 8)) [0,1,2,3,4,5,6,7],⟨none,none,0,.store 3 (.t 75) (.t 74),[8,7,7,0,1,2,3,4,5,6,7]⟩])) .skip))))) (.reg false 0 [oN 76 (.bin .add (.t 28) (cI 1)),oN 28 (oV 76)]))))))) (.seq (.seq (.reg false 0 [oN 77 (.load 6 true (.t 8)),oN 78 (.call 342 [(.t 77)]),oN 79 (.un .not (.t 78))]) (.cond (.t 79) (.seq (.reg false 0 [oN 2 (.mov (.c (.nils))),oN 3 (.mov (.c (.nils)))]) .ret) .skip)) (.seq (.reg false 2 [oK 80 2 (oV 4),oK 81 2 (.fld 0 (.t 8)),oK 82 2 (.load 3 true (.t 81)),oN 83 (.mkSl 3 [.bool false,.nils,.nils] 1 [(0,(.t 82))]),oK 84 1 (.app 3 56 (.t 80) (.t 83)),oK 4 2 (oV 84)]) (.reg false 2 [oK 85 2 (oV 5),oK 86 2 (.fld 3 (.t 8)),oK 87 2 (.load 3 true (.t 86)),oN 88 (.mkSl 3 [.bool false,.nils,.nils] 1 [(0,(.t 87))]),oK 89 1 (.app 3 56 (.t 85) (.t 88)),oK 5 2 (oV 89)]))))))) (.reg false 0 [oN 90 (.bin .add (.t 19) (cI 1)),oN 19 (oV 90)]))))))) (.seq (.reg false 0 [oN 91 (oV 4),oN 92 (oV 5),oN 2 (oV 91),oN 3 (oV 92)]) .ret))))))⟩
structure D_spec_InformationVectors (T : Nat → Option Fn) : Prop where
 hT : T 335 = some F_spec_InformationVectors
 d_spec_RatFromInt : D_spec_RatFromInt T
 d_spec_RatAdd : D_spec_RatAdd T
 d_spec_IsLinkSet : D_spec_IsLinkSet T
 d_spec_RatMul : D_spec_RatMul T
 d_spec_RatSub : D_spec_RatSub T
 d_spec_NodesOf : D_spec_NodesOf T
 d_spec_l08Point : D_spec_l08Point T
def F_impl_goodRow : Fn:=⟨1,15,[.tmp 2],(.seq (.reg false 0 [oN 2 (.mov (.c (.bool false)))]) (.seq (.seq (.reg false 0 [oN 5 (oV 0),oN 6 (.len (.t 5)),oN 7 (.mov (cI 0))]) (.block 0 (.loop (.seq (.reg false 0 [oN 8 (.bin .lss (.t 7) (.t 6))]) (.seq (.cond (.t 8) .skip (.exit 0)) (.seq (.block 1 (.seq (.reg false 1 [oK 9 1 (.idx 3 (.t 5) (.t 7)),oK 10 1 (.load 3 true (.t 9)),oN 4 (.alloc [.bool false,.nils,.nils]),⟨none,none,1,.store 3 (.t 4) (.t 10),[]⟩]) (.seq (.reg false 0 [oN 11 (.load 3 true (.t 4)),oN 12 (.call 132 [(.t 11)]),oN 13 (.un .not (.t 12))]) (.cond (.t 13) (.seq (.reg false 0 [oN 2 (.mov (.c (.bool false)))]) .ret) .skip)))) (.reg false 0 [oN 14 (.bin .add (.t 7) (cI 1)),oN 7 (oV 14)]))))))) (.seq (.reg false 0 [oN 2 (.mov (.c (.bool true)))]) .ret)))⟩
structure D_impl_goodRow (T : Nat → Option Fn) : Prop where
 hT : T 244 = some F_impl_goodRow
 d_impl_good : D_impl_good T
def F_impl_InformationVectors : Fn:=⟨1,88,[.tmp 2,.tmp 3],(.seq (.reg false 0 [oN 2 (.mov (.c (.nils))),oN 3 (.mov (.c (.nils)))]) (.seq (.seq (.reg false 0 [oN 12 (oV 0),oN 13 (.call 89 [(.t 12)]),oN 14 (.un .not (.t 13))]) (.cond (.t 14) (.seq (.reg false 0 [oN 2 (.mov (.c (.nils))),oN 3 (.mov (.c (.nils)))]) .ret) .skip)) (.seq (.reg false 1 [oN 15 (.mkSl 3 [.bool false,.nils,.nils] 0 []),oK 4 1 (oV 15)]) (.seq (.reg false 1 [oN 16 (.mkSl 3 [.bool false,.nils,.nils] 0 []),oK 5 1 (oV 16)]) (.seq (.seq (.reg false 0 [oN 17 (oV 0),oN 18 (.call 180 [(.t 17)]),oN 19 (.len (.t 18)),oN 20 (.mov (cI 0))]) (.block 0 (.loop (.seq (.reg false 0 [oN 21 (.bin .lss (.t 20) (.t 19))]) (.seq (.cond (.t 21) .skip (.exit 0)) (.seq (.block 1 (.seq (.reg false 0 [oN 22 (.idx 1 (.t 18) (.t 20)),oN 23 (.load 1 false (.t 22)),oN 7 (oV 23)]) (.seq (.reg false 1 [oK 24 1 (.call 39 [(cI 0)]),oN 8 (.alloc [.bool false,.nils,.nils]),⟨none,none,1,.store 3 (.t 8) (.t 24),[]⟩]) (.seq (.reg false 1 [oK 25 1 (.call 39 [(cI 0)]),oN 9 (.alloc [.bool false,.nils,.nils]),⟨none,none,1,.store 3 (.t 9) (.t 25),[]⟩]) (.seq (.seq (.reg false 0 [oN 26 (oV 0),oN 27 (.len (.t 26)),oN 28 (.mov (cI 0))]) (.block 2 (.loop (.seq (.reg false 0 [oN 29 (.bin .lss (.t 28) (.t 27))]) (.seq (.cond (.t 29) .skip (.exit 2)) (.seq (.block 3 (.seq (.reg false 1 [oK 30 1 (.idx 11 (.t 26) (.t 28)),oK 31 1 (.load 11 true (.t 30)),oN 11 (.alloc [.int .i64 0,.int .i64 0,.bool false,.nils,.nils,.bool false,.nils,.nils,.bool false,.nils,.nils]),⟨none,none,1,.store 11 (.t 11) (.t 31),[]⟩]) (.seq (.reg false 0 [oN 32 (.fld 1 (.t 11)),oN 33 (.load 1 false (.t 32)),oN 34 (oV 7),oN 35 (.bin .eql (.t 33) (.t 34))]) (.cond (.t 35) (.seq (.reg true 0 [oN 36 (.load 3 true (.t 8)),oN 37 (.fld 2 (.t 11)),oA 38 0 (.load 3 true (.t 37)) [1],oN 39 (.fld 5 (.t 11)),oA 40 0 (.load 3 true (.t 39)) [3],oA 41 0 (.call 157 [(.t 38),(.t 40)]) [2,4],oA 42 0 (.call 131 [(.t 36),(.t 41)]) [0,5,5],⟨none,none,0,.store 3 (.t 8) (.t 42),[6,6,0,1,2,3,4,5,6]⟩]) (.reg true 0 [oN 43 (.load 3 true (.t 9)),oN 44 (.fld 2 (.t 11)),oA 45 0 (.load 3 true (.t 44)) [1],oN 46 (.fld 8 (.t 11)),oA 47 0 (.load 3 true (.t 46)) [3],oA 48 0 (.call 157 [(.t 45),(.t 47)]) [2,4],oA 49 0 (.call 131 [(.t 43),(.t 48)]) [0,5,5],⟨none,none,0,.store 3 (.t 9) (.t 49),[6,6,0,1,2,3,4,5,6]⟩])) (.seq (.reg false 0 [oN 50 (.fld 0 (.t 11)),oN 51 (.load 1 false (.t 50)),oN 52 (oV 7),oN 53 (.bin .eql (.t 51) (.t 52))]) (.cond (.t 53) (.seq (.reg true 0 [oN 54 (.load 3 true (.t 8)),oN 55 (.fld 2 (.t 11)),oA 56 0 (.load 3 true (.t 55)) [1],oN 57 (.fld 5 (.t 11)),oA 58 0 (.load 3 true (.t 57)) [3],oA 59 0 (.call 157 [(.t 56),(.t 58)]) [2,4],oA 60 0 (.call 159 [(.t 54),(.t 59)]) [0,5,5],⟨none,none,0,.store 3 (.t 8) (.t 60),[6,6,0,1,2,3,4,5,6]⟩]) (.reg true 0 [oN 61 (.load 3 true (.t 9)),oN 62 (.fld 2 (.t 11)),oA 63 0 (.load 3 true (.t 62)) [1],oN 64 (.fld 8 (.t 11)),oA 65 0 (.load 3 true (.t 64)) [3],oA 66 0 (.call 157 [(.t 63),(.t 65)]) [2,4],oA 67 0 (.call 159 [(.t 61),(.t 66)]) [0,5,5],⟨none,none,0,.store 3 (.t 9) (.t 67),[6,6,0,1,2,3,4,5,6]⟩])) .skip)))))) (.reg false 0 [oN 68 (.bin .add (.t 28) (cI 1)),oN 28 (oV 68)]))))))) (.seq (.reg false 2 [oK 69 2 (oV 4),oK 70 2 (.load 3 true (.t 8)),oN 71 (.mkSl 3 [.bool false,.nils,.nils] 1 [(0,(.t 70))]),oK 72 1 (.app 3 56 (.t 69) (.t 71)),oK 4 2 (oV 72)]) (.reg false 2 [oK 73 2 (oV 5),oK 74 2 (.load 3 true (.t 9)),oN 75 (.mkSl 3 [.bool false,.nils,.nils] 1 [(0,(.t 74))]),oK 76 1 (.app 3 56 (.t 73) (.t 75)),oK 5 2 (oV 76)]))))))) (.reg false 0 [oN 77 (.bin .add (.t 20) (cI 1)),oN 20 (oV 77)]))))))) (.seq (.seq (.reg false 0 [oN 78 (oV 4),oN 79 (.call 244 [(.t 78)]),oN 80 (.un .not (.t 79)),oN 81 (oV 80),oG 81 false 82 (oV 5),oG 81 false 83 (.call 244 [(.t 82)]),oG 81 false 84 (.un .not (.t 83)),oN 85 (.pick (.t 81) (.c (.bool true)) (.t 84))]) (.cond (.t 85) (.seq (.reg false 0 [oN 2 (.mov (.c (.nils))),oN 3 (.mov (.c (.nils)))]) .ret) .skip)) (.seq (.reg false 0 [oN 86 (oV 4),oN 87 (oV 5),oN 2 (oV 86),oN 3 (oV 87)]) .ret)))))))⟩
structure D_impl_InformationVectors (T : Nat → Option Fn) : Prop where
 hT : T 276 = some F_impl_InformationVectors
 d_impl_RatFromInt : D_impl_RatFromInt T
 d_impl_IsLinkSet : D_impl_IsLinkSet T
 d_impl_ratAdd : D_impl_ratAdd T
 d_impl_ratMul : D_impl_ratMul T
 d_impl_ratSub : D_impl_ratSub T
 d_impl_nodesOf : D_impl_nodesOf T
 d_impl_goodRow : D_impl_goodRow T
def ivStep (v : Int) (p : R × R) (l : Lk) : R × R :=
 if l.b = v then (addR p.1 (mulR l.w l.dx),addR p.2 (mulR l.w l.dy))
 else if l.a = v then (subR p.1 (mulR l.w l.dx),subR p.2 (mulR l.w l.dy)) else p
def ivP (s : List Lk) (v : Int) : Nat → R × R
 | 0=>(intR 0,intR 0)
 | k + 1=>ivStep v (ivP s v k) (s.getD k default)
theorem ivP_cn (s : List Lk) (v : Int) : ∀ k,(ivP s v k).1.cn ∧ (ivP s v k).2.cn
 | 0=>⟨intR_cn (by decide),intR_cn (by decide)⟩
 |
  k + 1=>by
  have:=ivP_cn s v k
  simp only [ivP]
  unfold ivStep
  split
  ·exact ⟨addR_cn _ _,addR_cn _ _⟩
  ·split
   ·exact ⟨subR_cn _ _,subR_cn _ _⟩
   ·exact this
def ivG (s : List Lk) : Bool:=(nodesM s).all fun v=>(ivP s v s.length).1.ok && (ivP s v s.length).2.ok
def ivX (s : List Lk) : List R:=if ivG s = true then (nodesM s).map fun v=>(ivP s v s.length).1 else []
def ivY (s : List Lk) : List R:=if ivG s = true then (nodesM s).map fun v=>(ivP s v s.length).2 else []
theorem ivX_cn (s : List Lk) : ((∀ r ∈ ivX s,r.cn) ∧ (ivX s).length ≤ 10) ∧ ((∀ r ∈ ivY s,r.cn) ∧ (ivY s).length ≤ 10):=by
 have hn:=nodesM_len s
 refine ⟨?_,?_⟩
 ·unfold ivX
  split
  ·refine ⟨fun r hr=>?_,by simpa using hn⟩
   obtain ⟨v,_,rfl⟩:=List.mem_map.1 hr
   exact (ivP_cn s v _).1
  ·simp
 ·unfold ivY
  split
  ·refine ⟨fun r hr=>?_,by simpa using hn⟩
   obtain ⟨v,_,rfl⟩:=List.mem_map.1 hr
   exact (ivP_cn s v _).2
  ·simp
theorem ivG_bad {s : List Lk} (h : ivG s = false) : ivX s = [] ∧ ivY s = []:=by
 unfold ivX ivY;rw [h];exact ⟨rfl,rfl⟩
theorem ivG_good {s : List Lk} (h : ivG s = true) : ivX s = (nodesM s).map (fun v=>(ivP s v s.length).1) ∧ ivY s = (nodesM s).map (fun v=>(ivP s v s.length).2):=⟨if_pos h,if_pos h⟩
theorem rs_wf {l : List R} (h : ∀ r ∈ l,r.cn) (hl : l.length ≤ 100) : wfL R.wf l:=⟨by omega,fun x hx=>cn_wf (h x hx)⟩
theorem c_goodRow {T : Nat → Option Fn} (h : D_impl_goodRow T) {l : List R} (hc : ∀ r ∈ l,r.cn) (hl : l.length ≤ 1048576) : PF T 244 [ratsV l] (.bool (l.all R.ok)):=by
 refine pf_end (fun _ _=>false) h.hT rfl rfl ?_
 dsimp only [F_impl_goodRow,oN,oS,oG,oK,oA,oH,oV,cI]
 refine ev ?_
 refine loop_at (fun _ _=>false) (α:=Nat) (fun i=>⟨argE [ratsV l,.any,.any,.any,.any,ratsV l,iv (l.length : Nat),iv (i : Nat)],[],0,0,[],[]⟩) (fun i=>i ≤ l.length ∧ ∀ k,k < i → (l.getD k default).ok = true) (fun i=>l.length - i) rfl 0 ?_ ?_ ?_
 ·exact ⟨by omega,by intro k hk;omega⟩
 ·(refine Fg_env ?_;exact fgV)
 ·rintro i ⟨hi,hg⟩
  by_cases hcc : (i : Int) < (l.length : Nat)
  ·have hil : i < l.length:=by omega
   have hmx : (l.map R.cells).getD i [] = (l.getD i default).cells:=mg hil
   have hmem:=getD_mem (l:=l) hil
   have hgs : (l.getD i default).ok = true → ∀ k,k < i + 1 → (l.getD k default).ok = true:=fun h k hk=>by
    by_cases e : k = i
    ·subst e;exact h
    ·exact hg k (by omega)
   generalize l.getD i default = x at hmx hmem hgs
   have cg:=c_goodR h.d_impl_good (hc x hmem)
   cases hx : x.ok
   ·have ha : l.all R.ok = false:=List.all_eq_false.2 ⟨x,hmem,by rw [hx];simp⟩
    rw [hx] at cg
    rw [ha]
    refine ev2 @hcc @hmx ?_
    refine PFK_of cg ?_
    (refine ev ?_;try with_reducible exact True.intro)
   ·rw [hx] at cg
    refine ev2 @hcc @hmx ?_
    refine PFK_of cg ?_
    refine ev ?_
    exact ⟨i + 1,by omega,⟨by omega,hgs hx⟩,by (refine Fg_re [] (by simp) (by intro p hp;cases hp) rfl ?_) <;> (try (refine ev ?_;try with_reducible exact True.intro)) <;> (repeat' (first | exact True.intro | omega | exact CanE_ptr rfl (by simp) | refine ⟨?_,?_⟩ | exact of_eq_true (CanE_nil _ _ _) | exact CanE_of rfl (by simp;done) | exact CanE_of rfl rfl | (refine CanE_msl rfl ?_ rfl;simp [irows];done) | (refine CanE_msl rfl ?_ rfl;simp [irows];omega) | (refine CanE_frz ?_ ?_;(focus ((refine ev ?_;try with_reducible exact True.intro);done));(intro q hq k s0 l0;simp;done))))⟩
  ·have ha : l.all R.ok = true:=List.all_eq_true.2 fun x hx=>by
    obtain ⟨k,hk⟩:=List.mem_iff_getElem?.1 hx
    have:=hg k (by have:=(List.getElem?_eq_some_iff.1 hk).1;omega)
    rw [List.getD_eq_getElem?_getD,hk] at this
    exact this
   rw [ha]
   (refine ev1 @hcc ?_;try with_reducible exact True.intro)
def Rs2 (v w : V) (A B : List (List V)) (M : List (Nat × Obj)) : Prop :=
 (A = [] ∧ B = [] ∧ v = .nils ∧ w = .nils ∧ M = []) ∨ ∃ p q,p ≠ q ∧ v = .msl p 0 A.length ∧ w = .msl q 0 B.length ∧ M = [(p,⟨3,A⟩),(q,⟨3,B⟩)]
def rT (l : List R) : List V:=(l.map R.cells).flatten
theorem rT_app (l : List R) (r : R) : rT (l ++ [r]) = rT l ++ r.cells:=by simp [rT]
theorem flat3 : ∀ {A : List (List V)},(∀ r ∈ A,r.length = 3) → A.flatten.length = 3 * A.length
 | [],_=>rfl
 |
  a :: A,h=>by
  rw [List.flatten_cons,List.length_append,flat3 fun r hr=>h r (by simp [hr]),h a (by simp),List.length_cons];omega
theorem rT_len (l : List R) : (rT l).length = 3 * l.length:=by
 unfold rT
 rw [flat3 (fun r hr=>by obtain ⟨x,_,rfl⟩:=List.mem_map.1 hr;rfl),List.length_map]
theorem Ep.put2 {s : Store} {a b x y ta tb tx ty : List V} {os : List Nat} {L : List (Nat × Obj)} (E : Ep s (x ++ (y ++ (a ++ b))) (tx ++ (ty ++ (ta ++ tb))) os L) (hx : x.length = tx.length) (hy : y.length = ty.length) (ha : a.length = ta.length) (hb : b.length = tb.length) :
  ∃ os',Ep s ((a ++ x) ++ (b ++ y)) ((ta ++ tx) ++ (tb ++ ty)) os' L ∧ ∀ o,o ∈ os' ↔ o ∈ os:=by
 obtain ⟨o1,E1,h1⟩:=E.swapP hx hy ha
 obtain ⟨o2,E2,h2⟩:=E1.swap hx ha
 have E2' : Ep s ((a ++ x) ++ (y ++ (b ++ []))) ((ta ++ tx) ++ (ty ++ (tb ++ []))) o2 L:=by simpa only [List.append_assoc,List.append_nil] using E2
 obtain ⟨o3,E3,h3⟩:=E2'.swapP (by simp [hx,ha]) hy hb
 exact ⟨o3,by simpa only [List.append_assoc,List.append_nil] using E3,fun o=>(h3 o).trans ((h2 o).trans (h1 o))⟩
theorem PF.nil1 {T : Nat → Option Fn} {f n : Nat} {r : V} (h : PF T f [.sl n []] r) : PF T f [.nils] r :=
 .laxF (by simp [LaxL,LaxV]) h (laxV_refl _)
theorem fin_nn {σ : Store} {n m : Nat} : Fin σ (.tup [.nils,.nils]) (.tup [.sl n [],.sl m []]) :=
 ⟨.tup [.sl n [],.sl m []],[],by simp only [LaxV,LaxL];exact ⟨_,rfl,_,_,rfl,of_eq_true (by simp),_,_,rfl,of_eq_true (by simp),rfl⟩,owV_tup (owL_v (o1:=[]) (by simp [OwV]) (owL_v (o1:=[]) (by simp [OwV]) owL_nil)),.nil⟩
theorem po_iInformationVectors {T : Nat → Option Fn} (h : D_impl_InformationVectors T) {S : List Lk} (hw : wfL Lk.wf S) (hl : S.length ≤ 1048576) : PO T 276 [lksV S] (.tup [ratsV (ivX S),ratsV (ivY S)]):=by
 have ci:=c_iIsLinkSet h.d_impl_IsLinkSet hw
 cases h1 : lksOk S
 ·rw [h1] at ci
  have : ivX S = [] ∧ ivY S = []:=by
   unfold ivX ivY;rw [nodesM_f h1];simp
  rw [this.1,this.2]
  refine po_end2 (fun _ _=>false) h.hT rfl rfl ?_
  dsimp only [F_impl_InformationVectors,oN,oS,oG,oK,oA,oH,oV,cI,St.enter,List.length_cons,List.length_nil,Nat.zero_add]
  refine ew ?_
  refine PFK_of ci ?_
  refine ew ?_
  exact fin_nn
 rw [h1] at ci
 have cn:=(po_inodesOf h.d_impl_nodesOf (l:=S) hw).frz (dep_ints _ _)
 rw [← nodesM_t h1] at cn
 have hnl:=nodesM_len S
 have hrng:=fun a=>nodesM_rng (l:=S) (a:=a)
 refine po_end2 (fun x d=>(x == 39 && d == 24) || (x == 39 && d == 25) || (x == 131 && d == 42) || (x == 131 && d == 49) || (x == 159 && d == 60) || (x == 159 && d == 67)) h.hT rfl rfl ?_
 dsimp only [F_impl_InformationVectors,oN,oS,oG,oK,oA,oH,oV,cI,St.enter,List.length_cons,List.length_nil,Nat.zero_add]
 refine ew ?_
 refine PFK_of ci ?_
 refine ew ?_
 refine PFK_of cn ?_
 refine ew ?_
 refine loop_at (fun x d=>(x == 39 && d == 24) || (x == 39 && d == 25) || (x == 131 && d == 42) || (x == 131 && d == 49) || (x == 159 && d == 60) || (x == 159 && d == 67)) (α:=Nat × Store × V × V × List (List V) × List (List V) × List Nat × List (Nat × Obj)) (fun q=>⟨argE [lksV S,.any,.any,.any,q.2.2.1,q.2.2.2.1,.any,.any,.any,.any,.any,.any,.any,.any,.any,.any,.any,.any,ints (nodesM S),iv ((nodesM S).length : Nat),iv (q.1 : Nat)],q.2.1,0,0,[],[]⟩) (fun q=>(q.1 ≤ (nodesM S).length ∧ Rs2 q.2.2.1 q.2.2.2.1 q.2.2.2.2.1 q.2.2.2.2.2.1 q.2.2.2.2.2.2.2 ∧ (∀ r ∈ q.2.2.2.2.1,r.length = 3) ∧ (∀ r ∈ q.2.2.2.2.2.1,r.length = 3) ∧ q.2.2.2.2.1.length = q.1 ∧ q.2.2.2.2.2.1.length = q.1) ∧ Ep q.2.1 (q.2.2.2.2.1.flatten ++ q.2.2.2.2.2.1.flatten) (rT (((nodesM S).take q.1).map fun v=>(ivP S v S.length).1) ++ rT (((nodesM S).take q.1).map fun v=>(ivP S v S.length).2)) q.2.2.2.2.2.2.1 q.2.2.2.2.2.2.2) (fun q=>(nodesM S).length - q.1) rfl (0,[none,none],.nils,.nils,[],[],[],[]) ?_ ?_ ?_
 ·exact ⟨⟨by omega,.inl ⟨rfl,rfl,rfl,rfl,rfl⟩,by simp,by simp,rfl,rfl⟩,⟨⟨by simp [rT,OwL],.nil⟩,by simp⟩⟩
 ·(refine Fg_env ?_;exact fgW)
 ·rintro ⟨i,s,v4,v5,A,B,os,M⟩ ⟨⟨hi,hvv,hA,hB,hAl,hBl⟩,E⟩
  dsimp only at hi hvv hA hB hAl hBl E
  by_cases hc : (i : Int) < ((nodesM S).length : Nat)
  ·have hil : i < (nodesM S).length:=by omega
   have et : (nodesM S).take (i + 1) = (nodesM S).take i ++ [(nodesM S).getD i 0]:=by
    rw [List.take_add_one,List.getElem?_eq_getElem hil,List.getD_eq_getElem?_getD,List.getElem?_eq_getElem hil];rfl
   generalize hv : (nodesM S).getD i 0 = v at et
   generalize hX : ((nodesM S).take i).map (fun v=>(ivP S v S.length).1) = X at E
   generalize hY : ((nodesM S).take i).map (fun v=>(ivP S v S.length).2) = Y at E
   have hTl : A.flatten.length = (rT X).length ∧ B.flatten.length = (rT Y).length:=by
    rw [flat3 hA,flat3 hB,rT_len,rT_len,← hX,← hY]
    simp only [List.length_map,List.length_take]
    omega
   generalize hTX : rT X = TX at *
   generalize hTY : rT Y = TY at *
   refine ew2 @hc @hv ?_
   refine RefK_got (po_RatFromInt h.d_impl_RatFromInt (n:=0)) (by (refine ew ?_;try with_reducible exact True.intro)) ?_
   intro r q1 o1 G
   obtain ⟨_,rfl,hQ1⟩:=G.ow.agg_inv
   obtain ⟨x1,x2,rfl⟩:=hQ1.rat
   have E1:=E.got (s1:=s ++ [none]) (fun o ho=>objAt_snoc_lt ho) (by simp) hQ1 G.nd G.fresh G.old
   have F1:=E.free (s1:=s ++ [none]) (p:=s.length) G.fresh (Nat.le_refl _) (by simp)
   have gl : s.length + 1 ≤ q1.length:=by simpa using G.len
   have hM : ∀ q ∈ M,q.1 ≠ s.length:=fun q hq=>by have:=E.lt q hq;omega
   replace E1:=E1.loc (ob:=⟨3,[[.bool (intR 0).neg,x1,x2]]⟩) F1 (by omega) hM
   have l1:=OwL.leaf hQ1 rfl
   simp only [List.all_cons,List.all_nil,Bool.and_true,Bool.and_eq_true] at l1
   refine ew2 @l1 @List.set_set.{0} ?_
   generalize hq1e : q1.set s.length (some ⟨3,[[.bool (intR 0).neg,x1,x2]]⟩) = s1 at *
   have hs1 : s.length < s1.length:=by rw [← hq1e];simp;omega
   have hlq : q1.length = s1.length:=by rw [← hq1e];simp
   generalize s.length = p8 at *
   clear G gl hq1e hQ1
   generalize q1.length = n1 at *
   subst hlq
   refine RefK_got (po_RatFromInt h.d_impl_RatFromInt (n:=0)) (by (refine ew ?_;try with_reducible exact True.intro)) ?_
   intro r q2 o2 G
   obtain ⟨_,rfl,hQ2⟩:=G.ow.agg_inv
   obtain ⟨y1,y2,rfl⟩:=hQ2.rat
   have E2:=E1.got (s1:=s1 ++ [none]) (fun o ho=>objAt_snoc_lt ho) (by simp) hQ2 G.nd G.fresh G.old
   have F2:=E1.free (s1:=s1 ++ [none]) (p:=s1.length) G.fresh (Nat.le_refl _) (by simp)
   have gl : s1.length + 1 ≤ q2.length:=by simpa using G.len
   have hM2 : ∀ q ∈ M ++ [(p8,(⟨3,[[.bool (intR 0).neg,x1,x2]]⟩ : Obj))],q.1 ≠ s1.length:=fun q hq=>by have:=E1.lt q hq;omega
   replace E2:=E2.loc (ob:=⟨3,[[.bool (intR 0).neg,y1,y2]]⟩) F2 (by omega) hM2
   have l2:=OwL.leaf hQ2 rfl
   simp only [List.all_cons,List.all_nil,Bool.and_true,Bool.and_eq_true] at l2
   refine ew2 @l2 @List.set_set.{0} ?_
   have h89 : p8 ≠ s1.length:=by omega
   generalize hq2e : q2.set s1.length (some ⟨3,[[.bool (intR 0).neg,y1,y2]]⟩) = s2 at *
   generalize s1.length = p9 at *
   clear G gl hq2e hQ2 E1 l1 l2 E
   generalize hCe : A.flatten ++ B.flatten = Cc at *
   generalize hTCe : TX ++ TY = TC at *
   have hCl : Cc.length = TC.length:=by rw [← hCe,← hTCe,List.length_append,List.length_append,hTl.1,hTl.2]
   rw [List.append_assoc,List.append_assoc] at E2
   obtain ⟨os2,E3,_⟩:=Ep.swap (a:=Cc) (b:=[.bool (intR 0).neg,x1,x2] ++ [.bool (intR 0).neg,y1,y2]) (c:=[]) (ta:=TC) (tb:=(intR 0).cells ++ (intR 0).cells) (tc:=[]) (by simpa only [List.append_nil] using E2) hCl rfl
   simp only [List.append_nil] at E3
   clear E2
   have E3:=E3.sub (L':=(p8,(⟨3,[[.bool (intR 0).neg,x1,x2]]⟩ : Obj)) :: (p9,(⟨3,[[.bool (intR 0).neg,y1,y2]]⟩ : Obj)) :: M) (by
    intro q hq
    simp only [List.mem_cons,List.mem_append,List.not_mem_nil,or_false] at hq ⊢
    rcases hq with h | h | h <;> simp [h])
   refine loop_at (fun x d=>(x == 39 && d == 24) || (x == 39 && d == 25) || (x == 131 && d == 42) || (x == 131 && d == 49) || (x == 159 && d == 60) || (x == 159 && d == 67)) (α:=Nat × Store × V × V × V × V × List Nat) (fun q=>⟨argE [lksV S,.any,.any,.any,v4,v5,.any,iv v,.ptr p8 0 0,.ptr p9 0 0,.any,.any,.any,.any,.any,.any,.any,.any,ints (nodesM S),iv ((nodesM S).length : Nat),iv (i : Nat),.any,.any,.any,.any,.any,lksV S,iv (S.length : Nat),iv (q.1 : Nat)],q.2.1,0,0,[],[]⟩) (fun q=>q.1 ≤ S.length ∧ Ep q.2.1 ([.bool (ivP S v q.1).1.neg,q.2.2.1,q.2.2.2.1,.bool (ivP S v q.1).2.neg,q.2.2.2.2.1,q.2.2.2.2.2.1] ++ Cc) ([.bool (ivP S v q.1).1.neg,ints (ivP S v q.1).1.mag,ints (ivP S v q.1).1.den,.bool (ivP S v q.1).2.neg,ints (ivP S v q.1).2.mag,ints (ivP S v q.1).2.den] ++ TC) q.2.2.2.2.2.2 ((p8,(⟨3,[[.bool (ivP S v q.1).1.neg,q.2.2.1,q.2.2.2.1]]⟩ : Obj)) :: (p9,(⟨3,[[.bool (ivP S v q.1).2.neg,q.2.2.2.2.1,q.2.2.2.2.2.1]]⟩ : Obj)) :: M)) (fun q=>S.length - q.1) rfl (0,s2,x1,x2,y1,y2,os2) ?_ ?_ ?_
   ·exact ⟨by omega,E3⟩
   ·(refine Fg_env ?_;exact fgW)
   ·have hMp : ∀ q ∈ M,q.1 ≠ p8 ∧ q.1 ≠ p9:=fun q hq=>⟨hM q hq,hM2 q (by simp [hq])⟩
    clear E3 hM hM2 F1 F2 hs1
    rintro ⟨k,s,x1,x2,y1,y2,os⟩ ⟨hk,E⟩
    dsimp only at hk E
    have hcn:=ivP_cn S v k
    by_cases hck : (k : Int) < (S.length : Nat)
    ·have hkl : k < S.length:=by omega
     have hes : ivP S v (k + 1) = ivStep v (ivP S v k) (S.getD k default):=rfl
     have hmx : (S.map Lk.cells).getD k [] = (S.getD k default).cells:=mg hkl
     have hko:=lksOk_at h1 hkl
     have hk:=lkOk_cn hko
     have hnd:=lkOk_nd hko
     generalize S.getD k default = lk at hes hmx hk hnd
     unfold ivStep at hes
     obtain ⟨hX,hY⟩:=hcn
     generalize hX0 : (ivP S v k).1 = X at *
     generalize hY0 : (ivP S v k).2 = Y at *
     have hM8 : ∀ q ∈ M,q.1 ≠ p8:=fun q hq=>hMp q hq |>.1
     have hM9 : ∀ q ∈ M,q.1 ≠ p9:=fun q hq=>hMp q hq |>.2
     have L8:=E.at0 (p:=p8) (ob:=⟨3,[[.bool X.neg,x1,x2]]⟩) (by simp)
     have L9:=E.at0 (p:=p9) (ob:=⟨3,[[.bool Y.neg,y1,y2]]⟩) (by simp)
     have E0:=(E.push (ob:=⟨11,[lk.cells]⟩)).sub (L':=(p8,(⟨3,[[.bool X.neg,x1,x2]]⟩ : Obj)) :: (p9,(⟨3,[[.bool Y.neg,y1,y2]]⟩ : Obj)) :: (s.length,(⟨11,[lk.cells]⟩ : Obj)) :: M) (by
      intro q hq
      simp only [List.mem_cons,List.mem_append,List.not_mem_nil,or_false] at hq ⊢
      rcases hq with h | h | h | h <;> simp [h])
     have hm8 : p8 ≠ s.length:=by omega
     have hm9 : p9 ≠ s.length:=by omega
     have hfin : ∀ (S2 : Store) (X Y : R) (x1 x2 y1 y2 : V) (os : List Nat) (m : Nat),ivP S v (k + 1) = (X,Y) → Ep S2 ([.bool X.neg,x1,x2,.bool Y.neg,y1,y2] ++ Cc) ([.bool X.neg,ints X.mag,ints X.den,.bool Y.neg,ints Y.mag,ints Y.den] ++ TC) os ((p8,(⟨3,[[.bool X.neg,x1,x2]]⟩ : Obj)) :: (p9,(⟨3,[[.bool Y.neg,y1,y2]]⟩ : Obj)) :: (m,(⟨11,[lk.cells]⟩ : Obj)) :: M) →
       Ep S2 ([.bool (ivP S v (k + 1)).1.neg,x1,x2,.bool (ivP S v (k + 1)).2.neg,y1,y2] ++ Cc) ([.bool (ivP S v (k + 1)).1.neg,ints (ivP S v (k + 1)).1.mag,ints (ivP S v (k + 1)).1.den,.bool (ivP S v (k + 1)).2.neg,ints (ivP S v (k + 1)).2.mag,ints (ivP S v (k + 1)).2.den] ++ TC) os ((p8,(⟨3,[[.bool (ivP S v (k + 1)).1.neg,x1,x2]]⟩ : Obj)) :: (p9,(⟨3,[[.bool (ivP S v (k + 1)).2.neg,y1,y2]]⟩ : Obj)) :: M):=by
      intro S2 X Y x1 x2 y1 y2 os m he E
      rw [he]
      exact E.sub fun q hq=>by
       simp only [List.mem_cons] at hq ⊢
       rcases hq with h | h | h <;> simp [h]
     by_cases hbv : lk.b = v
     ·rw [if_pos hbv] at hes
      refine ew5 @hck @hmx @hbv @L8 @L9 ?_
      generalize hS0 : s ++ [some (⟨11,[lk.cells]⟩ : Obj)] = S0 at *
      generalize s.length = m at *
      clear hS0 L8 L9 E
      refine PFK_of (c_ratMulR h.d_impl_ratMul hk.1 hk.2.1) ?_
      have L8:=E0.at0 (p:=p8) (ob:=⟨3,[[.bool X.neg,x1,x2]]⟩) (by simp)
      have L9:=E0.at0 (p:=p9) (ob:=⟨3,[[.bool Y.neg,y1,y2]]⟩) (by simp)
      have Lm:=E0.at0 (p:=m) (ob:=⟨11,[lk.cells]⟩) (by simp)
      have R:=And.intro (E0.res1 1 rfl rfl (dep_ints _ _)) (E0.res1 2 rfl rfl (dep_ints _ _))
      have LF:=And.intro (E0.leaf 1 rfl rfl) (E0.leaf 2 rfl rfl)
      refine ew5 (And.intro L8 (And.intro L9 Lm)) @R @LF @numK_any @or_sc ?_
      have hmc1:=mulR_cn lk.w lk.dx
      generalize mulR lk.w lk.dx = mm1 at *
      refine OwnK_gotP (fun o=>o ∈ os) (show PO T 131 [ratV X,ratV mm1] (ratV (addR X mm1)) from po_ratAddR h.d_impl_ratAdd hX hmc1) (by (refine ew3 @R @numK_any @or_sc ?_;try with_reducible exact True.intro)) ?_ ?_
      ·intro o ho
       have ho : o ∈ reach S0 (11 + 1) (.agg [.bool X.neg,x1,x2]) ++ (reach S0 FD (ratV mm1) ++ []):=ho
       rw [show reach S0 FD (ratV mm1) = [] from by (refine ew ?_;try with_reducible exact True.intro),List.append_nil,List.append_nil] at ho
       obtain ⟨c,hc,ho⟩:=reach_agg.1 ho
       rcases List.mem_cons.1 hc with e | hc
       ·rw [e] at ho;simp [reach] at ho
       rcases List.mem_cons.1 hc with e | hc
       ·rw [e] at ho;exact E0.reach 1 rfl rfl _ o ho
       ·rw [List.mem_singleton.1 hc] at ho;exact E0.reach 2 rfl rfl _ o ho
      intro Rr r q2 o2 hRr G
      have gl : S0.length ≤ q2.length:=G.len
      obtain ⟨_,rfl,hQ⟩:=G.ow.agg_inv
      obtain ⟨z11,z12,rfl⟩:=hQ.rat
      have lz:=OwL.leaf hQ rfl
      simp only [List.all_cons,List.all_nil,Bool.and_true,Bool.and_eq_true] at lz
      have hZ1:=addR_cn X mm1
      generalize addR X mm1 = Z1 at *
      obtain ⟨os1,E1⟩:=Ep.upd (a:=[]) (b:=[.bool X.neg,x1,x2]) (c:=[.bool Y.neg,y1,y2] ++ Cc) (ta:=[]) (tb:=[.bool X.neg,ints X.mag,ints X.den]) (tc:=[.bool Y.neg,ints Y.mag,ints Y.den] ++ TC) (p:=p8) (ob:=⟨3,[[.bool Z1.neg,z11,z12]]⟩) (ob0:=⟨3,[[.bool X.neg,x1,x2]]⟩) (L':=(p8,(⟨3,[[.bool Z1.neg,z11,z12]]⟩ : Obj)) :: (p9,(⟨3,[[.bool Y.neg,y1,y2]]⟩ : Obj)) :: (m,(⟨11,[lk.cells]⟩ : Obj)) :: M) E0 (by simp) rfl rfl (fun _ _=>rfl) (Nat.le_refl _) hQ G.nd G.fresh G.old (by
        intro q hq
        simp only [List.mem_cons] at hq ⊢
        rcases hq with rfl | rfl | rfl | hq
        ·exact .inr rfl
        ·exact .inl ⟨by dsimp only;omega,by simp⟩
        ·exact .inl ⟨by dsimp only;omega,by simp⟩
        ·exact .inl ⟨hM8 q hq,by simp [hq]⟩) gl
      have K8:=(G.old p8 L8.2).trans L8.1
      have K9:=(G.old p9 L9.2).trans L9.1
      have Km:=(G.old m Lm.2).trans Lm.1
      have hK : p8 < q2.length:=by have:=L8.2;have:=L9.2;omega
      refine ew5 @lz (And.intro K8 (And.intro K9 Km)) @hK @numK_any @or_sc ?_
      refine ⟨by unfold OkA;rfl,?_⟩
      generalize q2.set p8 (some ⟨3,[[.bool Z1.neg,z11,z12]]⟩) = S1 at *
      clear G gl hQ lz K8 K9 Km hK R LF L8 L9 Lm hRr hmc1 E0
      refine PFK_of (c_ratMulR h.d_impl_ratMul hk.1 hk.2.2) ?_
      have L8:=E1.at0 (p:=p8) (ob:=⟨3,[[.bool Z1.neg,z11,z12]]⟩) (by simp)
      have L9:=E1.at0 (p:=p9) (ob:=⟨3,[[.bool Y.neg,y1,y2]]⟩) (by simp)
      have Lm:=E1.at0 (p:=m) (ob:=⟨11,[lk.cells]⟩) (by simp)
      have R:=And.intro (E1.res1 4 rfl rfl (dep_ints _ _)) (E1.res1 5 rfl rfl (dep_ints _ _))
      have LF:=And.intro (E1.leaf 4 rfl rfl) (E1.leaf 5 rfl rfl)
      refine ew5 (And.intro L8 (And.intro L9 Lm)) @R @LF @numK_any @or_sc ?_
      have hmc2:=mulR_cn lk.w lk.dy
      generalize mulR lk.w lk.dy = mm2 at *
      refine OwnK_gotP (fun o=>o ∈ os1) (show PO T 131 [ratV Y,ratV mm2] (ratV (addR Y mm2)) from po_ratAddR h.d_impl_ratAdd hY hmc2) (by (refine ew3 @R @numK_any @or_sc ?_;try with_reducible exact True.intro)) ?_ ?_
      ·intro o ho
       have ho : o ∈ reach S1 (11 + 1) (.agg [.bool Y.neg,y1,y2]) ++ (reach S1 FD (ratV mm2) ++ []):=ho
       rw [show reach S1 FD (ratV mm2) = [] from by (refine ew ?_;try with_reducible exact True.intro),List.append_nil,List.append_nil] at ho
       obtain ⟨c,hc,ho⟩:=reach_agg.1 ho
       rcases List.mem_cons.1 hc with e | hc
       ·rw [e] at ho;simp [reach] at ho
       rcases List.mem_cons.1 hc with e | hc
       ·rw [e] at ho;exact E1.reach 4 rfl rfl _ o ho
       ·rw [List.mem_singleton.1 hc] at ho;exact E1.reach 5 rfl rfl _ o ho
      intro Rr r q2 o2 hRr G
      have gl : S1.length ≤ q2.length:=G.len
      obtain ⟨_,rfl,hQ⟩:=G.ow.agg_inv
      obtain ⟨z21,z22,rfl⟩:=hQ.rat
      have lz:=OwL.leaf hQ rfl
      simp only [List.all_cons,List.all_nil,Bool.and_true,Bool.and_eq_true] at lz
      have hZ2:=addR_cn Y mm2
      generalize addR Y mm2 = Z2 at *
      obtain ⟨os2,E2⟩:=Ep.upd (a:=[.bool Z1.neg,z11,z12]) (b:=[.bool Y.neg,y1,y2]) (c:=Cc) (ta:=[.bool Z1.neg,ints Z1.mag,ints Z1.den]) (tb:=[.bool Y.neg,ints Y.mag,ints Y.den]) (tc:=TC) (p:=p9) (ob:=⟨3,[[.bool Z2.neg,z21,z22]]⟩) (ob0:=⟨3,[[.bool Y.neg,y1,y2]]⟩) (L':=(p8,(⟨3,[[.bool Z1.neg,z11,z12]]⟩ : Obj)) :: (p9,(⟨3,[[.bool Z2.neg,z21,z22]]⟩ : Obj)) :: (m,(⟨11,[lk.cells]⟩ : Obj)) :: M) E1 (by simp) rfl rfl (fun _ _=>rfl) (Nat.le_refl _) hQ G.nd G.fresh G.old (by
        intro q hq
        simp only [List.mem_cons] at hq ⊢
        rcases hq with rfl | rfl | rfl | hq
        ·exact .inl ⟨by dsimp only;omega,by simp⟩
        ·exact .inr rfl
        ·exact .inl ⟨by dsimp only;omega,by simp⟩
        ·exact .inl ⟨hM9 q hq,by simp [hq]⟩) gl
      have K8:=(G.old p8 L8.2).trans L8.1
      have K9:=(G.old p9 L9.2).trans L9.1
      have Km:=(G.old m Lm.2).trans Lm.1
      have hK : p9 < q2.length:=by have:=L8.2;have:=L9.2;omega
      refine ew5 @lz (And.intro K8 (And.intro K9 Km)) @hK @numK_any @or_sc ?_
      refine ⟨by unfold OkA;rfl,?_⟩
      generalize q2.set p9 (some ⟨3,[[.bool Z2.neg,z21,z22]]⟩) = S2 at *
      clear G gl hQ lz K8 K9 Km hK R LF L8 L9 Lm hRr hmc2 E1
      refine ⟨(k + 1,S2,z11,z12,z21,z22,os2),by dsimp only;omega,⟨by dsimp only;omega,hfin S2 Z1 Z2 z11 z12 z21 z22 os2 m hes E2⟩,?_⟩
      dsimp only
      (refine Fg_env ?_;exact fgW)
     ·rw [if_neg hbv] at hes
      by_cases hav : lk.a = v
      ·rw [if_pos hav] at hes
       refine ew6 @hck @hmx @hbv @hav @L8 @L9 ?_
       generalize hS0 : s ++ [some (⟨11,[lk.cells]⟩ : Obj)] = S0 at *
       generalize s.length = m at *
       clear hS0 L8 L9 E
       refine PFK_of (c_ratMulR h.d_impl_ratMul hk.1 hk.2.1) ?_
       have L8:=E0.at0 (p:=p8) (ob:=⟨3,[[.bool X.neg,x1,x2]]⟩) (by simp)
       have L9:=E0.at0 (p:=p9) (ob:=⟨3,[[.bool Y.neg,y1,y2]]⟩) (by simp)
       have Lm:=E0.at0 (p:=m) (ob:=⟨11,[lk.cells]⟩) (by simp)
       have R:=And.intro (E0.res1 1 rfl rfl (dep_ints _ _)) (E0.res1 2 rfl rfl (dep_ints _ _))
       have LF:=And.intro (E0.leaf 1 rfl rfl) (E0.leaf 2 rfl rfl)
       refine ew5 (And.intro L8 (And.intro L9 Lm)) @R @LF @numK_any @or_sc ?_
       have hmc1:=mulR_cn lk.w lk.dx
       generalize mulR lk.w lk.dx = mm1 at *
       refine OwnK_gotP (fun o=>o ∈ os) (show PO T 159 [ratV X,ratV mm1] (ratV (subR X mm1)) from po_ratSubR h.d_impl_ratSub hX hmc1) (by (refine ew3 @R @numK_any @or_sc ?_;try with_reducible exact True.intro)) ?_ ?_
       ·intro o ho
        have ho : o ∈ reach S0 (11 + 1) (.agg [.bool X.neg,x1,x2]) ++ (reach S0 FD (ratV mm1) ++ []):=ho
        rw [show reach S0 FD (ratV mm1) = [] from by (refine ew ?_;try with_reducible exact True.intro),List.append_nil,List.append_nil] at ho
        obtain ⟨c,hc,ho⟩:=reach_agg.1 ho
        rcases List.mem_cons.1 hc with e | hc
        ·rw [e] at ho;simp [reach] at ho
        rcases List.mem_cons.1 hc with e | hc
        ·rw [e] at ho;exact E0.reach 1 rfl rfl _ o ho
        ·rw [List.mem_singleton.1 hc] at ho;exact E0.reach 2 rfl rfl _ o ho
       intro Rr r q2 o2 hRr G
       have gl : S0.length ≤ q2.length:=G.len
       obtain ⟨_,rfl,hQ⟩:=G.ow.agg_inv
       obtain ⟨z11,z12,rfl⟩:=hQ.rat
       have lz:=OwL.leaf hQ rfl
       simp only [List.all_cons,List.all_nil,Bool.and_true,Bool.and_eq_true] at lz
       have hZ1:=subR_cn X mm1
       generalize subR X mm1 = Z1 at *
       obtain ⟨os1,E1⟩:=Ep.upd (a:=[]) (b:=[.bool X.neg,x1,x2]) (c:=[.bool Y.neg,y1,y2] ++ Cc) (ta:=[]) (tb:=[.bool X.neg,ints X.mag,ints X.den]) (tc:=[.bool Y.neg,ints Y.mag,ints Y.den] ++ TC) (p:=p8) (ob:=⟨3,[[.bool Z1.neg,z11,z12]]⟩) (ob0:=⟨3,[[.bool X.neg,x1,x2]]⟩) (L':=(p8,(⟨3,[[.bool Z1.neg,z11,z12]]⟩ : Obj)) :: (p9,(⟨3,[[.bool Y.neg,y1,y2]]⟩ : Obj)) :: (m,(⟨11,[lk.cells]⟩ : Obj)) :: M) E0 (by simp) rfl rfl (fun _ _=>rfl) (Nat.le_refl _) hQ G.nd G.fresh G.old (by
         intro q hq
         simp only [List.mem_cons] at hq ⊢
         rcases hq with rfl | rfl | rfl | hq
         ·exact .inr rfl
         ·exact .inl ⟨by dsimp only;omega,by simp⟩
         ·exact .inl ⟨by dsimp only;omega,by simp⟩
         ·exact .inl ⟨hM8 q hq,by simp [hq]⟩) gl
       have K8:=(G.old p8 L8.2).trans L8.1
       have K9:=(G.old p9 L9.2).trans L9.1
       have Km:=(G.old m Lm.2).trans Lm.1
       have hK : p8 < q2.length:=by have:=L8.2;have:=L9.2;omega
       refine ew5 @lz (And.intro K8 (And.intro K9 Km)) @hK @numK_any @or_sc ?_
       refine ⟨by unfold OkA;rfl,?_⟩
       generalize q2.set p8 (some ⟨3,[[.bool Z1.neg,z11,z12]]⟩) = S1 at *
       clear G gl hQ lz K8 K9 Km hK R LF L8 L9 Lm hRr hmc1 E0
       refine PFK_of (c_ratMulR h.d_impl_ratMul hk.1 hk.2.2) ?_
       have L8:=E1.at0 (p:=p8) (ob:=⟨3,[[.bool Z1.neg,z11,z12]]⟩) (by simp)
       have L9:=E1.at0 (p:=p9) (ob:=⟨3,[[.bool Y.neg,y1,y2]]⟩) (by simp)
       have Lm:=E1.at0 (p:=m) (ob:=⟨11,[lk.cells]⟩) (by simp)
       have R:=And.intro (E1.res1 4 rfl rfl (dep_ints _ _)) (E1.res1 5 rfl rfl (dep_ints _ _))
       have LF:=And.intro (E1.leaf 4 rfl rfl) (E1.leaf 5 rfl rfl)
       refine ew5 (And.intro L8 (And.intro L9 Lm)) @R @LF @numK_any @or_sc ?_
       have hmc2:=mulR_cn lk.w lk.dy
       generalize mulR lk.w lk.dy = mm2 at *
       refine OwnK_gotP (fun o=>o ∈ os1) (show PO T 159 [ratV Y,ratV mm2] (ratV (subR Y mm2)) from po_ratSubR h.d_impl_ratSub hY hmc2) (by (refine ew3 @R @numK_any @or_sc ?_;try with_reducible exact True.intro)) ?_ ?_
       ·intro o ho
        have ho : o ∈ reach S1 (11 + 1) (.agg [.bool Y.neg,y1,y2]) ++ (reach S1 FD (ratV mm2) ++ []):=ho
        rw [show reach S1 FD (ratV mm2) = [] from by (refine ew ?_;try with_reducible exact True.intro),List.append_nil,List.append_nil] at ho
        obtain ⟨c,hc,ho⟩:=reach_agg.1 ho
        rcases List.mem_cons.1 hc with e | hc
        ·rw [e] at ho;simp [reach] at ho
        rcases List.mem_cons.1 hc with e | hc
        ·rw [e] at ho;exact E1.reach 4 rfl rfl _ o ho
        ·rw [List.mem_singleton.1 hc] at ho;exact E1.reach 5 rfl rfl _ o ho
       intro Rr r q2 o2 hRr G
       have gl : S1.length ≤ q2.length:=G.len
       obtain ⟨_,rfl,hQ⟩:=G.ow.agg_inv
       obtain ⟨z21,z22,rfl⟩:=hQ.rat
       have lz:=OwL.leaf hQ rfl
       simp only [List.all_cons,List.all_nil,Bool.and_true,Bool.and_eq_true] at lz
       have hZ2:=subR_cn Y mm2
       generalize subR Y mm2 = Z2 at *
       obtain ⟨os2,E2⟩:=Ep.upd (a:=[.bool Z1.neg,z11,z12]) (b:=[.bool Y.neg,y1,y2]) (c:=Cc) (ta:=[.bool Z1.neg,ints Z1.mag,ints Z1.den]) (tb:=[.bool Y.neg,ints Y.mag,ints Y.den]) (tc:=TC) (p:=p9) (ob:=⟨3,[[.bool Z2.neg,z21,z22]]⟩) (ob0:=⟨3,[[.bool Y.neg,y1,y2]]⟩) (L':=(p8,(⟨3,[[.bool Z1.neg,z11,z12]]⟩ : Obj)) :: (p9,(⟨3,[[.bool Z2.neg,z21,z22]]⟩ : Obj)) :: (m,(⟨11,[lk.cells]⟩ : Obj)) :: M) E1 (by simp) rfl rfl (fun _ _=>rfl) (Nat.le_refl _) hQ G.nd G.fresh G.old (by
         intro q hq
         simp only [List.mem_cons] at hq ⊢
         rcases hq with rfl | rfl | rfl | hq
         ·exact .inl ⟨by dsimp only;omega,by simp⟩
         ·exact .inr rfl
         ·exact .inl ⟨by dsimp only;omega,by simp⟩
         ·exact .inl ⟨hM9 q hq,by simp [hq]⟩) gl
       have K8:=(G.old p8 L8.2).trans L8.1
       have K9:=(G.old p9 L9.2).trans L9.1
       have Km:=(G.old m Lm.2).trans Lm.1
       have hK : p9 < q2.length:=by have:=L8.2;have:=L9.2;omega
       refine ew5 @lz (And.intro K8 (And.intro K9 Km)) @hK @numK_any @or_sc ?_
       refine ⟨by unfold OkA;rfl,?_⟩
       generalize q2.set p9 (some ⟨3,[[.bool Z2.neg,z21,z22]]⟩) = S2 at *
       clear G gl hQ lz K8 K9 Km hK R LF L8 L9 Lm hRr hmc2 E1
       refine ⟨(k + 1,S2,z11,z12,z21,z22,os2),by dsimp only;omega,⟨by dsimp only;omega,hfin S2 Z1 Z2 z11 z12 z21 z22 os2 m hes E2⟩,?_⟩
       dsimp only
       (refine Fg_env ?_;exact fgW)
      ·rw [if_neg hav] at hes
       refine ew6 @hck @hmx @hbv @hav @L8 @L9 ?_
       refine ⟨(k + 1,s ++ [some (⟨11,[lk.cells]⟩ : Obj)],x1,x2,y1,y2,os),by dsimp only;omega,⟨by dsimp only;omega,hfin _ X Y x1 x2 y1 y2 os s.length (by rw [hes,← hX0,← hY0]) E0⟩,?_⟩
       dsimp only
       (refine Fg_env ?_;exact fgW)
    ·have hke : k = S.length:=by omega
     rw [hke] at hcn E
     clear hke hk
     generalize hpv : ivP S v S.length = pv at hcn E
     obtain ⟨hX',hY'⟩:=hcn
     generalize hXe : pv.1 = X' at *
     generalize hYe : pv.2 = Y' at *
     have L8:=E.at0 (p:=p8) (ob:=⟨3,[[.bool X'.neg,x1,x2]]⟩) (by simp)
     have L9:=E.at0 (p:=p9) (ob:=⟨3,[[.bool Y'.neg,y1,y2]]⟩) (by simp)
     have LF:=And.intro (And.intro (E.leaf 1 rfl rfl) (E.leaf 2 rfl rfl)) (And.intro (E.leaf 4 rfl rfl) (E.leaf 5 rfl rfl))
     have Ex : Ep s ([.bool X'.neg,x1,x2] ++ ([.bool Y'.neg,y1,y2] ++ (A.flatten ++ B.flatten))) (X'.cells ++ (Y'.cells ++ (rT X ++ rT Y))) os ((p8,(⟨3,[[.bool X'.neg,x1,x2]]⟩ : Obj)) :: (p9,(⟨3,[[.bool Y'.neg,y1,y2]]⟩ : Obj)) :: M):=by rw [hCe,hTX,hTY,hTCe];exact E
     obtain ⟨os',E5,hmm⟩:=Ex.put2 rfl rfl (by rw [hTX];exact hTl.1) (by rw [hTY];exact hTl.2)
     have hoslt:=E.oslt
     have hosM : ∀ q ∈ M,q.1 ∉ os':=fun q hq hm=>(E.l q (by simp [hq])).2 ((hmm _).1 hm)
     have hlt' : ∀ o ∈ os',o < s.length:=fun o ho=>hoslt o ((hmm o).1 ho)
     have eX : ((nodesM S).take (i + 1)).map (fun v=>(ivP S v S.length).1) = X ++ [X']:=by rw [et,List.map_append,hX,List.map_cons,List.map_nil,hpv,hXe]
     have eY : ((nodesM S).take (i + 1)).map (fun v=>(ivP S v S.length).2) = Y ++ [Y']:=by rw [et,List.map_append,hY,List.map_cons,List.map_nil,hpv,hYe]
     have hA' : ∀ r ∈ A ++ [[V.bool X'.neg,x1,x2]],r.length = 3:=fun r hr=>by
      rcases List.mem_append.1 hr with hr | hr
      ·exact hA r hr
      ·rw [List.mem_singleton.1 hr];rfl
     have hB' : ∀ r ∈ B ++ [[V.bool Y'.neg,y1,y2]],r.length = 3:=fun r hr=>by
      rcases List.mem_append.1 hr with hr | hr
      ·exact hB r hr
      ·rw [List.mem_singleton.1 hr];rfl
     have hstep : ∀ S' : Store,(∀ o ∈ os',objAt S' o = objAt s o) → ∀ a b,objAt S' a = some ⟨3,A ++ [[V.bool X'.neg,x1,x2]]⟩ → objAt S' b = some ⟨3,B ++ [[V.bool Y'.neg,y1,y2]]⟩ → s.length ≤ a → s.length ≤ b →
       Ep S' ((A ++ [[V.bool X'.neg,x1,x2]]).flatten ++ (B ++ [[V.bool Y'.neg,y1,y2]]).flatten) (rT (X ++ [X']) ++ rT (Y ++ [Y'])) os' [(a,⟨3,A ++ [[V.bool X'.neg,x1,x2]]⟩),(b,⟨3,B ++ [[V.bool Y'.neg,y1,y2]]⟩)]:=by
      intro S' h1 a b ha hb hla hlb
      rw [rT_app,rT_app,List.flatten_append,List.flatten_append]
      refine E5.to h1 fun q hq=>?_
      simp only [List.mem_cons,List.not_mem_nil,or_false] at hq
      rcases hq with rfl | rfl
      ·exact .inr ⟨ha,fun hm=>by have:=hlt' _ hm;dsimp only at this;omega⟩
      ·exact .inr ⟨hb,fun hm=>by have:=hlt' _ hm;dsimp only at this;omega⟩
     rcases hvv with ⟨rfl,rfl,rfl,rfl,rfl⟩ | ⟨pa,pb,hne,rfl,rfl,rfl⟩
     ·refine ew4 @hck @L8 @L9 @LF ?_
      refine ⟨by omega,by omega,?_⟩
      refine ⟨(i + 1,?st,.msl (s.length + 1) 0 1,.msl (s.length + 1 + 1 + 1) 0 1,[] ++ [[V.bool X'.neg,x1,x2]],[] ++ [[V.bool Y'.neg,y1,y2]],os',[(s.length + 1,⟨3,[] ++ [[V.bool X'.neg,x1,x2]]⟩),(s.length + 1 + 1 + 1,⟨3,[] ++ [[V.bool Y'.neg,y1,y2]]⟩)]),?c1,⟨⟨?c2,.inr ⟨_,_,by omega,rfl,rfl,rfl⟩,hA',hB',?c4,?c5⟩,?c6⟩,?c3⟩
      case c3=>dsimp only;(refine Fg_env ?_;exact fgW)
      case c1=>dsimp only;omega
      case c2=>dsimp only;omega
      case c4=>dsimp only;simp at hAl ⊢;omega
      case c5=>dsimp only;simp at hBl ⊢;omega
      case c6 =>
       dsimp only
       rw [eX,eY]
       refine hstep _ (fun o ho=>?_) _ _ ?_ ?_ (by omega) (by omega)
       ·have:=hlt' o ho
        exact obE
       ·simp (disch:=first | omega | (simp only [List.length_append,List.length_set,List.length_cons,List.length_nil];omega)) only [EVs]
        rfl
       ·exact objAt_seteq (by simp <;> omega)
     ·have La:=E.at0 (p:=pa) (ob:=⟨3,A⟩) (by simp)
      have Lb:=E.at0 (p:=pb) (ob:=⟨3,B⟩) (by simp)
      have na : pa ≠ p8 ∧ pa ≠ p9:=hMp (pa,⟨3,A⟩) (by simp)
      have nb : pb ≠ p8 ∧ pb ≠ p9:=hMp (pb,⟨3,B⟩) (by simp)
      have na1:=na.1
      have na2:=na.2
      have nb1:=nb.1
      have nb2:=nb.2
      refine ew6 @hck @L8 @L9 @LF @La @Lb ?_
      refine ⟨by omega,by omega,?_⟩
      refine ⟨(i + 1,?st2,.msl (s.length + 1) 0 (A.length + 1),.msl (s.length + 1 + 1 + 1) 0 (B.length + 1),A ++ [[V.bool X'.neg,x1,x2]],B ++ [[V.bool Y'.neg,y1,y2]],os',[(s.length + 1,⟨3,A ++ [[V.bool X'.neg,x1,x2]]⟩),(s.length + 1 + 1 + 1,⟨3,B ++ [[V.bool Y'.neg,y1,y2]]⟩)]),?c1,⟨⟨?c2,.inr ⟨_,_,by omega,by dsimp only;rw [List.length_append];rfl,by dsimp only;rw [List.length_append];rfl,rfl⟩,hA',hB',?c4,?c5⟩,?c6⟩,?c3⟩
      case c3=>dsimp only;(refine Fg_env ?_;exact fgW)
      case c1=>dsimp only;omega
      case c2=>dsimp only;omega
      case c4=>dsimp only;simp at hAl ⊢;omega
      case c5=>dsimp only;simp at hBl ⊢;omega
      case c6 =>
       dsimp only
       rw [eX,eY]
       refine hstep _ (fun o ho=>?_) _ _ ?_ ?_ (by omega) (by omega)
       ·have:=hlt' o ho
        have ha:=fun e : o = pa=>hosM (pa,⟨3,A⟩) (by simp) (e ▸ ho)
        have hb:=fun e : o = pb=>hosM (pb,⟨3,B⟩) (by simp) (e ▸ ho)
        have ha : o ≠ pa:=ha
        have hb : o ≠ pb:=hb
        exact obE
       ·have:=La.2
        have:=Lb.2
        simp (disch:=first | omega | (simp only [List.length_append,List.length_set,List.length_cons,List.length_nil];omega)) only [EVs]
        try rfl
       ·exact objAt_seteq (by simp <;> omega)
  ·have hie : i = (nodesM S).length:=by omega
   rw [hie,List.take_length] at E
   have hG : ivG S = (((nodesM S).map fun v=>(ivP S v S.length).1).all R.ok && ((nodesM S).map fun v=>(ivP S v S.length).2).all R.ok):=by
    unfold ivG
    rw [List.all_map,List.all_map]
    generalize nodesM S = nd
    induction nd with
    | nil=>rfl
    | cons v nd ih=>simp only [List.all_cons,ih,Function.comp];cases (ivP S v S.length).1.ok <;> cases (ivP S v S.length).2.ok <;> simp
   have cX : ∀ r ∈ (nodesM S).map fun v=>(ivP S v S.length).1,r.cn:=fun r hr=>by
    obtain ⟨v,_,rfl⟩:=List.mem_map.1 hr;exact (ivP_cn S v _).1
   have cY : ∀ r ∈ (nodesM S).map fun v=>(ivP S v S.length).2,r.cn:=fun r hr=>by
    obtain ⟨v,_,rfl⟩:=List.mem_map.1 hr;exact (ivP_cn S v _).2
   have lX : ((nodesM S).map fun v=>(ivP S v S.length).1).length = A.length:=by rw [List.length_map];omega
   have lY : ((nodesM S).map fun v=>(ivP S v S.length).2).length = B.length:=by rw [List.length_map];omega
   have hgood:=ivG_good (s:=S)
   have hbad:=ivG_bad (s:=S)
   generalize (nodesM S).map (fun v=>(ivP S v S.length).1) = X at *
   generalize (nodesM S).map (fun v=>(ivP S v S.length).2) = Y at *
   have g1:=c_goodRow h.d_impl_goodRow cX (by omega)
   have g2:=c_goodRow h.d_impl_goodRow cY (by omega)
   rcases hvv with ⟨rfl,rfl,rfl,rfl,rfl⟩ | ⟨pa,pb,hne,rfl,rfl,rfl⟩
   ·have e1 : X = []:=List.eq_nil_of_length_eq_zero (by simpa using lX)
    have e2 : Y = []:=List.eq_nil_of_length_eq_zero (by simpa using lY)
    subst e1 e2
    have e3:=hgood (by rw [hG];rfl)
    rw [e3.1,e3.2]
    refine ew1 @hc ?_
    refine PFK_of (PF.nil1 g1) ?_
    refine ew ?_
    refine PFK_of (PF.nil1 g2) ?_
    refine ew ?_
    exact fin_nn
   ·have E' : Ep s (A.flatten ++ (B.flatten ++ [])) ((X.map R.cells).flatten ++ ((Y.map R.cells).flatten ++ [])) os [(pa,⟨3,A⟩),(pb,⟨3,B⟩)]:=by simpa only [List.append_nil,rT] using E
    have hXr : ∀ r ∈ X.map R.cells,r.length = 3:=fun r hr=>by obtain ⟨x,_,rfl⟩:=List.mem_map.1 hr;rfl
    have hYr : ∀ r ∈ Y.map R.cells,r.length = 3:=fun r hr=>by obtain ⟨x,_,rfl⟩:=List.mem_map.1 hr;rfl
    have ra:=E'.listRes (p:=pa) (n:=3) (by simp) hA hXr (by simp [lX]) FD (dep_rats _ _)
    obtain ⟨os1,E1,_⟩:=E'.swap (by rw [flat3 hA,flat3 hXr];simp [lX]) (by rw [flat3 hB,flat3 hYr];simp [lY])
    have rb:=E1.listRes (p:=pb) (n:=3) (by simp) hB hYr (by simp [lY]) FD (dep_rats _ _)
    have Rf:=And.intro ra rb
    have hF : Fin s (.tup [.msl pa 0 A.length,.msl pb 0 B.length]) (.tup [ratsV X,ratsV Y]):=by
     obtain ⟨os2,E2⟩:=E'.close (p:=pa) (n:=3) (by simp) hA hXr (by simp [lX])
     obtain ⟨os3,E3,_⟩:=Ep.swap (a:=[.msl pa 0 A.length]) (b:=B.flatten) (c:=[]) (ta:=[ratsV X]) (tb:=(Y.map R.cells).flatten) (tc:=[]) E2 rfl (by rw [flat3 hB,flat3 hYr];simp [lY])
     obtain ⟨os4,E4⟩:=E3.close (p:=pb) (n:=3) (by simp;omega) hB hYr (by simp [lY])
     obtain ⟨os5,E5,_⟩:=Ep.swap (a:=[.msl pb 0 B.length]) (b:=[.msl pa 0 A.length]) (c:=[]) (ta:=[ratsV Y]) (tb:=[ratsV X]) (tc:=[]) E4 rfl rfl
     exact fin_of (owV_tup E5.c.ow) E5.c.nd
    refine ew4 @hc @Rf @numK_any @or_sc ?_
    cases hx : X.all R.ok
    ·rw [hx] at g1
     refine PFK_of g1 ?_
     have e3:=hbad (by rw [hG,hx];rfl)
     rw [e3.1,e3.2]
     refine ew ?_
     exact fin_nn
    ·rw [hx] at g1
     refine PFK_of g1 ?_
     refine ew3 @Rf @numK_any @or_sc ?_
     cases hy : Y.all R.ok
     ·rw [hy] at g2
      refine PFK_of g2 ?_
      have e3:=hbad (by rw [hG,hx,hy];rfl)
      rw [e3.1,e3.2]
      refine ew ?_
      exact fin_nn
     ·rw [hy] at g2
      refine PFK_of g2 ?_
      have e3:=hgood (by rw [hG,hx,hy];rfl)
      rw [e3.1,e3.2]
      refine ew ?_
      exact hF
def Rd2 (s : Store) (v w : V) (X Y : List R) : Prop :=
 (X = [] ∧ Y = [] ∧ v = .nils ∧ w = .nils) ∨ ∃ p q,p ≠ q ∧ v = .msl p 0 X.length ∧ w = .msl q 0 Y.length ∧ objAt s p = some ⟨3,X.map R.cells⟩ ∧ objAt s q = some ⟨3,Y.map R.cells⟩
theorem Rd2.fr {s s2 : Store} {v w : V} {X Y : List R} (h : Rd2 s v w X Y) (hf : ∀ p,p < s.length → objAt s2 p = objAt s p) : Rd2 s2 v w X Y:=by
 rcases h with h | ⟨p,q,h1,h2,h3,h4,h5⟩
 ·exact .inl h
 ·exact .inr ⟨p,q,h1,h2,h3,(hf p (objAt_lt h4)).trans h4,(hf q (objAt_lt h5)).trans h5⟩
theorem Rd2.frN {s s2 : Store} {v w : V} {X Y : List R} {b : Nat} {ob : Obj} (h : Rd2 s v w X Y) (hb : objAt s b = some ob) (hsz : ob.sz ≠ 3) (hf : ∀ p,p ≠ b → p < s.length → objAt s2 p = objAt s p) : Rd2 s2 v w X Y:=by
 rcases h with h | ⟨p,q,h1,h2,h3,h4,h5⟩
 ·exact .inl h
 ·refine .inr ⟨p,q,h1,h2,h3,(hf p (fun e=>?_) (objAt_lt h4)).trans h4,(hf q (fun e=>?_) (objAt_lt h5)).trans h5⟩
  ·rw [e,hb] at h4;cases h4;exact hsz rfl
  ·rw [e,hb] at h5;cases h5;exact hsz rfl
theorem lax_nn {n m : Nat} : LaxV (.tup [.sl n [],.sl m []]) (.tup [.nils,.nils]):=by
 simp only [LaxV,LaxL];exact ⟨_,rfl,_,_,rfl,of_eq_true (by simp),_,_,rfl,of_eq_true (by simp),rfl⟩
theorem ivG_at {s : List Lk} {i : Nat} (hi : i < (nodesM s).length) (h : ((ivP s ((nodesM s).getD i 0) s.length).1.ok && (ivP s ((nodesM s).getD i 0) s.length).2.ok) = false) : ivG s = false:=by
 unfold ivG
 rw [List.all_eq_false]
 refine ⟨(nodesM s).getD i 0,?_,by rw [h];simp⟩
 rw [List.getD_eq_getElem?_getD,List.getElem?_eq_getElem hi];exact List.getElem_mem hi
theorem ivG_all {s : List Lk} (h : ∀ j,j < (nodesM s).length → ((ivP s ((nodesM s).getD j 0) s.length).1.ok && (ivP s ((nodesM s).getD j 0) s.length).2.ok) = true) : ivG s = true:=by
 unfold ivG
 rw [List.all_eq_true]
 intro v hv
 obtain ⟨k,hk⟩:=List.mem_iff_getElem?.1 hv
 have:=h k (List.getElem?_eq_some_iff.1 hk).1
 rw [List.getD_eq_getElem?_getD,hk] at this
 exact this
theorem c_sInformationVectors {T : Nat → Option Fn} (h : D_spec_InformationVectors T) {S : List Lk} (hw : wfL Lk.wf S) (hl : S.length ≤ 1048576) : PF T 335 [lksV S] (.tup [ratsV (ivX S),ratsV (ivY S)]):=by
 have ci:=c_sIsLinkSet h.d_spec_IsLinkSet hw
 cases h1 : lksOk S
 ·rw [h1] at ci
  have : ivX S = [] ∧ ivY S = []:=by
   unfold ivX ivY;rw [nodesM_f h1];simp
  rw [this.1,this.2]
  refine pf_endL (fun _ _=>false) h.hT rfl rfl ?_
  dsimp only [F_spec_InformationVectors,oN,oS,oG,oK,oA,oH,oV,cI]
  refine ev ?_
  refine PFK_of ci ?_
  refine ev ?_
  exact lax_nn
 rw [h1] at ci
 have cn:=c_sNodesOfM h.d_spec_NodesOf hw hl
 have hnl:=nodesM_len S
 have c0:=c_sRatFromInt h.d_spec_RatFromInt (n:=0) (by omega)
 refine pf_endL (fun x d=>x == 403) h.hT rfl rfl ?_
 dsimp only [F_spec_InformationVectors,oN,oS,oG,oK,oA,oH,oV,cI]
 refine ew ?_
 refine PFK_of ci ?_
 refine ew ?_
 refine PFK_of cn ?_
 refine ew ?_
 refine loop_at (fun x d=>x == 403) (α:=Nat × Store × V × V × List R × List R) (fun q=>⟨argE [lksV S,.any,.any,.any,q.2.2.1,q.2.2.2.1,.any,.any,.any,.any,.any,.any,.any,.any,.any,.any,.any,ints (nodesM S),iv ((nodesM S).length : Nat),iv (q.1 : Nat)],q.2.1,0,0,[],[]⟩) (fun q=>(q.1 ≤ (nodesM S).length ∧ Rd2 q.2.1 q.2.2.1 q.2.2.2.1 q.2.2.2.2.1 q.2.2.2.2.2) ∧ (q.2.2.2.2.1 = ((nodesM S).take q.1).map (fun v=>(ivP S v S.length).1) ∧ q.2.2.2.2.2 = ((nodesM S).take q.1).map (fun v=>(ivP S v S.length).2)) ∧ ∀ j,j < q.1 → ((ivP S ((nodesM S).getD j 0) S.length).1.ok && (ivP S ((nodesM S).getD j 0) S.length).2.ok) = true) (fun q=>(nodesM S).length - q.1) rfl (0,[none,none],.nils,.nils,[],[]) ?_ ?_ ?_
 ·exact ⟨⟨by omega,.inl ⟨rfl,rfl,rfl,rfl⟩⟩,⟨rfl,rfl⟩,by intro j hj;omega⟩
 ·(refine Fg_env ?_;exact fgW)
 ·rintro ⟨i,s,v4,v5,X,Y⟩ ⟨⟨hi,hvv⟩,⟨hX,hY⟩,hok⟩
  dsimp only at hi hvv hX hY hok
  have hXl : X.length = i ∧ Y.length = i:=by rw [hX,hY,List.length_map,List.length_map,List.length_take];omega
  by_cases hc : (i : Int) < ((nodesM S).length : Nat)
  ·have hil : i < (nodesM S).length:=by omega
   have et : (nodesM S).take (i + 1) = (nodesM S).take i ++ [(nodesM S).getD i 0]:=by
    rw [List.take_add_one,List.getElem?_eq_getElem hil,List.getD_eq_getElem?_getD,List.getElem?_eq_getElem hil];rfl
   have hat:=ivG_at hil
   have eX : ((nodesM S).take (i + 1)).map (fun v=>(ivP S v S.length).1) = X ++ [(ivP S ((nodesM S).getD i 0) S.length).1]:=by rw [et,List.map_append,← hX];rfl
   have eY : ((nodesM S).take (i + 1)).map (fun v=>(ivP S v S.length).2) = Y ++ [(ivP S ((nodesM S).getD i 0) S.length).2]:=by rw [et,List.map_append,← hY];rfl
   have hok2 : ((ivP S ((nodesM S).getD i 0) S.length).1.ok && (ivP S ((nodesM S).getD i 0) S.length).2.ok) = true → ∀ j,j < i + 1 → ((ivP S ((nodesM S).getD j 0) S.length).1.ok && (ivP S ((nodesM S).getD j 0) S.length).2.ok) = true:=fun h j hj=>by
    by_cases e : j = i
    ·subst e;exact h
    ·exact hok j (by omega)
   clear hX hY hok et
   generalize hv : (nodesM S).getD i 0 = v at hat eX eY hok2
   refine ew2 @hc @hv ?_
   refine PFK_of c0 ?_
   refine ew ?_
   refine PFK_of c0 ?_
   refine ew ?_
   have hm0 : objAt (s ++ [some (⟨6,[(⟨intR 0,intR 0⟩ : Pt).cells]⟩ : Obj)]) s.length = some ⟨6,[(⟨intR 0,intR 0⟩ : Pt).cells]⟩:=objAt_snoc _ _
   have hV0 : Rd2 (s ++ [some (⟨6,[(⟨intR 0,intR 0⟩ : Pt).cells]⟩ : Obj)]) v4 v5 X Y:=hvv.fr fun p hp=>objAt_snoc_lt hp
   generalize hS0 : s ++ [some (⟨6,[(⟨intR 0,intR 0⟩ : Pt).cells]⟩ : Obj)] = S0 at *
   generalize s.length = m at *
   clear hS0 hvv
   refine loop_at (fun x d=>x == 403) (α:=Nat × Store) (fun q=>⟨argE [lksV S,.any,.any,.any,v4,v5,.any,iv v,.ptr m 0 0,.any,.any,.any,.any,.any,.any,.any,.any,ints (nodesM S),iv ((nodesM S).length : Nat),iv (i : Nat),.any,.any,.any,.any,.any,.any,lksV S,iv (S.length : Nat),iv (q.1 : Nat)],q.2,0,0,[],[]⟩) (fun q=>q.1 ≤ S.length ∧ objAt q.2 m = some ⟨6,[(⟨(ivP S v q.1).1,(ivP S v q.1).2⟩ : Pt).cells]⟩ ∧ Rd2 q.2 v4 v5 X Y) (fun q=>S.length - q.1) rfl (0,S0) ?_ ?_ ?_
   ·exact ⟨by omega,hm0,hV0⟩
   ·(refine Fg_env ?_;exact fgW)
   ·clear hm0 hV0
    rintro ⟨k,t⟩ ⟨hk,hm,hV⟩
    dsimp only at hk hm hV
    have hcn:=ivP_cn S v k
    have hml:=objAt_lt hm
    by_cases hck : (k : Int) < (S.length : Nat)
    ·have hkl : k < S.length:=by omega
     have hes : ivP S v (k + 1) = ivStep v (ivP S v k) (S.getD k default):=rfl
     have hmx : (S.map Lk.cells).getD k [] = (S.getD k default).cells:=mg hkl
     have hko:=lksOk_at h1 hkl
     have hk:=lkOk_cn hko
     have hnd:=lkOk_nd hko
     generalize S.getD k default = lk at hes hmx hk hnd
     unfold ivStep at hes
     obtain ⟨hXc,hYc⟩:=hcn
     generalize hA : (ivP S v k).1 = A at *
     generalize hB : (ivP S v k).2 = B at *
     have w1:=cn_wf hk.1
     have w2:=cn_wf hk.2.1
     have w3:=cn_wf hk.2.2
     have cm1:=c_sRatMul h.d_spec_RatMul w1 w2
     have cm2:=c_sRatMul h.d_spec_RatMul w1 w3
     have n1:=mulR_cn lk.w lk.dx
     have n2:=mulR_cn lk.w lk.dy
     have hq : ∀ x y,objAt (List.set t m x ++ [y]) t.length = y:=fun x y=>by
      have:=objAt_snoc (List.set t m x) y
      rwa [List.length_set] at this
     have hq2 : ∀ x z y,objAt ((List.set t m x).set m z ++ [y]) t.length = y:=fun x z y=>by
      have:=objAt_snoc ((List.set t m x).set m z) y
      rwa [List.length_set,List.length_set] at this
     by_cases hbv : lk.b = v
     ·have hav : ¬ lk.a = v:=by omega
      rw [if_pos hbv] at hes
      have ca1:=c_sRatAdd h.d_spec_RatAdd (cn_wf hXc) (cn_wf n1)
      have ca2:=c_sRatAdd h.d_spec_RatAdd (cn_wf hYc) (cn_wf n2)
      generalize mulR lk.w lk.dx = m1 at *
      generalize mulR lk.w lk.dy = m2 at *
      generalize addR A m1 = A' at *
      generalize addR B m2 = B' at *
      refine ew5 @hck @hmx @hbv @hav @hm ?_
      refine PFK_of cm1 ?_
      refine ew1 @hm ?_
      refine PFK_of ca1 ?_
      refine ew1 @hm ?_
      refine ⟨by unfold OkA;rfl,?_⟩
      refine ew3 @hm @hq @hq2 ?_
      refine PFK_of cm2 ?_
      refine ew3 @hm @hq @hq2 ?_
      refine PFK_of ca2 ?_
      refine ew3 @hm @hq @hq2 ?_
      refine ⟨by unfold OkA;rfl,?_⟩
      refine ew4 @hm @hq @hq2 @hav ?_
      refine ⟨(k + 1,?st),?c1,⟨?c2,?c4,?c5⟩,?c3⟩
      case c3=>dsimp only;(refine Fg_env ?_;exact fgW)
      case c1=>dsimp only;omega
      case c2=>dsimp only;omega
      case c4 =>
       dsimp only
       rw [hes]
       simp (disch:=first | omega | (simp only [List.length_append,List.length_set,List.length_cons,List.length_nil];omega)) only [EVs]
       try rfl
      case c5 =>
       dsimp only
       refine hV.frN hm (show (6 : Nat) ≠ 3 by decide) fun p hp hpl=>?_
       exact obE
     ·rw [if_neg hbv] at hes
      by_cases hav : lk.a = v
      ·rw [if_pos hav] at hes
       have ca1:=c_sRatSub h.d_spec_RatSub (cn_wf hXc) (cn_wf n1)
       have ca2:=c_sRatSub h.d_spec_RatSub (cn_wf hYc) (cn_wf n2)
       generalize mulR lk.w lk.dx = m1 at *
       generalize mulR lk.w lk.dy = m2 at *
       generalize subR A m1 = A' at *
       generalize subR B m2 = B' at *
       refine ew5 @hck @hmx @hbv @hav @hm ?_
       refine PFK_of cm1 ?_
       refine ew1 @hm ?_
       refine PFK_of ca1 ?_
       refine ew1 @hm ?_
       refine ⟨by unfold OkA;rfl,?_⟩
       refine ew3 @hm @hq @hq2 ?_
       refine PFK_of cm2 ?_
       refine ew3 @hm @hq @hq2 ?_
       refine PFK_of ca2 ?_
       refine ew3 @hm @hq @hq2 ?_
       refine ⟨by unfold OkA;rfl,?_⟩
       refine ew4 @hm @hq @hq2 @hav ?_
       refine ⟨(k + 1,?st2),?c1,⟨?c2,?c4,?c5⟩,?c3⟩
       case c3=>dsimp only;(refine Fg_env ?_;exact fgW)
       case c1=>dsimp only;omega
       case c2=>dsimp only;omega
       case c4 =>
        dsimp only
        rw [hes]
        simp (disch:=first | omega | (simp only [List.length_append,List.length_set,List.length_cons,List.length_nil];omega)) only [EVs]
        try rfl
       case c5 =>
        dsimp only
        refine hV.frN hm (show (6 : Nat) ≠ 3 by decide) fun p hp hpl=>?_
        exact obE
      ·rw [if_neg hav] at hes
       refine ew5 @hck @hmx @hbv @hav @hm ?_
       refine ⟨(k + 1,?st3),?c1,⟨?c2,?c4,?c5⟩,?c3⟩
       case c3=>dsimp only;(refine Fg_env ?_;exact fgW)
       case c1=>dsimp only;omega
       case c2=>dsimp only;omega
       case c4 =>
        dsimp only
        rw [hes,hA,hB,objAt_snoc_lt hml]
        exact hm
       case c5 =>
        dsimp only
        exact hV.fr fun p hp=>objAt_snoc_lt hp
    ·have hke : k = S.length:=by omega
     rw [hke] at hcn hm
     obtain ⟨hXc,hYc⟩:=hcn
     have cl:=c_l08Point h.d_spec_l08Point (p:=⟨(ivP S v S.length).1,(ivP S v S.length).2⟩) ⟨cn_wf hXc,cn_wf hYc⟩
     have hm' : objAt t m = some ⟨6,[[.bool (ivP S v S.length).1.neg,ints (ivP S v S.length).1.mag,ints (ivP S v S.length).1.den,.bool (ivP S v S.length).2.neg,ints (ivP S v S.length).2.mag,ints (ivP S v S.length).2.den]]⟩:=hm
     cases hb : ((ivP S v S.length).1.ok && (ivP S v S.length).2.ok)
     ·have cl : PF T 342 [ptV ⟨(ivP S v S.length).1,(ivP S v S.length).2⟩] (.bool false):=by rw [← hb];exact cl
      have hbad:=ivG_bad (hat hb)
      rw [hbad.1,hbad.2]
      refine ew2 @hck @hm' ?_
      refine PFK_of cl ?_
      refine ew ?_
      exact lax_nn
     ·have cl : PF T 342 [ptV ⟨(ivP S v S.length).1,(ivP S v S.length).2⟩] (.bool true):=by rw [← hb];exact cl
      have hok3:=hok2 hb
      generalize (ivP S v S.length).1 = A at *
      generalize (ivP S v S.length).2 = B at *
      refine ew2 @hck @hm' ?_
      refine PFK_of cl ?_
      rcases hV with ⟨rfl,rfl,rfl,rfl⟩ | ⟨p,q,hne,rfl,rfl,hp,hq⟩
      ·refine ew1 @hm' ?_
       refine ⟨by omega,by omega,?_⟩
       refine ⟨(i + 1,?st4,.msl (t.length + 1) 0 1,.msl (t.length + 1 + 1 + 1) 0 1,[] ++ [A],[] ++ [B]),?c1,⟨⟨?c2,.inr ⟨_,_,?c7,rfl,rfl,?c4,?c5⟩⟩,⟨eX.symm,eY.symm⟩,hok3⟩,?c3⟩
       case c3=>dsimp only;(refine Fg_env ?_;exact fgW)
       case c1=>dsimp only;omega
       case c2=>dsimp only;omega
       case c4 =>
        simp (disch:=first | omega | (simp only [List.length_append,List.length_set,List.length_cons,List.length_nil];omega)) only [EVs]
        rfl
       case c5=>exact objAt_seteq (by simp <;> omega)
       case c7=>omega
      ·have hpl:=objAt_lt hp
       have hql:=objAt_lt hq
       have hpm : p ≠ m:=fun e=>by rw [e,hm'] at hp;cases hp
       have hqm : q ≠ m:=fun e=>by rw [e,hm'] at hq;cases hq
       refine ew3 @hm' @hp @hq ?_
       refine ⟨by omega,by omega,?_⟩
       refine ⟨(i + 1,?st5,.msl (t.length + 1) 0 (X.length + 1),.msl (t.length + 1 + 1 + 1) 0 (Y.length + 1),X ++ [A],Y ++ [B]),?c1,⟨⟨?c2,.inr ⟨_,_,?c7,by dsimp only;rw [List.length_append];rfl,by dsimp only;rw [List.length_append];rfl,?c4,?c5⟩⟩,⟨eX.symm,eY.symm⟩,hok3⟩,?c3⟩
       case c3=>dsimp only;(refine Fg_env ?_;exact fgW)
       case c1=>dsimp only;omega
       case c2=>dsimp only;omega
       case c4 =>
        dsimp only
        rw [List.map_append]
        simp (disch:=first | omega | (simp only [List.length_append,List.length_set,List.length_cons,List.length_nil];omega)) only [EVs]
        try rfl
       case c5 =>
        dsimp only
        rw [List.map_append]
        exact objAt_seteq (by simp <;> omega)
       case c7=>omega
  ·have hie : i = (nodesM S).length:=by omega
   rw [hie,List.take_length] at hX hY
   rw [hie] at hok
   have hG:=ivG_all hok
   obtain ⟨e1,e2⟩:=ivG_good hG
   rw [e1,e2,← hX,← hY]
   rcases hvv with ⟨rfl,rfl,rfl,rfl⟩ | ⟨p,q,hne,rfl,rfl,hp,hq⟩
   ·refine ew1 @hc ?_
    exact lax_nn
   ·have hr : ∀ (σ : Store) (Z : List R),resO1 σ 0 Z.length (some ⟨3,Z.map R.cells⟩) = some (ratsV Z):=fun σ Z=>by
     have:=resO1_st (σ:=σ) (st_R Z) (s:=0) (l:=Z.length) (n:=3) (by simp)
     rw [List.drop_zero,List.take_of_length_le (by simp)] at this
     exact this
    refine ew4 @hc @hp @hq @hr ?_
    exact laxV_refl _
theorem matOk_row {m : List (List R)} {cols : Int} (h : matOk m cols = true) : (∀ i,i < m.length → ((m.getD i default).length : Int) = cols ∧ ∀ j,j < (m.getD i default).length → ((m.getD i default).getD j default).ok = true) ∧ m.length ≤ 10:=by
 unfold matOk at h
 simp only [Bool.and_eq_true,decide_eq_true_eq] at h
 refine ⟨fun i hi=>?_,h.2⟩
 have:=allB_iff.1 h.1 i hi
 unfold matAt at this
 simp only [Bool.and_eq_true,decide_eq_true_eq] at this
 exact ⟨this.1,allB_iff.1 this.2⟩
theorem matOk_of {m : List (List R)} {cols : Int} (h : ∀ r ∈ m,(r.length : Int) = cols) (hl : m.length ≤ 10) : matOk m cols = m.all fun r=>r.all R.ok:=by
 cases ha : m.all fun r=>r.all R.ok
 ·obtain ⟨r,hr,hb⟩:=List.all_eq_false.1 ha
  have hb : r.all R.ok = false:=by simpa using hb
  obtain ⟨x,hx,hxb⟩:=List.all_eq_false.1 hb
  obtain ⟨i,hi⟩:=List.mem_iff_getElem?.1 hr
  obtain ⟨j,hj⟩:=List.mem_iff_getElem?.1 hx
  have hil:=(List.getElem?_eq_some_iff.1 hi).1
  have hjl:=(List.getElem?_eq_some_iff.1 hj).1
  refine matOk_f hil ?_
  have e1 : m.getD i default = r:=by rw [List.getD_eq_getElem?_getD,hi];rfl
  have e2 : r.getD j default = x:=by rw [List.getD_eq_getElem?_getD,hj];rfl
  unfold matAt
  rw [e1,allB_f hjl (by rw [e2];simpa using hxb),Bool.and_false]
 ·rw [matOk_t,decide_eq_true hl]
  intro i hi
  have hm:=getD_mem (l:=m) hi
  have h1:=h _ hm
  have h2:=List.all_eq_true.1 ha _ hm
  unfold matAt
  rw [decide_eq_true h1,Bool.true_and]
  refine allB_t fun j hj=>?_
  exact List.all_eq_true.1 h2 _ (getD_mem hj)
theorem mat_ok {m : List (List R)} {n : Nat} (h : ∀ r ∈ m,(∀ x ∈ r,x.cn) ∧ r.length ≤ n) (hn : n ≤ 20) (hl : m.length ≤ 10) : szL (szL R.sz) m ≤ 100000 ∧ wfL (wfL R.wf) m:=by
 refine ⟨?_,by omega,fun r hr=>rs_wf (h r hr).1 (by have:=(h r hr).2;omega)⟩
 have:=szL_bd (f:=szL R.sz) (k:=1000) (l:=m) fun r hr=>by
  have h1:=szL_bd (f:=R.sz) (k:=48) (l:=r) fun x hx=>by have:=cn_len ((h r hr).1 x hx);unfold R.sz;omega
  have h2:=(h r hr).2
  have : r.length * 49 ≤ 20 * 49:=Nat.mul_le_mul_right _ (by omega)
  omega
 have : m.length * 1001 ≤ 10 * 1001:=Nat.mul_le_mul_right _ hl
 omega
theorem OwnK_refN {T : Nat → Option Fn} {f : Nat} {as : List Src} {dst : Option Nat} {env : Nat → V} {σ : Store} {kp bs : Nat} {rs ms : List Nat} {k : List Nat → List Nat → Bool → St → Prop} {ρ : List Nat} {as' : List V} {r v : V} (hn : ρ.Nodup)
  (hρ : ∀ o,o ∈ ρ → ∃ l,objAt σ o = some ⟨1,irows l⟩) (ha : (as.map fun s=>mapV (place ρ) (s.ev env)) = as') (hr : Run T (.fn f as' (gcS ρ σ)) (.fn r (gcS ρ σ))) (hv : ∀ n,mapV (back ρ n) r = v)
  (hk : k ρ [] false ⟨updO env dst v,σ,kp,bs,rs,ms⟩) : OwnK T f as dst ⟨env,σ,kp,bs,rs,ms⟩ k:=by
 subst ha
 exact .inr (.inr (.inr ⟨ρ,r,v,hn,fun o ho=>by obtain ⟨l,h⟩:=hρ o ho;exact ⟨_,h,fun g=>mapO_ints g l⟩,hr,hv,hk⟩))
theorem OwnK_idn {T : Nat → Option Fn} {f : Nat} {as : List Src} {dst : Option Nat} {env : Nat → V} {σ σ' : Store} {kp bs : Nat} {rs ms : List Nat} {k : List Nat → List Nat → Bool → St → Prop} {as' : List V} {r : V}
  (h : Run T (.fn f as' σ) (.fn r σ')) (ha : (as.map fun s=>s.ev env) = as') (hl : σ.length ≤ σ'.length) (hb : σ.length ≤ bs) (hk : k (List.range σ.length) (List.range σ.length) true ⟨updO env dst r,σ',kp,bs,rs,ms⟩) :
  OwnK T f as dst ⟨env,σ,kp,bs,rs,ms⟩ k:=by
 subst ha
 exact .inr (.inr (.inl ⟨r,σ',h,hl,hb,hk⟩))
def renA (g : Nat → Nat) (a : Acc) : Acc:=⟨a.i,a.R.map g,a.W.map g,a.n⟩
section
variable {g : Nat → Nat} {L L0 : Nat} (hinj : ∀ x y,g x = g y ↔ x = y) (hlt : ∀ x,g x < L ↔ x < L0)
include hinj in
theorem ren_contains (l : List Nat) (p : Nat) : (l.map g).contains (g p) = l.contains p:=by
 rw [Bool.eq_iff_iff,List.contains_iff_mem,List.contains_iff_mem,List.mem_map]
 constructor
 ·rintro ⟨q,h1,h2⟩
  rw [(hinj _ _).1 h2] at h1;exact h1
 ·exact fun h=>⟨p,h,rfl⟩
include hlt in
theorem below_ren (a b : Acc) : belowA L (renA g a) (renA g b) = belowA L0 a b:=by
 unfold belowA renA
 simp only [List.all_map,Function.comp_def]
 simp only [hlt]
include hinj hlt in
theorem apart_ren (d e : OpI) (a b : Acc) : apartA L d e (renA g a) (renA g b) = apartA L0 d e a b:=by
 unfold apartA
 rw [below_ren hlt,below_ren hlt]
 simp only [renA,List.all_map,Function.comp_def]
 simp only [ren_contains hinj]
 congr 6
 ·congr 1
  funext p
  congr 2
  funext q
  rw [bne,bne]
  congr 1
  rw [Bool.eq_iff_iff,beq_iff_eq,beq_iff_eq];exact hinj _ _
include hinj hlt in
theorem okA_ren {B : Nat → List Nat} {ops : List OpI} : ∀ l : List Acc,okA L B ops (l.map (renA g)) = okA L0 B ops l
 | []=>rfl
 |
  a :: l=>by
  simp only [List.map_cons,okA,List.all_map,Function.comp_def]
  rw [okA_ren l]
  congr 2
  funext b
  have h1 : (renA g a).i = a.i:=rfl
  have h2 : (renA g b).i = b.i:=rfl
  rw [apart_ren hinj hlt,h1,h2]
include hinj hlt in
theorem OkA_ren {ops : List OpI} {l l0 : List Acc} (he : l = l0.map (renA g)) (hk : OkA L0 ops l0) : OkA L ops l:=by
 unfold OkA at hk ⊢
 rw [he,← List.map_reverse,okA_ren hinj hlt]
 exact hk
end
def gN (l : List Nat) (L x : Nat) : Nat:=match l[x]? with
 | some y=>y
 | none=>L + x
theorem gN_lt {l : List Nat} {L : Nat} (hl : ∀ o ∈ l,o < L) (x : Nat) : gN l L x < L ↔ x < l.length:=by
 unfold gN
 cases h : l[x]? with
 |
  none =>
  have:=List.getElem?_eq_none_iff.1 h
  simp only []
  omega
 |
  some y =>
  have h1:=(List.getElem?_eq_some_iff.1 h).1
  have h2:=hl y (List.mem_of_getElem? h)
  simp only []
  omega
theorem gN_inj {l : List Nat} {L : Nat} (hl : ∀ o ∈ l,o < L) (hn : l.Nodup) (x y : Nat) : gN l L x = gN l L y ↔ x = y:=by
 constructor
 ·intro e
  have hx:=gN_lt hl x
  have hy:=gN_lt hl y
  by_cases h : x < l.length
  ·have h2 : y < l.length:=hy.1 (e ▸ hx.2 h)
   unfold gN at e
   rw [List.getElem?_eq_getElem h,List.getElem?_eq_getElem h2] at e
   exact (List.getElem_inj hn).1 e
  ·have h2 : ¬ y < l.length:=fun k=>h (hx.1 (e ▸ hy.2 k))
   unfold gN at e
   rw [List.getElem?_eq_none (by omega),List.getElem?_eq_none (by omega)] at e
   simp only [] at e
   omega
 ·rintro rfl;rfl
theorem OkA_all3 {ops : List OpI} {aF : Nat → Nat → Nat → List Acc} (a b c L : Nat) (hn : [a,b,c].Nodup) (hl : ∀ o ∈ [a,b,c],o < L) (ha : ∀ (g : Nat → Nat) (a b c : Nat),aF (g a) (g b) (g c) = (aF a b c).map (renA g)) (h : OkA 3 ops (aF 0 1 2)) : OkA L ops (aF a b c) :=
 OkA_ren (g:=gN [a,b,c] L) (gN_inj hl hn) (gN_lt hl) (ha (gN [a,b,c] L) 0 1 2) h
theorem nd2 {a b : Nat} (h : a ≠ b) : [a,b].Nodup:=by simp [h]
theorem nd3 {a b c : Nat} (h : a ≠ b) (h2 : a ≠ c) (h3 : b ≠ c) : [a,b,c].Nodup:=by simp [h,h2,h3]
theorem nd4 {a b c d : Nat} (h : a ≠ b) (h2 : a ≠ c) (h3 : a ≠ d) (h4 : b ≠ c) (h5 : b ≠ d) (h6 : c ≠ d) : [a,b,c,d].Nodup:=by simp [h,h2,h3,h4,h5,h6]
theorem lt2 {a b L : Nat} (h : a < L) (h2 : b < L) : ∀ o ∈ [a,b],o < L:=by simp [h,h2]
theorem lt3 {a b c L : Nat} (h : a < L) (h2 : b < L) (h3 : c < L) : ∀ o ∈ [a,b,c],o < L:=by simp [h,h2,h3]
end Go.Ml
end
section
namespace Go.Ml
def F_spec_InformationMatrix : Fn:=⟨1,101,[.tmp 2],(.seq (.reg false 0 [oN 2 (.mov (.c (.nils)))]) (.seq (.reg false 1 [oN 13 (.mkSl 1 [.nils] 0 []),oK 3 1 (oV 13)]) (.seq (.seq (.reg false 0 [oN 14 (oV 0),oN 15 (.call 193 [(.t 14)]),oN 16 (.un .not (.t 15))]) (.cond (.t 16) (.seq (.reg false 0 [oN 2 (.mov (.c (.nils)))]) .ret) .skip)) (.seq (.reg false 0 [oN 17 (oV 0),oN 18 (.call 222 [(.t 17)]),oN 4 (oV 18)]) (.seq (.seq (.reg false 0 [oN 19 (oV 4),oN 20 (.len (.t 19)),oN 21 (.mov (cI 0))]) (.block 0 (.loop (.seq (.reg false 0 [oN 22 (.bin .lss (.t 21) (.t 20))]) (.seq (.cond (.t 22) .skip (.exit 0)) (.seq (.block 1 (.seq (.reg false 0 [oN 23 (.idx 1 (.t 19) (.t 21)),oN 24 (.load 1 false (.t 23)),oN 6 (oV 24)]) (.seq (.reg false 1 [oN 25 (.mkSl 3 [.bool false,.nils,.nils] 0 []),oK 7 1 (oV 25)]) (.seq (.seq (.reg false 0 [oN 26 (oV 4),oN 27 (.len (.t 26)),oN 28 (.mov (cI 0))]) (.block 2 (.loop (.seq (.reg false 0 [oN 29 (.bin .lss (.t 28) (.t 27))]) (.seq (.cond (.t 29) .skip (.exit 2)) (.seq (.block 3 (.seq (.reg false 0 [oN 30 (.idx 1 (.t 26) (.t 28)),oN 31 (.load 1 false (.t 30)),oN 9 (oV 31)]) (.seq (.reg false 1 [oK 32 1 (.call 36 [(cI 0)]),oN 10 (.alloc [.bool false,.nils,.nils]),⟨none,none,1,.store 3 (.t 10) (.t 32),[]⟩]) (.seq (.seq (.reg false 0 [oN 33 (oV 0),oN 34 (.len (.t 33)),oN 35 (.mov (cI 0))]) (.block 4 (.loop (.seq (.reg false 0 [oN 36 (.bin .lss (.t 35) (.t 34))]) (.seq (.cond (.t 36) .skip (.exit 4)) (.seq (.block 5 (.seq (.reg false 1 [oK 37 1 (.idx 11 (.t 33) (.t 35)),oK 38 1 (.load 11 true (.t 37)),oN 12 (.alloc [.int .i64 0,.int .i64 0,.bool false,.nils,.nils,.bool false,.nils,.nils,.bool false,.nils,.nils]),⟨none,none,1,.store 11 (.t 12) (.t 38),[]⟩]) (.seq (.seq (.reg false 0 [oN 39 (oV 6),oN 40 (oV 9),oN 41 (.bin .eql (.t 39) (.t 40)),oN 42 (oV 41),oG 42 true 43 (.fld 0 (.t 12)),oG 42 true 44 (.load 1 false (.t 43)),oG 42 true 45 (oV 6),oG 42 true 46 (.bin .eql (.t 44) (.t 45)),oG 42 true 47 (oV 46),oG 47 false 48 (.fld 1 (.t 12)),oG 47 false 49 (.load 1 false (.t 48)),oG 47 false 50 (oV 6),oG 47 false 51 (.bin .eql (.t 49) (.t 50)),oG 42 true 52 (.pick (.t 47) (.c (.bool true)) (.t 51)),oN 53 (.pick (.t 42) (.t 52) (.c (.bool false)))]) (.cond (.t 53) (.reg false 0 [oN 54 (.load 3 true (.t 10)),oN 55 (.fld 2 (.t 12)),oN 56 (.load 3 true (.t 55)),oN 57 (.call 189 [(.t 54),(.t 56)]),oS (.store 3 (.t 10) (.t 57))]) .skip)) (.seq (.reg false 0 [oN 58 (.fld 0 (.t 12)),oN 59 (.load 1 false (.t 58)),oN 60 (oV 6),oN 61 (.bin .eql (.t 59) (.t 60)),oN 62 (oV 61),oG 62 true 63 (.fld 1 (.t 12)),oG 62 true 64 (.load 1 false (.t 63)),oG 62 true 65 (oV 9),oG 62 true 66 (.bin .eql (.t 64) (.t 65)),oN 67 (.pick (.t 62) (.t 66) (.c (.bool false))),oN 68 (oV 67),oG 68 false 69 (.fld 0 (.t 12)),oG 68 false 70 (.load 1 false (.t 69)),oG 68 false 71 (oV 9),oG 68 false 72 (.bin .eql (.t 70) (.t 71)),oG 68 false 73 (oV 72),oG 73 true 74 (.fld 1 (.t 12)),oG 73 true 75 (.load 1 false (.t 74)),oG 73 true 76 (oV 6),oG 73 true 77 (.bin .eql (.t 75) (.t 76)),oG 68 false 78 (.pick (.t 73) (.t 77) (.c (.bool false))),oN 79 (.pick (.t 68) (.c (.bool true)) (.t 78))]) (.cond (.t 79) (.reg false 0 [oN 80 (.load 3 true (.t 10)),oN 81 (.fld 2 (.t 12)),oN 82 (.load 3 true (.t 81)),oN 83 (.call 203 [(.t 80),(.t 82)]),oS (.store 3 (.t 10) (.t 83))]) .skip))))) (.reg false 0 [oN 84 (.bin .add (.t 35) (cI 1)),oN 35 (oV 84)]))))))) (.reg false 2 [oK 85 2 (oV 7),oK 86 2 (.load 3 true (.t 10)),oN 87 (.mkSl 3 [.bool false,.nils,.nils] 1 [(0,(.t 86))]),oK 88 1 (.app 3 56 (.t 85) (.t 87)),oK 7 2 (oV 88)]))))) (.reg false 0 [oN 89 (.bin .add (.t 28) (cI 1)),oN 28 (oV 89)]))))))) (.reg false 2 [oK 90 2 (oV 3),oK 91 2 (oV 7),oN 92 (.mkSl 1 [.nils] 1 [(0,(.t 91))]),oK 93 1 (.app 1 24 (.t 90) (.t 92)),oK 3 2 (oV 93)]))))) (.reg false 0 [oN 94 (.bin .add (.t 21) (cI 1)),oN 21 (oV 94)]))))))) (.seq (.seq (.reg false 0 [oN 95 (oV 3),oN 96 (oV 4),oN 97 (.len (.t 96)),oN 98 (.call 91 [(.t 95),(.t 97)]),oN 99 (.un .not (.t 98))]) (.cond (.t 99) (.seq (.reg false 0 [oN 2 (.mov (.c (.nils)))]) .ret) .skip)) (.seq (.reg false 0 [oN 100 (oV 3),oN 2 (oV 100)]) .ret)))))))⟩
structure D_spec_InformationMatrix (T : Nat → Option Fn) : Prop where
 hT : T 337 = some F_spec_InformationMatrix
 d_spec_RatFromInt : D_spec_RatFromInt T
 d_spec_IsMatrix : D_spec_IsMatrix T
 d_spec_RatAdd : D_spec_RatAdd T
 d_spec_IsLinkSet : D_spec_IsLinkSet T
 d_spec_RatSub : D_spec_RatSub T
 d_spec_NodesOf : D_spec_NodesOf T
def F_impl_informationOf : Fn:=⟨3,63,[.cell 6 3 true],(.seq (.reg false 1 [oN 6 (.alloc [.bool false,.nils,.nils])]) (.seq (.reg false 1 [oK 10 1 (.call 39 [(cI 0)]),oN 7 (.alloc [.bool false,.nils,.nils]),⟨none,none,1,.store 3 (.t 7) (.t 10),[]⟩]) (.seq (.seq (.reg false 0 [oN 11 (oV 0),oN 12 (.len (.t 11)),oN 13 (.mov (cI 0))]) (.block 0 (.loop (.seq (.reg false 0 [oN 14 (.bin .lss (.t 13) (.t 12))]) (.seq (.cond (.t 14) .skip (.exit 0)) (.seq (.block 1 (.seq (.reg false 1 [oK 15 1 (.idx 11 (.t 11) (.t 13)),oK 16 1 (.load 11 true (.t 15)),oN 9 (.alloc [.int .i64 0,.int .i64 0,.bool false,.nils,.nils,.bool false,.nils,.nils,.bool false,.nils,.nils]),⟨none,none,1,.store 11 (.t 9) (.t 16),[]⟩]) (.seq (.seq (.reg false 0 [oN 17 (oV 1),oN 18 (oV 2),oN 19 (.bin .eql (.t 17) (.t 18)),oN 20 (oV 19),oG 20 true 21 (.fld 0 (.t 9)),oG 20 true 22 (.load 1 false (.t 21)),oG 20 true 23 (oV 1),oG 20 true 24 (.bin .eql (.t 22) (.t 23)),oG 20 true 25 (oV 24),oG 25 false 26 (.fld 1 (.t 9)),oG 25 false 27 (.load 1 false (.t 26)),oG 25 false 28 (oV 1),oG 25 false 29 (.bin .eql (.t 27) (.t 28)),oG 20 true 30 (.pick (.t 25) (.c (.bool true)) (.t 29)),oN 31 (.pick (.t 20) (.t 30) (.c (.bool false)))]) (.cond (.t 31) (.reg false 0 [oN 32 (.load 3 true (.t 7)),oN 33 (.fld 2 (.t 9)),oN 34 (.load 3 true (.t 33)),oN 35 (.call 131 [(.t 32),(.t 34)]),oS (.store 3 (.t 7) (.t 35))]) .skip)) (.seq (.reg false 0 [oN 36 (.fld 0 (.t 9)),oN 37 (.load 1 false (.t 36)),oN 38 (oV 1),oN 39 (.bin .eql (.t 37) (.t 38)),oN 40 (oV 39),oG 40 true 41 (.fld 1 (.t 9)),oG 40 true 42 (.load 1 false (.t 41)),oG 40 true 43 (oV 2),oG 40 true 44 (.bin .eql (.t 42) (.t 43)),oN 45 (.pick (.t 40) (.t 44) (.c (.bool false))),oN 46 (oV 45),oG 46 false 47 (.fld 0 (.t 9)),oG 46 false 48 (.load 1 false (.t 47)),oG 46 false 49 (oV 2),oG 46 false 50 (.bin .eql (.t 48) (.t 49)),oG 46 false 51 (oV 50),oG 51 true 52 (.fld 1 (.t 9)),oG 51 true 53 (.load 1 false (.t 52)),oG 51 true 54 (oV 1),oG 51 true 55 (.bin .eql (.t 53) (.t 54)),oG 46 false 56 (.pick (.t 51) (.t 55) (.c (.bool false))),oN 57 (.pick (.t 46) (.c (.bool true)) (.t 56))]) (.cond (.t 57) (.reg false 0 [oN 58 (.fld 2 (.t 9)),oN 59 (.load 3 true (.t 58)),oN 60 (.call 161 [(.t 59)]),oS (.store 3 (.t 7) (.t 60))]) .skip))))) (.reg false 0 [oN 61 (.bin .add (.t 13) (cI 1)),oN 13 (oV 61)]))))))) (.seq (.reg false 0 [oN 62 (.load 3 true (.t 7)),oS (.store 3 (.t 6) (.t 62))]) .ret))))⟩
structure D_impl_informationOf (T : Nat → Option Fn) : Prop where
 hT : T 277 = some F_impl_informationOf
 d_impl_RatFromInt : D_impl_RatFromInt T
 d_impl_ratAdd : D_impl_ratAdd T
 d_impl_ratNeg : D_impl_ratNeg T
def F_impl_InformationMatrix : Fn:=⟨1,46,[.tmp 2],(.seq (.reg false 0 [oN 2 (.mov (.c (.nils)))]) (.seq (.seq (.reg false 0 [oN 10 (oV 0),oN 11 (.call 89 [(.t 10)]),oN 12 (.un .not (.t 11))]) (.cond (.t 12) (.seq (.reg false 0 [oN 2 (.mov (.c (.nils)))]) .ret) .skip)) (.seq (.reg false 0 [oN 13 (oV 0),oN 14 (.call 180 [(.t 13)]),oN 3 (oV 14)]) (.seq (.reg false 1 [oN 15 (.mkSl 1 [.nils] 0 []),oK 4 1 (oV 15)]) (.seq (.seq (.reg false 0 [oN 16 (oV 3),oN 17 (.len (.t 16)),oN 18 (.mov (cI 0))]) (.block 0 (.loop (.seq (.reg false 0 [oN 19 (.bin .lss (.t 18) (.t 17))]) (.seq (.cond (.t 19) .skip (.exit 0)) (.seq (.block 1 (.seq (.reg false 0 [oN 20 (.idx 1 (.t 16) (.t 18)),oN 21 (.load 1 false (.t 20)),oN 6 (oV 21)]) (.seq (.reg false 1 [oN 22 (.mkSl 3 [.bool false,.nils,.nils] 0 []),oK 7 1 (oV 22)]) (.seq (.seq (.reg false 0 [oN 23 (oV 3),oN 24 (.len (.t 23)),oN 25 (.mov (cI 0))]) (.block 2 (.loop (.seq (.reg false 0 [oN 26 (.bin .lss (.t 25) (.t 24))]) (.seq (.cond (.t 26) .skip (.exit 2)) (.seq (.block 3 (.seq (.reg false 0 [oN 27 (.idx 1 (.t 23) (.t 25)),oN 28 (.load 1 false (.t 27)),oN 9 (oV 28)]) (.reg false 2 [oK 29 2 (oV 7),oK 30 2 (oV 0),oK 31 2 (oV 6),oK 32 2 (oV 9),oK 33 2 (.call 277 [(.t 30),(.t 31),(.t 32)]),oN 34 (.mkSl 3 [.bool false,.nils,.nils] 1 [(0,(.t 33))]),oK 35 1 (.app 3 56 (.t 29) (.t 34)),oK 7 2 (oV 35)]))) (.reg false 0 [oN 36 (.bin .add (.t 25) (cI 1)),oN 25 (oV 36)]))))))) (.seq (.seq (.reg false 0 [oN 37 (oV 7),oN 38 (.call 244 [(.t 37)]),oN 39 (.un .not (.t 38))]) (.cond (.t 39) (.seq (.reg false 0 [oN 2 (.mov (.c (.nils)))]) .ret) .skip)) (.reg false 2 [oK 40 2 (oV 4),oK 41 2 (oV 7),oN 42 (.mkSl 1 [.nils] 1 [(0,(.t 41))]),oK 43 1 (.app 1 24 (.t 40) (.t 42)),oK 4 2 (oV 43)])))))) (.reg false 0 [oN 44 (.bin .add (.t 18) (cI 1)),oN 18 (oV 44)]))))))) (.seq (.reg false 0 [oN 45 (oV 4),oN 2 (oV 45)]) .ret))))))⟩
structure D_impl_InformationMatrix (T : Nat → Option Fn) : Prop where
 hT : T 275 = some F_impl_InformationMatrix
 d_impl_IsLinkSet : D_impl_IsLinkSet T
 d_impl_nodesOf : D_impl_nodesOf T
 d_impl_goodRow : D_impl_goodRow T
 d_impl_informationOf : D_impl_informationOf T
theorem rn_bigMake {T : Nat → Option Fn} (h : D_impl_bigMake T) {neg : Bool} {n : Nat} (hn : 0 < n) (hl : (mk n).length ≤ 60) :
  Run T (.fn 68 [.bool neg,.msl 0 0 (mk n).length] [some ⟨1,irows (mk n)⟩]) (.fn (.agg [.bool neg,.msl 0 0 (mk n).length]) [some ⟨1,irows (mk n)⟩]):=by
 obtain ⟨σ',hr,hold,hlen⟩:=rf_bigMake h (neg:=neg) (n:=n) (σ:=[some ⟨1,irows (mk n)⟩]) (o:=0) rfl hn hl
 have:=Run.gcF [0] (by simp) (fun i hi=>by
  have : i = 0:=by simpa using hi
  subst this;rfl) hr
 have e : gcS [0] σ' = [some ⟨1,irows (mk n)⟩]:=by
  have h0 : objAt σ' 0 = some ⟨1,irows (mk n)⟩:=hold 0 (by simp)
  simp [gcS,h0,mapO_ints]
 rw [e] at this
 simpa [mapV,mapV.mapL,place] using this
theorem OwnK_big {T : Nat → Option Fn} (h : D_impl_bigMake T) {as : List Src} {dst : Option Nat} {env : Nat → V} {σ : Store} {kp bs : Nat} {rs ms : List Nat} {k : List Nat → List Nat → Bool → St → Prop} {neg : Bool} {n o : Nat}
  (h0 : objAt σ o = some ⟨1,irows (mk n)⟩) (hn : 0 < n) (ha : (as.map fun s=>s.ev env) = [.bool neg,.msl o 0 (mk n).length]) (hl : (mk n).length ≤ 60)
  (hk : k [o] [] false ⟨updO env dst (.agg [.bool neg,.msl o 0 (mk n).length]),σ,kp,bs,rs,ms⟩) : OwnK T 68 as dst ⟨env,σ,kp,bs,rs,ms⟩ k:=by
 have e1 : gcS [o] σ = [some ⟨1,irows (mk n)⟩]:=by simp [gcS,h0,mapO_ints]
 have ha2 : (as.map fun s=>mapV (place [o]) (s.ev env)) = [.bool neg,.msl 0 0 (mk n).length]:=by
  have:=congrArg (List.map (mapV (place [o]))) ha
  rw [List.map_map] at this
  refine Eq.trans this ?_
  simp [mapV,place]
 refine OwnK_refN (ρ:=[o]) (by simp) (fun q hq=>⟨_,by simp at hq;subst hq;exact h0⟩) ha2 (r:=.agg [.bool neg,.msl 0 0 (mk n).length]) (by rw [e1];exact rn_bigMake h hn hl) (fun n=>by simp [mapV,mapV.mapL,back]) hk
theorem po_ratNegP {T : Nat → Option Fn} (h : D_impl_ratNeg T) {q : Rat} (ha : Q.ok (some q)) (hq : q.num ≠ 0) : PO T 161 [ratV (Q.raw (some q))] (ratV (Q.raw (negQ (some q)))):=by
 obtain ⟨l1,l2⟩:=q_bd ha
 have e : Q.raw (negQ (some q)) = ⟨!decide (q.num < 0),mk q.num.natAbs,mk q.den⟩:=by
  simp only [negQ,Q.raw,Rat.neg_num,Rat.neg_den,Int.natAbs_neg,R.mk.injEq,and_true]
  have e2 : sg (!decide (q.num < 0)) q.num.natAbs = -q.num:=by
   by_cases h1 : q.num < 0
   ·simp [sg,h1];omega
   ·simp [sg,h1];omega
  by_cases h1 : q.num < 0
  ·rw [decide_eq_true h1]
   simp [bi]
   omega
  ·rw [decide_eq_false h1]
   simp [bi]
   omega
 rw [e]
 refine po_end2 (fun x d=>x == 139 || x == 68) h.hT rfl rfl ?_
 dsimp only [F_impl_ratNeg,oN,oS,oG,oK,oA,oH,oV,cI,St.enter,List.length_cons,List.length_nil,Nat.zero_add]
 refine ew ?_
 refine PFK_of (c_goodS h.d_impl_good) ?_
 refine ew ?_
 have hmp:=ln_pos.2 (show 0 < q.num.natAbs by omega)
 refine OwnK_got0 (po_copyInts h.d_impl_copyInts (l:=mk q.num.natAbs) (by omega)) (by (refine ew ?_);rfl) rfl ?_
 intro v1 q1 o1 g1
 have k1:=g1.ow
 rcases k1.ints_inv with ⟨h1,_,_⟩ | ⟨o,rfl,h1,ho1⟩
 ·rw [h1] at hmp;simp at hmp
 have f1 : ∀ p ∈ o1,2 ≤ p:=g1.fresh
 have n1:=g1.nd
 have B0:=g1.at 0 (by simp) rfl
 have B1:=g1.at 1 (by simp) rfl
 have lq1 : 2 ≤ q1.length:=g1.len
 have old1:=g1.old
 clear g1
 refine ew ?_
 refine OwnK_big h.d_impl_bigMake (neg:=!decide (q.num < 0)) h1 (by omega) rfl (by omega) ?_
 refine ew3 @B0 @numK_any @or_sc ?_
 refine OwnK_got0 (po_copyInts h.d_impl_copyInts (l:=mk q.den) (by omega)) (by (refine ew ?_);rfl) rfl ?_
 intro v2 q2 o2 g2
 have k2:=g2.ow
 have l2':=k2.leaf rfl
 have f2 : ∀ p ∈ o2,q1.length ≤ p:=g2.fresh
 have n2:=g2.nd
 have B1':=g2.at 1 (by omega) B1
 have lq2 : q1.length ≤ q2.length:=g2.len
 have old2:=g2.old
 clear g2
 have h2q : 2 ≤ q2.length:=by omega
 have fc : v2.cells? = some [v2]:=by
  rcases k2.ints_inv with ⟨_,rfl,_⟩ | ⟨o',rfl,_,_⟩ <;> rfl
 have fc2:=fun k=>cells_lf (v:=v2) l2' k
 refine ew7 @B1' @l2' @h2q @numK_any @or_sc @fc @fc2 ?_
 refine ⟨by unfold OkA;rfl,?_⟩
 have k1lt:=k1.lt
 refine fin_of (owV_rat (o1:=o1) (o2:=o2) (k1.frame fun p hp=>?_) (k2.frame fun p hp=>?_)) ?_
 ·have:=f1 p hp
  rw [objAt_setne (by omega),old2 p (k1lt p hp)]
 ·have:=f2 p hp
  rw [objAt_setne (by omega)]
 ·rw [List.nodup_append]
  refine ⟨n1,n2,fun x hx y hy e=>?_⟩
  have:=k1lt x hx
  have:=f2 y hy
  omega
theorem po_ratNegR {T : Nat → Option Fn} (h : D_impl_ratNeg T) {r : R} (hr : r.cn) (hs : 0 < sgnR r) : PO T 161 [ratV r] (ratV (negR r)):=by
 cases hq : r.q with
 | none=>unfold sgnR at hs;rw [hq] at hs;simp [signQ] at hs
 |
  some q =>
  have ha : Q.ok (some q):=by rw [← hq];exact q_ok r
  have hn : q.num ≠ 0:=fun e=>by
   unfold sgnR at hs
   rw [hq] at hs
   simp [signQ,e,sgn] at hs
  have:=po_ratNegP h ha hn
  unfold negR
  rw [hq]
  rw [← hq,hr] at this
  rw [hq] at this
  exact this
def imStep (v u : Int) (s : R) (l : Lk) : R :=
 if (l.a = v ∧ l.b = u) ∨ (l.a = u ∧ l.b = v) then negR l.w
 else if v = u ∧ (l.a = v ∨ l.b = v) then addR s l.w else s
def imP (s : List Lk) (v u : Int) : Nat → R
 | 0=>intR 0
 | k + 1=>imStep v u (imP s v u k) (s.getD k default)
theorem imP_cn (s : List Lk) (v u : Int) : ∀ k,(imP s v u k).cn
 | 0=>intR_cn (by decide)
 |
  k + 1=>by
  have:=imP_cn s v u k
  simp only [imP]
  unfold imStep
  split
  ·exact negR_cn _
  ·split
   ·exact addR_cn _ _
   ·exact this
def imR (s : List Lk) (v : Int) (j : Nat) : List R:=((nodesM s).take j).map fun u=>imP s v u s.length
def imM (s : List Lk) (i : Nat) : List (List R):=((nodesM s).take i).map fun v=>imR s v (nodesM s).length
theorem imR_s {s : List Lk} {v : Int} {j : Nat} (h : j < (nodesM s).length) : imR s v (j + 1) = imR s v j ++ [imP s v ((nodesM s).getD j default) s.length]:=by
 unfold imR;rw [take_snoc h,List.map_append];rfl
theorem imM_s {s : List Lk} {i : Nat} (h : i < (nodesM s).length) : imM s (i + 1) = imM s i ++ [imR s ((nodesM s).getD i default) (nodesM s).length]:=by
 unfold imM;rw [take_snoc h,List.map_append];rfl
theorem imR_len {s : List Lk} {v : Int} {j : Nat} (h : j ≤ (nodesM s).length) : (imR s v j).length = j:=by unfold imR;rw [List.length_map,List.length_take];omega
theorem imM_len {s : List Lk} {i : Nat} (h : i ≤ (nodesM s).length) : (imM s i).length = i:=by unfold imM;rw [List.length_map,List.length_take];omega
theorem imR_cn (s : List Lk) (v : Int) (j : Nat) : ∀ r ∈ imR s v j,r.cn:=fun r hr=>by
 obtain ⟨u,_,rfl⟩:=List.mem_map.1 hr;exact imP_cn _ _ _ _
def imG (s : List Lk) : Bool:=lksOk s && (imM s (nodesM s).length).all fun r=>r.all R.ok
def imV (s : List Lk) : List (List R):=if imG s = true then imM s (nodesM s).length else []
theorem imV_bad {s : List Lk} (h : imG s = false) : imV s = []:=by unfold imV;rw [h];rfl
theorem imV_good {s : List Lk} (h : imG s = true) : imV s = imM s (nodesM s).length:=if_pos h
theorem imG_l {s : List Lk} (h : lksOk s = false) : imG s = false:=by unfold imG;rw [h];rfl
theorem imG_row {s : List Lk} {i : Nat} (hi : i < (nodesM s).length) (h : (imR s ((nodesM s).getD i default) (nodesM s).length).all R.ok = false) : imG s = false:=by
 unfold imG
 rw [List.all_eq_false.2 ⟨imR s ((nodesM s).getD i default) (nodesM s).length,by unfold imM;rw [List.take_length];exact List.mem_map.2 ⟨_,getD_mem hi,rfl⟩,by rw [h];simp⟩,Bool.and_false]
theorem imG_all {s : List Lk} (hb : lksOk s = true) (h : ∀ i,i < (nodesM s).length → (imR s ((nodesM s).getD i default) (nodesM s).length).all R.ok = true) : imG s = true:=by
 unfold imG
 rw [hb,Bool.true_and,List.all_eq_true]
 intro r hr
 unfold imM at hr
 rw [List.take_length] at hr
 obtain ⟨v,hv,rfl⟩:=List.mem_map.1 hr
 obtain ⟨i,hi⟩:=List.mem_iff_getElem?.1 hv
 have hil:=(List.getElem?_eq_some_iff.1 hi).1
 have:=h i hil
 rwa [List.getD_eq_getElem?_getD,hi] at this
theorem imM_ok (s : List Lk) : ∀ r ∈ imM s (nodesM s).length,(∀ x ∈ r,x.cn) ∧ r.length = (nodesM s).length:=fun r hr=>by
 obtain ⟨v,_,rfl⟩:=List.mem_map.1 hr
 exact ⟨imR_cn _ _ _,imR_len (Nat.le_refl _)⟩
theorem imV_ok (s : List Lk) : szL (szL R.sz) (imV s) ≤ 100000 ∧ wfL (wfL R.wf) (imV s):=by
 cases h : imG s
 ·rw [imV_bad h];exact ⟨by simp [szL],by simp [wfL]⟩
 ·rw [imV_good h]
  have hn:=nodesM_len s
  refine mat_ok (n:=10) (fun r hr=>⟨(imM_ok s r hr).1,by have:=(imM_ok s r hr).2;omega⟩) (by omega) (by rw [imM_len (Nat.le_refl _)];exact hn)
theorem subR_0 {w : R} (h : w.ok = true) : subR (intR 0) w = negR w:=by
 unfold subR negR
 rw [intR_q (by decide)]
 obtain ⟨q,h1,rfl⟩:=ok_raw h
 have hk : Q.ok (some q):=h1
 rw [q_raw hk]
 show (norm (((0 : Int) : Rat) + -q)).raw = (Q.raw (some (-q)))
 have e : ((0 : Int) : Rat) + -q = -q:=by
  rw [Rat.intCast_zero,Rat.zero_add]
 rw [e]
 unfold norm
 rw [if_pos (show fits (-q) = true from negQ_ok hk)]
def LAt (n : Nat) (v : V) (A : List (List V)) (M : List (Nat × Obj)) : Prop:=(A = [] ∧ v = .nils ∧ M = []) ∨ ∃ p,v = .msl p 0 A.length ∧ M = [(p,⟨n,A⟩)]
def tO (l : List (List R)) : List V:=(l.map fun r=>[ratsV r]).flatten
theorem tO_app (l : List (List R)) (r : List R) : tO (l ++ [r]) = tO l ++ [ratsV r]:=by simp [tO]
theorem flat1k : ∀ {A : List (List V)},(∀ r ∈ A,r.length = 1) → A.flatten.length = A.length
 | [],_=>rfl
 |
  a :: A,h=>by
  rw [List.flatten_cons,List.length_append,flat1k fun r hr=>h r (by simp [hr]),h a (by simp),List.length_cons];omega
theorem tO_len (l : List (List R)) : (tO l).length = l.length:=by
 unfold tO
 rw [flat1k (fun r hr=>by obtain ⟨x,_,rfl⟩:=List.mem_map.1 hr;rfl),List.length_map]
theorem mm_rows {n : Nat} {A : List (List V)} {r : List V} (h : ∀ r ∈ A,r.length = n) (hr : r.length = n) : ∀ x ∈ A ++ [r],x.length = n:=fun x hx=>by
 rcases List.mem_append.1 hx with hx | hx
 ·exact h x hx
 ·rw [List.mem_singleton.1 hx];exact hr
def zrow (x : Nat × List R) : List V:=[.msl x.1 0 x.2.length]
def MatA (s : Store) (v : V) (Z : List (Nat × List R)) : Prop:=((Z = [] ∧ v = .nils) ∨ ∃ q,v = .msl q 0 Z.length ∧ objAt s q = some ⟨1,Z.map zrow⟩) ∧ ∀ x ∈ Z,objAt s x.1 = some ⟨3,x.2.map R.cells⟩
theorem MatA.fr {s s2 : Store} {v : V} {Z : List (Nat × List R)} (h : MatA s v Z) (hf : ∀ p,p < s.length → objAt s2 p = objAt s p) : MatA s2 v Z :=
 ⟨h.1.imp id fun ⟨q,e,hq⟩=>⟨q,e,(hf q (objAt_lt hq)).trans hq⟩,fun x hx=>(hf _ (objAt_lt (h.2 x hx))).trans (h.2 x hx)⟩
theorem MatA.map {s : Store} {m : Nat} : ∀ {Z : List (Nat × List R)},(∀ x ∈ Z,objAt s x.1 = some ⟨3,x.2.map R.cells⟩) → ((Z.map zrow).mapM fun r=>r.mapM (resolve s (m + 2))) = some ((Z.map (·.2)).map fun r=>[ratsV r])
 | [],_=>rfl
 |
  x :: Z,h=>by
  have hx:=h x (by simp)
  have e : resolve s (m + 2) (.msl x.1 0 x.2.length) = some (ratsV x.2):=by
   have h2:=st_R x.2
   unfold resolve
   simp only [hx]
   rw [if_pos (by simp),List.drop_zero,List.take_of_length_le (by simp),mapM_stillR (n:=m) h2]
   rfl
  have ih:=MatA.map (m:=m) (Z:=Z) fun y hy=>h y (by simp [hy])
  rw [List.map_cons,List.mapM_cons,ih]
  have : (zrow x).mapM (resolve s (m + 2)) = some [ratsV x.2]:=by
   unfold zrow
   rw [List.mapM_cons,e]
   rfl
  rw [this]
  rfl
theorem MatA.res {s : Store} {q : Nat} {Z : List (Nat × List R)} (h : ∀ x ∈ Z,objAt s x.1 = some ⟨3,x.2.map R.cells⟩) (hq : objAt s q = some ⟨1,Z.map zrow⟩) : resolve s FD (.msl q 0 Z.length) = some (ratssV (Z.map (·.2))):=by
 show resolve s (9 + 2 + 1) _ = _
 unfold resolve
 simp only [hq]
 rw [if_pos (by simp),List.drop_zero,List.take_of_length_le (by simp),MatA.map h]
 rfl
def RowN (s : Store) (n0 : Nat) (v : V) (L : List R) : Prop:=(L = [] ∧ v = .nils) ∨ ∃ p,v = .msl p 0 L.length ∧ n0 ≤ p ∧ objAt s p = some ⟨3,L.map R.cells⟩
theorem RowN.fr {s s2 : Store} {v : V} {n0 : Nat} {L : List R} (h : RowN s n0 v L) (hf : ∀ p,p < s.length → objAt s2 p = objAt s p) : RowN s2 n0 v L :=
 h.imp id fun ⟨q,e,hn,hq⟩=>⟨q,e,hn,(hf q (objAt_lt hq)).trans hq⟩
def F_spec_l09Copy : Fn:=⟨1,35,[.tmp 2],(.seq (.reg false 0 [oN 2 (.mov (.c (.nils)))]) (.seq (.reg false 1 [oN 9 (.mkSl 1 [.nils] 0 []),oK 3 1 (oV 9)]) (.seq (.seq (.reg false 0 [oN 10 (oV 0),oN 11 (.len (.t 10)),oN 12 (.mov (cI 0))]) (.block 0 (.loop (.seq (.reg false 0 [oN 13 (.bin .lss (.t 12) (.t 11))]) (.seq (.cond (.t 13) .skip (.exit 0)) (.seq (.block 1 (.seq (.reg false 0 [oN 14 (.idx 1 (.t 10) (.t 12)),oN 15 (.load 1 false (.t 14)),oN 5 (oV 15)]) (.seq (.reg false 1 [oN 16 (.mkSl 3 [.bool false,.nils,.nils] 0 []),oK 6 1 (oV 16)]) (.seq (.seq (.reg false 0 [oN 17 (oV 5),oN 18 (.len (.t 17)),oN 19 (.mov (cI 0))]) (.block 2 (.loop (.seq (.reg false 0 [oN 20 (.bin .lss (.t 19) (.t 18))]) (.seq (.cond (.t 20) .skip (.exit 2)) (.seq (.block 3 (.seq (.reg false 1 [oK 21 1 (.idx 3 (.t 17) (.t 19)),oK 22 1 (.load 3 true (.t 21)),oN 8 (.alloc [.bool false,.nils,.nils]),⟨none,none,1,.store 3 (.t 8) (.t 22),[]⟩]) (.reg false 2 [oK 23 2 (oV 6),oK 24 2 (.load 3 true (.t 8)),oK 25 2 (.call 204 [(.t 24)]),oN 26 (.mkSl 3 [.bool false,.nils,.nils] 1 [(0,(.t 25))]),oK 27 1 (.app 3 56 (.t 23) (.t 26)),oK 6 2 (oV 27)]))) (.reg false 0 [oN 28 (.bin .add (.t 19) (cI 1)),oN 19 (oV 28)]))))))) (.reg false 2 [oK 29 2 (oV 3),oK 30 2 (oV 6),oN 31 (.mkSl 1 [.nils] 1 [(0,(.t 30))]),oK 32 1 (.app 1 24 (.t 29) (.t 31)),oK 3 2 (oV 32)]))))) (.reg false 0 [oN 33 (.bin .add (.t 12) (cI 1)),oN 12 (oV 33)]))))))) (.seq (.reg false 0 [oN 34 (oV 3),oN 2 (oV 34)]) .ret))))⟩
structure D_spec_l09Copy (T : Nat → Option Fn) : Prop where
 hT : T 325 = some F_spec_l09Copy
 d_spec_l04Copy : D_spec_l04Copy T
def F_spec_ReduceRows : Fn:=⟨2,154,[.tmp 4,.tmp 5],(.seq (.reg false 0 [oN 4 (.mov (.c (.nils))),oN 5 (.mov (.c (.bool false)))]) (.seq (.seq (.reg false 0 [oN 15 (oV 0),oN 16 (oV 1),oN 17 (.call 91 [(.t 15),(.t 16)]),oN 18 (.un .not (.t 17)),oN 19 (oV 18),oG 19 false 20 (oV 1),oG 19 false 21 (oV 0),oG 19 false 22 (.len (.t 21)),oG 19 false 23 (.bin .lss (.t 20) (.t 22)),oN 24 (.pick (.t 19) (.c (.bool true)) (.t 23))]) (.cond (.t 24) (.seq (.reg false 0 [oN 4 (.mov (.c (.nils))),oN 5 (.mov (.c (.bool false)))]) .ret) .skip)) (.seq (.reg false 0 [oN 25 (oV 0),oN 26 (.call 325 [(.t 25)]),oN 6 (oV 26)]) (.seq (.seq (.reg false 0 [oN 27 (oV 6),oN 28 (.len (.t 27)),oN 29 (.mov (cI 0))]) (.block 0 (.loop (.seq (.reg false 0 [oN 30 (.bin .lss (.t 29) (.t 28))]) (.seq (.cond (.t 30) .skip (.exit 0)) (.seq (.block 1 (.seq (.reg false 0 [oN 31 (oV 29),oN 7 (oV 31)]) (.seq (.reg false 0 [oN 32 (oV 7),oN 8 (oV 32)]) (.seq (.block 2 (.loop (.seq (.seq (.reg false 0 [oN 33 (oV 8),oN 34 (oV 6),oN 35 (.len (.t 34)),oN 36 (.bin .lss (.t 33) (.t 35)),oN 37 (oV 36),oG 37 true 38 (oV 6),oG 37 true 39 (oV 8),oG 37 true 40 (.idx 1 (.t 38) (.t 39)),oG 37 true 41 (.load 1 false (.t 40)),oG 37 true 42 (oV 7),oG 37 true 43 (.idx 3 (.t 41) (.t 42)),oG 37 true 44 (.load 3 true (.t 43)),oG 37 true 45 (.call 99 [(.t 44)]),oG 37 true 46 (.bin .eql (.t 45) (cI 0)),oN 47 (.pick (.t 37) (.t 46) (.c (.bool false)))]) (.cond (.t 47) .skip (.exit 2))) (.block 3 (.reg false 0 [oN 48 (oV 8),oN 49 (.bin .add (.t 48) (cI 1)),oN 8 (oV 49)]))))) (.seq (.seq (.reg false 0 [oN 50 (oV 8),oN 51 (oV 6),oN 52 (.len (.t 51)),oN 53 (.bin .eql (.t 50) (.t 52))]) (.cond (.t 53) (.seq (.reg false 0 [oN 4 (.mov (.c (.nils))),oN 5 (.mov (.c (.bool false)))]) .ret) .skip)) (.seq (.reg false 0 [oN 54 (oV 6),oN 55 (oV 7),oN 56 (.idx 1 (.t 54) (.t 55)),oN 57 (.load 1 false (.t 56)),oN 9 (oV 57)]) (.seq (.reg false 0 [oN 58 (oV 6),oN 59 (oV 7),oN 60 (oV 6),oN 61 (oV 8),oN 62 (.idx 1 (.t 60) (.t 61)),oN 63 (.load 1 false (.t 62)),oN 64 (.idx 1 (.t 58) (.t 59)),oS (.store 1 (.t 64) (.t 63))]) (.seq (.reg false 0 [oN 65 (oV 6),oN 66 (oV 8),oN 67 (oV 9),oN 68 (.idx 1 (.t 65) (.t 66)),oS (.store 1 (.t 68) (.t 67))]) (.seq (.reg false 1 [oK 69 1 (oV 6),oK 70 1 (oV 7),oK 71 1 (.idx 1 (.t 69) (.t 70)),oK 72 1 (.load 1 false (.t 71)),oK 73 1 (oV 7),oK 74 1 (.idx 3 (.t 72) (.t 73)),oK 75 1 (.load 3 true (.t 74)),oN 10 (.alloc [.bool false,.nils,.nils]),⟨none,none,1,.store 3 (.t 10) (.t 75),[]⟩]) (.seq (.seq (.reg false 0 [oN 76 (oV 6),oN 77 (oV 7),oN 78 (.idx 1 (.t 76) (.t 77)),oN 79 (.load 1 false (.t 78)),oN 80 (.len (.t 79)),oN 81 (.mov (cI 0))]) (.block 4 (.loop (.seq (.reg false 0 [oN 82 (.bin .lss (.t 81) (.t 80))]) (.seq (.cond (.t 82) .skip (.exit 4)) (.seq (.block 5 (.seq (.reg false 0 [oN 83 (oV 81),oN 11 (oV 83)]) (.reg true 0 [oN 84 (oV 6),oN 85 (oV 7),oA 86 0 (.idx 1 (.t 84) (.t 85)) [0,1],oA 87 0 (.load 1 false (.t 86)) [2],oN 88 (oV 11),oN 89 (oV 6),oN 90 (oV 7),oA 91 0 (.idx 1 (.t 89) (.t 90)) [5,6],oA 92 0 (.load 1 false (.t 91)) [7],oN 93 (oV 11),oA 94 0 (.idx 3 (.t 92) (.t 93)) [8,9],oA 95 0 (.load 3 true (.t 94)) [10],oN 96 (.load 3 true (.t 10)),oA 97 0 (.call 200 [(.t 95),(.t 96)]) [11,12],oA 98 0 (.idx 3 (.t 87) (.t 88)) [3,4,0,1,2,3,4,5,6,7,8,9,10,11,12,13],⟨none,none,0,.store 3 (.t 98) (.t 97),[14,13,13,0,1,2,3,4,5,6,7,8,9,10,11,12,13]⟩]))) (.reg false 0 [oN 99 (.bin .add (.t 81) (cI 1)),oN 81 (oV 99)]))))))) (.seq (.seq (.reg false 0 [oN 100 (oV 6),oN 101 (.len (.t 100)),oN 102 (.mov (cI 0))]) (.block 6 (.loop (.seq (.reg false 0 [oN 103 (.bin .lss (.t 102) (.t 101))]) (.seq (.cond (.t 103) .skip (.exit 6)) (.seq (.block 7 (.seq (.reg false 0 [oN 104 (oV 102),oN 12 (oV 104)]) (.seq (.reg false 1 [oK 105 1 (oV 6),oK 106 1 (oV 12),oK 107 1 (.idx 1 (.t 105) (.t 106)),oK 108 1 (.load 1 false (.t 107)),oK 109 1 (oV 7),oK 110 1 (.idx 3 (.t 108) (.t 109)),oK 111 1 (.load 3 true (.t 110)),oN 13 (.alloc [.bool false,.nils,.nils]),⟨none,none,1,.store 3 (.t 13) (.t 111),[]⟩]) (.seq (.reg false 0 [oN 112 (oV 6),oN 113 (oV 12),oN 114 (.idx 1 (.t 112) (.t 113)),oN 115 (.load 1 false (.t 114)),oN 116 (.len (.t 115)),oN 117 (.mov (cI 0))]) (.block 8 (.loop (.seq (.reg false 0 [oN 118 (.bin .lss (.t 117) (.t 116))]) (.seq (.cond (.t 118) .skip (.exit 8)) (.seq (.block 9 (.seq (.reg false 0 [oN 119 (oV 117),oN 14 (oV 119)]) (.seq (.reg false 0 [oN 120 (oV 12),oN 121 (oV 7),oN 122 (.bin .neq (.t 120) (.t 121))]) (.cond (.t 122) (.reg true 0 [oN 123 (oV 6),oN 124 (oV 12),oA 125 0 (.idx 1 (.t 123) (.t 124)) [0,1],oA 126 0 (.load 1 false (.t 125)) [2],oN 127 (oV 14),oN 128 (oV 6),oN 129 (oV 12),oA 130 0 (.idx 1 (.t 128) (.t 129)) [5,6],oA 131 0 (.load 1 false (.t 130)) [7],oN 132 (oV 14),oA 133 0 (.idx 3 (.t 131) (.t 132)) [8,9],oA 134 0 (.load 3 true (.t 133)) [10],oN 135 (.load 3 true (.t 13)),oN 136 (oV 6),oN 137 (oV 7),oA 138 0 (.idx 1 (.t 136) (.t 137)) [13,14],oA 139 0 (.load 1 false (.t 138)) [15],oN 140 (oV 14),oA 141 0 (.idx 3 (.t 139) (.t 140)) [16,17],oA 142 0 (.load 3 true (.t 141)) [18],oA 143 0 (.call 201 [(.t 135),(.t 142)]) [12,19],oA 144 0 (.call 203 [(.t 134),(.t 143)]) [11,20,20],oA 145 0 (.idx 3 (.t 126) (.t 127)) [3,4,0,1,2,3,4,5,6,7,8,9,10,11,12,13,14,15,16,17,18,19,20,21],⟨none,none,0,.store 3 (.t 145) (.t 144),[22,21,21,0,1,2,3,4,5,6,7,8,9,10,11,12,13,14,15,16,17,18,19,20,21]⟩]) .skip)))) (.reg false 0 [oN 146 (.bin .add (.t 117) (cI 1)),oN 117 (oV 146)])))))))))) (.reg false 0 [oN 147 (.bin .add (.t 102) (cI 1)),oN 102 (oV 147)]))))))) (.seq (.reg false 0 [oN 148 (oV 6),oN 149 (oV 1),oN 150 (.call 91 [(.t 148),(.t 149)]),oN 151 (.un .not (.t 150))]) (.cond (.t 151) (.seq (.reg false 0 [oN 4 (.mov (.c (.nils))),oN 5 (.mov (.c (.bool false)))]) .ret) .skip))))))))))))) (.reg false 0 [oN 152 (.bin .add (.t 29) (cI 1)),oN 29 (oV 152)]))))))) (.seq (.reg false 0 [oN 153 (oV 6),oN 4 (oV 153),oN 5 (.mov (.c (.bool true)))]) .ret)))))⟩
structure D_spec_ReduceRows (T : Nat → Option Fn) : Prop where
 hT : T 310 = some F_spec_ReduceRows
 d_spec_IsMatrix : D_spec_IsMatrix T
 d_spec_RatSign : D_spec_RatSign T
 d_spec_RatDiv : D_spec_RatDiv T
 d_spec_RatMul : D_spec_RatMul T
 d_spec_RatSub : D_spec_RatSub T
 d_spec_l09Copy : D_spec_l09Copy T
def F_impl_subtractRow : Fn:=⟨3,30,[.tmp 6],(.seq (.reg false 1 [oN 5 (.box (.t 2)),oK 6 1 (.mov (.c (.bool false)))]) (.seq (.seq (.reg false 0 [oN 8 (oV 0),oN 9 (.len (.t 8)),oN 10 (.mov (cI 0))]) (.block 0 (.loop (.seq (.reg false 0 [oN 11 (.bin .lss (.t 10) (.t 9))]) (.seq (.cond (.t 11) .skip (.exit 0)) (.seq (.block 1 (.seq (.reg false 0 [oN 12 (oV 10),oN 7 (oV 12)]) (.reg true 0 [oN 13 (oV 0),oN 14 (oV 7),oN 15 (oV 0),oN 16 (oV 7),oA 17 0 (.idx 3 (.t 15) (.t 16)) [2,3],oA 18 0 (.load 3 true (.t 17)) [4],oN 19 (oV 1),oN 20 (oV 7),oA 21 0 (.idx 3 (.t 19) (.t 20)) [6,7],oA 22 0 (.load 3 true (.t 21)) [8],oN 23 (.load 3 true (.t 5)),oA 24 0 (.call 157 [(.t 22),(.t 23)]) [9,10],oA 25 0 (.call 159 [(.t 18),(.t 24)]) [5,11,11],oA 26 0 (.idx 3 (.t 13) (.t 14)) [0,1,0,1,2,3,4,5,6,7,8,9,10,11,12],⟨none,none,0,.store 3 (.t 26) (.t 25),[13,12,12,0,1,2,3,4,5,6,7,8,9,10,11,12]⟩]))) (.reg false 0 [oN 27 (.bin .add (.t 10) (cI 1)),oN 10 (oV 27)]))))))) (.seq (.reg false 0 [oN 28 (oV 0),oN 29 (.call 244 [(.t 28)]),oN 6 (oV 29)]) .ret)))⟩
structure D_impl_subtractRow (T : Nat → Option Fn) : Prop where
 hT : T 245 = some F_impl_subtractRow
 d_impl_ratMul : D_impl_ratMul T
 d_impl_ratSub : D_impl_ratSub T
 d_impl_goodRow : D_impl_goodRow T
def F_impl_ReduceRows : Fn:=⟨2,145,[.tmp 4,.tmp 5],(.seq (.reg false 0 [oN 4 (.mov (.c (.nils))),oN 5 (.mov (.c (.bool false)))]) (.seq (.reg false 0 [oN 15 (oV 0),oN 16 (.len (.t 15)),oN 6 (oV 16)]) (.seq (.seq (.reg false 0 [oN 17 (oV 0),oN 18 (oV 1),oN 19 (.call 93 [(.t 17),(.t 18)]),oN 20 (.un .not (.t 19)),oN 21 (oV 20),oG 21 false 22 (oV 1),oG 21 false 23 (oV 6),oG 21 false 24 (.bin .lss (.t 22) (.t 23)),oN 25 (.pick (.t 21) (.c (.bool true)) (.t 24))]) (.cond (.t 25) (.seq (.reg false 0 [oN 4 (.mov (.c (.nils))),oN 5 (.mov (.c (.bool false)))]) .ret) .skip)) (.seq (.reg false 1 [oN 26 (.mkSl 1 [.nils] 0 []),oK 7 1 (oV 26)]) (.seq (.seq (.reg false 0 [oN 27 (oV 0),oN 28 (.len (.t 27)),oN 29 (.mov (cI 0))]) (.block 0 (.loop (.seq (.reg false 0 [oN 30 (.bin .lss (.t 29) (.t 28))]) (.seq (.cond (.t 30) .skip (.exit 0)) (.seq (.block 1 (.seq (.reg false 0 [oN 31 (.idx 1 (.t 27) (.t 29)),oN 32 (.load 1 false (.t 31)),oN 9 (oV 32)]) (.reg false 4 [oK 33 4 (oV 7),oN 34 (.mkSl 3 [.bool false,.nils,.nils] 0 []),oK 35 4 (oV 9),oK 36 1 (.app 3 56 (.t 34) (.t 35)),oK 37 2 (.mkSl 1 [.nils] 1 [(0,(.t 36))]),oK 38 3 (.app 1 24 (.t 33) (.t 37)),oK 7 4 (oV 38)]))) (.reg false 0 [oN 39 (.bin .add (.t 29) (cI 1)),oN 29 (oV 39)]))))))) (.seq (.seq (.reg false 0 [oN 10 (.mov (cI 0))]) (.block 2 (.loop (.seq (.seq (.reg false 0 [oN 40 (oV 10),oN 41 (oV 6),oN 42 (.bin .lss (.t 40) (.t 41))]) (.cond (.t 42) .skip (.exit 2))) (.seq (.block 3 (.seq (.reg false 0 [oN 45 (oV 10),oN 11 (oV 45)]) (.seq (.block 4 (.loop (.seq (.seq (.reg false 0 [oN 46 (oV 11),oN 47 (oV 6),oN 48 (.bin .lss (.t 46) (.t 47)),oN 49 (oV 48),oG 49 true 50 (oV 7),oG 49 true 51 (oV 11),oG 49 true 52 (.idx 1 (.t 50) (.t 51)),oG 49 true 53 (.load 1 false (.t 52)),oG 49 true 54 (oV 10),oG 49 true 55 (.idx 3 (.t 53) (.t 54)),oG 49 true 56 (.load 3 true (.t 55)),oG 49 true 57 (.call 124 [(.t 56)]),oG 49 true 58 (.bin .eql (.t 57) (cI 0)),oN 59 (.pick (.t 49) (.t 58) (.c (.bool false)))]) (.cond (.t 59) .skip (.exit 4))) (.block 5 (.reg false 0 [oN 60 (oV 11),oN 61 (.bin .add (.t 60) (cI 1)),oN 11 (oV 61)]))))) (.seq (.seq (.reg false 0 [oN 62 (oV 11),oN 63 (oV 6),oN 64 (.bin .eql (.t 62) (.t 63))]) (.cond (.t 64) (.seq (.reg false 0 [oN 4 (.mov (.c (.nils))),oN 5 (.mov (.c (.bool false)))]) .ret) .skip)) (.seq (.reg true 0 [oN 65 (oV 7),oN 66 (oV 10),oN 67 (oV 7),oN 68 (oV 11),oN 69 (oV 7),oN 70 (oV 11),oA 71 0 (.idx 1 (.t 69) (.t 70)) [4,5],oA 72 0 (.load 1 false (.t 71)) [6],oN 73 (oV 7),oN 74 (oV 10),oA 75 0 (.idx 1 (.t 73) (.t 74)) [8,9],oA 76 0 (.load 1 false (.t 75)) [10],oA 77 0 (.idx 1 (.t 65) (.t 66)) [0,1,0,1,4,5,6,7,11],⟨none,none,0,.store 1 (.t 77) (.t 72),[12,7,0,1,4,5,6,7,11]⟩,oA 78 0 (.idx 1 (.t 67) (.t 68)) [2,3,0,1,2,3,4,5,6,7,8,9,10,11,12,13],⟨none,none,0,.store 1 (.t 78) (.t 76),[14,11,13,0,1,2,3,4,5,6,7,8,9,10,11,12,13]⟩]) (.seq (.reg false 1 [oK 79 1 (oV 7),oK 80 1 (oV 10),oK 81 1 (.idx 1 (.t 79) (.t 80)),oK 82 1 (.load 1 false (.t 81)),oK 83 1 (oV 10),oK 84 1 (.idx 3 (.t 82) (.t 83)),oK 85 1 (.load 3 true (.t 84)),oN 12 (.alloc [.bool false,.nils,.nils]),⟨none,none,1,.store 3 (.t 12) (.t 85),[]⟩]) (.seq (.seq (.reg false 0 [oN 86 (oV 7),oN 87 (oV 10),oN 88 (.idx 1 (.t 86) (.t 87)),oN 89 (.load 1 false (.t 88)),oN 90 (.len (.t 89)),oN 91 (.mov (cI 0))]) (.block 6 (.loop (.seq (.reg false 0 [oN 92 (.bin .lss (.t 91) (.t 90))]) (.seq (.cond (.t 92) .skip (.exit 6)) (.seq (.block 7 (.seq (.reg false 0 [oN 93 (oV 91),oN 13 (oV 93)]) (.reg true 0 [oN 94 (oV 7),oN 95 (oV 10),oA 96 0 (.idx 1 (.t 94) (.t 95)) [0,1],oA 97 0 (.load 1 false (.t 96)) [2],oN 98 (oV 13),oN 99 (oV 7),oN 100 (oV 10),oA 101 0 (.idx 1 (.t 99) (.t 100)) [5,6],oA 102 0 (.load 1 false (.t 101)) [7],oN 103 (oV 13),oA 104 0 (.idx 3 (.t 102) (.t 103)) [8,9],oA 105 0 (.load 3 true (.t 104)) [10],oN 106 (.load 3 true (.t 12)),oA 107 0 (.call 156 [(.t 105),(.t 106)]) [11,12],oA 108 0 (.idx 3 (.t 97) (.t 98)) [3,4,0,1,2,3,4,5,6,7,8,9,10,11,12,13],⟨none,none,0,.store 3 (.t 108) (.t 107),[14,13,13,0,1,2,3,4,5,6,7,8,9,10,11,12,13]⟩]))) (.reg false 0 [oN 109 (.bin .add (.t 91) (cI 1)),oN 91 (oV 109)]))))))) (.seq (.seq (.reg false 0 [oN 110 (oV 7),oN 111 (oV 10),oN 112 (.idx 1 (.t 110) (.t 111)),oN 113 (.load 1 false (.t 112)),oN 114 (.call 244 [(.t 113)]),oN 115 (.un .not (.t 114))]) (.cond (.t 115) (.seq (.reg false 0 [oN 4 (.mov (.c (.nils))),oN 5 (.mov (.c (.bool false)))]) .ret) .skip)) (.seq (.reg false 0 [oN 116 (oV 7),oN 117 (.len (.t 116)),oN 118 (.mov (cI 0))]) (.block 8 (.loop (.seq (.reg false 0 [oN 119 (.bin .lss (.t 118) (.t 117))]) (.seq (.cond (.t 119) .skip (.exit 8)) (.seq (.block 9 (.seq (.reg false 0 [oN 120 (oV 118),oN 14 (oV 120)]) (.seq (.reg true 0 [oN 121 (oV 14),oN 122 (oV 10),oA 123 0 (.bin .neq (.t 121) (.t 122)) [0,1],oA 124 0 (oV 123) [2],oH 124 true 125 0 (oV 7) [3],oH 124 true 126 0 (oV 14) [3],oH 124 true 127 0 (.idx 1 (.t 125) (.t 126)) [4,5,3],oH 124 true 128 0 (.load 1 false (.t 127)) [6,3],oH 124 true 129 0 (oV 7) [3],oH 124 true 130 0 (oV 10) [3],oH 124 true 131 0 (.idx 1 (.t 129) (.t 130)) [8,9,3],oH 124 true 132 0 (.load 1 false (.t 131)) [10,3],oH 124 true 133 0 (oV 7) [3],oH 124 true 134 0 (oV 14) [3],oH 124 true 135 0 (.idx 1 (.t 133) (.t 134)) [12,13,3],oH 124 true 136 0 (.load 1 false (.t 135)) [14,3],oH 124 true 137 0 (oV 10) [3],oH 124 true 138 0 (.idx 3 (.t 136) (.t 137)) [15,16,3],oH 124 true 139 0 (.load 3 true (.t 138)) [17,3],oH 124 true 140 0 (.call 245 [(.t 128),(.t 132),(.t 139)]) [7,11,18,3,3],oH 124 true 141 0 (.un .not (.t 140)) [19,3],oA 142 0 (.pick (.t 124) (.t 141) (.c (.bool false))) [3,20]]) (.cond (.t 142) (.seq (.reg false 0 [oN 4 (.mov (.c (.nils))),oN 5 (.mov (.c (.bool false)))]) .ret) .skip)))) (.reg false 0 [oN 143 (.bin .add (.t 118) (cI 1)),oN 118 (oV 143)]))))))))))))))) (.reg false 0 [oN 43 (oV 10),oN 44 (.bin .add (.t 43) (cI 1)),oN 10 (oV 44)])))))) (.seq (.reg false 0 [oN 144 (oV 7),oN 4 (oV 144),oN 5 (.mov (.c (.bool true)))]) .ret)))))))⟩
structure D_impl_ReduceRows (T : Nat → Option Fn) : Prop where
 hT : T 243 = some F_impl_ReduceRows
 d_impl_IsMatrix : D_impl_IsMatrix T
 d_impl_ratSign : D_impl_ratSign T
 d_impl_ratDiv : D_impl_ratDiv T
 d_impl_goodRow : D_impl_goodRow T
 d_impl_subtractRow : D_impl_subtractRow T
abbrev MF:=Nat → List R
def elF (M : MF) (i j : Nat) : R:=(M i).getD j default
def rrP (M : MF) (k : Nat) : Nat → Nat → Nat
 | 0,p=>p
 | f + 1,p=>if sgnR (elF M p k) = 0 then rrP M k f (p + 1) else p
def rrPv (n : Nat) (M : MF) (k : Nat) : Nat:=rrP M k (n - k) k
theorem rrP_z {M : MF} {k n p : Nat} (h : p < n) (hz : sgnR (elF M p k) = 0) : rrP M k (n - p) p = rrP M k (n - (p + 1)) (p + 1):=by
 rw [show n - p = (n - (p + 1)) + 1 by omega];exact if_pos hz
theorem rrP_n {M : MF} {k n p : Nat} (h : p < n) (hz : ¬ sgnR (elF M p k) = 0) : rrP M k (n - p) p = p:=by
 rw [show n - p = (n - (p + 1)) + 1 by omega];exact if_neg hz
def rrSwap (M : MF) (k p : Nat) : MF:=fun i=>if i = p then M k else if i = k then M p else M i
def rrDiv (r : List R) (k : Nat) : List R:=r.map fun x=>divR x (r.getD k default)
def rrSub (r b : List R) (f : R) : List R:=(List.range r.length).map fun j=>subR (r.getD j default) (mulR (b.getD j default) f)
def rrOne (n : Nat) (M : MF) (k : Nat) : MF:=rrSwap M k (rrPv n M k)
def rrTwo (n : Nat) (M : MF) (k : Nat) : MF:=fun i=>if i = k then rrDiv (rrOne n M k k) k else rrOne n M k i
def rrTri (M : MF) (k : Nat) : MF:=fun i=>if i = k then M k else rrSub (M i) (M k) (elF M i k)
def rrMix (M : MF) (k i0 : Nat) : MF:=fun i=>if i < i0 then rrTri M k i else M i
def allOk (n : Nat) (M : MF) : Bool:=allB n fun i=>(M i).all R.ok
def rrStep (n : Nat) (M : MF) (k : Nat) : Option MF :=
 if (decide (rrPv n M k < n) && allOk n (rrTri (rrTwo n M k) k)) = true then some (rrTri (rrTwo n M k) k) else none
def rrIt (n : Nat) (m : MF) : Nat → Option MF
 | 0=>some m
 | k + 1=>(rrIt n m k).bind fun M=>rrStep n M k
theorem rrIt_none {n : Nat} {m : MF} {k : Nat} (h : rrIt n m k = none) : ∀ j,k ≤ j → rrIt n m j = none
 | 0,hj=>by
        have : k = 0:=by omega
        subst this;exact h
 |
  j + 1,hj=>by
  by_cases e : k = j + 1
  ·subst e;exact h
  ·unfold rrIt;rw [rrIt_none h j (by omega)];rfl
theorem rrIt_s {n : Nat} {m M : MF} {k : Nat} (h : rrIt n m k = some M) : rrIt n m (k + 1) = rrStep n M k:=by
 show (rrIt n m k).bind _ = _
 rw [h];rfl
def mF (m : List (List R)) : MF:=fun i=>m.getD i default
def rrC (m : List (List R)) (c : Int) : Bool:=matOk m c && decide ((m.length : Int) ≤ c)
def rrV (m : List (List R)) (c : Int) : Option MF:=if rrC m c = true then rrIt m.length (mF m) m.length else none
def rrM (m : List (List R)) (c : Int) : List (List R):=match rrV m c with
 | some M=>(List.range m.length).map M
 | none=>[]
def rrB (m : List (List R)) (c : Int) : Bool:=(rrV m c).isSome
theorem rrV_bad {m : List (List R)} {c : Int} (h : rrC m c = false) : rrM m c = [] ∧ rrB m c = false:=by
 have e : rrV m c = none:=by unfold rrV;rw [h];rfl
 unfold rrM rrB
 rw [e];exact ⟨rfl,rfl⟩
theorem rrV_none {m : List (List R)} {c : Int} {k : Nat} (hc : rrC m c = true) (h : rrIt m.length (mF m) k = none) (hk : k ≤ m.length) : rrM m c = [] ∧ rrB m c = false:=by
 have e : rrV m c = none:=by unfold rrV;rw [if_pos hc];exact rrIt_none h _ hk
 unfold rrM rrB
 rw [e];exact ⟨rfl,rfl⟩
theorem rrV_some {m : List (List R)} {c : Int} {M : MF} (hc : rrC m c = true) (h : rrIt m.length (mF m) m.length = some M) : rrM m c = (List.range m.length).map M ∧ rrB m c = true:=by
 have e : rrV m c = some M:=by unfold rrV;rw [if_pos hc];exact h
 unfold rrM rrB
 rw [e];exact ⟨rfl,rfl⟩
def OkM (n c : Nat) (M : MF) : Prop:=∀ i,i < n → (M i).length = c ∧ ∀ x ∈ M i,x.cn
theorem OkM.el {n c : Nat} {M : MF} (h : OkM n c M) {i j : Nat} (hi : i < n) (hj : j < c) : (elF M i j).cn:=(h i hi).2 _ (getD_mem (by rw [(h i hi).1];exact hj))
theorem rrDiv_len (r : List R) (k : Nat) : (rrDiv r k).length = r.length:=by unfold rrDiv;simp
theorem rrSub_len (r b : List R) (f : R) : (rrSub r b f).length = r.length:=by unfold rrSub;simp
theorem rrDiv_cn (r : List R) (k : Nat) : ∀ x ∈ rrDiv r k,x.cn:=fun x hx=>by
 obtain ⟨y,_,rfl⟩:=List.mem_map.1 hx;exact divR_cn _ _
theorem rrSub_cn (r b : List R) (f : R) : ∀ x ∈ rrSub r b f,x.cn:=fun x hx=>by
 obtain ⟨y,_,rfl⟩:=List.mem_map.1 hx;exact subR_cn _ _
theorem rrSub_at (r b : List R) (f : R) {j : Nat} (h : j < r.length) : (rrSub r b f).getD j default = subR (r.getD j default) (mulR (b.getD j default) f):=by
 unfold rrSub
 rw [List.getD_eq_getElem?_getD,List.getElem?_map,List.getElem?_range h];rfl
theorem rrDiv_at (r : List R) (k : Nat) {j : Nat} (h : j < r.length) : (rrDiv r k).getD j default = divR (r.getD j default) (r.getD k default):=by
 unfold rrDiv
 generalize r.getD k default = y
 rw [List.getD_eq_getElem?_getD,List.getElem?_map,List.getD_eq_getElem?_getD,List.getElem?_eq_getElem h];rfl
theorem OkM.swap {n c : Nat} {M : MF} (h : OkM n c M) {k p : Nat} (hk : k < n) (hp : p < n) : OkM n c (rrSwap M k p):=fun i hi=>by
 unfold rrSwap
 split
 ·exact h k hk
 ·split
  ·exact h p hp
  ·exact h i hi
theorem OkM.one {n c : Nat} {M : MF} (h : OkM n c M) {k : Nat} (hk : k < n) (hp : rrPv n M k < n) : OkM n c (rrOne n M k):=h.swap hk hp
theorem OkM.two {n c : Nat} {M : MF} (h : OkM n c M) {k : Nat} (hk : k < n) (hp : rrPv n M k < n) : OkM n c (rrTwo n M k):=fun i hi=>by
 unfold rrTwo
 split
 ·exact ⟨by rw [rrDiv_len];exact (h.one hk hp k hk).1,rrDiv_cn _ _⟩
 ·exact h.one hk hp i hi
theorem OkM.tri {n c : Nat} {M : MF} (h : OkM n c M) {k : Nat} (hk : k < n) : OkM n c (rrTri M k):=fun i hi=>by
 unfold rrTri
 split
 ·exact h k hk
 ·exact ⟨by rw [rrSub_len];exact (h i hi).1,rrSub_cn _ _ _⟩
theorem rrMix_0 (M : MF) (k : Nat) : rrMix M k 0 = M:=by funext i;unfold rrMix;rw [if_neg (by omega)]
theorem OkM.mix {n c : Nat} {M : MF} (h : OkM n c M) {k : Nat} (hk : k < n) (i0 : Nat) : OkM n c (rrMix M k i0):=fun i hi=>by
 unfold rrMix
 split
 ·exact h.tri hk i hi
 ·exact h i hi
theorem OkM.step {n c : Nat} {M M' : MF} (h : OkM n c M) {k : Nat} (hk : k < n) (e : rrStep n M k = some M') : OkM n c M':=by
 unfold rrStep at e
 split at e
 ·rename_i hc
  simp only [Bool.and_eq_true,decide_eq_true_eq] at hc
  cases e
  exact (h.two hk hc.1).tri hk
 ·cases e
theorem allOk_iff {n : Nat} {M : MF} : allOk n M = true ↔ ∀ i,i < n → (M i).all R.ok = true:=allB_iff
theorem allOk_f {n : Nat} {M : MF} {i : Nat} (hi : i < n) (h : (M i).all R.ok = false) : allOk n M = false:=allB_f hi h
theorem rrStep_p {n : Nat} {M : MF} {k : Nat} (h : ¬ rrPv n M k < n) : rrStep n M k = none:=by
 unfold rrStep;rw [decide_eq_false h];rfl
theorem rrStep_f {n : Nat} {M : MF} {k : Nat} (h : allOk n (rrTri (rrTwo n M k) k) = false) : rrStep n M k = none:=by
 unfold rrStep;rw [h,Bool.and_false];rfl
theorem rrStep_t {n : Nat} {M : MF} {k : Nat} (hp : rrPv n M k < n) (h : allOk n (rrTri (rrTwo n M k) k) = true) : rrStep n M k = some (rrTri (rrTwo n M k) k):=by
 unfold rrStep;rw [h,decide_eq_true hp];rfl
theorem rrC_ok {m : List (List R)} {c : Int} (h : rrC m c = true) : m.length ≤ 10 ∧ (m.length : Int) ≤ c ∧ matOk m c = true ∧ OkM m.length c.toNat (mF m):=by
 unfold rrC at h
 simp only [Bool.and_eq_true,decide_eq_true_eq] at h
 obtain ⟨h1,h2⟩:=matOk_row h.1
 refine ⟨h2,h.2,h.1,fun i hi=>⟨?_,fun x hx=>?_⟩⟩
 ·have:=(h1 i hi).1;unfold mF;omega
 ·obtain ⟨j,hj⟩:=List.mem_iff_getElem?.1 hx
  have hl:=(List.getElem?_eq_some_iff.1 hj).1
  have:=(h1 i hi).2 j hl
  unfold mF at hj
  rw [List.getD_eq_getElem?_getD,hj] at this
  exact cn_ok this
def mixL {α : Type} (a b : List α) (j : Nat) : List α:=a.take j ++ b.drop j
theorem mixL_0 {α : Type} (a b : List α) : mixL a b 0 = b:=by simp [mixL]
theorem mixL_all {α : Type} (a b : List α) (h : b.length ≤ a.length) (h2 : a.length ≤ b.length) : mixL a b b.length = a:=by
 unfold mixL;rw [List.drop_length,List.append_nil,List.take_of_length_le h2]
theorem mixL_len {α : Type} {a b : List α} {j : Nat} (h : a.length = b.length) : (mixL a b j).length = b.length:=by simp [mixL];omega
theorem mixL_set {α : Type} {a b : List α} {j : Nat} {x d : α} (h : a.length = b.length) (hj : j < b.length) (hx : a.getD j d = x) : (mixL a b j).set j x = mixL a b (j + 1):=by
 have e : (a.take j).length = j:=by simp;omega
 have hja : j < a.length:=by omega
 unfold mixL
 rw [List.set_append_right _ _ (by omega),e,Nat.sub_self,List.drop_eq_getElem_cons hj,List.set_cons_zero]
 have e2 : a.take (j + 1) = a.take j ++ [a[j]]:=by rw [List.take_add_one,List.getElem?_eq_getElem hja];rfl
 have e3 : x = a[j]:=by rw [← hx,List.getD_eq_getElem?_getD,List.getElem?_eq_getElem hja];rfl
 rw [e2,List.append_assoc,e3];rfl
theorem mixL_at {α : Type} {a b : List α} {j : Nat} {d : α} (h : a.length = b.length) {i : Nat} (hi : j ≤ i) (hl : j ≤ b.length) : (mixL a b j).getD i d = b.getD i d:=by
 have e : (a.take j).length = j:=by simp;omega
 unfold mixL
 rw [List.getD_eq_getElem?_getD,List.getElem?_append_right (by omega),e,List.getElem?_drop,List.getD_eq_getElem?_getD]
 congr 2;omega
def LimbOk (s : Store) (v : V) (l : List Int) : Prop:=v = ints l ∨ ∃ o,v = .msl o 0 l.length ∧ objAt s o = some ⟨1,irows l⟩
def CellOk (s : Store) (c : List V) (x : R) : Prop:=∃ v1 v2,c = [.bool x.neg,v1,v2] ∧ LimbOk s v1 x.mag ∧ LimbOk s v2 x.den
def RowOk (s : Store) (A : List (List V)) (r : List R) : Prop:=A.length = r.length ∧ ∀ j,j < r.length → CellOk s (A.getD j []) (r.getD j default)
def Kp (s s2 : Store) : Prop:=∀ o l,objAt s o = some ⟨1,irows l⟩ → objAt s2 o = objAt s o
theorem Kp.refl (s : Store) : Kp s s:=fun _ _ _=>rfl
theorem Kp.trans {a b c : Store} (h : Kp a b) (k : Kp b c) : Kp a c:=fun o l e=>(k o l ((h o l e).trans e)).trans (h o l e)
theorem Kp.old {s s2 : Store} (h : ∀ o,o < s.length → objAt s2 o = objAt s o) : Kp s s2:=fun o l e=>h o (objAt_lt e)
theorem LimbOk.fr {s s2 : Store} {v : V} {l : List Int} (h : LimbOk s v l) (k : Kp s s2) : LimbOk s2 v l:=h.imp id fun ⟨o,e,ho⟩=>⟨o,e,(k o l ho).trans ho⟩
theorem CellOk.fr {s s2 : Store} {c : List V} {x : R} (h : CellOk s c x) (k : Kp s s2) : CellOk s2 c x:=by
 obtain ⟨v1,v2,e,h1,h2⟩:=h;exact ⟨v1,v2,e,h1.fr k,h2.fr k⟩
theorem RowOk.fr {s s2 : Store} {A : List (List V)} {r : List R} (h : RowOk s A r) (k : Kp s s2) : RowOk s2 A r:=⟨h.1,fun j hj=>(h.2 j hj).fr k⟩
theorem LimbOk.leaf {s : Store} {v : V} {l : List Int} (h : LimbOk s v l) : v.leaf = true:=by
 rcases h with rfl | ⟨o,rfl,_⟩ <;> rfl
theorem LimbOk.res {s : Store} {v : V} {l : List Int} (h : LimbOk s v l) (n : Nat) : resolve s (n + 3) v = some (ints l):=by
 rcases h with rfl | ⟨o,rfl,ho⟩
 ·rfl
 ·have:=res_mslS (n:=n + 1) ho (ir_still l)
  rwa [ir_len] at this
theorem limb_frz {s : Store} (l : List Int) : LimbOk s (ints l) l:=.inl rfl
theorem cell_frz {s : Store} (x : R) : CellOk s x.cells x:=⟨_,_,rfl,limb_frz _,limb_frz _⟩
theorem row_frz {s : Store} (r : List R) : RowOk s (r.map R.cells) r:=⟨by simp,fun j hj=>by rw [mg hj];exact cell_frz _⟩
theorem CellOk.mm {s : Store} {c : List V} {x : R} (h : CellOk s c x) (n : Nat) : c.mapM (resolve s (n + 3)) = some x.cells:=by
 obtain ⟨v1,v2,rfl,h1,h2⟩:=h
 simp only [List.mapM_cons,List.mapM_nil,h1.res,h2.res]
 rfl
theorem CellOk.res {s : Store} {c : List V} {x : R} (h : CellOk s c x) : resolve s FD (.agg c) = some (ratV x):=by
 show resolve s (8 + 3 + 1) _ = _
 rw [resolve,h.mm 8];rfl
theorem RowOk.mm {s : Store} {A : List (List V)} {r : List R} (h : RowOk s A r) (n : Nat) : (A.mapM fun (c : List V)=>c.mapM (resolve s (n + 3))) = some (r.map R.cells):=by
 obtain ⟨hl,h⟩:=h
 induction r generalizing A with
 |
  nil =>
  have : A = []:=List.eq_nil_of_length_eq_zero hl
  subst this;rfl
 |
  cons x r ih =>
  rcases A with _ | ⟨a,A⟩
  ·simp at hl
  have h0:=h 0 (by simp)
  simp only [List.getD_cons_zero] at h0
  rw [List.mapM_cons,h0.mm n,ih (by simpa using hl) fun j hj=>by simpa using h (j + 1) (by simpa using hj)]
  rfl
theorem RowOk.resN {s : Store} {A : List (List V)} {r : List R} {p : Nat} (h : RowOk s A r) (hp : objAt s p = some ⟨3,A⟩) (n : Nat) : resolve s (n + 4) (.msl p 0 r.length) = some (ratsV r):=by
 rw [resolve]
 simp only [hp]
 rw [if_pos (by rw [h.1];omega),List.drop_zero,List.take_of_length_le (by rw [h.1];omega),h.mm n];rfl
theorem RowOk.res {s : Store} {A : List (List V)} {r : List R} {p : Nat} (h : RowOk s A r) (hp : objAt s p = some ⟨3,A⟩) : resolve s FD (.msl p 0 r.length) = some (ratsV r):=h.resN hp 8
theorem limb_ow {s : Store} {v : V} {l : List Int} {os : List Nat} (h : OwV s v (ints l) os) : LimbOk s v l ∧ ∀ o ∈ os,∃ l,objAt s o = some ⟨1,irows l⟩:=by
 rcases h.ints_inv with ⟨rfl,rfl,rfl⟩ | ⟨o,rfl,ho,rfl⟩
 ·exact ⟨.inl rfl,by simp⟩
 ·exact ⟨.inr ⟨o,rfl,ho⟩,fun q hq=>by rw [List.mem_singleton.1 hq];exact ⟨_,ho⟩⟩
theorem cell_ow {s : Store} {c : List V} {x : R} {os : List Nat} (h : OwL s c x.cells os) : CellOk s c x ∧ ∀ o ∈ os,∃ l,objAt s o = some ⟨1,irows l⟩:=by
 obtain ⟨cs,rfl,b⟩:=h.bool_inv
 obtain ⟨v1,cs,o1,o2,rfl,rfl,c,d⟩:=b.inv
 obtain ⟨v2,cs,o3,o4,rfl,rfl,e,f⟩:=d.inv
 obtain ⟨rfl,rfl⟩:=f.nil_inv
 have k1:=limb_ow c
 have k2:=limb_ow e
 refine ⟨⟨v1,v2,rfl,k1.1,k2.1⟩,fun o ho=>?_⟩
 rcases List.mem_append.1 ho with ho | ho
 ·exact k1.2 o ho
 ·exact k2.2 o (by simpa using ho)
theorem row_ow {s : Store} : ∀ {r : List R} {A : List (List V)} {os : List Nat},OwR s A (r.map R.cells) os → RowOk s A r ∧ ∀ o ∈ os,∃ l,objAt s o = some ⟨1,irows l⟩
 |
  [],A,os,h=>by
  simp only [List.map_nil,OwR] at h
  obtain ⟨rfl,rfl⟩:=h
  exact ⟨⟨rfl,by simp⟩,by simp⟩
 |
  x :: r,A,os,h=>by
  simp only [List.map_cons,OwR] at h
  obtain ⟨v,vs',o1,o2,rfl,rfl,h1,h2⟩:=h
  have k1:=cell_ow h1
  have k2:=row_ow h2
  refine ⟨⟨by simp [k2.1.1],fun j hj=>?_⟩,fun o ho=>?_⟩
  ·cases j with
   | zero=>exact k1.1
   | succ j=>simpa using k2.1.2 j (by simpa using hj)
  ·rcases List.mem_append.1 ho with ho | ho
   ·exact k1.2 o ho
   ·exact k2.2 o ho
def orow (n c : Nat) (rp : Nat → Nat) : List (List V):=(List.range n).map fun i=>[.msl (rp i) 0 c]
theorem orow_len (n c : Nat) (rp : Nat → Nat) : (orow n c rp).length = n:=by simp [orow]
theorem orow_at {n c : Nat} {rp : Nat → Nat} {i : Nat} (h : i < n) : (orow n c rp)[i]? = some [.msl (rp i) 0 c]:=by
 unfold orow;rw [List.getElem?_map,List.getElem?_range h];rfl
theorem orow_set {n c : Nat} {rp : Nat → Nat} {i p : Nat} : (orow n c rp).set i [.msl p 0 c] = orow n c fun x=>if x = i then p else rp x:=by
 apply List.ext_getElem?
 intro x
 unfold orow
 rw [List.getElem?_set]
 simp only [List.length_map,List.length_range,List.getElem?_map]
 by_cases h : i = x
 ·subst h
  by_cases hn : i < n
  ·simp [hn]
  ·rw [if_pos rfl,if_neg hn,List.getElem?_eq_none (by simpa using hn)];rfl
 ·rw [if_neg h]
  by_cases hn : x < n
  ·rw [List.getElem?_range hn];simp only [Option.map_some];rw [if_neg fun e : x = i=>h e.symm]
  ·rw [List.getElem?_eq_none (by simpa using hn)];rfl
structure Mat (s : Store) (q n c : Nat) (rp : Nat → Nat) (A : Nat → List (List V)) (M : MF) : Prop where
 inj : ∀ i j,i < n → j < n → rp i = rp j → i = j
 out : objAt s q = some ⟨1,orow n c rp⟩
 row : ∀ i,i < n → objAt s (rp i) = some ⟨3,A i⟩
 cel : ∀ i,i < n → RowOk s (A i) (M i)
theorem Mat.lt {s : Store} {q n c : Nat} {rp : Nat → Nat} {A : Nat → List (List V)} {M : MF} (h : Mat s q n c rp A M) : q < s.length ∧ ∀ i,i < n → rp i < s.length:=⟨objAt_lt h.out,fun i hi=>objAt_lt (h.row i hi)⟩
theorem Mat.ne {s : Store} {q n c : Nat} {rp : Nat → Nat} {A : Nat → List (List V)} {M : MF} (h : Mat s q n c rp A M) {i : Nat} (hi : i < n) : rp i ≠ q:=fun e=>by
 have:=h.row i hi
 rw [e,h.out] at this;cases this
theorem Mat.fr {s s2 : Store} {q n c : Nat} {rp : Nat → Nat} {A : Nat → List (List V)} {M : MF} (h : Mat s q n c rp A M) (hf : ∀ p,p < s.length → objAt s2 p = objAt s p) : Mat s2 q n c rp A M :=
 ⟨h.inj,(hf _ h.lt.1).trans h.out,fun i hi=>(hf _ (h.lt.2 i hi)).trans (h.row i hi),fun i hi=>(h.cel i hi).fr (.old hf)⟩
theorem Mat.rres {s : Store} {q n c : Nat} {rp : Nat → Nat} {A : Nat → List (List V)} {M : MF} (h : Mat s q n c rp A M) {i : Nat} (hi : i < n) (hl : (M i).length = c) : resolve s FD (.msl (rp i) 0 c) = some (ratsV (M i)):=by
 have:=(h.cel i hi).res (h.row i hi)
 rwa [hl] at this
theorem Mat.res {s : Store} {q n c : Nat} {rp : Nat → Nat} {A : Nat → List (List V)} {M : MF} (h : Mat s q n c rp A M) (hl : ∀ i,i < n → (M i).length = c) : resolve s FD (.msl q 0 n) = some (ratssV ((List.range n).map M)):=by
 show resolve s (11 + 1) _ = _
 rw [resolve]
 simp only [h.out]
 rw [if_pos (by rw [orow_len];omega),List.drop_zero,List.take_of_length_le (by rw [orow_len];omega)]
 have : ((orow n c rp).mapM fun (r : List V)=>r.mapM (resolve s 11)) = some ((List.range n).map fun i=>[ratsV (M i)]):=by
  unfold orow
  rw [List.mapM_map]
  refine mapM_some fun i hi=>?_
  have hi:=List.mem_range.1 hi
  have h1:=(h.cel i hi).resN (h.row i hi) 7
  rw [hl i hi] at h1
  simp only [Function.comp,List.mapM_cons,List.mapM_nil]
  rw [h1];rfl
 rw [this,Option.map_some]
 unfold ratssV
 rw [List.map_map]
 rfl
theorem Mat.put {s s2 : Store} {q n c k : Nat} {rp : Nat → Nat} {A : Nat → List (List V)} {M : MF} {A2 : List (List V)} {r : List R} (h : Mat s q n c rp A M) (hk : k < n) (hr : objAt s2 (rp k) = some ⟨3,A2⟩) (ho : ∀ o,o < s.length → o ≠ rp k → objAt s2 o = objAt s o) (hok : RowOk s2 A2 r) :
  Mat s2 q n c rp (fun i=>if i = k then A2 else A i) (fun i=>if i = k then r else M i):=by
 have kp : Kp s s2:=fun o l e=>ho o (objAt_lt e) fun e2=>by rw [e2,h.row k hk] at e;cases e
 refine ⟨h.inj,(ho _ h.lt.1 fun e=>h.ne hk e.symm).trans h.out,fun i hi=>?_,fun i hi=>?_⟩
 ·by_cases e : i = k
  ·subst e;rw [if_pos rfl];exact hr
  ·rw [if_neg e];exact (ho _ (h.lt.2 i hi) fun e2=>e (h.inj i k hi hk e2)).trans (h.row i hi)
 ·by_cases e : i = k
  ·subst e;rw [if_pos rfl,if_pos rfl];exact hok
  ·rw [if_neg e,if_neg e];exact (h.cel i hi).fr kp
theorem Mat.ext {s : Store} {q n c : Nat} {rp : Nat → Nat} {A : Nat → List (List V)} {M M2 : MF} (h : Mat s q n c rp A M) (e : ∀ i,i < n → M i = M2 i) : Mat s q n c rp A M2 :=
 ⟨h.inj,h.out,h.row,fun i hi=>e i hi ▸ h.cel i hi⟩
theorem orow_irows {n c : Nat} {rp : Nat → Nat} (hn : 0 < n) (l : List Int) : orow n c rp ≠ irows l:=fun e=>by
 have h1:=orow_at (c:=c) (rp:=rp) hn
 rw [e] at h1
 cases l with
 | nil=>simp [irows] at h1
 | cons x l=>simp [irows] at h1
theorem Mat.swap {s : Store} {q n c k p : Nat} {rp : Nat → Nat} {A : Nat → List (List V)} {M : MF} (h : Mat s q n c rp A M) (hk : k < n) (hp : p < n) {rows : List (List V)} (hrows : rows = ((orow n c rp).set k [.msl (rp p) 0 c]).set p [.msl (rp k) 0 c]) {s2 : Store} (hq : objAt s2 q = some ⟨1,rows⟩) (ho : ∀ o,o ≠ q → o < s.length → objAt s2 o = objAt s o) :
  Mat s2 q n c (fun x=>if x = p then rp k else if x = k then rp p else rp x) (fun x=>if x = p then A k else if x = k then A p else A x) (rrSwap M k p):=by
 have kp : Kp s s2:=fun o l e=>ho o (fun e2=>by
  rw [e2,h.out] at e
  injection e with e
  injection e with _ e
  exact orow_irows (by omega) l e) (objAt_lt e)
 have hr:=fun i hi=>(ho _ (h.ne hi) (h.lt.2 i hi)).trans (h.row i hi)
 have hc:=fun i hi=>(h.cel i hi).fr kp
 refine ⟨fun i j hi hj e=>?_,?_,fun i hi=>?_,fun i hi=>?_⟩
 ·have inj:=h.inj
  by_cases a1 : i = p <;> by_cases b1 : j = p
  ·omega
  ·rw [if_pos a1,if_neg b1] at e
   by_cases b2 : j = k
   ·rw [if_pos b2] at e
    have:=inj k p hk hp e;omega
   ·rw [if_neg b2] at e
    have:=inj k j hk hj e;omega
  ·rw [if_neg a1,if_pos b1] at e
   by_cases b2 : i = k
   ·rw [if_pos b2] at e
    have:=inj p k hp hk e;omega
   ·rw [if_neg b2] at e
    have:=inj i k hi hk e;omega
  ·rw [if_neg a1,if_neg b1] at e
   by_cases a2 : i = k <;> by_cases b2 : j = k
   ·omega
   ·rw [if_pos a2,if_neg b2] at e
    have:=inj p j hp hj e;omega
   ·rw [if_neg a2,if_pos b2] at e
    have:=inj i p hi hp e;omega
   ·rw [if_neg a2,if_neg b2] at e
    exact inj i j hi hj e
 ·rw [hq,hrows,orow_set,orow_set]
 ·split
  ·exact hr k hk
  ·split
   ·exact hr p hp
   ·exact hr i hi
 ·unfold rrSwap
  split
  ·exact hc k hk
  ·split
   ·exact hc p hp
   ·exact hc i hi
structure OwF (s : Store) (A : Nat → List (List V)) (M : MF) (f : Nat → List Nat) (S : Nat → Prop) : Prop where
 ow : ∀ i,S i → OwR s (A i) ((M i).map R.cells) (f i)
 nd : ∀ i,S i → (f i).Nodup
 ap : ∀ i j,S i → S j → i ≠ j → ∀ o ∈ f i,o ∉ f j
theorem owF_no {s : Store} {A : Nat → List (List V)} {M : MF} {f : Nat → List Nat} : OwF s A M f fun _=>False:=⟨fun _ h=>h.elim,fun _ h=>h.elim,fun _ _ h=>h.elim⟩
theorem OwF.kp {s s2 : Store} {A : Nat → List (List V)} {M : MF} {f : Nat → List Nat} {S : Nat → Prop} (h : OwF s A M f S) (k : Kp s s2) : OwF s2 A M f S :=
 ⟨fun i hi=>(h.ow i hi).frame fun o ho=>by obtain ⟨l,hl⟩:=(row_ow (h.ow i hi)).2 o ho;exact k o l hl,h.nd,h.ap⟩
theorem OwF.put {s s2 : Store} {A : Nat → List (List V)} {M : MF} {f : Nat → List Nat} {S : Nat → Prop} {k : Nat} {A2 : List (List V)} {r : List R} {os : List Nat} (h : OwF s A M f S) (kp : Kp s s2) (ho : OwR s2 A2 (r.map R.cells) os) (hn : os.Nodup) (hf : ∀ o ∈ os,s.length ≤ o) :
  OwF s2 (fun i=>if i = k then A2 else A i) (fun i=>if i = k then r else M i) (fun i=>if i = k then os else f i) (fun i=>S i ∨ i = k):=by
 have h2:=h.kp kp
 have lt : ∀ i,S i → ∀ o ∈ f i,o < s.length:=fun i hi=>(h.ow i hi).lt
 refine ⟨fun i hi=>?_,fun i hi=>?_,fun i j hi hj hne o h1 h3=>?_⟩
 ·by_cases e : i = k
  ·subst e;rw [if_pos rfl,if_pos rfl,if_pos rfl];exact ho
  ·rw [if_neg e,if_neg e,if_neg e];exact h2.ow i (hi.resolve_right e)
 ·by_cases e : i = k
  ·subst e;rw [if_pos rfl];exact hn
  ·rw [if_neg e];exact h.nd i (hi.resolve_right e)
 ·by_cases e : i = k
  ·by_cases e2 : j = k
   ·omega
   ·rw [if_pos e] at h1;rw [if_neg e2] at h3
    have:=hf o h1
    have:=lt j (hj.resolve_right e2) o h3
    omega
  ·rw [if_neg e] at h1
   by_cases e2 : j = k
   ·rw [if_pos e2] at h3
    have:=hf o h3
    have:=lt i (hi.resolve_right e) o h1
    omega
   ·rw [if_neg e2] at h3
    exact h.ap i j (hi.resolve_right e) (hj.resolve_right e2) hne o h1 h3
theorem OwF.ext {s : Store} {A : Nat → List (List V)} {M M2 : MF} {f : Nat → List Nat} {S S2 : Nat → Prop} (h : OwF s A M f S) (e : ∀ i,S2 i → S i ∧ M i = M2 i) : OwF s A M2 f S2 :=
 ⟨fun i hi=>(e i hi).2 ▸ h.ow i (e i hi).1,fun i hi=>h.nd i (e i hi).1,fun i j hi hj=>h.ap i j (e i hi).1 (e j hj).1⟩
theorem OwF.fin {s : Store} {q n c : Nat} {rp : Nat → Nat} {A : Nat → List (List V)} {M : MF} {f : Nat → List Nat} (h : Mat s q n c rp A M) (ho : OwF s A M f fun i=>i < n) (hc : 0 < c) (hl : ∀ i,i < n → (M i).length = c) : Fin s (.msl q 0 n) (ratssV ((List.range n).map M)):=by
 have key : ∀ m,m ≤ n → ∃ os,OwR s ((List.range m).map fun i=>[.msl (rp i) 0 c]) (((List.range m).map M).map fun r=>[ratsV r]) os ∧ os.Nodup ∧ ∀ o ∈ os,∃ i,i < m ∧ (o = rp i ∨ o ∈ f i):=by
  intro m
  induction m with
  | zero=>intro _;exact ⟨[],by simp [OwR],.nil,by simp⟩
  |
   succ m ih =>
   intro hm
   obtain ⟨os,k1,k2,k3⟩:=ih (by omega)
   have hm' : m < n:=by omega
   have kinds : ∀ i,i < n → ∀ o ∈ f i,∃ l,objAt s o = some ⟨1,irows l⟩:=fun i hi=>(row_ow (ho.ow i hi)).2
   have hnf : ∀ i j,i < n → j < n → rp i ∉ f j:=fun i j hi hj hm=>by
    obtain ⟨l,hl⟩:=kinds j hj _ hm
    rw [h.row i hi] at hl;cases hl
   have hv : OwV s (.msl (rp m) 0 c) (ratsV (M m)) (rp m :: f m):=by
    unfold ratsV
    simp only [OwV]
    exact .inr ⟨rp m,A m,f m,by rw [List.length_map,hl m hm'],h.row m hm',rfl,ho.ow m hm'⟩
   refine ⟨os ++ (rp m :: f m),?_,?_,fun o ho'=>?_⟩
   ·rw [List.range_succ,List.map_append,List.map_append,List.map_append]
    exact owR_append k1 (owR_1 (owL_1 hv))
   ·rw [List.nodup_append,List.nodup_cons]
    refine ⟨k2,⟨hnf m m hm' hm',ho.nd m hm'⟩,fun x hx y hy e=>?_⟩
    subst e
    obtain ⟨i,hi,hi2⟩:=k3 x hx
    rcases List.mem_cons.1 hy with hy | hy
    ·rcases hi2 with hi2 | hi2
     ·have:=h.inj i m (by omega) hm' (hi2.symm.trans hy);omega
     ·rw [hy] at hi2;exact hnf m i hm' (by omega) hi2
    ·rcases hi2 with hi2 | hi2
     ·rw [hi2] at hy;exact hnf i m (by omega) hm' hy
     ·exact ho.ap i m (by omega) hm' (by omega) x hi2 hy
   ·rcases List.mem_append.1 ho' with ho' | ho'
    ·obtain ⟨i,hi,k⟩:=k3 o ho';exact ⟨i,by omega,k⟩
    ·rcases List.mem_cons.1 ho' with rfl | ho'
     ·exact ⟨m,by omega,.inl rfl⟩
     ·exact ⟨m,by omega,.inr ho'⟩
 obtain ⟨os,k1,k2,k3⟩:=key n (Nat.le_refl _)
 refine fin_of (os:=q :: os) ?_ (List.nodup_cons.2 ⟨fun hm=>?_,k2⟩)
 ·unfold ratssV
  simp only [OwV]
  exact .inr ⟨q,_,os,by simp,h.out,rfl,k1⟩
 ·obtain ⟨i,hi,e | e⟩:=k3 q hm
  ·exact h.ne hi e.symm
  ·obtain ⟨l,hl⟩:=(row_ow (ho.ow i hi)).2 _ e
   rw [h.out] at hl
   injection hl with hl
   injection hl with _ hl
   exact orow_irows (by omega) l hl
theorem mat_sz {m : List (List R)} {n : Nat} (h : ∀ r ∈ m,(∀ x ∈ r,x.cn) ∧ r.length ≤ n) (hn : n ≤ 1048576) (hl : m.length ≤ 10) : szL (szL R.sz) m ≤ 1000000000 ∧ wfL (wfL R.wf) m:=by
 refine ⟨?_,by omega,fun r hr=>⟨by have:=(h r hr).2;omega,fun x hx=>cn_wf ((h r hr).1 x hx)⟩⟩
 have:=szL_bd (f:=szL R.sz) (k:=60000000) (l:=m) fun r hr=>by
  have h1:=szL_bd (f:=R.sz) (k:=48) (l:=r) fun x hx=>by have:=cn_len ((h r hr).1 x hx);unfold R.sz;omega
  have h2:=(h r hr).2
  have : r.length * 49 ≤ 1048576 * 49:=Nat.mul_le_mul_right _ (by omega)
  omega
 have : m.length * 60000001 ≤ 10 * 60000001:=Nat.mul_le_mul_right _ hl
 omega
structure SubI (s0 s : Store) (ri : Nat) (box : Obj) (A : List (List V)) (Z : List R) (j : Nat) (N : List (List V)) (os : List Nat) : Prop where
 row : objAt s ri = some ⟨3,N ++ A.drop j⟩
 nl : N.length = j
 ow : OwR s N ((Z.take j).map R.cells) os
 nd : os.Nodup
 fr : ∀ o ∈ os,s0.length ≤ o
 old : ∀ o,o < s0.length → o ≠ ri → objAt s o = objAt s0 o
 bx : objAt s s0.length = some box
 len : s0.length < s.length
section
variable {s0 s : Store} {ri : Nat} {box : Obj} {A : List (List V)} {Z : List R} {j : Nat} {N : List (List V)} {os : List Nat}
theorem subI_init (hi : objAt s0 ri = some ⟨3,A⟩) : SubI s0 (s0 ++ [some box]) ri box A Z 0 [] [] :=
 ⟨(objAt_snoc_lt (objAt_lt hi)).trans (by rw [List.nil_append,List.drop_zero];exact hi),rfl,by simp [OwR],.nil,by simp,fun o ho _=>objAt_snoc_lt ho,objAt_snoc _ _,by simp⟩
theorem SubI.kp (I : SubI s0 s ri box A Z j N os) (hi : objAt s0 ri = some ⟨3,A⟩) : Kp s0 s:=fun o l e=>I.old o (objAt_lt e) fun e2=>by rw [e2,hi] at e;cases e
theorem SubI.at (I : SubI s0 s ri box A Z j N os) (hj : j < A.length) : (N ++ A.drop j)[j]? = some (A.getD j []):=by
 rw [List.getElem?_append_right (by rw [I.nl];exact Nat.le_refl _),I.nl,Nat.sub_self,List.getElem?_drop,Nat.add_zero,List.getD_eq_getElem?_getD,List.getElem?_eq_getElem hj];rfl
theorem SubI.step (I : SubI s0 s ri box A Z j N os) (hri : ri < s0.length) (hj : j < A.length) (hjZ : j < Z.length) {z : R} (hz : Z.getD j default = z) {q3 : Store} {c : List V} {o3 : List Nat} (old : ∀ o,o < s.length → objAt q3 o = objAt s o) (len : s.length ≤ q3.length)
  (ho : OwL q3 c z.cells o3) (nd3 : o3.Nodup) (fr3 : ∀ o ∈ o3,s.length ≤ o) : SubI s0 (q3.set ri (some ⟨3,(N ++ A.drop j).set j c⟩)) ri box A Z (j + 1) (N ++ [c]) (os ++ o3):=by
 have hl:=I.len
 have ne : ∀ o,ri ≠ o → objAt (q3.set ri (some ⟨3,(N ++ A.drop j).set j c⟩)) o = objAt q3 o:=fun o h=>objAt_setne fun e=>h e.symm
 have e1 : (N ++ A.drop j).set j c = (N ++ [c]) ++ A.drop (j + 1):=by
  rw [List.set_append_right _ _ (by rw [I.nl];exact Nat.le_refl _),I.nl,Nat.sub_self,List.drop_eq_getElem_cons hj,List.set_cons_zero,List.append_assoc];rfl
 refine ⟨?_,by simp [I.nl],?_,?_,fun o h=>?_,fun o h1 h2=>?_,?_,by simp;omega⟩
 ·rw [objAt_seteq (by omega),e1]
 ·rw [take_snoc hjZ,List.map_append,hz]
  refine owR_append (I.ow.frame fun o h=>?_) (owR_1 (ho.frame fun o h=>?_))
  ·have h1:=I.fr o h
   rw [ne o (by omega),old o (I.ow.lt o h)]
  ·have:=fr3 o h
   rw [ne o (by omega)]
 ·rw [List.nodup_append]
  refine ⟨I.nd,nd3,fun x hx y hy e=>?_⟩
  have:=I.ow.lt x hx
  have:=fr3 y hy
  omega
 ·rcases List.mem_append.1 h with h | h
  ·exact I.fr o h
  ·have:=fr3 o h;omega
 ·rw [ne o (fun e=>h2 e.symm),old o (by omega),I.old o h1 h2]
 ·rw [ne _ (by omega),old _ (by omega),I.bx]
theorem SubI.fin (I : SubI s0 s ri box A Z j N os) (h1 : j = A.length) (h2 : j = Z.length) : objAt s ri = some ⟨3,N⟩ ∧ OwR s N (Z.map R.cells) os:=by
 have a:=I.row
 have b:=I.ow
 rw [h1,List.drop_length,List.append_nil] at a
 rw [h2,List.take_length] at b
 exact ⟨a,b⟩
end
theorem LimbOk.r11 {s : Store} {v : V} {l : List Int} (h : LimbOk s v l) : resolve s 11 v = some (ints l):=h.res 8
theorem LimbOk.rch {s : Store} {v : V} {l : List Int} (h : LimbOk s v l) : ∀ n,∀ o ∈ reach s n v,∃ l,objAt s o = some ⟨1,irows l⟩:=by
 intro n o ho
 rcases h with rfl | ⟨q,rfl,hq⟩
 ·cases n <;> simp [reach] at ho
 ·cases n with
  | zero=>simp [reach] at ho
  |
   succ n =>
   simp only [reach,hq,List.mem_cons,List.mem_flatMap] at ho
   rcases ho with rfl | ⟨r,hr,c,hc,ho⟩
   ·exact ⟨_,hq⟩
   ·have hs:=ir_still l r hr c hc
    cases n with
    | zero=>simp [reach] at ho
    | succ n=>rw [reach_still hs] at ho;cases ho
theorem CellOk.rch {s : Store} {c : List V} {x : R} (h : CellOk s c x) : ∀ n,∀ o ∈ reach s n (.agg c),∃ l,objAt s o = some ⟨1,irows l⟩:=by
 intro n o ho
 obtain ⟨v1,v2,rfl,h1,h2⟩:=h
 cases n with
 | zero=>simp [reach] at ho
 |
  succ n =>
  rw [reach_agg] at ho
  obtain ⟨c,hc,ho⟩:=ho
  simp only [List.mem_cons,List.not_mem_nil,or_false] at hc
  rcases hc with rfl | rfl | rfl
  ·cases n <;> simp [reach] at ho
  ·exact h1.rch n o ho
  ·exact h2.rch n o ho
theorem rn_subtractRow {T : Nat → Option Fn} (h : D_impl_subtractRow T) {s0 : Store} {ri rk : Nat} {A B : List (List V)} {X Y : List R} {f : R} {w1 w2 : V}
  (hi : objAt s0 ri = some ⟨3,A⟩) (hk : objAt s0 rk = some ⟨3,B⟩) (hne : ri ≠ rk) (hA : RowOk s0 A X) (hB : RowOk s0 B Y) (hl : Y.length = X.length) (hf1 : LimbOk s0 w1 f.mag) (hf2 : LimbOk s0 w2 f.den)
  (cX : ∀ x ∈ X,x.cn) (cY : ∀ x ∈ Y,x.cn) (cf : f.cn) (hX : X.length ≤ 1048576) :
  ∃
   s' A' os,Run T (.fn 245 [.msl ri 0 X.length,.msl rk 0 X.length,.agg [.bool f.neg,w1,w2]] s0) (.fn (.bool ((rrSub X Y f).all R.ok)) s') ∧
   objAt s' ri = some ⟨3,A'⟩ ∧ OwR s' A' ((rrSub X Y f).map R.cells) os ∧ os.Nodup ∧ (∀ o ∈ os,s0.length ≤ o) ∧ (∀ o,o < s0.length → o ≠ ri → objAt s' o = objAt s0 o) ∧ s0.length ≤ s'.length:=by
 have lw:=And.intro hf1.leaf hf2.leaf
 have hZl:=rrSub_len X Y f
 have hZc:=rrSub_cn X Y f
 have hZa:=fun j (hj : j < X.length)=>rrSub_at X Y f hj
 have hri:=objAt_lt hi
 have hrk:=objAt_lt hk
 have hAl:=hA.1
 have : ∃ r s',Run T (.fn 245 [.msl ri 0 X.length,.msl rk 0 X.length,.agg [.bool f.neg,w1,w2]] s0) (.fn r s') ∧ (r = .bool ((rrSub X Y f).all R.ok) ∧ ∃ A' os,
   objAt s' ri = some ⟨3,A'⟩ ∧ OwR s' A' ((rrSub X Y f).map R.cells) os ∧ os.Nodup ∧ (∀ o ∈ os,s0.length ≤ o) ∧ (∀ o,o < s0.length → o ≠ ri → objAt s' o = objAt s0 o) ∧ s0.length ≤ s'.length):=by
  generalize rrSub X Y f = Z at *
  obtain ⟨p,hp⟩ : ∃ p,p = s0.length:=⟨_,rfl⟩
  have hpri : ri ≠ p:=by omega
  have hprk : rk ≠ p:=by omega
  refine run_end (fun x d=>x == 157 || x == 159) h.hT rfl rfl ?_
  dsimp only [F_impl_subtractRow,oN,oS,oG,oK,oA,oH,oV,cI,St.enter,List.length_cons,List.length_nil,Nat.zero_add]
  refine ew ?_
  have hi1 : objAt (s0 ++ [some (⟨3,[[.bool f.neg,w1,w2]]⟩ : Obj)]) ri = some ⟨3,A⟩:=(objAt_snoc_lt hri).trans hi
  refine ew2 @lw @hi ?_
  refine loop_at (fun x d=>x == 157 || x == 159) (α:=Nat × Store × List (List V) × List Nat) (fun q=>⟨argE [.msl ri 0 X.length,.msl rk 0 X.length,.any,.any,.any,.ptr s0.length 0 0,.any,.any,.msl ri 0 X.length,iv (X.length : Nat),iv (q.1 : Nat)],q.2.1,s0.length,0,[],[]⟩) (fun q=>q.1 ≤ X.length ∧ SubI s0 q.2.1 ri ⟨3,[[.bool f.neg,w1,w2]]⟩ A Z q.1 q.2.2.1 q.2.2.2) (fun q=>X.length - q.1) rfl (0,s0 ++ [some (⟨3,[[.bool f.neg,w1,w2]]⟩ : Obj)],[],[]) ?_ ?_ ?_
  ·exact ⟨by omega,subI_init hi⟩
  ·(refine Fg_env ?_;exact fgW)
  ·rintro ⟨j,s,N,os⟩ ⟨hj,I⟩
   dsimp only at hj I
   have hls:=I.len
   have hbx:=I.bx
   rw [← hp] at hbx ⊢
   by_cases hc : (j : Int) < (X.length : Nat)
   ·have hjl : j < X.length:=by omega
    obtain ⟨a1,a2,ea,ka1,ka2⟩:=hA.2 j hjl
    obtain ⟨b1,b2,eb,kb1,kb2⟩:=hB.2 j (by omega)
    have kp:=I.kp hi
    have cx:=cX _ (getD_mem hjl)
    have cy:=cY _ (getD_mem (l:=Y) (i:=j) (by omega))
    have hz:=hZa j hjl
    have gA:=I.at (by omega)
    rw [ea] at gA
    have gB : B[j]? = some (B.getD j []):=by
     have hjB : j < B.length:=by rw [hB.1];omega
     rw [List.getD_eq_getElem?_getD,List.getElem?_eq_getElem hjB];rfl
    rw [eb] at gB
    have orow:=I.row
    have ork:=(I.old rk hrk (fun e=>hne e.symm)).trans hk
    have hrs : ri < s.length:=by omega
    have hks : rk < s.length:=by omega
    have hps : p < s.length:=by omega
    replace kb1:=kb1.fr kp
    replace kb2:=kb2.fr kp
    have kw1:=hf1.fr kp
    have kw2:=hf2.fr kp
    replace ka1:=ka1.fr kp
    replace ka2:=ka2.fr kp
    generalize X.getD j default = x at *
    generalize Y.getD j default = y at *
    have stp:=fun (q3 : Store) (c : List V) (o3 : List Nat) old len ho nd3 fr3=>I.step (q3:=q3) (c:=c) (o3:=o3) hri (by omega) (by omega) hz old len ho nd3 fr3
    generalize hL : N ++ List.drop j A = L at *
    have R1:=And.intro (And.intro kb1.r11 kb2.r11) (And.intro kw1.r11 kw2.r11)
    refine ew6 @hc (And.intro orow (And.intro ork hbx)) (And.intro gA gB) @R1 @numK_any @or_sc ?_
    refine OwnK_gotP (fun o=>∃ l,objAt s o = some ⟨1,irows l⟩) (show PO T 157 [ratV y,ratV f] (ratV (mulR y f)) from po_ratMulR h.d_impl_ratMul cy cf) (by (refine ew3 @R1 @numK_any @or_sc ?_;try with_reducible exact True.intro)) ?_ ?_
    ·intro o ho
     have ho : o ∈ reach s (11 + 1) (.agg [.bool y.neg,b1,b2]) ++ (reach s (11 + 1) (.agg [.bool f.neg,w1,w2]) ++ []):=ho
     rw [List.append_nil] at ho
     rcases List.mem_append.1 ho with ho | ho
     ·exact CellOk.rch ⟨_,_,rfl,kb1,kb2⟩ _ o ho
     ·exact CellOk.rch ⟨_,_,rfl,kw1,kw2⟩ _ o ho
    intro Q1 r q2 o2 hQ1 G
    have hmc:=mulR_cn y f
    generalize mulR y f = mm at *
    obtain ⟨_,rfl,hQ⟩:=G.ow.agg_inv
    obtain ⟨m1,m2,rfl⟩:=hQ.rat
    obtain ⟨v1,v2,e,km1,km2⟩:=(cell_ow hQ).1
    simp only [List.cons.injEq,and_true,true_and] at e
    obtain ⟨rfl,rfl⟩:=e
    have gl2 : s.length ≤ q2.length:=G.len
    replace ka1:=ka1.fr (.old G.old)
    replace ka2:=ka2.fr (.old G.old)
    have R2:=And.intro (And.intro ka1.r11 ka2.r11) (And.intro km1.r11 km2.r11)
    refine ew3 @R2 @numK_any @or_sc ?_
    refine OwnK_gotP (fun o=>∃ l,objAt q2 o = some ⟨1,irows l⟩) (show PO T 159 [ratV x,ratV mm] (ratV (subR x mm)) from po_ratSubR h.d_impl_ratSub cx hmc) (by (refine ew3 @R2 @numK_any @or_sc ?_;try with_reducible exact True.intro)) ?_ ?_
    ·intro o ho
     have ho : o ∈ reach q2 (11 + 1) (.agg [.bool x.neg,a1,a2]) ++ (reach q2 (11 + 1) (.agg [.bool mm.neg,m1,m2]) ++ []):=ho
     rw [List.append_nil] at ho
     rcases List.mem_append.1 ho with ho | ho
     ·exact CellOk.rch ⟨_,_,rfl,ka1,ka2⟩ _ o ho
     ·exact CellOk.rch ⟨_,_,rfl,km1,km2⟩ _ o ho
    intro Q2 r q3 o3 hQ2 G2
    generalize subR x mm = z at *
    obtain ⟨_,rfl,hQ⟩:=G2.ow.agg_inv
    obtain ⟨z1,z2,rfl⟩:=hQ.rat
    have lz:=OwL.leaf hQ rfl
    simp only [List.all_cons,List.all_nil,Bool.and_true,Bool.and_eq_true] at lz
    have gl3 : q2.length ≤ q3.length:=G2.len
    have old3 : ∀ o,o < s.length → objAt q3 o = objAt s o:=fun o ho=>(G2.old o (by omega)).trans (G.old o ho)
    have row3:=(old3 ri hrs).trans orow
    have hr3 : ri < q3.length:=by omega
    have stp2:=stp q3 _ o3 old3 (by omega) hQ G2.nd (fun o ho=>by have:=G2.fresh o ho;omega)
    have nri : ∀ (q : Store) (l : List Int),objAt q ri = some ⟨3,L⟩ → objAt q ri ≠ some ⟨1,irows l⟩:=fun q l e k=>by rw [e] at k;cases k
    have n1 : ∀ o ∈ Q1,o ≠ ri:=fun o ho e=>by
     obtain ⟨l,hl⟩:=hQ1 o ho
     exact nri s l orow (e ▸ hl)
    have n2 : ∀ o ∈ Q2,o ≠ ri:=fun o ho e=>by
     obtain ⟨l,hl⟩:=hQ2 o ho
     exact nri q2 l ((G.old ri hrs).trans orow) (e ▸ hl)
    clear hQ1 hQ2 stp
    refine ew5 @lz (And.intro row3 hr3) @gA @numK_any @or_sc ?_
    refine ⟨?_,?_⟩
    ·have d1 : ri < s.length:=hrs
     clear stp2 old3 row3 hr3
     revert Q2
     refine OkA_dropA _ (fun R=>∀ o ∈ R,o ≠ ri) 2 12 rfl (fun _=>rfl) ?_ ?_
     ·intro R hR b hb w hw hm
      simp only [List.mem_cons,List.not_mem_nil,or_false] at hb
      rcases hb with rfl | rfl | rfl | rfl | rfl | rfl | rfl | rfl | rfl | rfl | rfl | rfl | rfl | rfl | rfl
      all_goals first | (cases hw;done) | (rw [List.mem_singleton.1 hw] at hm;exact hR _ hm rfl)
     revert Q1
     refine OkA_dropA _ (fun R=>∀ o ∈ R,o ≠ ri) 3 11 rfl (fun _=>rfl) ?_ ?_
     ·intro R hR b hb w hw hm
      simp only [List.mem_cons,List.not_mem_nil,or_false] at hb
      rcases hb with rfl | rfl | rfl | rfl | rfl | rfl | rfl | rfl | rfl | rfl | rfl | rfl | rfl | rfl | rfl
      all_goals first | (cases hw;done) | (rw [List.mem_singleton.1 hw] at hm;exact hR _ hm rfl)
     refine OkA_all3 (aF:=fun a b c=>[⟨14,[a],[a],false⟩,⟨13,[a],[],false⟩,⟨12,[],[],true⟩,⟨11,[],[],true⟩,⟨10,[c],[],false⟩,⟨9,[b],[],false⟩,⟨8,[b],[],false⟩,⟨7,[],[],false⟩,⟨6,[],[],false⟩,⟨5,[a],[],false⟩,⟨4,[a],[],false⟩,⟨3,[],[],false⟩,⟨2,[],[],false⟩,⟨1,[],[],false⟩,⟨0,[],[],false⟩]) ri rk p s.length ?_ ?_ ?_ ?_
     ·exact nd3 hne hpri hprk
     ·exact lt3 hrs hks hps
     ·exact fun _ _ _ _=>rfl
     ·unfold OkA;decide +kernel
    ·refine ⟨(j + 1,?st,N ++ [[.bool z.neg,z1,z2]],os ++ o3),?c1,⟨?c2,?c4⟩,?c3⟩
     case c3=>dsimp only;(refine Fg_env ?_;exact fgW)
     case c1=>dsimp only;omega
     case c2=>dsimp only;omega
     case c4=>exact stp2
   ·have hje : j = X.length:=by omega
    obtain ⟨f1,f2⟩:=I.fin (by omega) (by omega)
    have rw1:=(row_ow f2).1
    have Rf:=rw1.res f1
    rw [hZl] at Rf
    have cg:=c_goodRow h.d_impl_goodRow hZc (by omega)
    refine ew2 @hc @Rf ?_
    refine PFK_of cg ?_
    refine ew ?_
    subst hp
    exact ⟨N,os,f1,f2,I.nd,I.fr,I.old,by omega⟩
 obtain ⟨r,s',h1,rfl,A',os,h2⟩:=this
 exact ⟨s',A',os,h1,h2⟩
end Go.Ml
end
section
namespace Go.Ml
structure SumI (s : Store) (X : R) (x1 x2 : V) (os : List Nat) : Prop where
 a1 : objAt s 1 = some ⟨3,[[.bool X.neg,x1,x2]]⟩
 ow : OwL s [.bool X.neg,x1,x2] X.cells os
 nd : os.Nodup
 fr : ∀ o ∈ os,2 ≤ o
 a0 : objAt s 0 = some ⟨3,[[.bool false,.nils,.nils]]⟩
 len : 2 ≤ s.length
theorem SumI.snoc {s : Store} {X : R} {x1 x2 : V} {os : List Nat} (h : SumI s X x1 x2 os) {a : Option Obj} : SumI (s ++ [a]) X x1 x2 os:=by
 have:=h.len
 refine ⟨(objAt_snoc_lt (by omega)).trans h.a1,h.ow.frame fun o ho=>objAt_snoc_lt (h.ow.lt o ho),h.nd,h.fr,(objAt_snoc_lt (by omega)).trans h.a0,by simp;omega⟩
theorem SumI.put {s q : Store} {X Z : R} {x1 x2 z1 z2 : V} {os o2 : List Nat} (h : SumI s X x1 x2 os) (hq : OwL q [.bool Z.neg,z1,z2] Z.cells o2) (nd : o2.Nodup) (fr : ∀ o ∈ o2,s.length ≤ o) (old : ∀ o,o < s.length → objAt q o = objAt s o) (hl : s.length ≤ q.length) :
  SumI (q.set 1 (some ⟨3,[[.bool Z.neg,z1,z2]]⟩)) Z z1 z2 o2:=by
 have:=h.len
 refine ⟨objAt_seteq (by omega),hq.frame fun o ho=>objAt_setne (by have:=fr o ho;omega),nd,fun o ho=>by have:=fr o ho;omega,?_,by simp;omega⟩
 rw [objAt_setne (by omega),old 0 (by omega),h.a0]
theorem po_informationOf {T : Nat → Option Fn} (h : D_impl_informationOf T) {S : List Lk} {v u : Int} (hb : lksOk S = true) (hl : S.length ≤ 1048576) : PO T 277 [lksV S,iv v,iv u] (ratV (imP S v u S.length)):=by
 refine po_end2 (fun x d=>x == 39 || x == 131 || x == 161) h.hT rfl rfl ?_
 dsimp only [F_impl_informationOf,oN,oS,oG,oK,oA,oH,oV,cI,St.enter,List.length_cons,List.length_nil,Nat.zero_add]
 refine ew ?_
 refine RefK_got (po_RatFromInt h.d_impl_RatFromInt (n:=0)) (by (refine ew ?_;try with_reducible exact True.intro)) ?_
 intro r q1 o1 G
 obtain ⟨_,rfl,hQ⟩:=G.ow.agg_inv
 obtain ⟨x1,x2,rfl⟩:=hQ.rat
 have l1:=OwL.leaf hQ rfl
 simp only [List.all_cons,List.all_nil,Bool.and_true,Bool.and_eq_true] at l1
 have gl : 2 ≤ q1.length:=by have:=G.len;simpa using this
 have g0 : objAt q1 0 = some ⟨3,[[.bool false,.nils,.nils]]⟩:=G.old 0 (by simp)
 have S0 : SumI (q1.set 1 (some ⟨3,[[.bool (intR 0).neg,x1,x2]]⟩)) (intR 0) x1 x2 o1:=by
  have f1:=G.fresh
  refine ⟨objAt_seteq (by omega),hQ.frame fun o ho=>objAt_setne (by have:=f1 o ho;simp at this;omega),G.nd,fun o ho=>by have:=f1 o ho;simp at this;omega,by rw [objAt_setne (by omega)];exact g0,by simp;omega⟩
 refine ew3 @l1 @gl @List.set_set.{0} ?_
 refine loop_at (fun x d=>x == 39 || x == 131 || x == 161) (α:=Nat × Store × V × V × List Nat) (fun q=>⟨argE [.any,iv v,iv u,.any,.any,.any,.ptr 0 0 0,.ptr 1 0 0,.any,.any,.any,lksV S,iv (S.length : Nat),iv (q.1 : Nat)],q.2.1,0,0,[],[]⟩) (fun q=>q.1 ≤ S.length ∧ SumI q.2.1 (imP S v u q.1) q.2.2.1 q.2.2.2.1 q.2.2.2.2) (fun q=>S.length - q.1) rfl (0,q1.set 1 (some ⟨3,[[.bool (intR 0).neg,x1,x2]]⟩),x1,x2,o1) ?_ ?_ ?_
 ·exact ⟨Nat.zero_le _,S0⟩
 ·(refine Fg_env ?_;exact fgW)
 ·clear S0 g0 gl l1 hQ G
  rintro ⟨k,s,x1,x2,os⟩ ⟨hk,I⟩
  dsimp only at hk I
  have hX:=imP_cn S v u k
  have I1:=I.a1
  have I0:=I.a0
  have hsl:=I.len
  have lx:=I.ow.leaf rfl
  simp only [List.all_cons,List.all_nil,Bool.and_true,Bool.and_eq_true] at lx
  by_cases hc : (k : Int) < (S.length : Nat)
  ·have hkl : k < S.length:=by omega
   have hx : (S.map Lk.cells).getD k [] = (S.getD k default).cells:=mg hkl
   have es : imP S v u (k + 1) = imStep v u (imP S v u k) (S.getD k default):=rfl
   have hlk:=lksOk_mem hb (getD_mem hkl)
   obtain ⟨hn0,hn1,hn2⟩:=lkOk_nd hlk
   obtain ⟨kw,kx,ky,kp⟩:=lkOk_ok hlk
   have cw:=cn_ok kw
   generalize S.getD k default = l at *
   generalize imP S v u k = X at *
   have Gx:=I.snoc (a:=some ⟨11,[l.cells]⟩)
   obtain ⟨w1,w2,e,km1,km2⟩:=(cell_ow I.ow).1
   simp only [List.cons.injEq,and_true,true_and] at e
   obtain ⟨rfl,rfl⟩:=e
   have R1:=And.intro (fun a : Option Obj=>(km1.fr (s2:=s ++ [a]) (.old fun o ho=>objAt_snoc_lt ho)).r11) (fun a : Option Obj=>(km2.fr (s2:=s ++ [a]) (.old fun o ho=>objAt_snoc_lt ho)).r11)
   have e4 : ∀ σ : Store,resolve σ FD (ratV l.w) = some (ratV l.w):=fun σ=>res_agg_still (st_R [l.w] _ (by simp))
   unfold imStep at es
   by_cases huv : v = u
   ·have f0 : (v = u) = True:=eq_true huv
    by_cases h1 : l.a = v
    ·have f1 : (l.a = v) = True:=eq_true (by omega)
     have f2 : (l.b = v) = False:=eq_false (by omega)
     have f3 : (l.b = u) = False:=eq_false (by omega)
     have f4 : (l.a = u) = True:=eq_true (by omega)
     refine ew4 @hc @hx (And.intro f0 (And.intro f1 (And.intro f2 (And.intro f3 f4)))) @I1 ?_
     refine RefK_got (po_ratAddR h.d_impl_ratAdd hX cw) (by (refine ew3 @R1 @e4 @hx ?_;try with_reducible exact True.intro);try rfl) ?_
     intro r q2 o2 G
     obtain ⟨_,rfl,hQ⟩:=G.ow.agg_inv
     obtain ⟨z1,z2,rfl⟩:=hQ.rat
     have lz:=OwL.leaf hQ rfl
     simp only [List.all_cons,List.all_nil,Bool.and_true,Bool.and_eq_true] at lz
     have gl : s.length + 1 ≤ q2.length:=by have:=G.len;simpa using this
     have B1 : objAt q2 1 = some ⟨3,[[.bool X.neg,x1,x2]]⟩:=(G.old 1 (by simp;omega)).trans Gx.a1
     have B9 : objAt q2 s.length = some ⟨11,[l.cells]⟩:=(G.old s.length (by simp)).trans (objAt_snoc _ _)
     have Z:=Gx.put hQ G.nd (fun o ho=>G.fresh o ho) (fun o ho=>G.old o ho) G.len
     have hns : s.length ≠ 1:=by omega
     have h1q : 1 < q2.length:=by omega
     refine ew5 @lz @B1 @B9 (And.intro f0 (And.intro f1 (And.intro f2 (And.intro f3 f4)))) @List.set_set.{0} ?_
     refine ⟨(k + 1,?st1,z1,z2,o2),?c1,⟨?c2,?c4⟩,?c3⟩
     case c3=>dsimp only;(refine Fg_env ?_;exact fgW)
     case c1=>dsimp only;omega
     case c2=>dsimp only;omega
     case c4 =>
      dsimp only
      rw [es,if_neg (by omega),if_pos (by omega)]
      exact Z
    ·by_cases h2 : l.b = v
     ·have f1 : (l.a = v) = False:=eq_false (by omega)
      have f2 : (l.b = v) = True:=eq_true (by omega)
      have f3 : (l.b = u) = True:=eq_true (by omega)
      have f4 : (l.a = u) = False:=eq_false (by omega)
      refine ew4 @hc @hx (And.intro f0 (And.intro f1 (And.intro f2 (And.intro f3 f4)))) @I1 ?_
      refine RefK_got (po_ratAddR h.d_impl_ratAdd hX cw) (by (refine ew3 @R1 @e4 @hx ?_;try with_reducible exact True.intro);try rfl) ?_
      intro r q2 o2 G
      obtain ⟨_,rfl,hQ⟩:=G.ow.agg_inv
      obtain ⟨z1,z2,rfl⟩:=hQ.rat
      have lz:=OwL.leaf hQ rfl
      simp only [List.all_cons,List.all_nil,Bool.and_true,Bool.and_eq_true] at lz
      have gl : s.length + 1 ≤ q2.length:=by have:=G.len;simpa using this
      have B1 : objAt q2 1 = some ⟨3,[[.bool X.neg,x1,x2]]⟩:=(G.old 1 (by simp;omega)).trans Gx.a1
      have B9 : objAt q2 s.length = some ⟨11,[l.cells]⟩:=(G.old s.length (by simp)).trans (objAt_snoc _ _)
      have Z:=Gx.put hQ G.nd (fun o ho=>G.fresh o ho) (fun o ho=>G.old o ho) G.len
      have hns : s.length ≠ 1:=by omega
      have h1q : 1 < q2.length:=by omega
      refine ew5 @lz @B1 @B9 (And.intro f0 (And.intro f1 (And.intro f2 (And.intro f3 f4)))) @List.set_set.{0} ?_
      refine ⟨(k + 1,?st2,z1,z2,o2),?c1,⟨?c2,?c4⟩,?c3⟩
      case c3=>dsimp only;(refine Fg_env ?_;exact fgW)
      case c1=>dsimp only;omega
      case c2=>dsimp only;omega
      case c4 =>
       dsimp only
       rw [es,if_neg (by omega),if_pos (by omega)]
       exact Z
     ·have f1 : (l.a = v) = False:=eq_false (by omega)
      have f2 : (l.b = v) = False:=eq_false (by omega)
      have f3 : (l.b = u) = False:=eq_false (by omega)
      have f4 : (l.a = u) = False:=eq_false (by omega)
      refine ew4 @hc @hx (And.intro f0 (And.intro f1 (And.intro f2 (And.intro f3 f4)))) @I1 ?_
      refine ⟨(k + 1,?st3,x1,x2,os),?c1,⟨?c2,?c4⟩,?c3⟩
      case c3=>dsimp only;(refine Fg_env ?_;exact fgW)
      case c1=>dsimp only;omega
      case c2=>dsimp only;omega
      case c4 =>
       dsimp only
       rw [es,if_neg (by omega),if_neg (by omega)]
       exact Gx
   ·have f0 : (v = u) = False:=eq_false huv
    by_cases h1 : l.a = v
    ·by_cases h2 : l.b = u
     ·have f1 : (l.a = v) = True:=eq_true (by omega)
      have f3 : (l.b = u) = True:=eq_true (by omega)
      have f4 : (l.a = u) = False:=eq_false (by omega)
      refine ew4 @hc @hx (And.intro f0 (And.intro f1 (And.intro f3 f4))) @I1 ?_
      refine RefK_got (po_ratNegR h.d_impl_ratNeg cw kp) (by (refine ew3 @R1 @e4 @hx ?_;try with_reducible exact True.intro);try rfl) ?_
      intro r q2 o2 G
      obtain ⟨_,rfl,hQ⟩:=G.ow.agg_inv
      obtain ⟨z1,z2,rfl⟩:=hQ.rat
      have lz:=OwL.leaf hQ rfl
      simp only [List.all_cons,List.all_nil,Bool.and_true,Bool.and_eq_true] at lz
      have gl : s.length + 1 ≤ q2.length:=by have:=G.len;simpa using this
      have B1 : objAt q2 1 = some ⟨3,[[.bool X.neg,x1,x2]]⟩:=(G.old 1 (by simp;omega)).trans Gx.a1
      have B9 : objAt q2 s.length = some ⟨11,[l.cells]⟩:=(G.old s.length (by simp)).trans (objAt_snoc _ _)
      have Z:=Gx.put hQ G.nd (fun o ho=>G.fresh o ho) (fun o ho=>G.old o ho) G.len
      have hns : s.length ≠ 1:=by omega
      have h1q : 1 < q2.length:=by omega
      refine ew5 @lz @B1 @B9 (And.intro f0 (And.intro f1 (And.intro f3 f4))) @List.set_set.{0} ?_
      refine ⟨(k + 1,?st4,z1,z2,o2),?c1,⟨?c2,?c4⟩,?c3⟩
      case c3=>dsimp only;(refine Fg_env ?_;exact fgW)
      case c1=>dsimp only;omega
      case c2=>dsimp only;omega
      case c4 =>
       dsimp only
       rw [es,if_pos (by omega)]
       exact Z
     ·have f1 : (l.a = v) = True:=eq_true (by omega)
      have f3 : (l.b = u) = False:=eq_false (by omega)
      have f4 : (l.a = u) = False:=eq_false (by omega)
      refine ew4 @hc @hx (And.intro f0 (And.intro f1 (And.intro f3 f4))) @I1 ?_
      refine ⟨(k + 1,?st5,x1,x2,os),?c1,⟨?c2,?c4⟩,?c3⟩
      case c3=>dsimp only;(refine Fg_env ?_;exact fgW)
      case c1=>dsimp only;omega
      case c2=>dsimp only;omega
      case c4 =>
       dsimp only
       rw [es,if_neg (by omega),if_neg (by omega)]
       exact Gx
    ·by_cases h2 : l.a = u
     ·by_cases h3 : l.b = v
      ·have f1 : (l.a = v) = False:=eq_false (by omega)
       have f4 : (l.a = u) = True:=eq_true (by omega)
       have f2 : (l.b = v) = True:=eq_true (by omega)
       refine ew4 @hc @hx (And.intro f0 (And.intro f1 (And.intro f4 f2))) @I1 ?_
       refine RefK_got (po_ratNegR h.d_impl_ratNeg cw kp) (by (refine ew3 @R1 @e4 @hx ?_;try with_reducible exact True.intro);try rfl) ?_
       intro r q2 o2 G
       obtain ⟨_,rfl,hQ⟩:=G.ow.agg_inv
       obtain ⟨z1,z2,rfl⟩:=hQ.rat
       have lz:=OwL.leaf hQ rfl
       simp only [List.all_cons,List.all_nil,Bool.and_true,Bool.and_eq_true] at lz
       have gl : s.length + 1 ≤ q2.length:=by have:=G.len;simpa using this
       have B1 : objAt q2 1 = some ⟨3,[[.bool X.neg,x1,x2]]⟩:=(G.old 1 (by simp;omega)).trans Gx.a1
       have B9 : objAt q2 s.length = some ⟨11,[l.cells]⟩:=(G.old s.length (by simp)).trans (objAt_snoc _ _)
       have Z:=Gx.put hQ G.nd (fun o ho=>G.fresh o ho) (fun o ho=>G.old o ho) G.len
       have hns : s.length ≠ 1:=by omega
       have h1q : 1 < q2.length:=by omega
       refine ew5 @lz @B1 @B9 (And.intro f0 (And.intro f1 (And.intro f4 f2))) @List.set_set.{0} ?_
       refine ⟨(k + 1,?st6,z1,z2,o2),?c1,⟨?c2,?c4⟩,?c3⟩
       case c3=>dsimp only;(refine Fg_env ?_;exact fgW)
       case c1=>dsimp only;omega
       case c2=>dsimp only;omega
       case c4 =>
        dsimp only
        rw [es,if_pos (by omega)]
        exact Z
      ·have f1 : (l.a = v) = False:=eq_false (by omega)
       have f4 : (l.a = u) = True:=eq_true (by omega)
       have f2 : (l.b = v) = False:=eq_false (by omega)
       refine ew4 @hc @hx (And.intro f0 (And.intro f1 (And.intro f4 f2))) @I1 ?_
       refine ⟨(k + 1,?st7,x1,x2,os),?c1,⟨?c2,?c4⟩,?c3⟩
       case c3=>dsimp only;(refine Fg_env ?_;exact fgW)
       case c1=>dsimp only;omega
       case c2=>dsimp only;omega
       case c4 =>
        dsimp only
        rw [es,if_neg (by omega),if_neg (by omega)]
        exact Gx
     ·have f1 : (l.a = v) = False:=eq_false (by omega)
      have f4 : (l.a = u) = False:=eq_false (by omega)
      refine ew4 @hc @hx (And.intro f0 (And.intro f1 f4)) @I1 ?_
      refine ⟨(k + 1,?st8,x1,x2,os),?c1,⟨?c2,?c4⟩,?c3⟩
      case c3=>dsimp only;(refine Fg_env ?_;exact fgW)
      case c1=>dsimp only;omega
      case c2=>dsimp only;omega
      case c4 =>
       dsimp only
       rw [es,if_neg (by omega),if_neg (by omega)]
       exact Gx
  ·have hke : k = S.length:=by omega
   rw [hke] at I I1 hX
   generalize imP S v u S.length = X at *
   refine ew5 @hc @I1 @I0 @lx @List.set_set.{0} ?_
   have f1:=I.fr
   exact fin_of (owV_agg (I.ow.frame fun o ho=>objAt_setne (by have:=f1 o ho;omega))) I.nd
theorem po_iInformationMatrix {T : Nat → Option Fn} (h : D_impl_InformationMatrix T) {S : List Lk} (hw : wfL Lk.wf S) (hl : S.length ≤ 1048576) : PO T 275 [lksV S] (ratssV (imV S)):=by
 have ci:=c_iIsLinkSet h.d_impl_IsLinkSet hw
 cases hb : lksOk S
 ·rw [hb] at ci
  rw [imV_bad (imG_l hb)]
  refine po_end2 (fun _ _=>false) h.hT rfl rfl ?_
  dsimp only [F_impl_InformationMatrix,oN,oS,oG,oK,oA,oH,oV,cI,St.enter,List.length_cons,List.length_nil,Nat.zero_add]
  refine ew ?_
  refine PFK_of ci ?_
  refine ew ?_
  exact fin_nil
 rw [hb] at ci
 have cn:=(po_inodesOf h.d_impl_nodesOf (l:=S) hw).frz (dep_ints _ _)
 rw [← nodesM_t hb] at cn
 have hnl:=nodesM_len S
 refine po_end2 (fun x d=>x == 277) h.hT rfl rfl ?_
 dsimp only [F_impl_InformationMatrix,oN,oS,oG,oK,oA,oH,oV,cI,St.enter,List.length_cons,List.length_nil,Nat.zero_add]
 refine ew ?_
 refine PFK_of ci ?_
 refine ew ?_
 refine PFK_of cn ?_
 refine ew ?_
 refine loop_at (fun x d=>x == 277) (α:=Nat × Store × V × List (List V) × List Nat × List (Nat × Obj)) (fun q=>⟨argE [lksV S,.any,.any,ints (nodesM S),q.2.2.1,.any,.any,.any,.any,.any,.any,.any,.any,.any,.any,.any,ints (nodesM S),iv ((nodesM S).length : Nat),iv (q.1 : Nat)],q.2.1,0,0,[],[]⟩) (fun q=>(q.1 ≤ (nodesM S).length ∧ LAt 1 q.2.2.1 q.2.2.2.1 q.2.2.2.2.2 ∧ (∀ r ∈ q.2.2.2.1,r.length = 1) ∧ q.2.2.2.1.length = q.1 ∧ ∀ z,z < q.1 → (imR S ((nodesM S).getD z default) (nodesM S).length).all R.ok = true) ∧ Ep q.2.1 q.2.2.2.1.flatten (tO (imM S q.1)) q.2.2.2.2.1 q.2.2.2.2.2) (fun q=>(nodesM S).length - q.1) rfl (0,[none],.nils,[],[],[]) ?_ ?_ ?_
 ·exact ⟨⟨by omega,.inl ⟨rfl,rfl,rfl⟩,by simp,rfl,by intro z hz;omega⟩,⟨⟨by simp [tO,imM,OwL],.nil⟩,by simp⟩⟩
 ·(refine Fg_env ?_;exact fgW)
 ·rintro ⟨i,s,v4,OA,os,M⟩ ⟨⟨hi,hv6,hOA,hOl,hok⟩,E⟩
  dsimp only at hi hv6 hOA hOl hok E
  by_cases hcc : (i : Int) < ((nodesM S).length : Nat)
  ·have hil : i < (nodesM S).length:=by omega
   have eO:=imM_s hil
   have hTO : OA.flatten.length = (tO (imM S i)).length:=by rw [flat1k hOA,tO_len,imM_len hi];omega
   have hbad:=imG_row hil
   have hok2 : (imR S ((nodesM S).getD i default) (nodesM S).length).all R.ok = true → ∀ z,z < i + 1 → (imR S ((nodesM S).getD z default) (nodesM S).length).all R.ok = true:=fun h z hz=>by
    by_cases e : z = i
    ·subst e;exact h
    ·exact hok z (by omega)
   generalize hTOe : tO (imM S i) = TO at *
   obtain ⟨v,hv⟩ : ∃ v,(nodesM S).getD i 0 = v:=⟨_,rfl⟩
   rw [show (nodesM S).getD i default = v from hv] at eO hbad hok2
   refine ew2 @hcc @hv ?_
   refine loop_at (fun x d=>x == 277) (α:=Nat × Store × V × List (List V) × List Nat × List (Nat × Obj)) (fun q=>⟨argE [lksV S,.any,.any,ints (nodesM S),v4,.any,iv v,q.2.2.1,.any,.any,.any,.any,.any,.any,.any,.any,ints (nodesM S),iv ((nodesM S).length : Nat),iv (i : Nat),.any,.any,.any,.any,ints (nodesM S),iv ((nodesM S).length : Nat),iv (q.1 : Nat)],q.2.1,0,0,[],[]⟩) (fun q=>(q.1 ≤ (nodesM S).length ∧ LAt 3 q.2.2.1 q.2.2.2.1 q.2.2.2.2.2 ∧ (∀ r ∈ q.2.2.2.1,r.length = 3) ∧ q.2.2.2.1.length = q.1) ∧ Ep q.2.1 (q.2.2.2.1.flatten ++ OA.flatten) (rT (imR S v q.1) ++ TO) q.2.2.2.2.1 (q.2.2.2.2.2 ++ M)) (fun q=>(nodesM S).length - q.1) rfl (0,s ++ [none],.nils,[],os,[]) ?_ ?_ ?_
   ·exact ⟨⟨by omega,.inl ⟨rfl,rfl,rfl⟩,by simp,rfl⟩,by simpa [rT,imR] using E.snoc⟩
   ·(refine Fg_env ?_;exact fgW)
   ·rintro ⟨j,s,v8,RA,os,N⟩ ⟨⟨hj,hv8,hRA,hRl⟩,E⟩
    dsimp only at hj hv8 hRA hRl E
    by_cases hcj : (j : Int) < ((nodesM S).length : Nat)
    ·have hjl : j < (nodesM S).length:=by omega
     have eR:=imR_s (v:=v) hjl
     have hTR : RA.flatten.length = (rT (imR S v j)).length:=by rw [flat3 hRA,rT_len,imR_len hj];omega
     generalize hTRe : rT (imR S v j) = TR at *
     obtain ⟨u,hu⟩ : ∃ u,(nodesM S).getD j 0 = u:=⟨_,rfl⟩
     rw [show (nodesM S).getD j default = u from hu] at eR
     have PI:=po_informationOf h.d_impl_informationOf (v:=v) (u:=u) hb hl
     generalize imP S v u S.length = X at *
     refine ew2 @hcj @hu ?_
     refine RefK_got PI (by (refine ew ?_;try with_reducible exact True.intro)) ?_
     intro r q1 o1 G
     obtain ⟨_,rfl,hQ1⟩:=G.ow.agg_inv
     obtain ⟨x1,x2,rfl⟩:=hQ1.rat
     have E1:=E.got (s1:=(s ++ [none]) ++ [none]) (fun o ho=>by simp only [List.append_assoc];exact objAt_app_lt ho) (by simp) hQ1 G.nd G.fresh G.old
     have gl : s.length + 2 ≤ q1.length:=by simpa using G.len
     have l1:=OwL.leaf hQ1 rfl
     simp only [List.all_cons,List.all_nil,Bool.and_true,Bool.and_eq_true] at l1
     have hCl : (RA.flatten ++ OA.flatten).length = (TR ++ TO).length:=by rw [List.length_append,List.length_append,hTR,hTO]
     obtain ⟨os2,E3,hm2⟩:=Ep.swap (a:=RA.flatten ++ OA.flatten) (b:=[.bool X.neg,x1,x2]) (c:=[]) (ta:=TR ++ TO) (tb:=X.cells) (tc:=[]) (by simpa only [List.append_nil] using E1) hCl rfl
     simp only [List.append_nil] at E3
     obtain ⟨os',E5,hm5⟩:=Ep.swap (a:=[.bool X.neg,x1,x2]) (b:=RA.flatten) (c:=OA.flatten) (ta:=X.cells) (tb:=TR) (tc:=TO) E3 rfl hTR
     have E5 : Ep q1 ((RA ++ [[.bool X.neg,x1,x2]]).flatten ++ OA.flatten) ((TR ++ X.cells) ++ TO) os' (N ++ M):=by simpa [List.flatten_append] using E5
     have hos : ∀ o ∈ os',o < s.length ∨ s.length + 2 ≤ o:=fun o ho=>by
      have:=(hm2 o).1 ((hm5 o).1 ho)
      rcases List.mem_append.1 this with h | h
      ·exact .inl (E.oslt o h)
      ·have:=G.fresh o h;simp at this;exact .inr (by omega)
     have hLM : ∀ q ∈ N ++ M,q.1 < s.length ∧ q.1 ∉ os':=fun q hq=>⟨E.lt q hq,(E5.l q hq).2⟩
     have hR':=mm_rows hRA (show ([.bool X.neg,x1,x2] : List V).length = 3 from rfl)
     have hstep : ∀ (S' : Store) (q : Nat),(∀ o ∈ os',objAt S' o = objAt q1 o) → (∀ z ∈ M,objAt S' z.1 = objAt q1 z.1) → s.length ≤ q → q < s.length + 2 → objAt S' q = some ⟨3,RA ++ [[.bool X.neg,x1,x2]]⟩ →
       Ep S' ((RA ++ [[.bool X.neg,x1,x2]]).flatten ++ OA.flatten) (rT (imR S v j ++ [X]) ++ TO) os' ([(q,⟨3,RA ++ [[.bool X.neg,x1,x2]]⟩)] ++ M):=by
      intro S' q h1 h2 h3 h3' h4
      rw [rT_app,hTRe]
      refine E5.to h1 fun z hz=>?_
      rcases List.mem_append.1 hz with hz | hz
      ·rw [List.mem_singleton.1 hz]
       exact .inr ⟨h4,fun hm=>by have:=hos _ hm;dsimp only at this;omega⟩
      ·exact .inl ⟨by simp [hz],h2 z hz⟩
     rcases hv8 with ⟨rfl,rfl,rfl⟩ | ⟨pr,rfl,rfl⟩
     ·refine ew3 @hcj @l1 @gl ?_
      refine ⟨by omega,?_⟩
      refine ⟨(j + 1,?st,.msl (s.length + 1) 0 1,[] ++ [[.bool X.neg,x1,x2]],os',[(s.length + 1,⟨3,[] ++ [[.bool X.neg,x1,x2]]⟩)]),?c1,⟨⟨?c2,.inr ⟨_,rfl,rfl⟩,hR',?c4⟩,?c6⟩,?c3⟩
      case c3=>dsimp only;(refine Fg_env ?_;exact fgW)
      case c1=>dsimp only;omega
      case c2=>dsimp only;omega
      case c4=>dsimp only;simp at hRl ⊢;omega
      case c6 =>
       dsimp only
       rw [eR]
       refine hstep _ _ (fun o ho=>?_) (fun z hz=>?_) (by omega) (by omega) ?_
       ·have:=hos o ho
        have n1 : o ≠ s.length:=by omega
        have n2 : o ≠ s.length + 1:=by omega
        exact obE
       ·have:=(hLM z (by simp [hz])).1
        exact obE
       ·exact objAt_seteq (by simp <;> omega)
     ·have Lr:=E.at0 (p:=pr) (ob:=⟨3,RA⟩) (by simp)
      have Lr2 : objAt q1 pr = some ⟨3,RA⟩:=(G.old pr (by simp;omega)).trans ((by simp only [List.append_assoc];exact objAt_app_lt Lr.2 : _ = objAt s pr).trans Lr.1)
      have hpq : pr < q1.length:=by omega
      refine ew5 @hcj @l1 @gl @Lr2 @hpq ?_
      refine ⟨by omega,?_⟩
      refine ⟨(j + 1,?st2,.msl (s.length + 1) 0 (RA.length + 1),RA ++ [[.bool X.neg,x1,x2]],os',[(s.length + 1,⟨3,RA ++ [[.bool X.neg,x1,x2]]⟩)]),?c1,⟨⟨?c2,.inr ⟨_,by dsimp only;rw [List.length_append];rfl,rfl⟩,hR',?c4⟩,?c6⟩,?c3⟩
      case c3=>dsimp only;(refine Fg_env ?_;exact fgW)
      case c1=>dsimp only;omega
      case c2=>dsimp only;omega
      case c4=>dsimp only;simp at hRl ⊢;omega
      case c6 =>
       dsimp only
       rw [eR]
       refine hstep _ _ (fun o ho=>?_) (fun z hz=>?_) (by omega) (by omega) ?_
       ·have:=hos o ho
        have n1 : o ≠ s.length:=by omega
        have n2 : o ≠ s.length + 1:=by omega
        have ha : o ≠ pr:=fun e=>(hLM (pr,⟨3,RA⟩) (by simp)).2 (e ▸ ho)
        exact obE
       ·have:=(hLM z (by simp [hz])).1
        have hne : z.1 ≠ pr:=fun e=>by
         have k1:=(E.l z (by simp [hz])).1
         rw [e,Lr.1] at k1
         rcases hv6 with ⟨_,_,rfl⟩ | ⟨po,_,rfl⟩
         ·cases hz
         ·rw [List.mem_singleton.1 hz] at k1;cases k1
        exact obE
       ·exact objAt_seteq (by simp <;> omega)
    ·have hje : j = (nodesM S).length:=by omega
     rcases hv8 with ⟨rfl,rfl,rfl⟩ | ⟨pr,rfl,rfl⟩
     ·simp at hRl;omega
     have Lr:=E.at0 (p:=pr) (ob:=⟨3,RA⟩) (by simp)
     rw [hje] at E
     have hRcn:=imR_cn S v (nodesM S).length
     have hRow : (imR S v (nodesM S).length).length = RA.length:=by rw [imR_len (Nat.le_refl _)];omega
     have eO2 : tO (imM S (i + 1)) = TO ++ [ratsV (imR S v (nodesM S).length)]:=by rw [eO,tO_app,hTOe]
     generalize imR S v (nodesM S).length = row at *
     have cg:=c_goodRow h.d_impl_goodRow hRcn (by omega)
     have hRr : ∀ r ∈ row.map R.cells,r.length = 3:=fun r hr=>by obtain ⟨x,_,rfl⟩:=List.mem_map.1 hr;rfl
     have E' : Ep s (RA.flatten ++ OA.flatten) ((row.map R.cells).flatten ++ TO) os ([(pr,⟨3,RA⟩)] ++ M):=E
     have Rf:=E'.listRes (p:=pr) (n:=3) (by simp) hRA hRr (by simp [hRow]) FD (dep_rats _ _)
     cases hg : row.all R.ok
     ·rw [imV_bad (hbad hg)]
      rw [hg] at cg
      refine ew4 @hcj @Rf @numK_any @or_sc ?_
      refine PFK_of cg ?_
      refine ew ?_
      exact fin_nil
     ·have hok3:=hok2 hg
      rw [hg] at cg
      obtain ⟨os1,E1⟩:=E'.close (p:=pr) (n:=3) (by simp) hRA hRr (by simp [hRow])
      obtain ⟨os2,E2,_⟩:=Ep.swap (a:=[.msl pr 0 RA.length]) (b:=OA.flatten) (c:=[]) (ta:=[ratsV row]) (tb:=TO) (tc:=[]) (show Ep s ([V.msl pr 0 RA.length] ++ (OA.flatten ++ [])) ([ratsV row] ++ (TO ++ [])) _ _ from by rw [List.append_nil,List.append_nil];exact E1) rfl hTO
      simp only [List.append_nil] at E2
      have hlt' : ∀ o ∈ os2,o < s.length:=E2.oslt
      have hO':=mm_rows hOA (show ([.msl pr 0 RA.length] : List V).length = 1 from rfl)
      have hstep : ∀ (S' : Store) (q : Nat),(∀ o ∈ os2,objAt S' o = objAt s o) → s.length ≤ q → objAt S' q = some ⟨1,OA ++ [[.msl pr 0 RA.length]]⟩ →
        Ep S' (OA ++ [[V.msl pr 0 RA.length]]).flatten (tO (imM S (i + 1))) os2 [(q,⟨1,OA ++ [[.msl pr 0 RA.length]]⟩)]:=by
       intro S' q h1 h3 h4
       rw [eO2,List.flatten_append,show ([[V.msl pr 0 RA.length]] : List (List V)).flatten = [V.msl pr 0 RA.length] from rfl]
       refine E2.to h1 fun z hz=>?_
       rw [List.mem_singleton.1 hz]
       exact .inr ⟨h4,fun hm=>by have:=hlt' _ hm;dsimp only at this;omega⟩
      refine ew4 @hcj @Rf @numK_any @or_sc ?_
      refine PFK_of cg ?_
      rcases hv6 with ⟨rfl,rfl,rfl⟩ | ⟨po,rfl,rfl⟩
      ·refine ew1 @Lr ?_
       refine ⟨by omega,?_⟩
       refine ⟨(i + 1,?st3,.msl (s.length + 1) 0 1,[] ++ [[.msl pr 0 RA.length]],os2,[(s.length + 1,⟨1,[] ++ [[.msl pr 0 RA.length]]⟩)]),?c1,⟨⟨?c2,.inr ⟨_,rfl,rfl⟩,hO',?c4,hok3⟩,?c6⟩,?c3⟩
       case c3=>dsimp only;(refine Fg_env ?_;exact fgW)
       case c1=>dsimp only;omega
       case c2=>dsimp only;omega
       case c4=>dsimp only;simp at hOl ⊢;omega
       case c6 =>
        refine hstep _ _ (fun o ho=>?_) (by omega) ?_
        ·have:=hlt' o ho
         exact obE
        ·exact objAt_seteq (by simp <;> omega)
      ·have Lo:=E.at0 (p:=po) (ob:=⟨1,OA⟩) (by simp)
       have npo : po ≠ pr:=fun e=>by have:=Lr.1;rw [← e,Lo.1] at this;cases this
       have hno : po ∉ os2:=(E2.l (po,⟨1,OA⟩) (by simp;exact fun e=>npo e)).2
       refine ew2 @Lr @Lo ?_
       refine ⟨by omega,?_⟩
       refine ⟨(i + 1,?st4,.msl (s.length + 1) 0 (OA.length + 1),OA ++ [[.msl pr 0 RA.length]],os2,[(s.length + 1,⟨1,OA ++ [[.msl pr 0 RA.length]]⟩)]),?c1,⟨⟨?c2,.inr ⟨_,by dsimp only;rw [List.length_append];rfl,rfl⟩,hO',?c4,hok3⟩,?c6⟩,?c3⟩
       case c3=>dsimp only;(refine Fg_env ?_;exact fgW)
       case c1=>dsimp only;omega
       case c2=>dsimp only;omega
       case c4=>dsimp only;simp at hOl ⊢;omega
       case c6 =>
        refine hstep _ _ (fun o ho=>?_) (by omega) ?_
        ·have:=hlt' o ho
         have ha : o ≠ po:=fun e=>hno (e ▸ ho)
         exact obE
        ·exact objAt_seteq (by simp <;> omega)
  ·have hie : i = (nodesM S).length:=by omega
   rw [hie] at E hok
   rw [imV_good (imG_all hb hok)]
   have hl2 : (imM S (nodesM S).length).length = OA.length:=by rw [imM_len (Nat.le_refl _)];omega
   generalize imM S (nodesM S).length = mm at *
   rcases hv6 with ⟨rfl,rfl,rfl⟩ | ⟨po,rfl,rfl⟩
   ·have : mm = []:=List.eq_nil_of_length_eq_zero (by simpa using hl2)
    subst this
    refine ew1 @hcc ?_
    exact fin_nil
   ·have hTr : ∀ r ∈ mm.map fun r=>[ratsV r],r.length = 1:=fun r hr=>by obtain ⟨x,_,rfl⟩:=List.mem_map.1 hr;rfl
    obtain ⟨os1,E1⟩:=Ep.close (A:=OA) (T:=mm.map fun r=>[ratsV r]) (c:=[]) (tc:=[]) (p:=po) (n:=1) (by simpa only [List.append_nil,tO] using E) (by simp) hOA hTr (by simp [hl2])
    refine ew1 @hcc ?_
    obtain ⟨v,vs,o1,o2,e,rfl,k1,k2⟩:=E1.c.ow.inv
    simp only [List.cons.injEq] at e
    obtain ⟨rfl,rfl⟩:=e
    obtain ⟨_,rfl⟩:=k2.nil_inv
    exact fin_of k1 (by have:=E1.c.nd;simpa using this)
theorem lksOk_iff {l : List Lk} : lksOk l = true ↔ (∀ x ∈ l,lkOk x = true) ∧ l.Pairwise fun k l=>lkLess k l = true:=by
 constructor
 ·intro h
  exact ⟨fun x hx=>lksOk_mem h hx,(lksOk_pw h).imp fun h=>h.1⟩
 ·rintro ⟨h1,h2⟩
  unfold lksOk
  refine allB_t fun i hi=>?_
  have a:=h1 (l.getD i default) (getD_mem hi)
  unfold lksAt
  rw [List.pairwise_iff_getElem] at h2
  rcases Nat.eq_zero_or_pos i with h0 | h0
  ·subst h0;rw [a,decide_eq_true rfl];rfl
  ·have:=h2 (i - 1) i (by omega) hi (by omega)
   have e1 : l.getD (i - 1) default = l[i - 1]:=by rw [List.getD_eq_getElem?_getD,List.getElem?_eq_getElem];rfl
   have e2 : l.getD i default = l[i]:=by rw [List.getD_eq_getElem?_getD,List.getElem?_eq_getElem];rfl
   rw [← e1,← e2] at this
   rw [a,this,Bool.or_true];rfl
theorem imP_0 {s : List Lk} (hb : lksOk s = true) {v u : Int} (hne : v ≠ u) : ∀ k,k < s.length → ((s.getD k default).a = v ∧ (s.getD k default).b = u) ∨ ((s.getD k default).a = u ∧ (s.getD k default).b = v) → imP s v u k = intR 0:=by
 obtain ⟨h1,h2⟩:=lksOk_iff.1 hb
 intro k hk hc
 have key : ∀ j,j ≤ k → imP s v u j = intR 0:=by
  intro j
  induction j with
  | zero=>intro _;rfl
  |
   succ j ih =>
   intro hj
   have hlt : lkLess (s.getD j default) (s.getD k default) = true:=by
    have:=List.pairwise_iff_getElem.1 h2 j k (by omega) hk (by omega)
    rw [List.getD_eq_getElem?_getD,List.getElem?_eq_getElem (by omega : j < s.length),List.getD_eq_getElem?_getD,List.getElem?_eq_getElem hk]
    exact this
   have a1:=lkOk_nd (h1 _ (getD_mem (l:=s) (i:=j) (by omega)))
   have a2:=lkOk_nd (h1 _ (getD_mem hk))
   unfold lkLess at hlt
   simp only [Bool.or_eq_true,Bool.and_eq_true,decide_eq_true_eq] at hlt
   show imStep v u (imP s v u j) (s.getD j default) = intR 0
   unfold imStep
   rw [if_neg (by omega),if_neg (by omega),ih (by omega)]
 exact key k (Nat.le_refl _)
theorem c_sInformationMatrix {T : Nat → Option Fn} (h : D_spec_InformationMatrix T) {S : List Lk} (hw : wfL Lk.wf S) (hl : S.length ≤ 1048576) : PF T 337 [lksV S] (ratssV (imV S)):=by
 have ci:=c_sIsLinkSet h.d_spec_IsLinkSet hw
 cases hb : lksOk S
 ·rw [hb] at ci
  rw [imV_bad (imG_l hb)]
  refine pf_endL (fun _ _=>false) h.hT rfl rfl ?_
  dsimp only [F_spec_InformationMatrix,oN,oS,oG,oK,oA,oH,oV,cI]
  refine ev ?_
  refine PFK_of ci ?_
  refine ev ?_
  exact of_eq_true (LaxV_nil 1)
 rw [hb] at ci
 have cn:=c_sNodesOfM h.d_spec_NodesOf hw hl
 have hnl:=nodesM_len S
 have c0:=c_sRatFromInt h.d_spec_RatFromInt (n:=0) (by omega)
 have hP0:=fun v u (hne : v ≠ u) k hk hc=>imP_0 hb hne k hk hc
 refine pf_endL (fun x d=>x == 403) h.hT rfl rfl ?_
 dsimp only [F_spec_InformationMatrix,oN,oS,oG,oK,oA,oH,oV,cI]
 refine ew ?_
 refine PFK_of ci ?_
 refine ew ?_
 refine PFK_of cn ?_
 refine ew ?_
 refine loop_at (fun x d=>x == 403) (α:=Nat × Store × V × List (Nat × List R)) (fun q=>⟨argE [lksV S,.any,.any,q.2.2.1,ints (nodesM S),.any,.any,.any,.any,.any,.any,.any,.any,.any,.any,.any,.any,.any,.any,ints (nodesM S),iv ((nodesM S).length : Nat),iv (q.1 : Nat)],q.2.1,0,0,[],[]⟩) (fun q=>q.1 ≤ (nodesM S).length ∧ MatA q.2.1 q.2.2.1 q.2.2.2 ∧ q.2.2.2.map (·.2) = imM S q.1) (fun q=>(nodesM S).length - q.1) rfl (0,[none],.nils,[]) ?_ ?_ ?_
 ·exact ⟨by omega,⟨.inl ⟨rfl,rfl⟩,by simp⟩,rfl⟩
 ·(refine Fg_env ?_;exact fgW)
 ·rintro ⟨i,s,v5,Z⟩ ⟨hi,hM,hZ⟩
  dsimp only at hi hM hZ
  have hZl : Z.length = i:=by rw [← List.length_map (f:=fun x : Nat × List R=>x.2),hZ,imM_len hi]
  by_cases hcc : (i : Int) < ((nodesM S).length : Nat)
  ·have hil : i < (nodesM S).length:=by omega
   have eO:=imM_s hil
   obtain ⟨v,hv⟩ : ∃ v,(nodesM S).getD i 0 = v:=⟨_,rfl⟩
   rw [show (nodesM S).getD i default = v from hv] at eO
   refine ew2 @hcc @hv ?_
   refine loop_at (fun x d=>x == 403) (α:=Nat × Store × V × List R) (fun q=>⟨argE [lksV S,.any,.any,v5,ints (nodesM S),.any,iv v,q.2.2.1,.any,.any,.any,.any,.any,.any,.any,.any,.any,.any,.any,ints (nodesM S),iv ((nodesM S).length : Nat),iv (i : Nat),.any,.any,.any,.any,ints (nodesM S),iv ((nodesM S).length : Nat),iv (q.1 : Nat)],q.2.1,0,0,[],[]⟩) (fun q=>q.1 ≤ (nodesM S).length ∧ (∀ p,p < s.length → objAt q.2.1 p = objAt s p) ∧ s.length ≤ q.2.1.length ∧ RowN q.2.1 s.length q.2.2.1 q.2.2.2 ∧ q.2.2.2 = imR S v q.1) (fun q=>(nodesM S).length - q.1) rfl (0,s ++ [none],.nils,[]) ?_ ?_ ?_
   ·exact ⟨by omega,fun p hp=>objAt_snoc_lt hp,by simp,.inl ⟨rfl,rfl⟩,rfl⟩
   ·(refine Fg_env ?_;exact fgW)
   ·rintro ⟨j,t,v7,L⟩ ⟨hj,hf,hst,hR,hL⟩
    dsimp only at hj hf hst hR hL
    have hLl : L.length = j:=by rw [hL,imR_len hj]
    by_cases hcj : (j : Int) < ((nodesM S).length : Nat)
    ·have hjl : j < (nodesM S).length:=by omega
     have eR:=imR_s (v:=v) hjl
     rw [← hL] at eR
     obtain ⟨u,hu⟩ : ∃ u,(nodesM S).getD j 0 = u:=⟨_,rfl⟩
     rw [show (nodesM S).getD j default = u from hu] at eR
     refine ew2 @hcj @hu ?_
     refine PFK_of c0 ?_
     refine ew ?_
     have hm0 : objAt (t ++ [some (⟨3,[(intR 0).cells]⟩ : Obj)]) t.length = some ⟨3,[(intR 0).cells]⟩:=objAt_snoc _ _
     have hf0 : ∀ p,p < t.length → objAt (t ++ [some (⟨3,[(intR 0).cells]⟩ : Obj)]) p = objAt t p:=fun p hp=>objAt_snoc_lt hp
     generalize hS0 : t ++ [some (⟨3,[(intR 0).cells]⟩ : Obj)] = S0 at *
     generalize hm : t.length = m at *
     clear hS0
     refine loop_at (fun x d=>x == 403) (α:=Nat × Store) (fun q=>⟨argE [lksV S,.any,.any,v5,ints (nodesM S),.any,iv v,v7,.any,iv u,.ptr m 0 0,.any,.any,.any,.any,.any,.any,.any,.any,ints (nodesM S),iv ((nodesM S).length : Nat),iv (i : Nat),.any,.any,.any,.any,ints (nodesM S),iv ((nodesM S).length : Nat),iv (j : Nat),.any,.any,.any,.any,lksV S,iv (S.length : Nat),iv (q.1 : Nat)],q.2,0,0,[],[]⟩) (fun q=>q.1 ≤ S.length ∧ objAt q.2 m = some ⟨3,[(imP S v u q.1).cells]⟩ ∧ ∀ p,p < m → objAt q.2 p = objAt t p) (fun q=>S.length - q.1) rfl (0,S0) ?_ ?_ ?_
     ·exact ⟨Nat.zero_le _,hm0,hf0⟩
     ·(refine Fg_env ?_;exact fgW)
     ·clear hm0 hf0
      rintro ⟨k,w⟩ ⟨hk,hw1,hfw⟩
      dsimp only at hk hw1 hfw
      have hX:=imP_cn S v u k
      have hwl:=objAt_lt hw1
      by_cases hc : (k : Int) < (S.length : Nat)
      ·have hkl : k < S.length:=by omega
       have hx : (S.map Lk.cells).getD k [] = (S.getD k default).cells:=mg hkl
       have es : imP S v u (k + 1) = imStep v u (imP S v u k) (S.getD k default):=rfl
       have hlk:=lksOk_mem hb (getD_mem hkl)
       obtain ⟨hn0,hn1,hn2⟩:=lkOk_nd hlk
       obtain ⟨kw,kx,ky,kp⟩:=lkOk_ok hlk
       have cw:=cn_ok kw
       have hz:=fun hne hc=>hP0 v u hne k hkl hc
       generalize S.getD k default = l at *
       generalize imP S v u k = X at *
       have cadd:=c_sRatAdd h.d_spec_RatAdd (cn_wf hX) (cn_wf cw)
       have csub:=c_sRatSub h.d_spec_RatSub (cn_wf hX) (cn_wf cw)
       have hmn : m ≠ w.length:=by omega
       have hb9 : ∀ x : Option Obj,objAt (w.set m x ++ [some ⟨11,[l.cells]⟩]) w.length = some ⟨11,[l.cells]⟩:=fun x=>by
        have:=objAt_snoc (w.set m x) (some (⟨11,[l.cells]⟩ : Obj))
        rwa [List.length_set] at this
       unfold imStep at es
       by_cases huv : v = u
       ·have f0 : (v = u) = True:=eq_true huv
        by_cases h1 : l.a = v
        ·have f1 : (l.a = v) = True:=eq_true (by omega)
         have f2 : (l.b = v) = False:=eq_false (by omega)
         have f3 : (l.b = u) = False:=eq_false (by omega)
         have f4 : (l.a = u) = True:=eq_true (by omega)
         skip
         refine ew4 @hc @hx (And.intro f0 (And.intro f1 (And.intro f2 (And.intro f3 f4)))) @hw1 ?_
         refine PFK_of cadd ?_
         refine ew3 (And.intro f0 (And.intro f1 (And.intro f2 (And.intro f3 f4)))) @hw1 @hb9 ?_
         refine ⟨(k + 1,?st1),?c1,⟨?c2,?c4,?c5⟩,?c3⟩
         case c3=>dsimp only;(refine Fg_env ?_;exact fgW)
         case c1=>dsimp only;omega
         case c2=>dsimp only;omega
         case c4 =>
          dsimp only
          rw [es,if_neg (by omega),if_pos (by omega)]
          simp (disch:=first | omega | (simp only [List.length_append,List.length_set,List.length_cons,List.length_nil];omega)) only [EVs]
          try rfl
         case c5 =>
          dsimp only
          intro p hp
          have:=hfw p hp
          rw [← this]
          exact obE
        ·by_cases h2 : l.b = v
         ·have f1 : (l.a = v) = False:=eq_false (by omega)
          have f2 : (l.b = v) = True:=eq_true (by omega)
          have f3 : (l.b = u) = True:=eq_true (by omega)
          have f4 : (l.a = u) = False:=eq_false (by omega)
          skip
          refine ew4 @hc @hx (And.intro f0 (And.intro f1 (And.intro f2 (And.intro f3 f4)))) @hw1 ?_
          refine PFK_of cadd ?_
          refine ew3 (And.intro f0 (And.intro f1 (And.intro f2 (And.intro f3 f4)))) @hw1 @hb9 ?_
          refine ⟨(k + 1,?st2),?c1,⟨?c2,?c4,?c5⟩,?c3⟩
          case c3=>dsimp only;(refine Fg_env ?_;exact fgW)
          case c1=>dsimp only;omega
          case c2=>dsimp only;omega
          case c4 =>
           dsimp only
           rw [es,if_neg (by omega),if_pos (by omega)]
           simp (disch:=first | omega | (simp only [List.length_append,List.length_set,List.length_cons,List.length_nil];omega)) only [EVs]
           try rfl
          case c5 =>
           dsimp only
           intro p hp
           have:=hfw p hp
           rw [← this]
           exact obE
         ·have f1 : (l.a = v) = False:=eq_false (by omega)
          have f2 : (l.b = v) = False:=eq_false (by omega)
          have f3 : (l.b = u) = False:=eq_false (by omega)
          have f4 : (l.a = u) = False:=eq_false (by omega)
          refine ew4 @hc @hx (And.intro f0 (And.intro f1 (And.intro f2 (And.intro f3 f4)))) @hw1 ?_
          refine ⟨(k + 1,?st3),?c1,⟨?c2,?c4,?c5⟩,?c3⟩
          case c3=>dsimp only;(refine Fg_env ?_;exact fgW)
          case c1=>dsimp only;omega
          case c2=>dsimp only;omega
          case c4 =>
           dsimp only
           rw [es,if_neg (by omega),if_neg (by omega),← hw1]
           exact obE
          case c5 =>
           dsimp only
           intro p hp
           have:=hfw p hp
           rw [← this]
           exact obE
       ·have f0 : (v = u) = False:=eq_false huv
        by_cases h1 : l.a = v
        ·by_cases h2 : l.b = u
         ·have f1 : (l.a = v) = True:=eq_true (by omega)
          have f3 : (l.b = u) = True:=eq_true (by omega)
          have f4 : (l.a = u) = False:=eq_false (by omega)
          rw [hz huv (by omega),subR_0 kw] at csub
          rw [hz huv (by omega)] at hw1
          refine ew4 @hc @hx (And.intro f0 (And.intro f1 (And.intro f3 f4))) @hw1 ?_
          refine PFK_of csub ?_
          refine ew3 (And.intro f0 (And.intro f1 (And.intro f3 f4))) @hw1 @hb9 ?_
          refine ⟨(k + 1,?st4),?c1,⟨?c2,?c4,?c5⟩,?c3⟩
          case c3=>dsimp only;(refine Fg_env ?_;exact fgW)
          case c1=>dsimp only;omega
          case c2=>dsimp only;omega
          case c4 =>
           dsimp only
           rw [es,if_pos (by omega)]
           simp (disch:=first | omega | (simp only [List.length_append,List.length_set,List.length_cons,List.length_nil];omega)) only [EVs]
           try rfl
          case c5 =>
           dsimp only
           intro p hp
           have:=hfw p hp
           rw [← this]
           exact obE
         ·have f1 : (l.a = v) = True:=eq_true (by omega)
          have f3 : (l.b = u) = False:=eq_false (by omega)
          have f4 : (l.a = u) = False:=eq_false (by omega)
          refine ew4 @hc @hx (And.intro f0 (And.intro f1 (And.intro f3 f4))) @hw1 ?_
          refine ⟨(k + 1,?st5),?c1,⟨?c2,?c4,?c5⟩,?c3⟩
          case c3=>dsimp only;(refine Fg_env ?_;exact fgW)
          case c1=>dsimp only;omega
          case c2=>dsimp only;omega
          case c4 =>
           dsimp only
           rw [es,if_neg (by omega),if_neg (by omega),← hw1]
           exact obE
          case c5 =>
           dsimp only
           intro p hp
           have:=hfw p hp
           rw [← this]
           exact obE
        ·by_cases h2 : l.a = u
         ·by_cases h3 : l.b = v
          ·have f1 : (l.a = v) = False:=eq_false (by omega)
           have f4 : (l.a = u) = True:=eq_true (by omega)
           have f2 : (l.b = v) = True:=eq_true (by omega)
           rw [hz huv (by omega),subR_0 kw] at csub
           rw [hz huv (by omega)] at hw1
           refine ew4 @hc @hx (And.intro f0 (And.intro f1 (And.intro f4 f2))) @hw1 ?_
           refine PFK_of csub ?_
           refine ew3 (And.intro f0 (And.intro f1 (And.intro f4 f2))) @hw1 @hb9 ?_
           refine ⟨(k + 1,?st6),?c1,⟨?c2,?c4,?c5⟩,?c3⟩
           case c3=>dsimp only;(refine Fg_env ?_;exact fgW)
           case c1=>dsimp only;omega
           case c2=>dsimp only;omega
           case c4 =>
            dsimp only
            rw [es,if_pos (by omega)]
            simp (disch:=first | omega | (simp only [List.length_append,List.length_set,List.length_cons,List.length_nil];omega)) only [EVs]
            try rfl
           case c5 =>
            dsimp only
            intro p hp
            have:=hfw p hp
            rw [← this]
            exact obE
          ·have f1 : (l.a = v) = False:=eq_false (by omega)
           have f4 : (l.a = u) = True:=eq_true (by omega)
           have f2 : (l.b = v) = False:=eq_false (by omega)
           refine ew4 @hc @hx (And.intro f0 (And.intro f1 (And.intro f4 f2))) @hw1 ?_
           refine ⟨(k + 1,?st7),?c1,⟨?c2,?c4,?c5⟩,?c3⟩
           case c3=>dsimp only;(refine Fg_env ?_;exact fgW)
           case c1=>dsimp only;omega
           case c2=>dsimp only;omega
           case c4 =>
            dsimp only
            rw [es,if_neg (by omega),if_neg (by omega),← hw1]
            exact obE
           case c5 =>
            dsimp only
            intro p hp
            have:=hfw p hp
            rw [← this]
            exact obE
         ·have f1 : (l.a = v) = False:=eq_false (by omega)
          have f4 : (l.a = u) = False:=eq_false (by omega)
          refine ew4 @hc @hx (And.intro f0 (And.intro f1 f4)) @hw1 ?_
          refine ⟨(k + 1,?st8),?c1,⟨?c2,?c4,?c5⟩,?c3⟩
          case c3=>dsimp only;(refine Fg_env ?_;exact fgW)
          case c1=>dsimp only;omega
          case c2=>dsimp only;omega
          case c4 =>
           dsimp only
           rw [es,if_neg (by omega),if_neg (by omega),← hw1]
           exact obE
          case c5 =>
           dsimp only
           intro p hp
           have:=hfw p hp
           rw [← this]
           exact obE
      ·have hke : k = S.length:=by omega
       rw [hke] at hX hw1
       generalize imP S v u S.length = X at *
       have hu' : objAt w m = some ⟨3,[[.bool X.neg,ints X.mag,ints X.den]]⟩:=hw1
       rcases hR with ⟨rfl,rfl⟩ | ⟨pr,rfl,hnp,hp⟩
       ·refine ew2 @hc @hu' ?_
        refine ⟨by omega,?_⟩
        refine ⟨(j + 1,?st20,.msl (w.length + 1) 0 1,[] ++ [X]),?c1,⟨?c2,?c4,?c5,.inr ⟨_,rfl,?c6,?c7⟩,eR.symm⟩,?c3⟩
        case c3=>dsimp only;(refine Fg_env ?_;exact fgW)
        case c1=>dsimp only;omega
        case c2=>dsimp only;omega
        case c4 =>
         dsimp only
         intro p hp
         rw [← hf p hp,← hfw p (by omega)]
         exact obE
        case c5=>simp;omega
        case c6=>omega
        case c7=>exact objAt_seteq (by simp <;> omega)
       ·have hpl:=objAt_lt hp
        have hpu:=(hfw pr (by omega)).trans hp
        have hpm : pr ≠ m:=by omega
        refine ew3 @hc @hu' @hpu ?_
        refine ⟨by omega,?_⟩
        refine ⟨(j + 1,?st21,.msl (w.length + 1) 0 (L.length + 1),L ++ [X]),?c1,⟨?c2,?c4,?c5,.inr ⟨_,by rw [List.length_append];rfl,?c6,?c7⟩,eR.symm⟩,?c3⟩
        case c3=>dsimp only;(refine Fg_env ?_;exact fgW)
        case c1=>dsimp only;omega
        case c2=>dsimp only;omega
        case c4 =>
         dsimp only
         intro p hp
         rw [← hf p hp,← hfw p (by omega)]
         exact obE
        case c5=>simp;omega
        case c6=>omega
        case c7 =>
         dsimp only
         rw [List.map_append]
         exact objAt_seteq (by simp <;> omega)
    ·have hje : j = (nodesM S).length:=by omega
     rw [hje] at hL
     rcases hR with ⟨rfl,rfl⟩ | ⟨pr,rfl,hnp,hp⟩
     ·simp at hLl;omega
     have hpl:=objAt_lt hp
     rw [← hL] at eO
     have hM':=hM.fr (s2:=t) fun p hp=>hf p hp
     rcases hM with ⟨⟨rfl,rfl⟩ | ⟨q,rfl,hq⟩,hMr⟩
     ·refine ew2 @hcj @hp ?_
      refine ⟨by omega,?_⟩
      refine ⟨(i + 1,?st22,.msl (t.length + 1) 0 1,[] ++ [(pr,L)]),?c1,⟨?c2,⟨.inr ⟨_,rfl,?c4⟩,?c5⟩,?c6⟩,?c3⟩
      case c3=>dsimp only;(refine Fg_env ?_;exact fgW)
      case c1=>dsimp only;omega
      case c2=>dsimp only;omega
      case c4=>exact objAt_seteq (by simp <;> omega)
      case c5 =>
       dsimp only
       intro x hx
       rw [List.mem_singleton.1 hx]
       dsimp only
       rw [← hp]
       exact obE
      case c6=>rw [List.map_append,hZ];exact eO.symm
     ·have hqt:=(hf q (objAt_lt hq)).trans hq
      have hql:=objAt_lt hq
      have hqp : q ≠ pr:=by omega
      refine ew3 @hcj @hp @hqt ?_
      refine ⟨by omega,?_⟩
      refine ⟨(i + 1,?st23,.msl (t.length + 1) 0 (Z.length + 1),Z ++ [(pr,L)]),?c1,⟨?c2,⟨.inr ⟨_,by rw [List.length_append];rfl,?c4⟩,?c5⟩,?c6⟩,?c3⟩
      case c3=>dsimp only;(refine Fg_env ?_;exact fgW)
      case c1=>dsimp only;omega
      case c2=>dsimp only;omega
      case c4 =>
       dsimp only
       rw [List.map_append]
       exact objAt_seteq (by simp <;> omega)
      case c5 =>
       dsimp only
       intro x hx
       rcases List.mem_append.1 hx with hx | hx
       ·have h1:=hM'.2 x hx
        have h2:=objAt_lt h1
        have hne : x.1 ≠ q:=fun e=>by rw [e,hqt] at h1;cases h1
        rw [← h1]
        exact obE
       ·rw [List.mem_singleton.1 hx]
        dsimp only
        rw [← hp]
        exact obE
      case c6=>rw [List.map_append,hZ];exact eO.symm
  ·have hie : i = (nodesM S).length:=by omega
   rw [hie] at hZ
   have hok:=imM_ok S
   have hlm:=imM_len (s:=S) (i:=(nodesM S).length) (Nat.le_refl _)
   have hmo:=matOk_of (m:=imM S (nodesM S).length) (cols:=((nodesM S).length : Nat)) (fun r hr=>by have:=(hok r hr).2;omega) (by omega)
   have hwf : wfL (wfL R.wf) (imM S (nodesM S).length):=(mat_ok (n:=10) (fun r hr=>⟨(hok r hr).1,by have:=(hok r hr).2;omega⟩) (by omega) (by omega)).2
   have c3:=c_sIsMatrix h.d_spec_IsMatrix (m:=imM S (nodesM S).length) (cols:=((nodesM S).length : Nat)) hwf (by omega)
   have hV : imV S = if matOk (imM S (nodesM S).length) ((nodesM S).length : Nat) = true then imM S (nodesM S).length else []:=by
    unfold imV imG
    rw [hb,Bool.true_and,hmo]
   rw [hV]
   generalize imM S (nodesM S).length = mm at *
   generalize matOk mm ((nodesM S).length : Nat) = x3 at *
   have hx3 : x3 = false ∨ x3 = true:=by cases x3 <;> simp
   rcases hM with ⟨⟨rfl,rfl⟩ | ⟨q,rfl,hq⟩,hMr⟩
   ·have : mm = []:=hZ.symm
    subst this
    refine ew1 @hcc ?_
    refine PFK_of (.laxF (by simp [LaxL,LaxV]) c3 (laxV_refl _)) ?_
    rcases hx3 with hx3 | hx3
    ·refine ew1 @hx3 ?_
     exact of_eq_true (LaxV_nil 1)
    ·refine ew1 @hx3 ?_
     exact of_eq_true (LaxV_nil 1)
   ·have Rf:=MatA.res hMr hq
    rw [hZ] at Rf
    refine ew2 @hcc @Rf ?_
    refine PFK_of c3 ?_
    rcases hx3 with hx3 | hx3
    ·refine ew1 @hx3 ?_
     exact of_eq_true (LaxV_nil 1)
    ·refine ew2 @hx3 @Rf ?_
     exact laxV_refl _
theorem matF_snoc {s s2 : Store} {q q2 p2 i c : Nat} {rp : Nat → Nat} {M : MF} (h : i = 0 ∨ Mat s q i c rp (fun x=>(M x).map R.cells) M) (hq : objAt s2 q2 = some ⟨1,orow i c rp ++ [[.msl p2 0 c]]⟩) (hp : objAt s2 p2 = some ⟨3,(M i).map R.cells⟩) (hpl : s.length ≤ p2)
  (old : ∀ o,o < s.length → o ≠ q → objAt s2 o = objAt s o) : Mat s2 q2 (i + 1) c (fun x=>if x = i then p2 else rp x) (fun x=>(M x).map R.cells) M:=by
 have hlt : ∀ x,x < i → rp x < s.length ∧ rp x ≠ q:=fun x hx=>by
  rcases h with h | h
  ·omega
  ·exact ⟨h.lt.2 x hx,h.ne hx⟩
 refine ⟨fun x y hx hy e=>?_,?_,fun x hx=>?_,fun x hx=>row_frz _⟩
 ·by_cases h1 : x = i
  ·by_cases h2 : y = i
   ·omega
   ·rw [if_pos h1,if_neg h2] at e
    have:=(hlt y (by omega)).1
    omega
  ·by_cases h2 : y = i
   ·rw [if_neg h1,if_pos h2] at e
    have:=(hlt x (by omega)).1
    omega
   ·rw [if_neg h1,if_neg h2] at e
    rcases h with h | h
    ·omega
    ·exact h.inj x y (by omega) (by omega) e
 ·rw [hq]
  unfold orow
  rw [List.range_succ,List.map_append]
  congr 2
  congr 1
  ·refine List.map_congr_left fun x hx=>?_
   have:=List.mem_range.1 hx
   show [V.msl (rp x) 0 c] = [V.msl (if x = i then p2 else rp x) 0 c]
   rw [if_neg (by omega)]
  ·simp
 ·by_cases h1 : x = i
  ·subst h1;rw [if_pos rfl];exact hp
  ·rw [if_neg h1]
   have hxi : x < i:=by omega
   rcases h with h | h
   ·omega
   ·exact (old _ (hlt x hxi).1 (hlt x hxi).2).trans (h.row x hxi)
theorem mat_bd {m : List (List R)} {C : Nat} (hz : szL (szL R.sz) m ≤ 1048576) (h0 : 0 < m.length) (hrl : ∀ i,i < m.length → (m.getD i default).length = C) : C ≤ 1048576:=by
 have h2:=szL_memb (f:=szL R.sz) hz (getD_mem h0)
 have h3:=szL_eq R.sz (m.getD 0 default)
 have:=hrl 0 h0
 omega
theorem getQ {α : Type} {l : List (List α)} {j : Nat} (h : j < l.length) : l[j]? = some (l.getD j []):=by
 rw [List.getD_eq_getElem?_getD,List.getElem?_eq_getElem h];rfl
theorem Mat.cell {s : Store} {q n c : Nat} {rp : Nat → Nat} {A : Nat → List (List V)} {M : MF} (h : Mat s q n c rp A M) (hl : ∀ i,i < n → (M i).length = c) {i j : Nat} (hi : i < n) (hj : j < c) : ∃ a1 a2,(A i)[j]? = some [.bool (elF M i j).neg,a1,a2] ∧ LimbOk s a1 (elF M i j).mag ∧ LimbOk s a2 (elF M i j).den:=by
 have hr:=h.cel i hi
 have hjl : j < (M i).length:=by rw [hl i hi];exact hj
 obtain ⟨a1,a2,e,k1,k2⟩:=hr.2 j hjl
 exact ⟨a1,a2,by rw [getQ (by rw [hr.1];exact hjl),e];rfl,k1,k2⟩
theorem Mat.kpq {s s2 : Store} {q n c : Nat} {rp : Nat → Nat} {A : Nat → List (List V)} {M : MF} (h : Mat s q n c rp A M) (hn : 0 < n) (ho : ∀ o,o ≠ q → o < s.length → objAt s2 o = objAt s o) : Kp s s2:=fun o l e=>ho o (fun e2=>by
  rw [e2,h.out] at e
  injection e with e
  injection e with _ e
  exact orow_irows hn l e) (objAt_lt e)
theorem po_iReduceRows {T : Nat → Option Fn} (h : D_impl_ReduceRows T) {m : List (List R)} {c : Int} (hw : wfL (wfL R.wf) m) (hz : rrC m c = true → szL (szL R.sz) m ≤ 1048576) (hcw : c ≤ 9223372036854775807) : PO T 243 [ratssV m,iv c] (.tup [ratssV (rrM m c),.bool (rrB m c)]):=by
 have c1:=c_iIsMatrix h.d_impl_IsMatrix (m:=m) (cols:=c) hw hcw
 have hml:=hw.1
 cases hc : rrC m c
 ·obtain ⟨e1,e2⟩:=rrV_bad hc
  rw [e1,e2]
  unfold rrC at hc
  generalize matOk m c = x at c1 hc
  have hx : x = false ∨ x = true:=by cases x <;> simp
  refine po_end2 (fun _ _=>false) h.hT rfl rfl ?_
  dsimp only [F_impl_ReduceRows,oN,oS,oG,oK,oA,oH,oV,cI,St.enter,List.length_cons,List.length_nil,Nat.zero_add]
  refine ew ?_
  refine PFK_of c1 ?_
  rcases hx with hx | hx
  ·refine ew1 @hx ?_
   exact (fin_nil (sz:=1)).tup1
  ·have hlt : c < (m.length : Nat):=by
    rw [hx,Bool.true_and,decide_eq_false_iff_not] at hc
    omega
   refine ew2 @hx @hlt ?_
   exact (fin_nil (sz:=1)).tup1
 obtain ⟨h10,hnc,hmo,hok⟩:=rrC_ok hc
 rw [hmo] at c1
 have hlt : ¬ c < (m.length : Nat):=by omega
 obtain ⟨C,rfl⟩ : ∃ C : Nat,c = C:=⟨c.toNat,by omega⟩
 rw [Int.toNat_natCast] at hok
 have hrl : ∀ i,i < m.length → (m.getD i default).length = C:=fun i hi=>(hok i hi).1
 rcases Nat.eq_zero_or_pos m.length with h0 | h0
 ·obtain ⟨e1,e2⟩:=rrV_some hc (M:=mF m) (by rw [h0];rfl)
  rw [h0] at e1
  rw [e1,e2]
  refine po_end2 (fun _ _=>false) h.hT rfl rfl ?_
  dsimp only [F_impl_ReduceRows,oN,oS,oG,oK,oA,oH,oV,cI,St.enter,List.length_cons,List.length_nil,Nat.zero_add]
  refine ew ?_
  refine PFK_of c1 ?_
  refine ew1 @hlt ?_
  refine loop_at (fun _ _=>false) (α:=Nat) (fun i=>⟨argE [.any,.any,.any,.any,.any,.any,iv (m.length : Nat),.nils,.any,.any,.any,.any,.any,.any,.any,.any,.any,.any,.any,.any,.any,.any,.any,.any,.any,.any,.any,ratssV m,iv (m.length : Nat),iv (i : Nat)],[none],0,0,[],[]⟩) (fun i=>i = 0) (fun i=>i) rfl 0 ?_ ?_ ?_
  ·rfl
  ·(refine Fg_env ?_;exact fgW)
  ·rintro i rfl
   have hcc : ¬ (((0 : Nat) : Int) < (m.length : Nat)):=by omega
   refine ew1 @hcc ?_
   refine loop_at (fun _ _=>false) (α:=Nat) (fun k=>⟨argE [.any,.any,.any,.any,.any,.any,iv (m.length : Nat),.nils,.any,.any,iv (k : Nat)],[none],0,0,[],[]⟩) (fun k=>k = 0) (fun k=>k) rfl 0 ?_ ?_ ?_
   ·rfl
   ·(refine Fg_env ?_;exact fgW)
   ·rintro k rfl
    refine ew1 @hcc ?_
    exact (fin_nil (sz:=1)).tup1
 have hC:=mat_bd (hz hc) h0 hrl
 clear hw hz hml
 refine po_end2 (fun x d=>(x == 156 && d == 107) || (x == 245 && d == 140)) h.hT rfl rfl ?_
 dsimp only [F_impl_ReduceRows,oN,oS,oG,oK,oA,oH,oV,cI,St.enter,List.length_cons,List.length_nil,Nat.zero_add]
 refine ew ?_
 refine PFK_of c1 ?_
 refine ew1 @hlt ?_
 refine loop_at (fun x d=>(x == 156 && d == 107) || (x == 245 && d == 140)) (α:=Nat × Store × V × Nat × (Nat → Nat)) (fun q=>⟨argE [.any,.any,.any,.any,.any,.any,iv (m.length : Nat),q.2.2.1,.any,.any,.any,.any,.any,.any,.any,.any,.any,.any,.any,.any,.any,.any,.any,.any,.any,.any,.any,ratssV m,iv (m.length : Nat),iv (q.1 : Nat)],q.2.1,0,0,[],[]⟩) (fun q=>q.1 ≤ m.length ∧ ((q.1 = 0 ∧ q.2.2.1 = .nils) ∨ (0 < q.1 ∧ q.2.2.1 = .msl q.2.2.2.1 0 q.1 ∧ Mat q.2.1 q.2.2.2.1 q.1 C q.2.2.2.2 (fun x=>(mF m x).map R.cells) (mF m)))) (fun q=>m.length - q.1) rfl (0,[none],.nils,0,fun _=>0) ?_ ?_ ?_
 ·exact ⟨by omega,.inl ⟨rfl,rfl⟩⟩
 ·(refine Fg_env ?_;exact fgW)
 ·rintro ⟨i,s,v7,qo,rp⟩ ⟨hi,hM⟩
  dsimp only at hi hM
  by_cases hcc : (i : Int) < (m.length : Nat)
  ·have hil : i < m.length:=by omega
   have hai : (m.map fun r=>[ratsV r]).getD i [] = [ratsV (m.getD i default)]:=mg (f:=fun r : List R=>[ratsV r]) hil
   have hri:=hrl i hil
   have emf : mF m i = m.getD i default:=rfl
   generalize m.getD i default = r at *
   have hne : (r.map R.cells = []) = False:=eq_false fun e=>by
    have:=congrArg List.length e
    simp at this
    subst this
    simp at hri;omega
   rcases hM with ⟨rfl,rfl⟩ | ⟨hi0,rfl,hM⟩
   ·refine ew3 @hcc @hai @hne ?_
    refine ⟨⟨by omega,by omega⟩,by decide,?_⟩
    refine ⟨(0 + 1,?st,.msl (s.length + 3) 0 1,s.length + 3,fun x=>if x = 0 then s.length + 1 else rp x),?c1,⟨?c2,.inr ⟨by omega,rfl,?c4⟩⟩,?c3⟩
    case c3=>dsimp only;(refine Fg_env ?_;exact fgW)
    case c1=>dsimp only;omega
    case c2=>dsimp only;omega
    case c4 =>
     dsimp only
     refine matF_snoc (s:=s) (q:=0) (.inl rfl) ?_ ?_ (by omega) (fun o ho _=>?_)
     ·rw [objAt_seteq (by simp)]
      rw [hri];rfl
     ·rw [emf]
      exact obE
     ·exact obE
   ·have hq:=hM.out
    have hql:=hM.lt.1
    have hoc:=orow_len i C rp
    refine ew5 @hcc @hai @hne @hq @hoc ?_
    refine ⟨⟨by omega,by omega⟩,by omega,?_⟩
    refine ⟨(i + 1,?st2,.msl (s.length + 3) 0 (i + 1),s.length + 3,fun x=>if x = i then s.length + 1 else rp x),?c1,⟨?c2,.inr ⟨by omega,rfl,?c4⟩⟩,?c3⟩
    case c3=>dsimp only;(refine Fg_env ?_;exact fgW)
    case c1=>dsimp only;omega
    case c2=>dsimp only;omega
    case c4 =>
     dsimp only
     refine matF_snoc (s:=s) (q:=qo) (.inr hM) ?_ ?_ (by omega) (fun o ho hne=>?_)
     ·rw [objAt_seteq (by simp)]
      rw [hri]
     ·rw [emf]
      have : s.length + 1 ≠ qo:=by omega
      exact obE
     ·exact obE
  ·have hie : i = m.length:=by omega
   subst hie
   rcases hM with ⟨h1,_⟩ | ⟨_,rfl,hM⟩
   ·omega
   refine ew1 @hcc ?_
   have hql:=hM.lt.1
   refine loop_at (fun x d=>(x == 156 && d == 107) || (x == 245 && d == 140)) (α:=Nat × Store × (Nat → Nat) × (Nat → List (List V)) × MF × (Nat → List Nat)) (fun q=>⟨argE [.any,.any,.any,.any,.any,.any,iv (m.length : Nat),.msl qo 0 m.length,.any,.any,iv (q.1 : Nat)],q.2.1,0,0,[],[]⟩) (fun q=>q.1 ≤ m.length ∧ Mat q.2.1 qo m.length C q.2.2.1 q.2.2.2.1 q.2.2.2.2.1 ∧ rrIt m.length (mF m) q.1 = some q.2.2.2.2.1 ∧ OkM m.length C q.2.2.2.2.1 ∧ (0 < q.1 → OwF q.2.1 q.2.2.2.1 q.2.2.2.2.1 q.2.2.2.2.2 fun i=>i < m.length)) (fun q=>m.length - q.1) rfl (0,s,rp,fun x=>(mF m x).map R.cells,mF m,fun _=>[]) ?_ ?_ ?_
   ·exact ⟨by omega,hM,rfl,hok,fun h=>absurd h (by omega)⟩
   ·(refine Fg_env ?_;exact fgW)
   ·clear hM hok hql hrl hcc hi
    rintro ⟨k,s,rp,A,M,f⟩ ⟨hk,hM,hIt,hOk,hOw⟩
    dsimp only at hk hM hIt hOk hOw
    by_cases hck : (k : Int) < (m.length : Nat)
    ·have hkl : k < m.length:=by omega
     have hkC : k < C:=by omega
     have hql:=hM.lt.1
     refine ew1 @hck ?_
     refine loop_at (fun x d=>(x == 156 && d == 107) || (x == 245 && d == 140)) (α:=Nat) (fun p=>⟨argE [.any,.any,.any,.any,.any,.any,iv (m.length : Nat),.msl qo 0 m.length,.any,.any,iv (k : Nat),iv (p : Nat)],s,0,0,[],[]⟩) (fun p=>k ≤ p ∧ p ≤ m.length ∧ rrP M k (m.length - p) p = rrPv m.length M k) (fun p=>m.length - p) rfl k ?_ ?_ ?_
     ·exact ⟨Nat.le_refl _,by omega,rfl⟩
     ·(refine Fg_env ?_;exact fgW)
     ·rintro p ⟨hkp,hpn,hP⟩
      by_cases hcp : (p : Int) < (m.length : Nat)
      ·have hpl : p < m.length:=by omega
       obtain ⟨a1,a2,gA,ka1,ka2⟩:=hM.cell (fun i hi=>(hOk i hi).1) hpl hkC
       have cs:=c_ratSignR h.d_impl_ratSign (hOk.el hpl hkC)
       have hzz:=rrP_z (M:=M) (k:=k) hpl
       have hnz:=rrP_n (M:=M) (k:=k) hpl
       have hxc:=hOk.el hpl hkC
       obtain ⟨x,hx⟩ : ∃ x,elF M p k = x:=⟨_,rfl⟩
       rw [hx] at gA ka1 ka2 cs hzz hnz hxc
       have R1:=And.intro ka1.r11 ka2.r11
       have O1:=And.intro hM.out (hM.row p hpl)
       have G1:=And.intro (orow_at (c:=C) (rp:=rp) hpl) gA
       refine ew4 @hcp @O1 @G1 @R1 ?_
       refine PFK_of cs ?_
       by_cases hs : sgnR x = 0
       ·refine ew1 @hs ?_
        exact ⟨p + 1,by omega,⟨by omega,by omega,(hzz hs).symm.trans hP⟩,by (refine Fg_env ?_;exact fgW)⟩
       ·have hPv:=(hnz hs).symm.trans hP
        have hpn' : ¬ ((p : Int) = (m.length : Nat)):=by omega
        have gk:=orow_at (c:=C) (rp:=rp) hkl
        obtain ⟨w,gS1⟩ : ∃ w,((orow m.length C rp).set k [V.msl (rp p) 0 C])[p]? = some [w]:=by rw [orow_set];exact ⟨_,orow_at hpl⟩
        have gS2 : (((orow m.length C rp).set k [V.msl (rp p) 0 C]).set p [.msl (rp k) 0 C])[k]? = some [.msl (rp p) 0 C]:=by
         rw [orow_set,orow_set,orow_at hkl]
         by_cases e : k = p
         ·subst e;simp
         ·rw [if_neg e,if_pos rfl]
        have hnq:=hM.ne hpl
        have hpq:=hM.lt.2 p hpl
        have lx:=And.intro ka1.leaf ka2.leaf
        refine ew6 (And.intro hs hpn') @O1 @G1 (And.intro gk (And.intro gS1 gS2)) @lx @List.set_set.{0} ?_
        refine ⟨by unfold OkA;rfl,?_⟩
        have hl2 : (s.set qo (some ⟨1,((orow m.length C rp).set k [V.msl (rp p) 0 C]).set p [.msl (rp k) 0 C]⟩)).length = s.length:=by simp
        have hM2:=hM.swap hkl hpl rfl (s2:=s.set qo (some ⟨1,((orow m.length C rp).set k [V.msl (rp p) 0 C]).set p [.msl (rp k) 0 C]⟩)) (objAt_seteq hql) (fun o h _=>objAt_setne h)
        have kp2:=hM.kpq h0 (s2:=s.set qo (some ⟨1,((orow m.length C rp).set k [V.msl (rp p) 0 C]).set p [.msl (rp k) 0 C]⟩)) (fun o h _=>objAt_setne h)
        replace ka1:=ka1.fr kp2
        replace ka2:=ka2.fr kp2
        generalize s.set qo (some ⟨1,((orow m.length C rp).set k [V.msl (rp p) 0 C]).set p [.msl (rp k) 0 C]⟩) = s2 at *
        rw [← hl2]
        have hp1 : rrPv m.length M k < m.length:=hPv ▸ hpl
        have e1 : rrSwap M k p = rrOne m.length M k:=by unfold rrOne;rw [← hPv]
        rw [e1] at hM2
        have hOk1:=hOk.one hkl hp1
        have exk : elF (rrOne m.length M k) k k = x:=by
         rw [← hx,← e1]
         unfold elF rrSwap
         by_cases e : k = p
         ·rw [if_pos e,e]
         ·rw [if_neg e,if_pos rfl]
        have hL1:=fun i hi=>(hOk1 i hi).1
        have e2w : rrTwo m.length M k = fun i=>if i = k then rrDiv (rrOne m.length M k k) k else rrOne m.length M k i:=rfl
        have hOk2:=hOk.two hkl hp1
        have hstep : rrIt m.length (mF m) (k + 1) = rrStep m.length M k:=rrIt_s hIt
        have hsf:=@rrStep_f m.length M k
        have hst:=rrStep_t (n:=m.length) (M:=M) (k:=k) hp1
        have hOks:=fun M'=>hOk.step (M':=M') hkl
        generalize (fun x=>if x = p then rp k else if x = k then rp p else rp x) = rp2 at hM2
        generalize (fun x=>if x = p then A k else if x = k then A p else A x) = A2 at hM2
        have hDl:=rrDiv_len (rrOne m.length M k k) k
        have hDc:=rrDiv_cn (rrOne m.length M k k) k
        have hDa:=fun j hj=>rrDiv_at (rrOne m.length M k k) k (j:=j) hj
        have hlk:=hL1 k hkl
        have hck2:=fun j hj=>hM2.cell hL1 hkl (j:=j) hj
        have hel:=fun j hj=>hOk1.el hkl (j:=j) hj
        rw [show (rrOne m.length M k k).getD k default = x from exk] at hDa
        generalize rrTwo m.length M k = M2 at *
        generalize hM1 : rrOne m.length M k = M1 at *
        clear hs hzz hnz cs R1 O1 G1 gk gS1 gS2 hnq hpq hpn' hM hOk hOw gA hx hP hPv kp2 hp1 e1 hql hl2 hIt w
        have hrq:=hM2.ne hkl
        have hrl2:=hM2.lt.2 k hkl
        have hql2:=hM2.lt.1
        have hq2:=hM2.out
        have hrk:=hM2.row k hkl
        have hAk:=(hM2.cel k hkl).1
        rw [hlk] at hDl hAk
        have hDl' : (rrDiv (M1 k) k).length = C:=hDl
        have gk:=orow_at (c:=C) (rp:=rp2) hkl
        refine loop_at (fun x d=>(x == 156 && d == 107) || (x == 245 && d == 140)) (α:=Nat × Store × List (List V) × List Nat) (fun q=>⟨argE [.any,.any,.any,.any,.any,.any,iv (m.length : Nat),.msl qo 0 m.length,.any,.any,iv (k : Nat),.any,.ptr s2.length 0 0,.any,.any,.any,.any,.any,.any,.any,.any,.any,.any,.any,.any,.any,.any,.any,.any,.any,.any,.any,.any,.any,.any,.any,.any,.any,.any,.any,.any,.any,.any,.any,.any,.any,.any,.any,.any,.any,.any,.any,.any,.any,.any,.any,.any,.any,.any,.any,.any,.any,.any,.any,.any,.any,.any,.any,.any,.any,.any,.any,.any,.any,.any,.any,.any,.any,.any,.any,.any,.any,.any,.any,.any,.any,.any,.any,.any,.any,iv (C : Nat),iv (q.1 : Nat)],q.2.1,0,0,[],[]⟩) (fun q=>q.1 ≤ C ∧ SubI s2 q.2.1 (rp2 k) ⟨3,[[.bool x.neg,a1,a2]]⟩ (A2 k) (rrDiv (M1 k) k) q.1 q.2.2.1 q.2.2.2) (fun q=>C - q.1) rfl (0,(s2 ++ [none]).set s2.length (some ⟨3,[[.bool x.neg,a1,a2]]⟩),[],[]) ?_ ?_ ?_
        ·exact ⟨by omega,by rw [set_snoc];exact subI_init hrk⟩
        ·(refine Fg_env ?_;exact fgW)
        ·rintro ⟨j,t,N,os⟩ ⟨hj,I⟩
         dsimp only at hj I
         have hlt2:=I.len
         have hbx:=I.bx
         obtain ⟨b,hb⟩ : ∃ b,b = s2.length:=⟨_,rfl⟩
         rw [← hb] at hbx ⊢
         have hqt:=(I.old qo hql2 (fun e=>hrq e.symm)).trans hq2
         have hrt:=I.row
         by_cases hcj : (j : Int) < (C : Nat)
         ·have hjl : j < C:=by omega
          obtain ⟨b1,b2,gB,kb1,kb2⟩:=hck2 j hjl
          have kp:=I.kp hrk
          have cy:=hel j hjl
          have hz:=hDa j (by omega)
          rw [show (M1 k).getD j default = elF M1 k j from rfl] at hz
          have gA:=I.at (by omega)
          have gB2 : (A2 k)[j]? = some ((A2 k).getD j []):=getQ (by omega)
          rw [gB] at gB2
          rw [← Option.some.inj gB2] at gA
          replace kb1:=kb1.fr kp
          replace kb2:=kb2.fr kp
          have kw1:=ka1.fr kp
          have kw2:=ka2.fr kp
          generalize elF M1 k j = y at *
          have stp:=fun (q3 : Store) (c : List V) (o3 : List Nat) old len ho nd3 fr3=>I.step (q3:=q3) (c:=c) (o3:=o3) hrl2 (by omega) (by omega) hz old len ho nd3 fr3
          generalize hL : N ++ List.drop j (A2 k) = L at *
          have R1:=And.intro (And.intro kb1.r11 kb2.r11) (And.intro kw1.r11 kw2.r11)
          have hrs : rp2 k < t.length:=by omega
          have hqs : qo < t.length:=by omega
          have hbs : b < t.length:=by omega
          refine ew6 @hcj (And.intro hqt (And.intro hrt hbx)) (And.intro gk gA) @R1 @numK_any @or_sc ?_
          refine OwnK_gotP (fun o=>∃ l,objAt t o = some ⟨1,irows l⟩) (show PO T 156 [ratV y,ratV x] (ratV (divR y x)) from po_ratDivR h.d_impl_ratDiv cy hxc) (by (refine ew3 @R1 @numK_any @or_sc ?_;try with_reducible exact True.intro)) ?_ ?_
          ·intro o ho
           have ho : o ∈ reach t (11 + 1) (.agg [.bool y.neg,b1,b2]) ++ (reach t (11 + 1) (.agg [.bool x.neg,a1,a2]) ++ []):=ho
           rw [List.append_nil] at ho
           rcases List.mem_append.1 ho with ho | ho
           ·exact CellOk.rch ⟨_,_,rfl,kb1,kb2⟩ _ o ho
           ·exact CellOk.rch ⟨_,_,rfl,kw1,kw2⟩ _ o ho
          intro Q1 r q3 o3 hQ1 G
          generalize divR y x = z at *
          obtain ⟨_,rfl,hQ⟩:=G.ow.agg_inv
          obtain ⟨z1,z2,rfl⟩:=hQ.rat
          have lz:=OwL.leaf hQ rfl
          simp only [List.all_cons,List.all_nil,Bool.and_true,Bool.and_eq_true] at lz
          have gl3 : t.length ≤ q3.length:=G.len
          have old3 : ∀ o,o < t.length → objAt q3 o = objAt t o:=fun o ho=>G.old o ho
          have row3:=(old3 _ hrs).trans hrt
          have hr3 : rp2 k < q3.length:=by omega
          have stp2:=stp q3 _ o3 old3 gl3 hQ G.nd (fun o ho=>G.fresh o ho)
          have n1 : ∀ o ∈ Q1,o ≠ rp2 k:=fun o ho e=>by
           obtain ⟨l,hl⟩:=hQ1 o ho
           rw [e,hrt] at hl;cases hl
          clear hQ1 stp
          refine ew5 @lz (And.intro row3 hr3) @gA @numK_any @or_sc ?_
          refine ⟨?_,?_⟩
          ·clear stp2 old3 row3 hr3
           revert Q1
           refine OkA_dropA _ (fun R=>∀ o ∈ R,o ≠ rp2 k) 2 13 rfl (fun _=>rfl) ?_ ?_
           ·intro R hR b hb w hw hm
            simp only [List.mem_cons,List.not_mem_nil,or_false] at hb
            rcases hb with rfl | rfl | rfl | rfl | rfl | rfl | rfl | rfl | rfl | rfl | rfl | rfl | rfl | rfl | rfl | rfl
            all_goals first | (cases hw;done) | (rw [List.mem_singleton.1 hw] at hm;exact hR _ hm rfl)
           refine OkA_all3 (aF:=fun a b c=>[⟨15,[a],[a],false⟩,⟨14,[a],[],false⟩,⟨13,[],[],true⟩,⟨12,[c],[],false⟩,⟨11,[a],[],false⟩,⟨10,[a],[],false⟩,⟨9,[],[],false⟩,⟨8,[b],[],false⟩,⟨7,[b],[],false⟩,⟨6,[],[],false⟩,⟨5,[],[],false⟩,⟨4,[],[],false⟩,⟨3,[b],[],false⟩,⟨2,[b],[],false⟩,⟨1,[],[],false⟩,⟨0,[],[],false⟩]) (rp2 k) qo b t.length ?_ ?_ ?_ ?_
           ·exact nd3 hrq (by omega) (by omega)
           ·exact lt3 hrs hqs hbs
           ·exact fun _ _ _ _=>rfl
           ·unfold OkA;decide +kernel
          ·refine ⟨(j + 1,?st6,N ++ [[.bool z.neg,z1,z2]],os ++ o3),?c1,⟨?c2,?c4⟩,?c3⟩
           case c3=>dsimp only;(refine Fg_env ?_;exact fgW)
           case c1=>dsimp only;omega
           case c2=>dsimp only;omega
           case c4=>exact stp2
         ·have hje : j = C:=by omega
          obtain ⟨f1,f2⟩:=I.fin (by omega) (by omega)
          have hM3:=hM2.put hkl f1 I.old (row_ow f2).1
          rw [← e2w] at hM3
          have hO3:=((owF_no (s:=s2) (A:=A2) (M:=M1) (f:=fun _=>[])).put (k:=k) (I.kp hrk) f2 I.nd I.fr).ext (M2:=M2) (S2:=fun x=>x < 0 ∨ x = k) (fun i hi=>⟨hi.imp (fun h=>absurd h (Nat.not_lt_zero _)) id,by rw [e2w]⟩)
          have Rf:=hM3.rres hkl (hOk2 k hkl).1
          have cg:=c_goodRow h.d_impl_goodRow (hOk2 k hkl).2 (by rw [(hOk2 k hkl).1];exact hC)
          clear I hrt f1 f2 hM2 hbx hel hck2 hDa hDc hDl hDl' hAk hrk hq2
          rw [← rrMix_0 M2 k] at hM3 hO3
          have et : rrTri M2 k k = M2 k:=if_pos rfl
          cases hg : (M2 k).all R.ok
          ·rw [hg] at cg
           obtain ⟨e1,e2⟩:=rrV_none hc (hstep.trans (hsf (allOk_f hkl (by rw [et];exact hg)))) hkl
           rw [e1,e2]
           refine ew4 @hcj @hqt @gk @Rf ?_
           refine PFK_of cg ?_
           refine ew ?_
           exact (fin_nil (sz:=1)).tup1
          ·rw [hg] at cg
           refine ew4 @hcj @hqt @gk @Rf ?_
           refine PFK_of cg ?_
           refine ew1 @hqt ?_
           refine loop_at (fun x d=>(x == 156 && d == 107) || (x == 245 && d == 140)) (α:=Nat × Store × (Nat → List (List V)) × (Nat → List Nat)) (fun q=>⟨argE [.any,.any,.any,.any,.any,.any,iv (m.length : Nat),.msl qo 0 m.length,.any,.any,iv (k : Nat),.any,.any,.any,.any,.any,.any,.any,.any,.any,.any,.any,.any,.any,.any,.any,.any,.any,.any,.any,.any,.any,.any,.any,.any,.any,.any,.any,.any,.any,.any,.any,.any,.any,.any,.any,.any,.any,.any,.any,.any,.any,.any,.any,.any,.any,.any,.any,.any,.any,.any,.any,.any,.any,.any,.any,.any,.any,.any,.any,.any,.any,.any,.any,.any,.any,.any,.any,.any,.any,.any,.any,.any,.any,.any,.any,.any,.any,.any,.any,.any,.any,.any,.any,.any,.any,.any,.any,.any,.any,.any,.any,.any,.any,.any,.any,.any,.any,.any,.any,.any,.any,.any,.any,.any,.any,.any,iv (m.length : Nat),iv (q.1 : Nat)],q.2.1,0,0,[],[]⟩) (fun q=>q.1 ≤ m.length ∧ Mat q.2.1 qo m.length C rp2 q.2.2.1 (rrMix M2 k q.1) ∧ OwF q.2.1 q.2.2.1 (rrMix M2 k q.1) q.2.2.2 (fun x=>x < q.1 ∨ x = k) ∧ ∀ x,x < q.1 → (rrTri M2 k x).all R.ok = true) (fun q=>m.length - q.1) rfl (0,t,fun i=>if i = k then N else A2 i,fun i=>if i = k then os else []) ?_ ?_ ?_
           ·exact ⟨Nat.zero_le _,hM3,hO3,fun x hx=>absurd hx (Nat.not_lt_zero _)⟩
           ·(refine Fg_env ?_;exact fgW)
           ·clear hM3 hO3 hqt Rf hcj hj hje hb hlt2
            rintro ⟨i,u,A3,f⟩ ⟨hi,hM,hO,hgi⟩
            dsimp only at hi hM hO hgi
            by_cases hci : (i : Int) < (m.length : Nat)
            ·have hil : i < m.length:=by omega
             have hgi2 : (rrTri M2 k i).all R.ok = true → ∀ x,x < i + 1 → (rrTri M2 k x).all R.ok = true:=fun h x hx=>by
              by_cases e : x = i
              ·subst e;exact h
              ·exact hgi x (by omega)
             by_cases hik : i = k
             ·have hik' : ((i : Int) = (k : Nat)) = True:=eq_true (by omega)
              have em : ∀ x,rrMix M2 k (i + 1) x = rrMix M2 k i x:=fun x=>by
               unfold rrMix
               by_cases e : x < i
               ·rw [if_pos e,if_pos (by omega)]
               ·by_cases e2 : x = i
                ·rw [if_neg e,if_pos (by omega),e2,hik,et]
                ·rw [if_neg e,if_neg (by omega)]
              refine ew2 @hci @hik' ?_
              refine ⟨by unfold OkA;rfl,⟨(i + 1,u,A3,f),by dsimp only;omega,⟨by dsimp only;omega,hM.ext fun x _=>(em x).symm,hO.ext fun x hx=>⟨?_,(em x).symm⟩,hgi2 (by rw [hik,et];exact hg)⟩,by (refine Fg_env ?_;exact fgW)⟩⟩
              dsimp only at hx
              omega
             ·have hik' : ((i : Int) = (k : Nat)) = False:=eq_false (by omega)
              have hOm:=hOk2.mix hkl i
              have hlm:=fun x hx=>(hOm x hx).1
              have emi : rrMix M2 k i i = M2 i:=if_neg (Nat.lt_irrefl _)
              have emk : rrMix M2 k i k = M2 k:=by
               unfold rrMix
               split
               ·exact et
               ·rfl
              obtain ⟨w1,w2,gC,kc1,kc2⟩:=hM.cell hlm hil hkC
              rw [show elF (rrMix M2 k i) i k = elF M2 i k by unfold elF;rw [emi]] at gC kc1 kc2
              have etr : rrTri M2 k i = rrSub (M2 i) (M2 k) (elF M2 i k):=if_neg hik
              obtain ⟨u2,A',o',hr,g1,g2,g3,g4,g5,g6⟩:=rn_subtractRow h.d_impl_subtractRow (hM.row i hil) (hM.row k hkl) (fun e=>hik (hM.inj i k hil hkl e)) (hM.cel i hil) (hM.cel k hkl) (by rw [hlm k hkl,hlm i hil]) kc1 kc2 (hOm i hil).2 (hOm k hkl).2 (hOk2.el hil hkC) (by rw [hlm i hil];exact hC)
              rw [hlm i hil,emi,emk,← etr] at hr
              rw [emi,emk,← etr] at g2
              have kp : Kp u u2:=fun o l e=>g5 o (objAt_lt e) (fun e2=>by rw [e2,hM.row i hil] at e;cases e)
              have hM4:=hM.put hil g1 g5 (row_ow g2).1
              have hO4:=hO.put (k:=i) kp g2 g3 g4
              have em : ∀ x,(if x = i then rrTri M2 k i else rrMix M2 k i x) = rrMix M2 k (i + 1) x:=fun x=>by
               unfold rrMix
               by_cases e : x = i
               ·rw [if_pos e,if_pos (by omega),e]
               ·by_cases e2 : x < i
                ·rw [if_neg e,if_pos e2,if_pos (by omega)]
                ·rw [if_neg e,if_neg e2,if_neg (by omega)]
              generalize elF M2 i k = y at *
              have gi:=orow_at (c:=C) (rp:=rp2) hil
              have O1:=And.intro hM.out (hM.row i hil)
              refine ew4 @hci @hik' @O1 (And.intro gi (And.intro gk gC)) ?_
              refine OwnK_idn hr rfl g6 (Nat.le_refl _) ?_
              obtain ⟨bb,hbb⟩ : ∃ bb,(rrTri M2 k i).all R.ok = bb:=⟨_,rfl⟩
              rw [hbb]
              have hb2 : bb = false ∨ bb = true:=by cases bb <;> simp
              rcases hb2 with hb2 | hb2
              ·rw [hb2] at hbb
               obtain ⟨e1,e2⟩:=rrV_none hc (hstep.trans (hsf (allOk_f hil hbb))) hkl
               rw [e1,e2]
               refine ew4 @hb2 @hik' @numK_any @or_sc ?_
               refine ⟨by unfold OkA;rfl,?_⟩
               exact (fin_nil (sz:=1)).tup1
              ·rw [hb2] at hbb
               refine ew4 @hb2 @hik' @numK_any @or_sc ?_
               refine ⟨by unfold OkA;rfl,?_⟩
               refine ⟨(i + 1,u2,fun x=>if x = i then A' else A3 x,fun x=>if x = i then o' else f x),by dsimp only;omega,⟨by dsimp only;omega,hM4.ext fun x _=>em x,hO4.ext fun x hx=>⟨?_,em x⟩,hgi2 hbb⟩,by (refine Fg_env ?_;exact fgW)⟩
               dsimp only at hx
               omega
            ·have hie : i = m.length:=by omega
             subst hie
             have ha : allOk m.length (rrTri M2 k) = true:=allOk_iff.2 hgi
             have hnx:=hst ha
             have em : ∀ x,x < m.length → rrMix M2 k m.length x = rrTri M2 k x:=fun x hx=>by unfold rrMix;rw [if_pos hx]
             refine ew1 @hci ?_
             refine ⟨(k + 1,u,rp2,A3,rrTri M2 k,f),?c1,⟨?c2,?c4,?c5,?c6,?c7⟩,?c3⟩
             case c3=>dsimp only;(refine Fg_env ?_;exact fgW)
             case c1=>dsimp only;omega
             case c2=>dsimp only;omega
             case c4=>exact hM.ext em
             case c5=>exact hstep.trans hnx
             case c6=>exact hOks _ hnx
             case c7=>exact fun _=>hO.ext fun x hx=>⟨.inl hx,em x hx⟩
      ·have hpe : p = m.length:=by omega
       have hnn : rrStep m.length M k = none:=rrStep_p (by rw [← hP,hpe,Nat.sub_self];exact Nat.lt_irrefl _)
       obtain ⟨e1,e2⟩:=rrV_none hc ((rrIt_s hIt).trans hnn) hkl
       rw [e1,e2]
       have hpe' : ((p : Int) = (m.length : Nat)) = True:=eq_true (by omega)
       refine ew2 @hcp @hpe' ?_
       exact (fin_nil (sz:=1)).tup1
    ·have hke : k = m.length:=by omega
     subst hke
     obtain ⟨e1,e2⟩:=rrV_some hc hIt
     rw [e1,e2]
     refine ew1 @hck ?_
     exact (OwF.fin hM (hOw h0) (by omega) fun i hi=>(hOk i hi).1).tup1
end Go.Ml
end
