/- A small language for the functions of this claim, its soundness, contracts. -/
import Derived.Test.YtfehnjcefmdljaaPart3
section
set_option linter.unusedSimpArgs false
set_option linter.unusedVariables false
set_option maxRecDepth 100000
set_option maxHeartbeats 8000000
namespace Go.Ml
def F_spec_l08Point : Fn := ⟨1, 11, [.tmp 2], (.seq (.reg false 1 [oN 1 (.box (.t 0)), oK 2 1 (.mov (.c (.bool false)))]) (.seq (.reg false 0 [oN 3 (.fld 0 (.t 1)), oN 4 (.load 3 true (.t 3)), oN 5 (.call 100 [(.t 4)]), oN 6 (oV 5), oG 6 true 7 (.fld 3 (.t 1)), oG 6 true 8 (.load 3 true (.t 7)), oG 6 true 9 (.call 100 [(.t 8)]), oN 10 (.pick (.t 6) (.t 9) (.c (.bool false))), oN 2 (oV 10)]) .ret))⟩
structure D_spec_l08Point (T : Nat → Option Fn) : Prop where
  hT : T 342 = some F_spec_l08Point
  d_spec_RatOk : D_spec_RatOk T
def F_spec_ApplyConditional : Fn := ⟨2, 67, [.cell 4 6 true, .tmp 5], (.seq (.reg false 2 [oN 2 (.box (.t 0)), oK 4 1 (.alloc [.bool false, .nils, .nils, .bool false, .nils, .nils]), oK 5 2 (.mov (.c (.bool false)))]) (.seq (.seq (.reg false 0 [oN 9 (.load 5 true (.t 2)), oN 10 (.call 294 [(.t 9)]), oN 11 (.un .not (.t 10))]) (.cond (.t 11) (.seq (.reg false 0 [oN 12 (.build [.bool false, .nils, .nils, .bool false, .nils, .nils] []), oS (.store 6 (.t 4) (.t 12)), oN 5 (.mov (.c (.bool false)))]) .ret) .skip)) (.seq (.reg false 1 [oK 13 1 (.call 36 [(cI 0)]), oK 14 1 (.call 36 [(cI 0)]), oK 15 1 (.build [.bool false, .nils, .nils, .bool false, .nils, .nils] [(0, 3, (.t 13)), (3, 3, (.t 14))]), oN 6 (.alloc [.bool false, .nils, .nils, .bool false, .nils, .nils]), ⟨none, none, 1, .store 6 (.t 6) (.t 15), []⟩]) (.seq (.seq (.reg false 0 [oN 16 (.fld 4 (.t 2)), oN 17 (.load 1 false (.t 16)), oN 18 (.len (.t 17)), oN 19 (.mov (cI 0))]) (.block 0 (.loop (.seq (.reg false 0 [oN 20 (.bin .lss (.t 19) (.t 18))]) (.seq (.cond (.t 20) .skip (.exit 0)) (.seq (.block 1 (.seq (.reg false 1 [oK 21 1 (.idx 10 (.t 17) (.t 19)), oK 22 1 (.load 10 true (.t 21)), oN 8 (.alloc [.int .i64 0, .bool false, .nils, .nils, .bool false, .nils, .nils, .bool false, .nils, .nils]), ⟨none, none, 1, .store 10 (.t 8) (.t 22), []⟩]) (.seq (.seq (.reg false 0 [oN 23 (.fld 0 (.t 8)), oN 24 (.load 1 false (.t 23)), oN 25 (oV 1), oN 26 (.len (.t 25)), oN 27 (.bin .geq (.t 24) (.t 26))]) (.cond (.t 27) (.seq (.reg false 0 [oN 28 (.build [.bool false, .nils, .nils, .bool false, .nils, .nils] []), oS (.store 6 (.t 4) (.t 28)), oN 5 (.mov (.c (.bool false)))]) .ret) .skip)) (.seq (.reg true 0 [oN 29 (.fld 0 (.t 6)), oA 30 0 (.load 3 true (.t 29)) [0], oN 31 (.fld 1 (.t 8)), oA 32 0 (.load 3 true (.t 31)) [2], oN 33 (oV 1), oN 34 (.fld 0 (.t 8)), oA 35 0 (.load 1 false (.t 34)) [5], oA 36 0 (.idx 6 (.t 33) (.t 35)) [4, 6], oA 37 0 (.fld 0 (.t 36)) [7], oA 38 0 (.load 3 true (.t 37)) [8], oN 39 (.fld 4 (.t 8)), oA 40 0 (.load 3 true (.t 39)) [10], oA 41 0 (.call 189 [(.t 38), (.t 40)]) [9, 11], oA 42 0 (.call 201 [(.t 32), (.t 41)]) [3, 12, 12], oA 43 0 (.call 189 [(.t 30), (.t 42)]) [1, 13, 13], oA 44 0 (.fld 0 (.t 6)) [0, 1, 2, 3, 4, 5, 6, 7, 8, 9, 10, 11, 12, 13, 14], ⟨none, none, 0, .store 3 (.t 44) (.t 43), [15, 14, 14, 0, 1, 2, 3, 4, 5, 6, 7, 8, 9, 10, 11, 12, 13, 14]⟩]) (.reg true 0 [oN 45 (.fld 3 (.t 6)), oA 46 0 (.load 3 true (.t 45)) [0], oN 47 (.fld 1 (.t 8)), oA 48 0 (.load 3 true (.t 47)) [2], oN 49 (oV 1), oN 50 (.fld 0 (.t 8)), oA 51 0 (.load 1 false (.t 50)) [5], oA 52 0 (.idx 6 (.t 49) (.t 51)) [4, 6], oA 53 0 (.fld 3 (.t 52)) [7], oA 54 0 (.load 3 true (.t 53)) [8], oN 55 (.fld 7 (.t 8)), oA 56 0 (.load 3 true (.t 55)) [10], oA 57 0 (.call 189 [(.t 54), (.t 56)]) [9, 11], oA 58 0 (.call 201 [(.t 48), (.t 57)]) [3, 12, 12], oA 59 0 (.call 189 [(.t 46), (.t 58)]) [1, 13, 13], oA 60 0 (.fld 3 (.t 6)) [0, 1, 2, 3, 4, 5, 6, 7, 8, 9, 10, 11, 12, 13, 14], ⟨none, none, 0, .store 3 (.t 60) (.t 59), [15, 14, 14, 0, 1, 2, 3, 4, 5, 6, 7, 8, 9, 10, 11, 12, 13, 14]⟩]))))) (.reg false 0 [oN 61 (.bin .add (.t 19) (cI 1)), oN 19 (oV 61)]))))))) (.seq (.seq (.reg false 0 [oN 62 (.load 6 true (.t 6)), oN 63 (.call 342 [(.t 62)]), oN 64 (.un .not (.t 63))]) (.cond (.t 64) (.seq (.reg false 0 [oN 65 (.build [.bool false, .nils, .nils, .bool false, .nils, .nils] []), oS (.store 6 (.t 4) (.t 65)), oN 5 (.mov (.c (.bool false)))]) .ret) .skip)) (.seq (.reg false 0 [oN 66 (.load 6 true (.t 6)), oS (.store 6 (.t 4) (.t 66)), oN 5 (.mov (.c (.bool true)))]) .ret))))))⟩
structure D_spec_ApplyConditional (T : Nat → Option Fn) : Prop where
  hT : T 366 = some F_spec_ApplyConditional
  d_spec_RatFromInt : D_spec_RatFromInt T
  d_spec_RatAdd : D_spec_RatAdd T
  d_spec_RatMul : D_spec_RatMul T
  d_spec_IsValidConditional : D_spec_IsValidConditional T
  d_spec_l08Point : D_spec_l08Point T
def F_impl_zeroPoint : Fn := ⟨0, 4, [.cell 0 6 true], (.seq (.reg false 1 [oN 0 (.alloc [.bool false, .nils, .nils, .bool false, .nils, .nils])]) (.seq (.reg false 0 [oN 1 (.call 39 [(cI 0)]), oN 2 (.call 39 [(cI 0)]), oN 3 (.build [.bool false, .nils, .nils, .bool false, .nils, .nils] [(0, 3, (.t 1)), (3, 3, (.t 2))]), oS (.store 6 (.t 0) (.t 3))]) .ret))⟩
structure D_impl_zeroPoint (T : Nat → Option Fn) : Prop where
  hT : T 186 = some F_impl_zeroPoint
  d_impl_RatFromInt : D_impl_RatFromInt T
def F_impl_ApplyConditional : Fn := ⟨2, 72, [.cell 4 6 true, .tmp 5], (.seq (.reg false 2 [oN 2 (.box (.t 0)), oK 4 1 (.alloc [.bool false, .nils, .nils, .bool false, .nils, .nils]), oK 5 2 (.mov (.c (.bool false)))]) (.seq (.seq (.reg false 0 [oN 9 (.load 5 true (.t 2)), oN 10 (.call 185 [(.t 9)]), oN 11 (.un .not (.t 10))]) (.cond (.t 11) (.seq (.reg false 0 [oN 12 (.build [.bool false, .nils, .nils, .bool false, .nils, .nils] []), oS (.store 6 (.t 4) (.t 12)), oN 5 (.mov (.c (.bool false)))]) .ret) .skip)) (.seq (.reg false 1 [oK 13 1 (.call 186 []), oN 6 (.alloc [.bool false, .nils, .nils, .bool false, .nils, .nils]), ⟨none, none, 1, .store 6 (.t 6) (.t 13), []⟩]) (.seq (.seq (.reg false 0 [oN 14 (.fld 4 (.t 2)), oN 15 (.load 1 false (.t 14)), oN 16 (.len (.t 15)), oN 17 (.mov (cI 0))]) (.block 0 (.loop (.seq (.reg false 0 [oN 18 (.bin .lss (.t 17) (.t 16))]) (.seq (.cond (.t 18) .skip (.exit 0)) (.seq (.block 1 (.seq (.reg false 1 [oK 19 1 (.idx 10 (.t 15) (.t 17)), oK 20 1 (.load 10 true (.t 19)), oN 8 (.alloc [.int .i64 0, .bool false, .nils, .nils, .bool false, .nils, .nils, .bool false, .nils, .nils]), ⟨none, none, 1, .store 10 (.t 8) (.t 20), []⟩]) (.seq (.seq (.reg false 0 [oN 21 (.fld 0 (.t 8)), oN 22 (.load 1 false (.t 21)), oN 23 (oV 1), oN 24 (.len (.t 23)), oN 25 (.bin .geq (.t 22) (.t 24))]) (.cond (.t 25) (.seq (.reg false 0 [oN 26 (.build [.bool false, .nils, .nils, .bool false, .nils, .nils] []), oS (.store 6 (.t 4) (.t 26)), oN 5 (.mov (.c (.bool false)))]) .ret) .skip)) (.seq (.reg true 0 [oN 27 (.fld 0 (.t 6)), oA 28 0 (.load 3 true (.t 27)) [0], oN 29 (.fld 1 (.t 8)), oA 30 0 (.load 3 true (.t 29)) [2], oN 31 (oV 1), oN 32 (.fld 0 (.t 8)), oA 33 0 (.load 1 false (.t 32)) [5], oA 34 0 (.idx 6 (.t 31) (.t 33)) [4, 6], oA 35 0 (.fld 0 (.t 34)) [7], oA 36 0 (.load 3 true (.t 35)) [8], oN 37 (.fld 4 (.t 8)), oA 38 0 (.load 3 true (.t 37)) [10], oA 39 0 (.call 178 [(.t 36), (.t 38)]) [9, 11], oA 40 0 (.call 157 [(.t 30), (.t 39)]) [3, 12, 12], oA 41 0 (.call 131 [(.t 28), (.t 40)]) [1, 13, 13], oA 42 0 (.fld 0 (.t 6)) [0, 1, 2, 3, 4, 5, 6, 7, 8, 9, 10, 11, 12, 13, 14], ⟨none, none, 0, .store 3 (.t 42) (.t 41), [15, 14, 14, 0, 1, 2, 3, 4, 5, 6, 7, 8, 9, 10, 11, 12, 13, 14]⟩]) (.reg true 0 [oN 43 (.fld 3 (.t 6)), oA 44 0 (.load 3 true (.t 43)) [0], oN 45 (.fld 1 (.t 8)), oA 46 0 (.load 3 true (.t 45)) [2], oN 47 (oV 1), oN 48 (.fld 0 (.t 8)), oA 49 0 (.load 1 false (.t 48)) [5], oA 50 0 (.idx 6 (.t 47) (.t 49)) [4, 6], oA 51 0 (.fld 3 (.t 50)) [7], oA 52 0 (.load 3 true (.t 51)) [8], oN 53 (.fld 7 (.t 8)), oA 54 0 (.load 3 true (.t 53)) [10], oA 55 0 (.call 178 [(.t 52), (.t 54)]) [9, 11], oA 56 0 (.call 157 [(.t 46), (.t 55)]) [3, 12, 12], oA 57 0 (.call 131 [(.t 44), (.t 56)]) [1, 13, 13], oA 58 0 (.fld 3 (.t 6)) [0, 1, 2, 3, 4, 5, 6, 7, 8, 9, 10, 11, 12, 13, 14], ⟨none, none, 0, .store 3 (.t 58) (.t 57), [15, 14, 14, 0, 1, 2, 3, 4, 5, 6, 7, 8, 9, 10, 11, 12, 13, 14]⟩]))))) (.reg false 0 [oN 59 (.bin .add (.t 17) (cI 1)), oN 17 (oV 59)]))))))) (.seq (.seq (.reg false 0 [oN 60 (.fld 0 (.t 6)), oN 61 (.load 3 true (.t 60)), oN 62 (.call 132 [(.t 61)]), oN 63 (.un .not (.t 62)), oN 64 (oV 63), oG 64 false 65 (.fld 3 (.t 6)), oG 64 false 66 (.load 3 true (.t 65)), oG 64 false 67 (.call 132 [(.t 66)]), oG 64 false 68 (.un .not (.t 67)), oN 69 (.pick (.t 64) (.c (.bool true)) (.t 68))]) (.cond (.t 69) (.seq (.reg false 0 [oN 70 (.build [.bool false, .nils, .nils, .bool false, .nils, .nils] []), oS (.store 6 (.t 4) (.t 70)), oN 5 (.mov (.c (.bool false)))]) .ret) .skip)) (.seq (.reg false 0 [oN 71 (.load 6 true (.t 6)), oS (.store 6 (.t 4) (.t 71)), oN 5 (.mov (.c (.bool true)))]) .ret))))))⟩
structure D_impl_ApplyConditional (T : Nat → Option Fn) : Prop where
  hT : T 176 = some F_impl_ApplyConditional
  d_impl_ratAdd : D_impl_ratAdd T
  d_impl_good : D_impl_good T
  d_impl_ratMul : D_impl_ratMul T
  d_impl_RatAdd : D_impl_RatAdd T
  d_impl_IsValidConditional : D_impl_IsValidConditional T
  d_impl_zeroPoint : D_impl_zeroPoint T
end Go.Ml
end
section
set_option linter.unusedSimpArgs false
set_option linter.unusedVariables false
set_option maxRecDepth 100000
set_option maxHeartbeats 8000000
namespace Go.Ml
section
variable {s s1 σ2 : Store} {a b ta tb rs trs : List V} {os os2 : List Nat} {L : List (Nat × Obj)}
end
theorem Ep.sub {s : Store} {cs ts : List V} {os : List Nat} {L L' : List (Nat × Obj)} (E : Ep s cs ts os L) (h : ∀ q ∈ L', q ∈ L) : Ep s cs ts os L' := ⟨E.c, fun q hq => E.l q (h q hq)⟩
end Go.Ml
end
section
set_option linter.unusedSimpArgs false
set_option linter.unusedVariables false
namespace Go.Ml
section
variable {s s1 S σ2 : Store} {a b c ta tb tc rs trs cs ts : List V} {os os2 : List Nat} {L L' : List (Nat × Obj)}
theorem Ep.to (E : Ep s cs ts os L) (ho : ∀ o ∈ os, objAt S o = objAt s o) (hL : ∀ q ∈ L', (q ∈ L ∧ objAt S q.1 = objAt s q.1) ∨ (objAt S q.1 = some q.2 ∧ q.1 ∉ os)) : Ep S cs ts os L' := by
  refine ⟨E.c.frame ho, fun q hq => ?_⟩
  rcases hL q hq with ⟨h1, h2⟩ | h
  · exact ⟨h2.trans (E.l q h1).1, (E.l q h1).2⟩
  · exact h
theorem Ep.oslt (E : Ep s cs ts os L) : ∀ o ∈ os, o < s.length := fun o h => E.c.lt o h
theorem Ep.renewM (E : Ep s (a ++ (b ++ c)) (ta ++ (tb ++ tc)) os L) (hla : a.length = ta.length) (hlb : b.length = tb.length) (h1 : ∀ o, o < s.length → objAt s1 o = objAt s o) (hl : s.length ≤ s1.length) (ho : OwL σ2 rs trs os2) (hn : os2.Nodup) (hf : ∀ o ∈ os2, s1.length ≤ o)
    (old : ∀ o, o < s1.length → objAt σ2 o = objAt s1 o) : ∃ os', Ep σ2 (a ++ (rs ++ c)) (ta ++ (trs ++ tc)) os' L ∧ ∀ o ∈ os', o ∈ os ∨ s1.length ≤ o := by
  obtain ⟨a1, a2, oa, obc, e, rfl, k1, k2⟩ := owL_split E.c.ow
  obtain ⟨rfl, rfl⟩ := List.append_inj e (by rw [hla]; exact k1.len.symm)
  obtain ⟨b1, b2, ob, oc, e, rfl, k3, k4⟩ := owL_split k2
  obtain ⟨rfl, rfl⟩ := List.append_inj e (by rw [hlb]; exact k3.len.symm)
  have hlt := fun o (h : o ∈ oa ++ (ob ++ oc)) => E.c.lt o h
  have nd := List.nodup_append.1 E.c.nd
  have nd2 := List.nodup_append.1 nd.2.1
  have fr : ∀ o ∈ oa ++ (ob ++ oc), objAt σ2 o = objAt s o := fun o h => by
    have := hlt o h
    rw [old o (by omega), h1 o this]
  refine ⟨oa ++ (os2 ++ oc), ⟨⟨owL_append (k1.frame fun o h => fr o (by simp [h])) (owL_append ho (k4.frame fun o h => fr o (by simp [h]))), ?_⟩, fun q hq => ⟨(old _ (Nat.lt_of_lt_of_le (E.lt q hq) hl)).trans ((h1 _ (E.lt q hq)).trans (E.l q hq).1), fun hm => ?_⟩⟩, fun o h => ?_⟩
  · rw [List.nodup_append, List.nodup_append]
    refine ⟨nd.1, ⟨hn, nd2.2.1, fun x hx y hy e => ?_⟩, fun x hx y hy e => ?_⟩
    · have := hf x hx
      have := hlt y (by simp [hy])
      omega
    · rcases List.mem_append.1 hy with hy | hy
      · have := hf y hy
        have := hlt x (by simp [hx])
        omega
      · exact nd.2.2 x hx y (List.mem_append_right _ hy) e
  · simp only [List.mem_append] at hm
    rcases hm with hm | hm | hm
    · exact (E.l q hq).2 (by simp [hm])
    · have := hf _ hm; have := E.lt q hq; omega
    · exact (E.l q hq).2 (by simp [hm])
  · simp only [List.mem_append] at h
    rcases h with h | h | h
    · exact .inl (by simp [h])
    · exact .inr (hf o h)
    · exact .inl (by simp [h])
theorem Ep.upd {p : Nat} {ob ob0 : Obj} (E : Ep s (a ++ (b ++ c)) (ta ++ (tb ++ tc)) os L) (hp : (p, ob0) ∈ L) (hla : a.length = ta.length) (hlb : b.length = tb.length) (h1 : ∀ o, o < s.length → objAt s1 o = objAt s o) (hl : s.length ≤ s1.length) (ho : OwL σ2 rs trs os2) (hn : os2.Nodup) (hf : ∀ o ∈ os2, s1.length ≤ o)
    (old : ∀ o, o < s1.length → objAt σ2 o = objAt s1 o) (hL : ∀ q ∈ L', (q.1 ≠ p ∧ q ∈ L) ∨ q = (p, ob)) (hs : s1.length ≤ σ2.length) : ∃ os', Ep (σ2.set p (some ob)) (a ++ (rs ++ c)) (ta ++ (trs ++ tc)) os' L' := by
  obtain ⟨os', E2, _⟩ := E.renewM hla hlb h1 hl ho hn hf old
  have hpl := E.lt _ hp
  exact ⟨os', E2.reloc (E2.l _ hp).2 (by dsimp only at hpl; omega) hL⟩
theorem Ep.cut (E : Ep s (a ++ (b ++ c)) (ta ++ (tb ++ tc)) os L) (hla : a.length = ta.length) (hlb : b.length = tb.length) : ∃ os', Ep s (a ++ c) (ta ++ tc) os' L ∧ ∀ o ∈ os', o ∈ os := by
  obtain ⟨a1, a2, oa, obc, e, rfl, k1, k2⟩ := owL_split E.c.ow
  obtain ⟨rfl, rfl⟩ := List.append_inj e (by rw [hla]; exact k1.len.symm)
  obtain ⟨b1, b2, ob, oc, e, rfl, k3, k4⟩ := owL_split k2
  obtain ⟨rfl, rfl⟩ := List.append_inj e (by rw [hlb]; exact k3.len.symm)
  have nd := List.nodup_append.1 E.c.nd
  have nd2 := List.nodup_append.1 nd.2.1
  refine ⟨oa ++ oc, ⟨⟨owL_append k1 k4, ?_⟩, fun q hq => ⟨(E.l q hq).1, fun hm => (E.l q hq).2 ?_⟩⟩, fun o h => ?_⟩
  · rw [List.nodup_append]
    exact ⟨nd.1, nd2.2.1, fun x hx y hy e => nd.2.2 x hx y (List.mem_append_right _ hy) e⟩
  · rcases List.mem_append.1 hm with h | h <;> simp [h]
  · rcases List.mem_append.1 h with h | h <;> simp [h]
theorem Ep.swap (E : Ep s (a ++ (b ++ c)) (ta ++ (tb ++ tc)) os L) (hla : a.length = ta.length) (hlb : b.length = tb.length) : ∃ os', Ep s (b ++ (a ++ c)) (tb ++ (ta ++ tc)) os' L ∧ ∀ o, o ∈ os' ↔ o ∈ os := by
  obtain ⟨a1, a2, oa, obc, e, rfl, k1, k2⟩ := owL_split E.c.ow
  obtain ⟨rfl, rfl⟩ := List.append_inj e (by rw [hla]; exact k1.len.symm)
  obtain ⟨b1, b2, ob, oc, e, rfl, k3, k4⟩ := owL_split k2
  obtain ⟨rfl, rfl⟩ := List.append_inj e (by rw [hlb]; exact k3.len.symm)
  have nd := List.nodup_append.1 E.c.nd
  have nd2 := List.nodup_append.1 nd.2.1
  have hm : ∀ o, o ∈ ob ++ (oa ++ oc) ↔ o ∈ oa ++ (ob ++ oc) := fun o => by simp only [List.mem_append]; constructor <;> rintro (h | h | h) <;> simp [h]
  refine ⟨ob ++ (oa ++ oc), ⟨⟨owL_append k3 (owL_append k1 k4), ?_⟩, fun q hq => ⟨(E.l q hq).1, fun h => (E.l q hq).2 ((hm _).1 h)⟩⟩, hm⟩
  rw [List.nodup_append, List.nodup_append]
  refine ⟨nd2.1, ⟨nd.1, nd2.2.1, fun x hx y hy e => nd.2.2 x hx y (List.mem_append_right _ hy) e⟩, fun x hx y hy e => ?_⟩
  rcases List.mem_append.1 hy with hy | hy
  · exact nd.2.2 y hy x (List.mem_append_left _ hx) e.symm
  · exact nd2.2.2 x hx y hy e
end
theorem owR_flat {σ : Store} {k : Nat} : ∀ {A T : List (List V)} {os : List Nat}, (∀ r ∈ A, r.length = k) → (∀ r ∈ T, r.length = k) → A.length = T.length → OwL σ A.flatten T.flatten os → OwR σ A T os
  | [], [], os, _, _, _, h => by
    simp only [List.flatten_nil, OwL] at h
    simp only [OwR]; exact h
  | [], t :: T, _, _, _, h, _ => by simp at h
  | a :: A, [], _, _, _, h, _ => by simp at h
  | a :: A, t :: T, os, ha, ht, hl, h => by
    simp only [List.flatten_cons] at h
    obtain ⟨v1, v2, o1, o2, e, rfl, h1, h2⟩ := owL_split h
    have hlen := h1.len
    have e1 := ha a (by simp)
    have e2 := ht t (by simp)
    obtain ⟨rfl, rfl⟩ := List.append_inj e (by omega)
    simp only [OwR]
    exact ⟨a, A, o1, o2, rfl, rfl, h1, owR_flat (fun r hr => ha r (by simp [hr])) (fun r hr => ht r (by simp [hr])) (by simpa using hl) h2⟩
section
variable {s : Store} {A T : List (List V)} {a c ta tc : List V} {os : List Nat} {L : List (Nat × Obj)} {n p k : Nat}
theorem Ep.close (E : Ep s (A.flatten ++ c) (T.flatten ++ tc) os L) (hp : (p, ⟨n, A⟩) ∈ L) (ha : ∀ r ∈ A, r.length = k) (ht : ∀ r ∈ T, r.length = k) (hl : A.length = T.length) :
    ∃ os', Ep s (.msl p 0 A.length :: c) (.sl n T :: tc) os' (L.filter fun q => q.1 != p) := by
  have hfl : A.flatten.length = T.flatten.length := by
    have e1 : ∀ (X : List (List V)), (∀ r ∈ X, r.length = k) → X.flatten.length = X.length * k := fun X => by
      induction X with
      | nil => intro _; simp
      | cons x X ih =>
        intro h
        rw [List.flatten_cons, List.length_append, ih fun r hr => h r (by simp [hr]), h x (by simp), List.length_cons, Nat.succ_mul]
        omega
    rw [e1 A ha, e1 T ht, hl]
  obtain ⟨v1, v2, o1, o2, e, rfl, h1, h2⟩ := owL_split E.c.ow
  obtain ⟨rfl, rfl⟩ := List.append_inj e (by rw [hfl]; exact h1.len.symm)
  have hR := owR_flat ha ht hl h1
  have hpo := E.l _ hp
  have nd := List.nodup_append.1 E.c.nd
  have hv : OwV s (.msl p 0 A.length) (.sl n T) (p :: o1) := by
    simp only [OwV]
    exact .inr ⟨p, A, o1, by rw [hl], hpo.1, rfl, hR⟩
  refine ⟨(p :: o1) ++ o2, ⟨⟨owL_v hv h2, ?_⟩, fun q hq => ?_⟩⟩
  · simp only [List.cons_append, List.nodup_cons]
    exact ⟨hpo.2, E.c.nd⟩
  · obtain ⟨hq1, hq2⟩ := List.mem_filter.1 hq
    have hne : q.1 ≠ p := by simpa using hq2
    refine ⟨(E.l q hq1).1, fun hm => ?_⟩
    simp only [List.cons_append, List.mem_cons] at hm
    rcases hm with hm | hm
    · exact hne hm
    · exact (E.l q hq1).2 hm
theorem Ep.listRes (E : Ep s (A.flatten ++ c) (T.flatten ++ tc) os L) (hp : (p, ⟨n, A⟩) ∈ L) (ha : ∀ r ∈ A, r.length = k) (ht : ∀ r ∈ T, r.length = k) (hl : A.length = T.length) (m : Nat) (hd : DepLe m (.sl n T)) : resolve s m (.msl p 0 A.length) = some (.sl n T) := by
  obtain ⟨os', E2⟩ := E.close hp ha ht hl
  obtain ⟨v, vs, o1, o2, e, _, h1, h2⟩ := E2.c.ow.inv
  simp only [List.cons.injEq] at e
  obtain ⟨rfl, rfl⟩ := e
  exact ow_res m h1 hd
end
end Go.Ml
end
section
set_option linter.unusedSimpArgs false
set_option linter.unusedVariables false
set_option maxRecDepth 100000
set_option maxHeartbeats 8000000
namespace Go.Ml
def F_spec_InformationVectors : Fn := ⟨1, 93, [.tmp 2, .tmp 3], (.seq (.reg false 0 [oN 2 (.mov (.c (.nils))), oN 3 (.mov (.c (.nils)))]) (.seq (.reg false 1 [oN 11 (.mkSl 3 [.bool false, .nils, .nils] 0 []), oK 4 1 (oV 11)]) (.seq (.reg false 1 [oN 12 (.mkSl 3 [.bool false, .nils, .nils] 0 []), oK 5 1 (oV 12)]) (.seq (.seq (.reg false 0 [oN 13 (oV 0), oN 14 (.call 193 [(.t 13)]), oN 15 (.un .not (.t 14))]) (.cond (.t 15) (.seq (.reg false 0 [oN 2 (.mov (.c (.nils))), oN 3 (.mov (.c (.nils)))]) .ret) .skip)) (.seq (.seq (.reg false 0 [oN 16 (oV 0), oN 17 (.call 222 [(.t 16)]), oN 18 (.len (.t 17)), oN 19 (.mov (cI 0))]) (.block 0 (.loop (.seq (.reg false 0 [oN 20 (.bin .lss (.t 19) (.t 18))]) (.seq (.cond (.t 20) .skip (.exit 0)) (.seq (.block 1 (.seq (.reg false 0 [oN 21 (.idx 1 (.t 17) (.t 19)), oN 22 (.load 1 false (.t 21)), oN 7 (oV 22)]) (.seq (.reg false 1 [oK 23 1 (.call 36 [(cI 0)]), oK 24 1 (.call 36 [(cI 0)]), oK 25 1 (.build [.bool false, .nils, .nils, .bool false, .nils, .nils] [(0, 3, (.t 23)), (3, 3, (.t 24))]), oN 8 (.alloc [.bool false, .nils, .nils, .bool false, .nils, .nils]), ⟨none, none, 1, .store 6 (.t 8) (.t 25), []⟩]) (.seq (.seq (.reg false 0 [oN 26 (oV 0), oN 27 (.len (.t 26)), oN 28 (.mov (cI 0))]) (.block 2 (.loop (.seq (.reg false 0 [oN 29 (.bin .lss (.t 28) (.t 27))]) (.seq (.cond (.t 29) .skip (.exit 2)) (.seq (.block 3 (.seq (.reg false 1 [oK 30 1 (.idx 11 (.t 26) (.t 28)), oK 31 1 (.load 11 true (.t 30)), oN 10 (.alloc [.int .i64 0, .int .i64 0, .bool false, .nils, .nils, .bool false, .nils, .nils, .bool false, .nils, .nils]), ⟨none, none, 1, .store 11 (.t 10) (.t 31), []⟩]) (.seq (.seq (.reg false 0 [oN 32 (.fld 1 (.t 10)), oN 33 (.load 1 false (.t 32)), oN 34 (oV 7), oN 35 (.bin .eql (.t 33) (.t 34))]) (.cond (.t 35) (.seq (.reg true 0 [oN 36 (.fld 0 (.t 8)), oA 37 0 (.load 3 true (.t 36)) [0], oN 38 (.fld 2 (.t 10)), oA 39 0 (.load 3 true (.t 38)) [2], oN 40 (.fld 5 (.t 10)), oA 41 0 (.load 3 true (.t 40)) [4], oA 42 0 (.call 201 [(.t 39), (.t 41)]) [3, 5], oA 43 0 (.call 189 [(.t 37), (.t 42)]) [1, 6, 6], oA 44 0 (.fld 0 (.t 8)) [0, 1, 2, 3, 4, 5, 6, 7], ⟨none, none, 0, .store 3 (.t 44) (.t 43), [8, 7, 7, 0, 1, 2, 3, 4, 5, 6, 7]⟩]) (.reg true 0 [oN 45 (.fld 3 (.t 8)), oA 46 0 (.load 3 true (.t 45)) [0], oN 47 (.fld 2 (.t 10)), oA 48 0 (.load 3 true (.t 47)) [2], oN 49 (.fld 8 (.t 10)), oA 50 0 (.load 3 true (.t 49)) [4], oA 51 0 (.call 201 [(.t 48), (.t 50)]) [3, 5], oA 52 0 (.call 189 [(.t 46), (.t 51)]) [1, 6, 6], oA 53 0 (.fld 3 (.t 8)) [0, 1, 2, 3, 4, 5, 6, 7], ⟨none, none, 0, .store 3 (.t 53) (.t 52), [8, 7, 7, 0, 1, 2, 3, 4, 5, 6, 7]⟩])) .skip)) (.seq (.reg false 0 [oN 54 (.fld 0 (.t 10)), oN 55 (.load 1 false (.t 54)), oN 56 (oV 7), oN 57 (.bin .eql (.t 55) (.t 56))]) (.cond (.t 57) (.seq (.reg true 0 [oN 58 (.fld 0 (.t 8)), oA 59 0 (.load 3 true (.t 58)) [0], oN 60 (.fld 2 (.t 10)), oA 61 0 (.load 3 true (.t 60)) [2], oN 62 (.fld 5 (.t 10)), oA 63 0 (.load 3 true (.t 62)) [4], oA 64 0 (.call 201 [(.t 61), (.t 63)]) [3, 5], oA 65 0 (.call 203 [(.t 59), (.t 64)]) [1, 6, 6], oA 66 0 (.fld 0 (.t 8)) [0, 1, 2, 3, 4, 5, 6, 7], ⟨none, none, 0, .store 3 (.t 66) (.t 65), [8, 7, 7, 0, 1, 2, 3, 4, 5, 6, 7]⟩]) (.reg true 0 [oN 67 (.fld 3 (.t 8)), oA 68 0 (.load 3 true (.t 67)) [0], oN 69 (.fld 2 (.t 10)), oA 70 0 (.load 3 true (.t 69)) [2], oN 71 (.fld 8 (.t 10)), oA 72 0 (.load 3 true (.t 71)) [4], oA 73 0 (.call 201 [(.t 70), (.t 72)]) [3, 5], oA 74 0 (.call 203 [(.t 68), (.t 73)]) [1, 6, 6], oA 75 0 (.fld 3 (.t 8)) [0, 1, 2, 3, 4, 5, 6, 7], ⟨none, none, 0, .store 3 (.t 75) (.t 74), [8, 7, 7, 0, 1, 2, 3, 4, 5, 6, 7]⟩])) .skip))))) (.reg false 0 [oN 76 (.bin .add (.t 28) (cI 1)), oN 28 (oV 76)]))))))) (.seq (.seq (.reg false 0 [oN 77 (.load 6 true (.t 8)), oN 78 (.call 342 [(.t 77)]), oN 79 (.un .not (.t 78))]) (.cond (.t 79) (.seq (.reg false 0 [oN 2 (.mov (.c (.nils))), oN 3 (.mov (.c (.nils)))]) .ret) .skip)) (.seq (.reg false 2 [oK 80 2 (oV 4), oK 81 2 (.fld 0 (.t 8)), oK 82 2 (.load 3 true (.t 81)), oN 83 (.mkSl 3 [.bool false, .nils, .nils] 1 [(0, (.t 82))]), oK 84 1 (.app 3 56 (.t 80) (.t 83)), oK 4 2 (oV 84)]) (.reg false 2 [oK 85 2 (oV 5), oK 86 2 (.fld 3 (.t 8)), oK 87 2 (.load 3 true (.t 86)), oN 88 (.mkSl 3 [.bool false, .nils, .nils] 1 [(0, (.t 87))]), oK 89 1 (.app 3 56 (.t 85) (.t 88)), oK 5 2 (oV 89)]))))))) (.reg false 0 [oN 90 (.bin .add (.t 19) (cI 1)), oN 19 (oV 90)]))))))) (.seq (.reg false 0 [oN 91 (oV 4), oN 92 (oV 5), oN 2 (oV 91), oN 3 (oV 92)]) .ret))))))⟩
structure D_spec_InformationVectors (T : Nat → Option Fn) : Prop where
  hT : T 335 = some F_spec_InformationVectors
  d_spec_RatFromInt : D_spec_RatFromInt T
  d_spec_RatAdd : D_spec_RatAdd T
  d_spec_IsLinkSet : D_spec_IsLinkSet T
  d_spec_RatMul : D_spec_RatMul T
  d_spec_RatSub : D_spec_RatSub T
  d_spec_NodesOf : D_spec_NodesOf T
  d_spec_l08Point : D_spec_l08Point T
def F_impl_goodRow : Fn := ⟨1, 15, [.tmp 2], (.seq (.reg false 0 [oN 2 (.mov (.c (.bool false)))]) (.seq (.seq (.reg false 0 [oN 5 (oV 0), oN 6 (.len (.t 5)), oN 7 (.mov (cI 0))]) (.block 0 (.loop (.seq (.reg false 0 [oN 8 (.bin .lss (.t 7) (.t 6))]) (.seq (.cond (.t 8) .skip (.exit 0)) (.seq (.block 1 (.seq (.reg false 1 [oK 9 1 (.idx 3 (.t 5) (.t 7)), oK 10 1 (.load 3 true (.t 9)), oN 4 (.alloc [.bool false, .nils, .nils]), ⟨none, none, 1, .store 3 (.t 4) (.t 10), []⟩]) (.seq (.reg false 0 [oN 11 (.load 3 true (.t 4)), oN 12 (.call 132 [(.t 11)]), oN 13 (.un .not (.t 12))]) (.cond (.t 13) (.seq (.reg false 0 [oN 2 (.mov (.c (.bool false)))]) .ret) .skip)))) (.reg false 0 [oN 14 (.bin .add (.t 7) (cI 1)), oN 7 (oV 14)]))))))) (.seq (.reg false 0 [oN 2 (.mov (.c (.bool true)))]) .ret)))⟩
structure D_impl_goodRow (T : Nat → Option Fn) : Prop where
  hT : T 244 = some F_impl_goodRow
  d_impl_good : D_impl_good T
def F_impl_InformationVectors : Fn := ⟨1, 88, [.tmp 2, .tmp 3], (.seq (.reg false 0 [oN 2 (.mov (.c (.nils))), oN 3 (.mov (.c (.nils)))]) (.seq (.seq (.reg false 0 [oN 12 (oV 0), oN 13 (.call 89 [(.t 12)]), oN 14 (.un .not (.t 13))]) (.cond (.t 14) (.seq (.reg false 0 [oN 2 (.mov (.c (.nils))), oN 3 (.mov (.c (.nils)))]) .ret) .skip)) (.seq (.reg false 1 [oN 15 (.mkSl 3 [.bool false, .nils, .nils] 0 []), oK 4 1 (oV 15)]) (.seq (.reg false 1 [oN 16 (.mkSl 3 [.bool false, .nils, .nils] 0 []), oK 5 1 (oV 16)]) (.seq (.seq (.reg false 0 [oN 17 (oV 0), oN 18 (.call 180 [(.t 17)]), oN 19 (.len (.t 18)), oN 20 (.mov (cI 0))]) (.block 0 (.loop (.seq (.reg false 0 [oN 21 (.bin .lss (.t 20) (.t 19))]) (.seq (.cond (.t 21) .skip (.exit 0)) (.seq (.block 1 (.seq (.reg false 0 [oN 22 (.idx 1 (.t 18) (.t 20)), oN 23 (.load 1 false (.t 22)), oN 7 (oV 23)]) (.seq (.reg false 1 [oK 24 1 (.call 39 [(cI 0)]), oN 8 (.alloc [.bool false, .nils, .nils]), ⟨none, none, 1, .store 3 (.t 8) (.t 24), []⟩]) (.seq (.reg false 1 [oK 25 1 (.call 39 [(cI 0)]), oN 9 (.alloc [.bool false, .nils, .nils]), ⟨none, none, 1, .store 3 (.t 9) (.t 25), []⟩]) (.seq (.seq (.reg false 0 [oN 26 (oV 0), oN 27 (.len (.t 26)), oN 28 (.mov (cI 0))]) (.block 2 (.loop (.seq (.reg false 0 [oN 29 (.bin .lss (.t 28) (.t 27))]) (.seq (.cond (.t 29) .skip (.exit 2)) (.seq (.block 3 (.seq (.reg false 1 [oK 30 1 (.idx 11 (.t 26) (.t 28)), oK 31 1 (.load 11 true (.t 30)), oN 11 (.alloc [.int .i64 0, .int .i64 0, .bool false, .nils, .nils, .bool false, .nils, .nils, .bool false, .nils, .nils]), ⟨none, none, 1, .store 11 (.t 11) (.t 31), []⟩]) (.seq (.reg false 0 [oN 32 (.fld 1 (.t 11)), oN 33 (.load 1 false (.t 32)), oN 34 (oV 7), oN 35 (.bin .eql (.t 33) (.t 34))]) (.cond (.t 35) (.seq (.reg true 0 [oN 36 (.load 3 true (.t 8)), oN 37 (.fld 2 (.t 11)), oA 38 0 (.load 3 true (.t 37)) [1], oN 39 (.fld 5 (.t 11)), oA 40 0 (.load 3 true (.t 39)) [3], oA 41 0 (.call 157 [(.t 38), (.t 40)]) [2, 4], oA 42 0 (.call 131 [(.t 36), (.t 41)]) [0, 5, 5], ⟨none, none, 0, .store 3 (.t 8) (.t 42), [6, 6, 0, 1, 2, 3, 4, 5, 6]⟩]) (.reg true 0 [oN 43 (.load 3 true (.t 9)), oN 44 (.fld 2 (.t 11)), oA 45 0 (.load 3 true (.t 44)) [1], oN 46 (.fld 8 (.t 11)), oA 47 0 (.load 3 true (.t 46)) [3], oA 48 0 (.call 157 [(.t 45), (.t 47)]) [2, 4], oA 49 0 (.call 131 [(.t 43), (.t 48)]) [0, 5, 5], ⟨none, none, 0, .store 3 (.t 9) (.t 49), [6, 6, 0, 1, 2, 3, 4, 5, 6]⟩])) (.seq (.reg false 0 [oN 50 (.fld 0 (.t 11)), oN 51 (.load 1 false (.t 50)), oN 52 (oV 7), oN 53 (.bin .eql (.t 51) (.t 52))]) (.cond (.t 53) (.seq (.reg true 0 [oN 54 (.load 3 true (.t 8)), oN 55 (.fld 2 (.t 11)), oA 56 0 (.load 3 true (.t 55)) [1], oN 57 (.fld 5 (.t 11)), oA 58 0 (.load 3 true (.t 57)) [3], oA 59 0 (.call 157 [(.t 56), (.t 58)]) [2, 4], oA 60 0 (.call 159 [(.t 54), (.t 59)]) [0, 5, 5], ⟨none, none, 0, .store 3 (.t 8) (.t 60), [6, 6, 0, 1, 2, 3, 4, 5, 6]⟩]) (.reg true 0 [oN 61 (.load 3 true (.t 9)), oN 62 (.fld 2 (.t 11)), oA 63 0 (.load 3 true (.t 62)) [1], oN 64 (.fld 8 (.t 11)), oA 65 0 (.load 3 true (.t 64)) [3], oA 66 0 (.call 157 [(.t 63), (.t 65)]) [2, 4], oA 67 0 (.call 159 [(.t 61), (.t 66)]) [0, 5, 5], ⟨none, none, 0, .store 3 (.t 9) (.t 67), [6, 6, 0, 1, 2, 3, 4, 5, 6]⟩])) .skip)))))) (.reg false 0 [oN 68 (.bin .add (.t 28) (cI 1)), oN 28 (oV 68)]))))))) (.seq (.reg false 2 [oK 69 2 (oV 4), oK 70 2 (.load 3 true (.t 8)), oN 71 (.mkSl 3 [.bool false, .nils, .nils] 1 [(0, (.t 70))]), oK 72 1 (.app 3 56 (.t 69) (.t 71)), oK 4 2 (oV 72)]) (.reg false 2 [oK 73 2 (oV 5), oK 74 2 (.load 3 true (.t 9)), oN 75 (.mkSl 3 [.bool false, .nils, .nils] 1 [(0, (.t 74))]), oK 76 1 (.app 3 56 (.t 73) (.t 75)), oK 5 2 (oV 76)]))))))) (.reg false 0 [oN 77 (.bin .add (.t 20) (cI 1)), oN 20 (oV 77)]))))))) (.seq (.seq (.reg false 0 [oN 78 (oV 4), oN 79 (.call 244 [(.t 78)]), oN 80 (.un .not (.t 79)), oN 81 (oV 80), oG 81 false 82 (oV 5), oG 81 false 83 (.call 244 [(.t 82)]), oG 81 false 84 (.un .not (.t 83)), oN 85 (.pick (.t 81) (.c (.bool true)) (.t 84))]) (.cond (.t 85) (.seq (.reg false 0 [oN 2 (.mov (.c (.nils))), oN 3 (.mov (.c (.nils)))]) .ret) .skip)) (.seq (.reg false 0 [oN 86 (oV 4), oN 87 (oV 5), oN 2 (oV 86), oN 3 (oV 87)]) .ret)))))))⟩
structure D_impl_InformationVectors (T : Nat → Option Fn) : Prop where
  hT : T 276 = some F_impl_InformationVectors
  d_impl_RatFromInt : D_impl_RatFromInt T
  d_impl_IsLinkSet : D_impl_IsLinkSet T
  d_impl_ratAdd : D_impl_ratAdd T
  d_impl_ratMul : D_impl_ratMul T
  d_impl_ratSub : D_impl_ratSub T
  d_impl_nodesOf : D_impl_nodesOf T
  d_impl_goodRow : D_impl_goodRow T
theorem rs_wf {l : List R} (h : ∀ r ∈ l, r.cn) (hl : l.length ≤ 100) : wfL R.wf l := ⟨by omega, fun x hx => cn_wf (h x hx)⟩
theorem c_goodRow {T : Nat → Option Fn} (h : D_impl_goodRow T) {l : List R} (hc : ∀ r ∈ l, r.cn) (hl : l.length ≤ 1048576) : PF T 244 [ratsV l] (.bool (l.all R.ok)) := by
  refine pf_end (fun _ _ => false) h.hT rfl rfl ?_
  dsimp only [F_impl_goodRow, oN, oS, oG, oK, oA, oH, oV, cI]
  (refine ev ?_; try with_reducible exact True.intro)
  refine loop_at (fun _ _ => false) (α := Nat) (fun i => ⟨argE [ratsV l, .any, .any, .any, .any, ratsV l, iv (l.length : Nat), iv (i : Nat)], [], 0, 0, [], []⟩) (fun i => i ≤ l.length ∧ ∀ k, k < i → (l.getD k default).ok = true) (fun i => l.length - i) rfl 0 ?_ ?_ ?_
  · exact ⟨by omega, by intro k hk; omega⟩
  · (refine Fg_env ?_) <;> (try (refine ev ?_; try with_reducible exact True.intro)) <;> (repeat' (first | refine ⟨?_, ?_⟩ | exact EvV_int (by omega) | exact EvV_of (by simp) | exact EvV_nil _))
  · rintro i ⟨hi, hg⟩
    by_cases hcc : (i : Int) < (l.length : Nat)
    · have hil : i < l.length := by omega
      have hmx : (l.map R.cells).getD i [] = (l.getD i default).cells := mg hil
      have hmem := getD_mem (l := l) hil
      have hgs : (l.getD i default).ok = true → ∀ k, k < i + 1 → (l.getD k default).ok = true := fun h k hk => by
        by_cases e : k = i
        · subst e; exact h
        · exact hg k (by omega)
      generalize l.getD i default = x at hmx hmem hgs
      have cg := c_goodR h.d_impl_good (hc x hmem)
      cases hx : x.ok
      · have ha : l.all R.ok = false := List.all_eq_false.2 ⟨x, hmem, by rw [hx]; simp⟩
        rw [hx] at cg
        rw [ha]
        (refine ev2 @hcc @hmx ?_; try with_reducible exact True.intro)
        refine PFK_of cg ?_
        (refine ev ?_; try with_reducible exact True.intro)
      · rw [hx] at cg
        (refine ev2 @hcc @hmx ?_; try with_reducible exact True.intro)
        refine PFK_of cg ?_
        (refine ev ?_; try with_reducible exact True.intro)
        exact ⟨i + 1, by omega, ⟨by omega, hgs hx⟩, by (refine Fg_re [] (by simp) (by intro p hp; cases hp) rfl ?_) <;> (try (refine ev ?_; try with_reducible exact True.intro)) <;> (repeat' (first | exact True.intro | omega | exact CanE_ptr rfl (by simp) | refine ⟨?_, ?_⟩ | exact of_eq_true (CanE_nil _ _ _) | exact CanE_of rfl (by simp; done) | exact CanE_of rfl rfl | (refine CanE_msl rfl ?_ rfl; simp [irows]; done) | (refine CanE_msl rfl ?_ rfl; simp [irows]; omega) | (refine CanE_frz ?_ ?_; (focus ((refine ev ?_; try with_reducible exact True.intro); done)); (intro q hq k s0 l0; simp; done))))⟩
    · have ha : l.all R.ok = true := List.all_eq_true.2 fun x hx => by
        obtain ⟨k, hk⟩ := List.mem_iff_getElem?.1 hx
        have := hg k (by have := (List.getElem?_eq_some_iff.1 hk).1; omega)
        rw [List.getD_eq_getElem?_getD, hk] at this
        exact this
      rw [ha]
      (refine ev1 @hcc ?_; try with_reducible exact True.intro)
end Go.Ml
end
section
set_option linter.unusedSimpArgs false
set_option linter.unusedVariables false
set_option maxRecDepth 100000
set_option maxHeartbeats 8000000
namespace Go.Ml
def rT (l : List R) : List V := (l.map R.cells).flatten
theorem rT_app (l : List R) (r : R) : rT (l ++ [r]) = rT l ++ r.cells := by simp [rT]
theorem flat3 : ∀ {A : List (List V)}, (∀ r ∈ A, r.length = 3) → A.flatten.length = 3 * A.length
  | [], _ => rfl
  | a :: A, h => by
    rw [List.flatten_cons, List.length_append, flat3 fun r hr => h r (by simp [hr]), h a (by simp), List.length_cons]; omega
theorem rT_len (l : List R) : (rT l).length = 3 * l.length := by
  unfold rT
  rw [flat3 (fun r hr => by obtain ⟨x, _, rfl⟩ := List.mem_map.1 hr; rfl), List.length_map]
end Go.Ml
end
section
set_option linter.unusedSimpArgs false
set_option linter.unusedVariables false
set_option maxRecDepth 100000
set_option maxHeartbeats 8000000
namespace Go.Ml
def Rd2 (s : Store) (v w : V) (X Y : List R) : Prop :=
  (X = [] ∧ Y = [] ∧ v = .nils ∧ w = .nils) ∨ ∃ p q, p ≠ q ∧ v = .msl p 0 X.length ∧ w = .msl q 0 Y.length ∧ objAt s p = some ⟨3, X.map R.cells⟩ ∧ objAt s q = some ⟨3, Y.map R.cells⟩
theorem Rd2.fr {s s2 : Store} {v w : V} {X Y : List R} (h : Rd2 s v w X Y) (hf : ∀ p, p < s.length → objAt s2 p = objAt s p) : Rd2 s2 v w X Y := by
  rcases h with h | ⟨p, q, h1, h2, h3, h4, h5⟩
  · exact .inl h
  · exact .inr ⟨p, q, h1, h2, h3, (hf p (objAt_lt h4)).trans h4, (hf q (objAt_lt h5)).trans h5⟩
end Go.Ml
end
section
set_option linter.unusedSimpArgs false
set_option linter.unusedVariables false
set_option maxRecDepth 100000
set_option maxHeartbeats 8000000
namespace Go.Ml
def F_spec_MultiplyMatrices : Fn := ⟨2, 82, [.tmp 4], (.seq (.reg false 0 [oN 4 (.mov (.c (.nils)))]) (.seq (.seq (.reg false 0 [oN 11 (oV 0), oN 12 (oV 0), oN 13 (.len (.t 12)), oN 14 (.call 91 [(.t 11), (.t 13)]), oN 15 (.un .not (.t 14)), oN 16 (oV 15), oG 16 false 17 (oV 1), oG 16 false 18 (oV 0), oG 16 false 19 (.len (.t 18)), oG 16 false 20 (.call 91 [(.t 17), (.t 19)]), oG 16 false 21 (.un .not (.t 20)), oN 22 (.pick (.t 16) (.c (.bool true)) (.t 21)), oN 23 (oV 22), oG 23 false 24 (oV 1), oG 23 false 25 (.len (.t 24)), oG 23 false 26 (oV 0), oG 23 false 27 (.len (.t 26)), oG 23 false 28 (.bin .neq (.t 25) (.t 27)), oN 29 (.pick (.t 23) (.c (.bool true)) (.t 28))]) (.cond (.t 29) (.seq (.reg false 0 [oN 4 (.mov (.c (.nils)))]) .ret) .skip)) (.seq (.reg false 1 [oN 30 (.mkSl 1 [.nils] 0 []), oK 5 1 (oV 30)]) (.seq (.seq (.reg false 0 [oN 31 (oV 0), oN 32 (.len (.t 31)), oN 33 (.mov (cI 0))]) (.block 0 (.loop (.seq (.reg false 0 [oN 34 (.bin .lss (.t 33) (.t 32))]) (.seq (.cond (.t 34) .skip (.exit 0)) (.seq (.block 1 (.seq (.reg false 0 [oN 35 (oV 33), oN 6 (oV 35)]) (.seq (.reg false 1 [oN 36 (.mkSl 3 [.bool false, .nils, .nils] 0 []), oK 7 1 (oV 36)]) (.seq (.seq (.reg false 0 [oN 37 (oV 0), oN 38 (.len (.t 37)), oN 39 (.mov (cI 0))]) (.block 2 (.loop (.seq (.reg false 0 [oN 40 (.bin .lss (.t 39) (.t 38))]) (.seq (.cond (.t 40) .skip (.exit 2)) (.seq (.block 3 (.seq (.reg false 0 [oN 41 (oV 39), oN 8 (oV 41)]) (.seq (.reg false 1 [oK 42 1 (.call 36 [(cI 0)]), oN 9 (.alloc [.bool false, .nils, .nils]), ⟨none, none, 1, .store 3 (.t 9) (.t 42), []⟩]) (.seq (.seq (.reg false 0 [oN 43 (oV 0), oN 44 (.len (.t 43)), oN 45 (.mov (cI 0))]) (.block 4 (.loop (.seq (.reg false 0 [oN 46 (.bin .lss (.t 45) (.t 44))]) (.seq (.cond (.t 46) .skip (.exit 4)) (.seq (.block 5 (.seq (.reg false 0 [oN 47 (oV 45), oN 10 (oV 47)]) (.reg true 0 [oN 48 (.load 3 true (.t 9)), oN 49 (oV 0), oN 50 (oV 6), oA 51 0 (.idx 1 (.t 49) (.t 50)) [1, 2], oA 52 0 (.load 1 false (.t 51)) [3], oN 53 (oV 10), oA 54 0 (.idx 3 (.t 52) (.t 53)) [4, 5], oA 55 0 (.load 3 true (.t 54)) [6], oN 56 (oV 1), oN 57 (oV 10), oA 58 0 (.idx 1 (.t 56) (.t 57)) [8, 9], oA 59 0 (.load 1 false (.t 58)) [10], oN 60 (oV 8), oA 61 0 (.idx 3 (.t 59) (.t 60)) [11, 12], oA 62 0 (.load 3 true (.t 61)) [13], oA 63 0 (.call 201 [(.t 55), (.t 62)]) [7, 14], oA 64 0 (.call 189 [(.t 48), (.t 63)]) [0, 15, 15], ⟨none, none, 0, .store 3 (.t 9) (.t 64), [16, 16, 0, 1, 2, 3, 4, 5, 6, 7, 8, 9, 10, 11, 12, 13, 14, 15, 16]⟩]))) (.reg false 0 [oN 65 (.bin .add (.t 45) (cI 1)), oN 45 (oV 65)]))))))) (.reg false 2 [oK 66 2 (oV 7), oK 67 2 (.load 3 true (.t 9)), oN 68 (.mkSl 3 [.bool false, .nils, .nils] 1 [(0, (.t 67))]), oK 69 1 (.app 3 56 (.t 66) (.t 68)), oK 7 2 (oV 69)]))))) (.reg false 0 [oN 70 (.bin .add (.t 39) (cI 1)), oN 39 (oV 70)]))))))) (.reg false 2 [oK 71 2 (oV 5), oK 72 2 (oV 7), oN 73 (.mkSl 1 [.nils] 1 [(0, (.t 72))]), oK 74 1 (.app 1 24 (.t 71) (.t 73)), oK 5 2 (oV 74)]))))) (.reg false 0 [oN 75 (.bin .add (.t 33) (cI 1)), oN 33 (oV 75)]))))))) (.seq (.seq (.reg false 0 [oN 76 (oV 5), oN 77 (oV 0), oN 78 (.len (.t 77)), oN 79 (.call 91 [(.t 76), (.t 78)]), oN 80 (.un .not (.t 79))]) (.cond (.t 80) (.seq (.reg false 0 [oN 4 (.mov (.c (.nils)))]) .ret) .skip)) (.seq (.reg false 0 [oN 81 (oV 5), oN 4 (oV 81)]) .ret))))))⟩
structure D_spec_MultiplyMatrices (T : Nat → Option Fn) : Prop where
  hT : T 301 = some F_spec_MultiplyMatrices
  d_spec_RatFromInt : D_spec_RatFromInt T
  d_spec_IsMatrix : D_spec_IsMatrix T
  d_spec_RatAdd : D_spec_RatAdd T
  d_spec_RatMul : D_spec_RatMul T
def F_impl_MultiplyMatrices : Fn := ⟨2, 77, [.tmp 4], (.seq (.reg false 0 [oN 4 (.mov (.c (.nils)))]) (.seq (.reg false 0 [oN 12 (oV 0), oN 13 (.len (.t 12)), oN 5 (oV 13)]) (.seq (.seq (.reg false 0 [oN 14 (oV 1), oN 15 (.len (.t 14)), oN 16 (oV 5), oN 17 (.bin .neq (.t 15) (.t 16)), oN 18 (oV 17), oG 18 false 19 (oV 0), oG 18 false 20 (oV 5), oG 18 false 21 (.call 93 [(.t 19), (.t 20)]), oG 18 false 22 (.un .not (.t 21)), oN 23 (.pick (.t 18) (.c (.bool true)) (.t 22)), oN 24 (oV 23), oG 24 false 25 (oV 1), oG 24 false 26 (oV 5), oG 24 false 27 (.call 93 [(.t 25), (.t 26)]), oG 24 false 28 (.un .not (.t 27)), oN 29 (.pick (.t 24) (.c (.bool true)) (.t 28))]) (.cond (.t 29) (.seq (.reg false 0 [oN 4 (.mov (.c (.nils)))]) .ret) .skip)) (.seq (.reg false 1 [oN 30 (.mkSl 1 [.nils] 0 []), oK 6 1 (oV 30)]) (.seq (.seq (.reg false 0 [oN 7 (.mov (cI 0))]) (.block 0 (.loop (.seq (.seq (.reg false 0 [oN 31 (oV 7), oN 32 (oV 5), oN 33 (.bin .lss (.t 31) (.t 32))]) (.cond (.t 33) .skip (.exit 0))) (.seq (.block 1 (.seq (.reg false 1 [oN 36 (.mkSl 3 [.bool false, .nils, .nils] 0 []), oK 8 1 (oV 36)]) (.seq (.seq (.reg false 0 [oN 9 (.mov (cI 0))]) (.block 2 (.loop (.seq (.seq (.reg false 0 [oN 37 (oV 9), oN 38 (oV 5), oN 39 (.bin .lss (.t 37) (.t 38))]) (.cond (.t 39) .skip (.exit 2))) (.seq (.block 3 (.seq (.reg false 1 [oK 42 1 (.call 39 [(cI 0)]), oN 10 (.alloc [.bool false, .nils, .nils]), ⟨none, none, 1, .store 3 (.t 10) (.t 42), []⟩]) (.seq (.seq (.reg false 0 [oN 11 (.mov (cI 0))]) (.block 4 (.loop (.seq (.seq (.reg false 0 [oN 43 (oV 11), oN 44 (oV 5), oN 45 (.bin .lss (.t 43) (.t 44))]) (.cond (.t 45) .skip (.exit 4))) (.seq (.block 5 (.reg true 0 [oN 48 (.load 3 true (.t 10)), oN 49 (oV 0), oN 50 (oV 7), oA 51 0 (.idx 1 (.t 49) (.t 50)) [1, 2], oA 52 0 (.load 1 false (.t 51)) [3], oN 53 (oV 11), oA 54 0 (.idx 3 (.t 52) (.t 53)) [4, 5], oA 55 0 (.load 3 true (.t 54)) [6], oN 56 (oV 1), oN 57 (oV 11), oA 58 0 (.idx 1 (.t 56) (.t 57)) [8, 9], oA 59 0 (.load 1 false (.t 58)) [10], oN 60 (oV 9), oA 61 0 (.idx 3 (.t 59) (.t 60)) [11, 12], oA 62 0 (.load 3 true (.t 61)) [13], oA 63 0 (.call 157 [(.t 55), (.t 62)]) [7, 14], oA 64 0 (.call 131 [(.t 48), (.t 63)]) [0, 15, 15], ⟨none, none, 0, .store 3 (.t 10) (.t 64), [16, 16, 0, 1, 2, 3, 4, 5, 6, 7, 8, 9, 10, 11, 12, 13, 14, 15, 16]⟩])) (.reg false 0 [oN 46 (oV 11), oN 47 (.bin .add (.t 46) (cI 1)), oN 11 (oV 47)])))))) (.reg false 2 [oK 65 2 (oV 8), oK 66 2 (.load 3 true (.t 10)), oN 67 (.mkSl 3 [.bool false, .nils, .nils] 1 [(0, (.t 66))]), oK 68 1 (.app 3 56 (.t 65) (.t 67)), oK 8 2 (oV 68)])))) (.reg false 0 [oN 40 (oV 9), oN 41 (.bin .add (.t 40) (cI 1)), oN 9 (oV 41)])))))) (.seq (.seq (.reg false 0 [oN 69 (oV 8), oN 70 (.call 244 [(.t 69)]), oN 71 (.un .not (.t 70))]) (.cond (.t 71) (.seq (.reg false 0 [oN 4 (.mov (.c (.nils)))]) .ret) .skip)) (.reg false 2 [oK 72 2 (oV 6), oK 73 2 (oV 8), oN 74 (.mkSl 1 [.nils] 1 [(0, (.t 73))]), oK 75 1 (.app 1 24 (.t 72) (.t 74)), oK 6 2 (oV 75)]))))) (.reg false 0 [oN 34 (oV 7), oN 35 (.bin .add (.t 34) (cI 1)), oN 7 (oV 35)])))))) (.seq (.reg false 0 [oN 76 (oV 6), oN 4 (oV 76)]) .ret))))))⟩
structure D_impl_MultiplyMatrices (T : Nat → Option Fn) : Prop where
  hT : T 233 = some F_impl_MultiplyMatrices
  d_impl_RatFromInt : D_impl_RatFromInt T
  d_impl_IsMatrix : D_impl_IsMatrix T
  d_impl_ratAdd : D_impl_ratAdd T
  d_impl_ratMul : D_impl_ratMul T
  d_impl_goodRow : D_impl_goodRow T
theorem matOk_row {m : List (List R)} {cols : Int} (h : matOk m cols = true) : (∀ i, i < m.length → ((m.getD i default).length : Int) = cols ∧ ∀ j, j < (m.getD i default).length → ((m.getD i default).getD j default).ok = true) ∧ m.length ≤ 10 := by
  unfold matOk at h
  simp only [Bool.and_eq_true, decide_eq_true_eq] at h
  refine ⟨fun i hi => ?_, h.2⟩
  have := allB_iff.1 h.1 i hi
  unfold matAt at this
  simp only [Bool.and_eq_true, decide_eq_true_eq] at this
  exact ⟨this.1, allB_iff.1 this.2⟩
theorem matOk_of {m : List (List R)} {cols : Int} (h : ∀ r ∈ m, (r.length : Int) = cols) (hl : m.length ≤ 10) : matOk m cols = m.all fun r => r.all R.ok := by
  cases ha : m.all fun r => r.all R.ok
  · obtain ⟨r, hr, hb⟩ := List.all_eq_false.1 ha
    have hb : r.all R.ok = false := by simpa using hb
    obtain ⟨x, hx, hxb⟩ := List.all_eq_false.1 hb
    obtain ⟨i, hi⟩ := List.mem_iff_getElem?.1 hr
    obtain ⟨j, hj⟩ := List.mem_iff_getElem?.1 hx
    have hil := (List.getElem?_eq_some_iff.1 hi).1
    have hjl := (List.getElem?_eq_some_iff.1 hj).1
    refine matOk_f hil ?_
    have e1 : m.getD i default = r := by rw [List.getD_eq_getElem?_getD, hi]; rfl
    have e2 : r.getD j default = x := by rw [List.getD_eq_getElem?_getD, hj]; rfl
    unfold matAt
    rw [e1, allB_f hjl (by rw [e2]; simpa using hxb), Bool.and_false]
  · rw [matOk_t, decide_eq_true hl]
    intro i hi
    have hm := getD_mem (l := m) hi
    have h1 := h _ hm
    have h2 := List.all_eq_true.1 ha _ hm
    unfold matAt
    rw [decide_eq_true h1, Bool.true_and]
    refine allB_t fun j hj => ?_
    exact List.all_eq_true.1 h2 _ (getD_mem hj)
abbrev mEl (m : List (List R)) (i j : Nat) : R := (m.getD i default).getD j default
theorem mEl_cn {m : List (List R)} {cols : Int} (h : matOk m cols = true) (i j : Nat) : (mEl m i j).cn := by
  obtain ⟨h1, _⟩ := matOk_row h
  unfold mEl
  have hd : (default : R).cn := cn_0
  rcases Nat.lt_or_ge i m.length with hi | hi
  · rcases Nat.lt_or_ge j (m.getD i default).length with hj | hj
    · exact cn_ok ((h1 i hi).2 j hj)
    · rw [List.getD_eq_getElem?_getD (l := m.getD i default), List.getElem?_eq_none hj]; exact hd
  · rw [List.getD_eq_getElem?_getD (l := m), List.getElem?_eq_none hi]
    show (([] : List R).getD j default).cn
    exact hd
def mmE (a b : List (List R)) (i j : Nat) : Nat → R
  | 0 => intR 0
  | k + 1 => addR (mmE a b i j k) (mulR (mEl a i k) (mEl b k j))
theorem mmE_cn (a b : List (List R)) (i j : Nat) : ∀ k, (mmE a b i j k).cn
  | 0 => intR_cn (by decide)
  | k + 1 => addR_cn _ _
def mmRow (a b : List (List R)) (n i m : Nat) : List R := (List.range m).map fun j => mmE a b i j n
def mmM (a b : List (List R)) (n m : Nat) : List (List R) := (List.range m).map fun i => mmRow a b n i n
theorem mmRow_s (a b : List (List R)) (n i m : Nat) : mmRow a b n i (m + 1) = mmRow a b n i m ++ [mmE a b i m n] := by unfold mmRow; rw [List.range_succ, List.map_append]; rfl
theorem mmM_s (a b : List (List R)) (n m : Nat) : mmM a b n (m + 1) = mmM a b n m ++ [mmRow a b n m n] := by unfold mmM; rw [List.range_succ, List.map_append]; rfl
theorem mmRow_len (a b : List (List R)) (n i m : Nat) : (mmRow a b n i m).length = m := by unfold mmRow; simp
theorem mmM_len (a b : List (List R)) (n m : Nat) : (mmM a b n m).length = m := by unfold mmM; simp
theorem mmRow_cn (a b : List (List R)) (n i m : Nat) : ∀ r ∈ mmRow a b n i m, r.cn := fun r hr => by
  obtain ⟨j, _, rfl⟩ := List.mem_map.1 hr; exact mmE_cn _ _ _ _ _
def mmC (a b : List (List R)) : Bool := matOk a a.length && matOk b a.length && decide (b.length = a.length)
def mmG (a b : List (List R)) : Bool := mmC a b && (mmM a b a.length a.length).all fun r => r.all R.ok
def mmV (a b : List (List R)) : List (List R) := if mmG a b = true then mmM a b a.length a.length else []
theorem mmV_bad {a b : List (List R)} (h : mmG a b = false) : mmV a b = [] := by unfold mmV; rw [h]; rfl
theorem mmV_good {a b : List (List R)} (h : mmG a b = true) : mmV a b = mmM a b a.length a.length := if_pos h
theorem mmG_c {a b : List (List R)} (h : mmC a b = false) : mmG a b = false := by unfold mmG; rw [h]; rfl
theorem mmC_len {a b : List (List R)} (h : mmC a b = true) : a.length ≤ 10 ∧ b.length = a.length ∧ matOk a a.length = true ∧ matOk b a.length = true := by
  unfold mmC at h
  simp only [Bool.and_eq_true, decide_eq_true_eq] at h
  exact ⟨(matOk_row h.1.1).2, h.2, h.1.1, h.1.2⟩
theorem mmG_row {a b : List (List R)} {i : Nat} (hi : i < a.length) (h : (mmRow a b a.length i a.length).all R.ok = false) : mmG a b = false := by
  unfold mmG
  rw [List.all_eq_false.2 ⟨mmRow a b a.length i a.length, by unfold mmM; exact List.mem_map.2 ⟨i, List.mem_range.2 hi, rfl⟩, by rw [h]; simp⟩, Bool.and_false]
theorem mmG_all {a b : List (List R)} (hc : mmC a b = true) (h : ∀ i, i < a.length → (mmRow a b a.length i a.length).all R.ok = true) : mmG a b = true := by
  unfold mmG
  rw [hc, Bool.true_and, List.all_eq_true]
  intro r hr
  obtain ⟨i, hi, rfl⟩ := List.mem_map.1 hr
  exact h i (List.mem_range.1 hi)
theorem mat_ok {m : List (List R)} {n : Nat} (h : ∀ r ∈ m, (∀ x ∈ r, x.cn) ∧ r.length ≤ n) (hn : n ≤ 20) (hl : m.length ≤ 10) : szL (szL R.sz) m ≤ 100000 ∧ wfL (wfL R.wf) m := by
  refine ⟨?_, by omega, fun r hr => rs_wf (h r hr).1 (by have := (h r hr).2; omega)⟩
  have := szL_bd (f := szL R.sz) (k := 1000) (l := m) fun r hr => by
    have h1 := szL_bd (f := R.sz) (k := 48) (l := r) fun x hx => by have := cn_len ((h r hr).1 x hx); unfold R.sz; omega
    have h2 := (h r hr).2
    have : r.length * 49 ≤ 20 * 49 := Nat.mul_le_mul_right _ (by omega)
    omega
  have : m.length * 1001 ≤ 10 * 1001 := Nat.mul_le_mul_right _ hl
  omega
theorem mmV_ok (a b : List (List R)) : szL (szL R.sz) (mmV a b) ≤ 100000 ∧ wfL (wfL R.wf) (mmV a b) := by
  cases h : mmG a b
  · rw [mmV_bad h]; exact ⟨by simp [szL], by simp [wfL]⟩
  · rw [mmV_good h]
    have hc : mmC a b = true := by
      cases hc : mmC a b
      · rw [mmG_c hc] at h; cases h
      · rfl
    have hl := (mmC_len hc).1
    refine mat_ok (n := 10) (fun r hr => ?_) (by omega) (by rw [mmM_len]; exact hl)
    obtain ⟨i, _, rfl⟩ := List.mem_map.1 hr
    exact ⟨mmRow_cn _ _ _ _ _, by rw [mmRow_len]; exact hl⟩
end Go.Ml
end
section
set_option linter.unusedSimpArgs false
set_option linter.unusedVariables false
set_option maxRecDepth 100000
set_option maxHeartbeats 8000000
namespace Go.Ml
def LAt (n : Nat) (v : V) (A : List (List V)) (M : List (Nat × Obj)) : Prop := (A = [] ∧ v = .nils ∧ M = []) ∨ ∃ p, v = .msl p 0 A.length ∧ M = [(p, ⟨n, A⟩)]
def tO (l : List (List R)) : List V := (l.map fun r => [ratsV r]).flatten
theorem tO_app (l : List (List R)) (r : List R) : tO (l ++ [r]) = tO l ++ [ratsV r] := by simp [tO]
theorem flat1k : ∀ {A : List (List V)}, (∀ r ∈ A, r.length = 1) → A.flatten.length = A.length
  | [], _ => rfl
  | a :: A, h => by
    rw [List.flatten_cons, List.length_append, flat1k fun r hr => h r (by simp [hr]), h a (by simp), List.length_cons]; omega
theorem tO_len (l : List (List R)) : (tO l).length = l.length := by
  unfold tO
  rw [flat1k (fun r hr => by obtain ⟨x, _, rfl⟩ := List.mem_map.1 hr; rfl), List.length_map]
theorem mm_rows {n : Nat} {A : List (List V)} {r : List V} (h : ∀ r ∈ A, r.length = n) (hr : r.length = n) : ∀ x ∈ A ++ [r], x.length = n := fun x hx => by
  rcases List.mem_append.1 hx with hx | hx
  · exact h x hx
  · rw [List.mem_singleton.1 hx]; exact hr
theorem po_iMultiplyMatrices {T : Nat → Option Fn} (h : D_impl_MultiplyMatrices T) {a b : List (List R)} (ha : wfL (wfL R.wf) a) (hb : wfL (wfL R.wf) b) : PO T 233 [ratssV a, ratssV b] (ratssV (mmV a b)) := by
  have la := ha.1
  have lb := hb.1
  have c1 := c_iIsMatrix h.d_impl_IsMatrix (m := a) (cols := (a.length : Nat)) ha (by omega)
  have c2 := c_iIsMatrix h.d_impl_IsMatrix (m := b) (cols := (a.length : Nat)) hb (by omega)
  cases hc : mmC a b
  · rw [mmV_bad (mmG_c hc)]
    refine po_end2 (fun _ _ => false) h.hT rfl rfl ?_
    dsimp only [F_impl_MultiplyMatrices, oN, oS, oG, oK, oA, oH, oV, cI, St.enter, List.length_cons, List.length_nil, Nat.zero_add]
    (refine ew ?_; try with_reducible exact True.intro)
    by_cases hl : ((b.length : Nat) : Int) = (a.length : Nat)
    · have hbl' : (((b.length : Nat) : Int) = (a.length : Nat)) = True := eq_true hl
      (refine ew1 @hbl' ?_; try with_reducible exact True.intro)
      refine PFK_of c1 ?_
      cases h1 : matOk a (a.length : Nat)
      · (refine ew1 @hbl' ?_; try with_reducible exact True.intro)
        exact fin_nil
      · have h2 : matOk b (a.length : Nat) = false := by
          unfold mmC at hc
          rw [h1, decide_eq_true (by omega), Bool.true_and, Bool.and_true] at hc
          exact hc
        rw [h2] at c2
        (refine ew1 @hbl' ?_; try with_reducible exact True.intro)
        refine PFK_of c2 ?_
        (refine ew ?_; try with_reducible exact True.intro)
        exact fin_nil
    · (refine ew1 @hl ?_; try with_reducible exact True.intro)
      exact fin_nil
  obtain ⟨l10, hbl, m1, m2⟩ := mmC_len hc
  rw [m1] at c1
  rw [m2] at c2
  have cA := mEl_cn m1
  have cB := mEl_cn m2
  have rA := (matOk_row m1).1
  have rB := (matOk_row m2).1
  clear la lb
  refine po_end2 (fun x d => (x == 39 && d == 42) || (x == 131 && d == 64)) h.hT rfl rfl ?_
  dsimp only [F_impl_MultiplyMatrices, oN, oS, oG, oK, oA, oH, oV, cI, St.enter, List.length_cons, List.length_nil, Nat.zero_add]
  (refine ew ?_; try with_reducible exact True.intro)
  have hbl' : (((b.length : Nat) : Int) = (a.length : Nat)) = True := eq_true (by omega)
  (refine ew1 @hbl' ?_; try with_reducible exact True.intro)
  refine PFK_of c1 ?_
  (refine ew1 @hbl' ?_; try with_reducible exact True.intro)
  refine PFK_of c2 ?_
  (refine ew ?_; try with_reducible exact True.intro)
  refine loop_at (fun x d => (x == 39 && d == 42) || (x == 131 && d == 64)) (α := Nat × Store × V × List (List V) × List Nat × List (Nat × Obj)) (fun q => ⟨argE [ratssV a, ratssV b, .any, .any, .any, iv (a.length : Nat), q.2.2.1, iv (q.1 : Nat)], q.2.1, 0, 0, [], []⟩) (fun q => (q.1 ≤ a.length ∧ LAt 1 q.2.2.1 q.2.2.2.1 q.2.2.2.2.2 ∧ (∀ r ∈ q.2.2.2.1, r.length = 1) ∧ q.2.2.2.1.length = q.1 ∧ ∀ z, z < q.1 → (mmRow a b a.length z a.length).all R.ok = true) ∧ Ep q.2.1 q.2.2.2.1.flatten (tO (mmM a b a.length q.1)) q.2.2.2.2.1 q.2.2.2.2.2) (fun q => a.length - q.1) rfl (0, [none], .nils, [], [], []) ?_ ?_ ?_
  · exact ⟨⟨by omega, .inl ⟨rfl, rfl, rfl⟩, by simp, rfl, by intro z hz; omega⟩, ⟨⟨by simp [tO, mmM, OwL], .nil⟩, by simp⟩⟩
  · (refine Fg_env ?_) <;> (try (refine ew ?_; try with_reducible exact True.intro)) <;> (repeat' (first | refine ⟨?_, ?_⟩ | exact EvV_int (by omega) | exact EvV_of (by simp) | exact EvV_nil _))
  · rintro ⟨i, s, v6, OA, os, M⟩ ⟨⟨hi, hv6, hOA, hOl, hok⟩, E⟩
    dsimp only at hi hv6 hOA hOl hok E
    by_cases hcc : (i : Int) < (a.length : Nat)
    · have hil : i < a.length := by omega
      have hai : (a.map fun r => [ratsV r]).getD i [] = [ratsV (a.getD i default)] := mg (f := fun r : List R => [ratsV r]) hil
      have hal := (rA i hil).1
      have eO := mmM_s a b a.length i
      have hTO : OA.flatten.length = (tO (mmM a b a.length i)).length := by rw [flat1k hOA, tO_len, mmM_len]; omega
      generalize hTOe : tO (mmM a b a.length i) = TO at *
      (refine ew1 @hcc ?_; try with_reducible exact True.intro)
      refine loop_at (fun x d => (x == 39 && d == 42) || (x == 131 && d == 64)) (α := Nat × Store × V × List (List V) × List Nat × List (Nat × Obj)) (fun q => ⟨argE [ratssV a, ratssV b, .any, .any, .any, iv (a.length : Nat), v6, iv (i : Nat), q.2.2.1, iv (q.1 : Nat)], q.2.1, 0, 0, [], []⟩) (fun q => (q.1 ≤ a.length ∧ LAt 3 q.2.2.1 q.2.2.2.1 q.2.2.2.2.2 ∧ (∀ r ∈ q.2.2.2.1, r.length = 3) ∧ q.2.2.2.1.length = q.1) ∧ Ep q.2.1 (q.2.2.2.1.flatten ++ OA.flatten) (rT (mmRow a b a.length i q.1) ++ TO) q.2.2.2.2.1 (q.2.2.2.2.2 ++ M)) (fun q => a.length - q.1) rfl (0, s ++ [none], .nils, [], os, []) ?_ ?_ ?_
      · exact ⟨⟨by omega, .inl ⟨rfl, rfl, rfl⟩, by simp, rfl⟩, by simpa [rT, mmRow] using E.snoc⟩
      · (refine Fg_env ?_) <;> (try (refine ew ?_; try with_reducible exact True.intro)) <;> (repeat' (first | refine ⟨?_, ?_⟩ | exact EvV_int (by omega) | exact EvV_of (by simp) | exact EvV_nil _))
      · rintro ⟨j, s, v8, RA, os, N⟩ ⟨⟨hj, hv8, hRA, hRl⟩, E⟩
        dsimp only at hj hv8 hRA hRl E
        by_cases hcj : (j : Int) < (a.length : Nat)
        · have eR := mmRow_s a b a.length i j
          have hTR : RA.flatten.length = (rT (mmRow a b a.length i j)).length := by rw [flat3 hRA, rT_len, mmRow_len]; omega
          generalize hTRe : rT (mmRow a b a.length i j) = TR at *
          (refine ew1 @hcj ?_; try with_reducible exact True.intro)
          refine RefK_got (po_RatFromInt h.d_impl_RatFromInt (n := 0)) (by (refine ew ?_; try with_reducible exact True.intro)) ?_
          intro r q1 o1 G
          obtain ⟨_, rfl, hQ1⟩ := G.ow.agg_inv
          obtain ⟨x1, x2, rfl⟩ := hQ1.rat
          have E1 := E.got (s1 := s ++ [none]) (fun o ho => objAt_snoc_lt ho) (by simp) hQ1 G.nd G.fresh G.old
          have F1 := E.free (s1 := s ++ [none]) (p := s.length) G.fresh (Nat.le_refl _) (by simp)
          have gl : s.length + 1 ≤ q1.length := by simpa using G.len
          have hM : ∀ q ∈ N ++ M, q.1 ≠ s.length := fun q hq => by have := E.lt q hq; omega
          replace E1 := E1.loc (ob := ⟨3, [[.bool (intR 0).neg, x1, x2]]⟩) F1 (by omega) hM
          have l1 := OwL.leaf hQ1 rfl
          simp only [List.all_cons, List.all_nil, Bool.and_true, Bool.and_eq_true] at l1
          (refine ew2 @l1 @List.set_set.{0} ?_; try with_reducible exact True.intro)
          generalize hq1e : q1.set s.length (some ⟨3, [[.bool (intR 0).neg, x1, x2]]⟩) = s1 at *
          generalize s.length = p at *
          clear G gl hq1e hQ1 F1 E l1
          generalize hCe : RA.flatten ++ OA.flatten = Cc at *
          generalize hTCe : TR ++ TO = TC at *
          have hCl : Cc.length = TC.length := by rw [← hCe, ← hTCe, List.length_append, List.length_append, hTR, hTO]
          obtain ⟨os2, E3, _⟩ := Ep.swap (a := Cc) (b := [.bool (intR 0).neg, x1, x2]) (c := []) (ta := TC) (tb := (intR 0).cells) (tc := []) (by simpa only [List.append_nil] using E1) hCl rfl
          simp only [List.append_nil] at E3
          clear E1
          have E3 := E3.sub (L' := (p, (⟨3, [[.bool (intR 0).neg, x1, x2]]⟩ : Obj)) :: (N ++ M)) (by
            intro q hq
            simp only [List.mem_cons, List.mem_append, List.not_mem_nil, or_false] at hq ⊢
            rcases hq with h | h | h <;> simp [h])
          refine loop_at (fun x d => (x == 39 && d == 42) || (x == 131 && d == 64)) (α := Nat × Store × V × V × List Nat) (fun q => ⟨argE [ratssV a, ratssV b, .any, .any, .any, iv (a.length : Nat), v6, iv (i : Nat), v8, iv (j : Nat), .ptr p 0 0, iv (q.1 : Nat)], q.2.1, 0, 0, [], []⟩) (fun q => q.1 ≤ a.length ∧ Ep q.2.1 ([.bool (mmE a b i j q.1).neg, q.2.2.1, q.2.2.2.1] ++ Cc) ([.bool (mmE a b i j q.1).neg, ints (mmE a b i j q.1).mag, ints (mmE a b i j q.1).den] ++ TC) q.2.2.2.2 ((p, (⟨3, [[.bool (mmE a b i j q.1).neg, q.2.2.1, q.2.2.2.1]]⟩ : Obj)) :: (N ++ M))) (fun q => a.length - q.1) rfl (0, s1, x1, x2, os2) ?_ ?_ ?_
          · exact ⟨by omega, E3⟩
          · (refine Fg_env ?_) <;> (try (refine ew ?_; try with_reducible exact True.intro)) <;> (repeat' (first | refine ⟨?_, ?_⟩ | exact EvV_int (by omega) | exact EvV_of (by simp) | exact EvV_nil _))
          · clear E3
            rintro ⟨k, s, x1, x2, os⟩ ⟨hk, E⟩
            dsimp only at hk E
            have hX := mmE_cn a b i j k
            by_cases hck : (k : Int) < (a.length : Nat)
            · have hkl : k < a.length := by omega
              have es : mmE a b i j (k + 1) = addR (mmE a b i j k) (mulR (mEl a i k) (mEl b k j)) := rfl
              have hbk : (b.map fun r => [ratsV r]).getD k [] = [ratsV (b.getD k default)] := mg (f := fun r : List R => [ratsV r]) (by omega)
              have hbl2 := (rB k (by omega)).1
              have hak : ((a.getD i default).map R.cells).getD k [] = (mEl a i k).cells := mg (by omega)
              have hbj : ((b.getD k default).map R.cells).getD j [] = (mEl b k j).cells := mg (by omega)
              have n1 := cA i k
              have n2 := cB k j
              generalize mEl a i k = A at *
              generalize mEl b k j = B at *
              generalize a.getD i default = ra at *
              generalize b.getD k default = rb at *
              generalize mmE a b i j k = X at *
              have L := E.at0 (p := p) (ob := ⟨3, [[.bool X.neg, x1, x2]]⟩) (by simp)
              have hkra : (k : Int) < (ra.length : Nat) := by omega
              have hjrb : (j : Int) < (rb.length : Nat) := by omega
              (refine ew4 @hck @L (And.intro hai hbk) (And.intro hak hbj) ?_; try with_reducible exact True.intro)
              refine PFK_of (c_ratMulR h.d_impl_ratMul n1 n2) ?_
              have R := And.intro (E.res1 1 rfl rfl (dep_ints _ _)) (E.res1 2 rfl rfl (dep_ints _ _))
              have LF := And.intro (E.leaf 1 rfl rfl) (E.leaf 2 rfl rfl)
              (refine ew5 @L @R @LF @numK_any @or_sc ?_; try with_reducible exact True.intro)
              have hmc := mulR_cn A B
              generalize mulR A B = mm at *
              refine OwnK_gotP (fun o => o ∈ os) (show PO T 131 [ratV X, ratV mm] (ratV (addR X mm)) from po_ratAddR h.d_impl_ratAdd hX hmc) (by (refine ew3 @R @numK_any @or_sc ?_; try with_reducible exact True.intro)) ?_ ?_
              · intro o ho
                have ho : o ∈ reach s (11 + 1) (.agg [.bool X.neg, x1, x2]) ++ (reach s FD (ratV mm) ++ []) := ho
                rw [show reach s FD (ratV mm) = [] from by (refine ew ?_; try with_reducible exact True.intro), List.append_nil, List.append_nil] at ho
                obtain ⟨c, hc, ho⟩ := reach_agg.1 ho
                rcases List.mem_cons.1 hc with e | hc
                · rw [e] at ho; simp [reach] at ho
                rcases List.mem_cons.1 hc with e | hc
                · rw [e] at ho; exact E.reach 1 rfl rfl _ o ho
                · rw [List.mem_singleton.1 hc] at ho; exact E.reach 2 rfl rfl _ o ho
              intro Rr r q2 o2 hRr G
              have gl : s.length ≤ q2.length := G.len
              obtain ⟨_, rfl, hQ⟩ := G.ow.agg_inv
              obtain ⟨z1, z2, rfl⟩ := hQ.rat
              have lz := OwL.leaf hQ rfl
              simp only [List.all_cons, List.all_nil, Bool.and_true, Bool.and_eq_true] at lz
              have hZ := addR_cn X mm
              generalize addR X mm = Z at *
              obtain ⟨os9, E9⟩ := Ep.upd (a := []) (b := [.bool X.neg, x1, x2]) (c := Cc) (ta := []) (tb := [.bool X.neg, ints X.mag, ints X.den]) (tc := TC) (p := p) (ob := ⟨3, [[.bool Z.neg, z1, z2]]⟩) (ob0 := ⟨3, [[.bool X.neg, x1, x2]]⟩) (L' := (p, (⟨3, [[.bool Z.neg, z1, z2]]⟩ : Obj)) :: (N ++ M)) E (by simp) rfl rfl (fun _ _ => rfl) (Nat.le_refl _) hQ G.nd G.fresh G.old (by
                intro q hq
                rcases List.mem_cons.1 hq with rfl | hq
                · exact .inr rfl
                · exact .inl ⟨hM q hq, by simp [List.mem_append.1 hq]⟩) gl
              have K := (G.old p L.2).trans L.1
              have hK : p < q2.length := by have := L.2; omega
              (refine ew5 @lz @K @hK @numK_any @or_sc ?_; try with_reducible exact True.intro)
              refine ⟨by unfold OkA; rfl, ?_⟩
              refine ⟨(k + 1, q2.set p (some ⟨3, [[.bool Z.neg, z1, z2]]⟩), z1, z2, os9), by dsimp only; omega, ⟨by dsimp only; omega, ?_⟩, ?_⟩
              · dsimp only
                rw [es]
                exact E9
              · dsimp only
                (refine Fg_env ?_) <;> (try (refine ew ?_; try with_reducible exact True.intro)) <;> (repeat' (first | refine ⟨?_, ?_⟩ | exact EvV_int (by omega) | exact EvV_of (by simp) | exact EvV_nil _))
            · have hke : k = a.length := by omega
              rw [hke] at hX E
              generalize mmE a b i j a.length = X at *
              have L := E.at0 (p := p) (ob := ⟨3, [[.bool X.neg, x1, x2]]⟩) (by simp)
              have LF := And.intro (E.leaf 1 rfl rfl) (E.leaf 2 rfl rfl)
              have Ex : Ep s ([.bool X.neg, x1, x2] ++ (RA.flatten ++ OA.flatten)) (X.cells ++ (TR ++ TO)) os ((p, (⟨3, [[.bool X.neg, x1, x2]]⟩ : Obj)) :: (N ++ M)) := by rw [hCe, hTCe]; exact E
              obtain ⟨os', E5, hmm⟩ := Ex.swap rfl hTR
              have E5 : Ep s ((RA ++ [[.bool X.neg, x1, x2]]).flatten ++ OA.flatten) ((TR ++ X.cells) ++ TO) os' ((p, (⟨3, [[.bool X.neg, x1, x2]]⟩ : Obj)) :: (N ++ M)) := by simpa [List.flatten_append] using E5
              have hlt' : ∀ o ∈ os', o < s.length := E5.oslt
              have hLM : ∀ q ∈ N ++ M, q.1 < s.length ∧ q.1 ≠ p ∧ q.1 ∉ os' := fun q hq => ⟨E5.lt q (by simp [List.mem_append.1 hq]), hM q hq, (E5.l q (by simp [List.mem_append.1 hq])).2⟩
              have hR' := mm_rows hRA (show ([.bool X.neg, x1, x2] : List V).length = 3 from rfl)
              have hstep : ∀ (S' : Store) (q : Nat), (∀ o ∈ os', objAt S' o = objAt s o) → (∀ z ∈ M, objAt S' z.1 = objAt s z.1) → s.length ≤ q → objAt S' q = some ⟨3, RA ++ [[.bool X.neg, x1, x2]]⟩ →
                  Ep S' ((RA ++ [[.bool X.neg, x1, x2]]).flatten ++ OA.flatten) (rT (mmRow a b a.length i j ++ [X]) ++ TO) os' ([(q, ⟨3, RA ++ [[.bool X.neg, x1, x2]]⟩)] ++ M) := by
                intro S' q h1 h2 h3 h4
                rw [rT_app, hTRe]
                refine E5.to h1 fun z hz => ?_
                rcases List.mem_append.1 hz with hz | hz
                · rw [List.mem_singleton.1 hz]
                  exact .inr ⟨h4, fun hm => by have := hlt' _ hm; dsimp only at this; omega⟩
                · exact .inl ⟨by simp [hz], h2 z hz⟩
              rcases hv8 with ⟨rfl, rfl, rfl⟩ | ⟨pr, rfl, rfl⟩
              · (refine ew3 @hck @L @LF ?_; try with_reducible exact True.intro)
                refine ⟨by omega, ?_⟩
                refine ⟨(j + 1, ?st, .msl (s.length + 1) 0 1, [] ++ [[.bool X.neg, x1, x2]], os', [(s.length + 1, ⟨3, [] ++ [[.bool X.neg, x1, x2]]⟩)]), ?c1, ⟨⟨?c2, .inr ⟨_, rfl, rfl⟩, hR', ?c4⟩, ?c6⟩, ?c3⟩
                case c3 => dsimp only; (refine Fg_env ?_) <;> (try (refine ew ?_; try with_reducible exact True.intro)) <;> (repeat' (first | refine ⟨?_, ?_⟩ | exact EvV_int (by omega) | exact EvV_of (by simp) | exact EvV_nil _))
                case c1 => dsimp only; omega
                case c2 => dsimp only; omega
                case c4 => dsimp only; simp at hRl ⊢; omega
                case c6 =>
                  dsimp only
                  rw [eR]
                  refine hstep _ _ (fun o ho => ?_) (fun z hz => ?_) (by omega) ?_
                  · have := hlt' o ho
                    simp (disch := first | omega | (simp only [List.length_append, List.length_set, List.length_cons, List.length_nil]; omega)) only [EVs]
                  · have := (hLM z (by simp [hz])).1
                    simp (disch := first | omega | (simp only [List.length_append, List.length_set, List.length_cons, List.length_nil]; omega)) only [EVs]
                  · exact objAt_seteq (by simp <;> omega)
              · have Lr := E.at0 (p := pr) (ob := ⟨3, RA⟩) (by simp)
                have npr : pr ≠ p := hM (pr, ⟨3, RA⟩) (by simp)
                (refine ew4 @hck @L @LF @Lr ?_; try with_reducible exact True.intro)
                refine ⟨by omega, ?_⟩
                refine ⟨(j + 1, ?st2, .msl (s.length + 1) 0 (RA.length + 1), RA ++ [[.bool X.neg, x1, x2]], os', [(s.length + 1, ⟨3, RA ++ [[.bool X.neg, x1, x2]]⟩)]), ?c1, ⟨⟨?c2, .inr ⟨_, by dsimp only; rw [List.length_append]; rfl, rfl⟩, hR', ?c4⟩, ?c6⟩, ?c3⟩
                case c3 => dsimp only; (refine Fg_env ?_) <;> (try (refine ew ?_; try with_reducible exact True.intro)) <;> (repeat' (first | refine ⟨?_, ?_⟩ | exact EvV_int (by omega) | exact EvV_of (by simp) | exact EvV_nil _))
                case c1 => dsimp only; omega
                case c2 => dsimp only; omega
                case c4 => dsimp only; simp at hRl ⊢; omega
                case c6 =>
                  dsimp only
                  rw [eR]
                  refine hstep _ _ (fun o ho => ?_) (fun z hz => ?_) (by omega) ?_
                  · have := hlt' o ho
                    have ha : o ≠ pr := fun e => (hLM (pr, ⟨3, RA⟩) (by simp)).2.2 (e ▸ ho)
                    simp (disch := first | omega | (simp only [List.length_append, List.length_set, List.length_cons, List.length_nil]; omega)) only [EVs]
                  · have := (hLM z (by simp [hz])).1
                    have hne : z.1 ≠ pr := fun e => by
                      have k1 := (E.l z (by simp [hz])).1
                      rw [e, Lr.1] at k1
                      rcases hv6 with ⟨_, _, rfl⟩ | ⟨po, _, rfl⟩
                      · cases hz
                      · rw [List.mem_singleton.1 hz] at k1; cases k1
                    simp (disch := first | omega | (simp only [List.length_append, List.length_set, List.length_cons, List.length_nil]; omega)) only [EVs]
                  · exact objAt_seteq (by simp <;> omega)
        · have hje : j = a.length := by omega
          rcases hv8 with ⟨rfl, rfl, rfl⟩ | ⟨pr, rfl, rfl⟩
          · simp at hRl; omega
          have Lr := E.at0 (p := pr) (ob := ⟨3, RA⟩) (by simp)
          rw [hje] at E
          have hRcn := mmRow_cn a b a.length i a.length
          have hRow : (mmRow a b a.length i a.length).length = RA.length := by rw [mmRow_len]; omega
          have hbad := mmG_row (b := b) hil
          have hok2 : (mmRow a b a.length i a.length).all R.ok = true → ∀ z, z < i + 1 → (mmRow a b a.length z a.length).all R.ok = true := fun h z hz => by
            by_cases e : z = i
            · subst e; exact h
            · exact hok z (by omega)
          have eO2 : tO (mmM a b a.length (i + 1)) = TO ++ [ratsV (mmRow a b a.length i a.length)] := by rw [eO, tO_app, hTOe]
          generalize mmRow a b a.length i a.length = row at *
          have cg := c_goodRow h.d_impl_goodRow hRcn (by omega)
          have hRr : ∀ r ∈ row.map R.cells, r.length = 3 := fun r hr => by obtain ⟨x, _, rfl⟩ := List.mem_map.1 hr; rfl
          have E' : Ep s (RA.flatten ++ OA.flatten) ((row.map R.cells).flatten ++ TO) os ([(pr, ⟨3, RA⟩)] ++ M) := E
          have Rf := E'.listRes (p := pr) (n := 3) (by simp) hRA hRr (by simp [hRow]) FD (dep_rats _ _)
          cases hg : row.all R.ok
          · rw [mmV_bad (hbad hg)]
            rw [hg] at cg
            (refine ew4 @hcj @Rf @numK_any @or_sc ?_; try with_reducible exact True.intro)
            refine PFK_of cg ?_
            (refine ew ?_; try with_reducible exact True.intro)
            exact fin_nil
          · have hok3 := hok2 hg
            rw [hg] at cg
            obtain ⟨os1, E1⟩ := E'.close (p := pr) (n := 3) (by simp) hRA hRr (by simp [hRow])
            obtain ⟨os2, E2, _⟩ := Ep.swap (a := [.msl pr 0 RA.length]) (b := OA.flatten) (c := []) (ta := [ratsV row]) (tb := TO) (tc := []) (show Ep s ([V.msl pr 0 RA.length] ++ (OA.flatten ++ [])) ([ratsV row] ++ (TO ++ [])) _ _ from by rw [List.append_nil, List.append_nil]; exact E1) rfl hTO
            simp only [List.append_nil] at E2
            have hlt' : ∀ o ∈ os2, o < s.length := E2.oslt
            have hO' := mm_rows hOA (show ([.msl pr 0 RA.length] : List V).length = 1 from rfl)
            have hstep : ∀ (S' : Store) (q : Nat), (∀ o ∈ os2, objAt S' o = objAt s o) → s.length ≤ q → objAt S' q = some ⟨1, OA ++ [[.msl pr 0 RA.length]]⟩ →
                Ep S' (OA ++ [[V.msl pr 0 RA.length]]).flatten (tO (mmM a b a.length (i + 1))) os2 [(q, ⟨1, OA ++ [[.msl pr 0 RA.length]]⟩)] := by
              intro S' q h1 h3 h4
              rw [eO2, List.flatten_append, show ([[V.msl pr 0 RA.length]] : List (List V)).flatten = [V.msl pr 0 RA.length] from rfl]
              refine E2.to h1 fun z hz => ?_
              rw [List.mem_singleton.1 hz]
              exact .inr ⟨h4, fun hm => by have := hlt' _ hm; dsimp only at this; omega⟩
            (refine ew4 @hcj @Rf @numK_any @or_sc ?_; try with_reducible exact True.intro)
            refine PFK_of cg ?_
            rcases hv6 with ⟨rfl, rfl, rfl⟩ | ⟨po, rfl, rfl⟩
            · (refine ew1 @Lr ?_; try with_reducible exact True.intro)
              refine ⟨by omega, ?_⟩
              refine ⟨(i + 1, ?st3, .msl (s.length + 1) 0 1, [] ++ [[.msl pr 0 RA.length]], os2, [(s.length + 1, ⟨1, [] ++ [[.msl pr 0 RA.length]]⟩)]), ?c1, ⟨⟨?c2, .inr ⟨_, rfl, rfl⟩, hO', ?c4, hok3⟩, ?c6⟩, ?c3⟩
              case c3 => dsimp only; (refine Fg_env ?_) <;> (try (refine ew ?_; try with_reducible exact True.intro)) <;> (repeat' (first | refine ⟨?_, ?_⟩ | exact EvV_int (by omega) | exact EvV_of (by simp) | exact EvV_nil _))
              case c1 => dsimp only; omega
              case c2 => dsimp only; omega
              case c4 => dsimp only; simp at hOl ⊢; omega
              case c6 =>
                refine hstep _ _ (fun o ho => ?_) (by omega) ?_
                · have := hlt' o ho
                  simp (disch := first | omega | (simp only [List.length_append, List.length_set, List.length_cons, List.length_nil]; omega)) only [EVs]
                · exact objAt_seteq (by simp <;> omega)
            · have Lo := E.at0 (p := po) (ob := ⟨1, OA⟩) (by simp)
              have npo : po ≠ pr := fun e => by have := Lr.1; rw [← e, Lo.1] at this; cases this
              have hno : po ∉ os2 := (E2.l (po, ⟨1, OA⟩) (by simp; exact fun e => npo e)).2
              (refine ew2 @Lr @Lo ?_; try with_reducible exact True.intro)
              refine ⟨by omega, ?_⟩
              refine ⟨(i + 1, ?st4, .msl (s.length + 1) 0 (OA.length + 1), OA ++ [[.msl pr 0 RA.length]], os2, [(s.length + 1, ⟨1, OA ++ [[.msl pr 0 RA.length]]⟩)]), ?c1, ⟨⟨?c2, .inr ⟨_, by dsimp only; rw [List.length_append]; rfl, rfl⟩, hO', ?c4, hok3⟩, ?c6⟩, ?c3⟩
              case c3 => dsimp only; (refine Fg_env ?_) <;> (try (refine ew ?_; try with_reducible exact True.intro)) <;> (repeat' (first | refine ⟨?_, ?_⟩ | exact EvV_int (by omega) | exact EvV_of (by simp) | exact EvV_nil _))
              case c1 => dsimp only; omega
              case c2 => dsimp only; omega
              case c4 => dsimp only; simp at hOl ⊢; omega
              case c6 =>
                refine hstep _ _ (fun o ho => ?_) (by omega) ?_
                · have := hlt' o ho
                  have ha : o ≠ po := fun e => hno (e ▸ ho)
                  simp (disch := first | omega | (simp only [List.length_append, List.length_set, List.length_cons, List.length_nil]; omega)) only [EVs]
                · exact objAt_seteq (by simp <;> omega)
    · have hie : i = a.length := by omega
      rw [hie] at E hok
      rw [mmV_good (mmG_all hc hok)]
      have hl2 : (mmM a b a.length a.length).length = OA.length := by rw [mmM_len]; omega
      generalize mmM a b a.length a.length = mm at *
      rcases hv6 with ⟨rfl, rfl, rfl⟩ | ⟨po, rfl, rfl⟩
      · have : mm = [] := List.eq_nil_of_length_eq_zero (by simpa using hl2)
        subst this
        (refine ew1 @hcc ?_; try with_reducible exact True.intro)
        exact fin_nil
      · have hTr : ∀ r ∈ mm.map fun r => [ratsV r], r.length = 1 := fun r hr => by obtain ⟨x, _, rfl⟩ := List.mem_map.1 hr; rfl
        obtain ⟨os1, E1⟩ := Ep.close (A := OA) (T := mm.map fun r => [ratsV r]) (c := []) (tc := []) (p := po) (n := 1) (by simpa only [List.append_nil, tO] using E) (by simp) hOA hTr (by simp [hl2])
        (refine ew1 @hcc ?_; try with_reducible exact True.intro)
        obtain ⟨v, vs, o1, o2, e, rfl, k1, k2⟩ := E1.c.ow.inv
        simp only [List.cons.injEq] at e
        obtain ⟨rfl, rfl⟩ := e
        obtain ⟨_, rfl⟩ := k2.nil_inv
        exact fin_of k1 (by have := E1.c.nd; simpa using this)
end Go.Ml
end
section
set_option linter.unusedSimpArgs false
set_option linter.unusedVariables false
set_option maxRecDepth 100000
set_option maxHeartbeats 8000000
namespace Go.Ml
def zrow (x : Nat × List R) : List V := [.msl x.1 0 x.2.length]
def MatA (s : Store) (v : V) (Z : List (Nat × List R)) : Prop := ((Z = [] ∧ v = .nils) ∨ ∃ q, v = .msl q 0 Z.length ∧ objAt s q = some ⟨1, Z.map zrow⟩) ∧ ∀ x ∈ Z, objAt s x.1 = some ⟨3, x.2.map R.cells⟩
theorem MatA.fr {s s2 : Store} {v : V} {Z : List (Nat × List R)} (h : MatA s v Z) (hf : ∀ p, p < s.length → objAt s2 p = objAt s p) : MatA s2 v Z :=
  ⟨h.1.imp id fun ⟨q, e, hq⟩ => ⟨q, e, (hf q (objAt_lt hq)).trans hq⟩, fun x hx => (hf _ (objAt_lt (h.2 x hx))).trans (h.2 x hx)⟩
theorem MatA.map {s : Store} {m : Nat} : ∀ {Z : List (Nat × List R)}, (∀ x ∈ Z, objAt s x.1 = some ⟨3, x.2.map R.cells⟩) → ((Z.map zrow).mapM fun r => r.mapM (resolve s (m + 2))) = some ((Z.map (·.2)).map fun r => [ratsV r])
  | [], _ => rfl
  | x :: Z, h => by
    have hx := h x (by simp)
    have e : resolve s (m + 2) (.msl x.1 0 x.2.length) = some (ratsV x.2) := by
      have h2 := st_R x.2
      unfold resolve
      simp only [hx]
      rw [if_pos (by simp), List.drop_zero, List.take_of_length_le (by simp), mapM_stillR (n := m) h2]
      rfl
    have ih := MatA.map (m := m) (Z := Z) fun y hy => h y (by simp [hy])
    rw [List.map_cons, List.mapM_cons, ih]
    have : (zrow x).mapM (resolve s (m + 2)) = some [ratsV x.2] := by
      unfold zrow
      rw [List.mapM_cons, e]
      rfl
    rw [this]
    rfl
theorem MatA.res {s : Store} {q : Nat} {Z : List (Nat × List R)} (h : ∀ x ∈ Z, objAt s x.1 = some ⟨3, x.2.map R.cells⟩) (hq : objAt s q = some ⟨1, Z.map zrow⟩) : resolve s FD (.msl q 0 Z.length) = some (ratssV (Z.map (·.2))) := by
  show resolve s (9 + 2 + 1) _ = _
  unfold resolve
  simp only [hq]
  rw [if_pos (by simp), List.drop_zero, List.take_of_length_le (by simp), MatA.map h]
  rfl
def RowN (s : Store) (n0 : Nat) (v : V) (L : List R) : Prop := (L = [] ∧ v = .nils) ∨ ∃ p, v = .msl p 0 L.length ∧ n0 ≤ p ∧ objAt s p = some ⟨3, L.map R.cells⟩
theorem RowN.fr {s s2 : Store} {v : V} {n0 : Nat} {L : List R} (h : RowN s n0 v L) (hf : ∀ p, p < s.length → objAt s2 p = objAt s p) : RowN s2 n0 v L :=
  h.imp id fun ⟨q, e, hn, hq⟩ => ⟨q, e, hn, (hf q (objAt_lt hq)).trans hq⟩
theorem c_sMultiplyMatrices {T : Nat → Option Fn} (h : D_spec_MultiplyMatrices T) {a b : List (List R)} (ha : wfL (wfL R.wf) a) (hb : wfL (wfL R.wf) b) : PF T 301 [ratssV a, ratssV b] (ratssV (mmV a b)) := by
  have la := ha.1
  have lb := hb.1
  have c1 := c_sIsMatrix h.d_spec_IsMatrix (m := a) (cols := (a.length : Nat)) ha (by omega)
  have c2 := c_sIsMatrix h.d_spec_IsMatrix (m := b) (cols := (a.length : Nat)) hb (by omega)
  cases hc : mmC a b
  · rw [mmV_bad (mmG_c hc)]
    unfold mmC at hc
    generalize matOk a (a.length : Nat) = x1 at c1 hc
    generalize matOk b (a.length : Nat) = x2 at c2 hc
    have hx1 : x1 = false ∨ x1 = true := by cases x1 <;> simp
    have hx2 : x2 = false ∨ x2 = true := by cases x2 <;> simp
    rcases hx1 with hx1 | hx1
    · refine pf_endL (fun _ _ => false) h.hT rfl rfl ?_
      dsimp only [F_spec_MultiplyMatrices, oN, oS, oG, oK, oA, oH, oV, cI]
      (refine ev ?_; try with_reducible exact True.intro)
      refine PFK_of c1 ?_
      (refine ev1 @hx1 ?_; try with_reducible exact True.intro)
      exact of_eq_true (LaxV_nil 1)
    · rcases hx2 with hx2 | hx2
      · refine pf_endL (fun _ _ => false) h.hT rfl rfl ?_
        dsimp only [F_spec_MultiplyMatrices, oN, oS, oG, oK, oA, oH, oV, cI]
        (refine ev ?_; try with_reducible exact True.intro)
        refine PFK_of c1 ?_
        (refine ev1 @hx1 ?_; try with_reducible exact True.intro)
        refine PFK_of c2 ?_
        (refine ev1 @hx2 ?_; try with_reducible exact True.intro)
        exact of_eq_true (LaxV_nil 1)
      · have hl : ¬ ((b.length : Nat) : Int) = (a.length : Nat) := fun e => by
          rw [hx1, hx2, decide_eq_true (by omega)] at hc
          cases hc
        refine pf_endL (fun _ _ => false) h.hT rfl rfl ?_
        dsimp only [F_spec_MultiplyMatrices, oN, oS, oG, oK, oA, oH, oV, cI]
        (refine ev ?_; try with_reducible exact True.intro)
        refine PFK_of c1 ?_
        (refine ev1 @hx1 ?_; try with_reducible exact True.intro)
        refine PFK_of c2 ?_
        (refine ev2 @hx2 @hl ?_; try with_reducible exact True.intro)
        exact of_eq_true (LaxV_nil 1)
  obtain ⟨l10, hbl, m1, m2⟩ := mmC_len hc
  rw [m1] at c1
  rw [m2] at c2
  have cA := mEl_cn m1
  have cB := mEl_cn m2
  have rA := (matOk_row m1).1
  have rB := (matOk_row m2).1
  clear la lb
  have c0 := c_sRatFromInt h.d_spec_RatFromInt (n := 0) (by omega)
  refine pf_endL (fun x d => x == 403) h.hT rfl rfl ?_
  dsimp only [F_spec_MultiplyMatrices, oN, oS, oG, oK, oA, oH, oV, cI]
  (refine ew ?_; try with_reducible exact True.intro)
  have hbl' : (((b.length : Nat) : Int) = (a.length : Nat)) = True := eq_true (by omega)
  refine PFK_of c1 ?_
  (refine ew ?_; try with_reducible exact True.intro)
  refine PFK_of c2 ?_
  (refine ew1 @hbl' ?_; try with_reducible exact True.intro)
  refine loop_at (fun x d => x == 403) (α := Nat × Store × V × List (Nat × List R)) (fun q => ⟨argE [ratssV a, ratssV b, .any, .any, .any, q.2.2.1, .any, .any, .any, .any, .any, .any, .any, .any, .any, .any, .any, .any, .any, .any, .any, .any, .any, .any, .any, .any, .any, .any, .any, .any, .any, .any, iv (a.length : Nat), iv (q.1 : Nat)], q.2.1, 0, 0, [], []⟩) (fun q => q.1 ≤ a.length ∧ MatA q.2.1 q.2.2.1 q.2.2.2 ∧ q.2.2.2.map (·.2) = mmM a b a.length q.1) (fun q => a.length - q.1) rfl (0, [none], .nils, []) ?_ ?_ ?_
  · exact ⟨by omega, ⟨.inl ⟨rfl, rfl⟩, by simp⟩, rfl⟩
  · (refine Fg_env ?_) <;> (try (refine ew ?_; try with_reducible exact True.intro)) <;> (repeat' (first | refine ⟨?_, ?_⟩ | exact EvV_int (by omega) | exact EvV_of (by simp) | exact EvV_nil _))
  · rintro ⟨i, s, v5, Z⟩ ⟨hi, hM, hZ⟩
    dsimp only at hi hM hZ
    have hZl : Z.length = i := by rw [← List.length_map (f := fun x : Nat × List R => x.2), hZ, mmM_len]
    by_cases hcc : (i : Int) < (a.length : Nat)
    · have hil : i < a.length := by omega
      have hai : (a.map fun r => [ratsV r]).getD i [] = [ratsV (a.getD i default)] := mg (f := fun r : List R => [ratsV r]) hil
      have hal := (rA i hil).1
      have eO := mmM_s a b a.length i
      (refine ew1 @hcc ?_; try with_reducible exact True.intro)
      refine loop_at (fun x d => x == 403) (α := Nat × Store × V × List R) (fun q => ⟨argE [ratssV a, ratssV b, .any, .any, .any, v5, iv (i : Nat), q.2.2.1, .any, .any, .any, .any, .any, .any, .any, .any, .any, .any, .any, .any, .any, .any, .any, .any, .any, .any, .any, .any, .any, .any, .any, .any, iv (a.length : Nat), iv (i : Nat), .any, .any, .any, .any, iv (a.length : Nat), iv (q.1 : Nat)], q.2.1, 0, 0, [], []⟩) (fun q => q.1 ≤ a.length ∧ (∀ p, p < s.length → objAt q.2.1 p = objAt s p) ∧ s.length ≤ q.2.1.length ∧ RowN q.2.1 s.length q.2.2.1 q.2.2.2 ∧ q.2.2.2 = mmRow a b a.length i q.1) (fun q => a.length - q.1) rfl (0, s ++ [none], .nils, []) ?_ ?_ ?_
      · exact ⟨by omega, fun p hp => objAt_snoc_lt hp, by simp, .inl ⟨rfl, rfl⟩, rfl⟩
      · (refine Fg_env ?_) <;> (try (refine ew ?_; try with_reducible exact True.intro)) <;> (repeat' (first | refine ⟨?_, ?_⟩ | exact EvV_int (by omega) | exact EvV_of (by simp) | exact EvV_nil _))
      · rintro ⟨j, t, v7, L⟩ ⟨hj, hf, hst, hR, hL⟩
        dsimp only at hj hf hst hR hL
        have hLl : L.length = j := by rw [hL, mmRow_len]
        by_cases hcj : (j : Int) < (a.length : Nat)
        · have eR := mmRow_s a b a.length i j
          rw [← hL] at eR
          (refine ew1 @hcj ?_; try with_reducible exact True.intro)
          refine PFK_of c0 ?_
          (refine ew ?_; try with_reducible exact True.intro)
          have hR0 : RowN (t ++ [some (⟨3, [(intR 0).cells]⟩ : Obj)]) s.length v7 L := hR.fr fun p hp => objAt_snoc_lt hp
          have hm0 : objAt (t ++ [some (⟨3, [(intR 0).cells]⟩ : Obj)]) t.length = some ⟨3, [(intR 0).cells]⟩ := objAt_snoc _ _
          have hf0 : ∀ p, p < t.length → objAt (t ++ [some (⟨3, [(intR 0).cells]⟩ : Obj)]) p = objAt t p := fun p hp => objAt_snoc_lt hp
          generalize hS0 : t ++ [some (⟨3, [(intR 0).cells]⟩ : Obj)] = S0 at *
          generalize hm : t.length = m at *
          clear hS0 hR0
          refine loop_at (fun x d => x == 403) (α := Nat × Store) (fun q => ⟨argE [ratssV a, ratssV b, .any, .any, .any, v5, iv (i : Nat), v7, iv (j : Nat), .ptr m 0 0, .any, .any, .any, .any, .any, .any, .any, .any, .any, .any, .any, .any, .any, .any, .any, .any, .any, .any, .any, .any, .any, .any, iv (a.length : Nat), iv (i : Nat), .any, .any, .any, .any, iv (a.length : Nat), iv (j : Nat), .any, .any, .any, .any, iv (a.length : Nat), iv (q.1 : Nat)], q.2, 0, 0, [], []⟩) (fun q => q.1 ≤ a.length ∧ objAt q.2 m = some ⟨3, [(mmE a b i j q.1).cells]⟩ ∧ ∀ p, p < m → objAt q.2 p = objAt t p) (fun q => a.length - q.1) rfl (0, S0) ?_ ?_ ?_
          · exact ⟨by omega, hm0, hf0⟩
          · (refine Fg_env ?_) <;> (try (refine ew ?_; try with_reducible exact True.intro)) <;> (repeat' (first | refine ⟨?_, ?_⟩ | exact EvV_int (by omega) | exact EvV_of (by simp) | exact EvV_nil _))
          · clear hm0 hf0
            rintro ⟨k, u⟩ ⟨hk, hu, hfu⟩
            dsimp only at hk hu hfu
            have hX := mmE_cn a b i j k
            have hul := objAt_lt hu
            by_cases hck : (k : Int) < (a.length : Nat)
            · have hkl : k < a.length := by omega
              have es : mmE a b i j (k + 1) = addR (mmE a b i j k) (mulR (mEl a i k) (mEl b k j)) := rfl
              have hbk : (b.map fun r => [ratsV r]).getD k [] = [ratsV (b.getD k default)] := mg (f := fun r : List R => [ratsV r]) (by omega)
              have hbl2 := (rB k (by omega)).1
              have hak : ((a.getD i default).map R.cells).getD k [] = (mEl a i k).cells := mg (by omega)
              have hbj : ((b.getD k default).map R.cells).getD j [] = (mEl b k j).cells := mg (by omega)
              have n1 := cA i k
              have n2 := cB k j
              have n3 := mulR_cn (mEl a i k) (mEl b k j)
              have cm := c_sRatMul h.d_spec_RatMul (cn_wf n1) (cn_wf n2)
              have ca := c_sRatAdd h.d_spec_RatAdd (cn_wf hX) (cn_wf n3)
              generalize mulR (mEl a i k) (mEl b k j) = mm at *
              generalize mEl a i k = A at *
              generalize mEl b k j = B at *
              generalize a.getD i default = ra at *
              generalize b.getD k default = rb at *
              generalize mmE a b i j k = X at *
              generalize addR X mm = Y at *
              have hkra : (k : Int) < (ra.length : Nat) := by omega
              have hjrb : (j : Int) < (rb.length : Nat) := by omega
              (refine ew4 @hck @hu (And.intro hai hbk) (And.intro hak hbj) ?_; try with_reducible exact True.intro)
              refine PFK_of cm ?_
              (refine ew1 @hu ?_; try with_reducible exact True.intro)
              refine PFK_of ca ?_
              (refine ew1 @hu ?_; try with_reducible exact True.intro)
              refine ⟨by unfold OkA; rfl, ?_⟩
              refine ⟨(k + 1, ?st), ?c1, ⟨?c2, ?c4, ?c5⟩, ?c3⟩
              case c3 => dsimp only; (refine Fg_env ?_) <;> (try (refine ew ?_; try with_reducible exact True.intro)) <;> (repeat' (first | refine ⟨?_, ?_⟩ | exact EvV_int (by omega) | exact EvV_of (by simp) | exact EvV_nil _))
              case c1 => dsimp only; omega
              case c2 => dsimp only; omega
              case c4 =>
                dsimp only
                rw [es]
                simp (disch := first | omega | (simp only [List.length_append, List.length_set, List.length_cons, List.length_nil]; omega)) only [EVs]
                try rfl
              case c5 =>
                dsimp only
                intro p hp
                have := hfu p hp
                rw [← this]
                simp (disch := first | omega | (simp only [List.length_append, List.length_set, List.length_cons, List.length_nil]; omega)) only [EVs]
            · have hke : k = a.length := by omega
              rw [hke] at hX hu
              generalize mmE a b i j a.length = X at *
              have hu' : objAt u m = some ⟨3, [[.bool X.neg, ints X.mag, ints X.den]]⟩ := hu
              rcases hR with ⟨rfl, rfl⟩ | ⟨pr, rfl, hnp, hp⟩
              · (refine ew2 @hck @hu' ?_; try with_reducible exact True.intro)
                refine ⟨by omega, ?_⟩
                refine ⟨(j + 1, ?st2, .msl (u.length + 1) 0 1, [] ++ [X]), ?c1, ⟨?c2, ?c4, ?c5, .inr ⟨_, rfl, ?c6, ?c7⟩, eR.symm⟩, ?c3⟩
                case c3 => dsimp only; (refine Fg_env ?_) <;> (try (refine ew ?_; try with_reducible exact True.intro)) <;> (repeat' (first | refine ⟨?_, ?_⟩ | exact EvV_int (by omega) | exact EvV_of (by simp) | exact EvV_nil _))
                case c1 => dsimp only; omega
                case c2 => dsimp only; omega
                case c4 =>
                  dsimp only
                  intro p hp
                  rw [← hf p hp, ← hfu p (by omega)]
                  simp (disch := first | omega | (simp only [List.length_append, List.length_set, List.length_cons, List.length_nil]; omega)) only [EVs]
                case c5 => simp; omega
                case c6 => omega
                case c7 => exact objAt_seteq (by simp <;> omega)
              · have hpl := objAt_lt hp
                have hpu := (hfu pr (by omega)).trans hp
                have hpm : pr ≠ m := by omega
                (refine ew3 @hck @hu' @hpu ?_; try with_reducible exact True.intro)
                refine ⟨by omega, ?_⟩
                refine ⟨(j + 1, ?st3, .msl (u.length + 1) 0 (L.length + 1), L ++ [X]), ?c1, ⟨?c2, ?c4, ?c5, .inr ⟨_, by rw [List.length_append]; rfl, ?c6, ?c7⟩, eR.symm⟩, ?c3⟩
                case c3 => dsimp only; (refine Fg_env ?_) <;> (try (refine ew ?_; try with_reducible exact True.intro)) <;> (repeat' (first | refine ⟨?_, ?_⟩ | exact EvV_int (by omega) | exact EvV_of (by simp) | exact EvV_nil _))
                case c1 => dsimp only; omega
                case c2 => dsimp only; omega
                case c4 =>
                  dsimp only
                  intro p hp
                  rw [← hf p hp, ← hfu p (by omega)]
                  simp (disch := first | omega | (simp only [List.length_append, List.length_set, List.length_cons, List.length_nil]; omega)) only [EVs]
                case c5 => simp; omega
                case c6 => omega
                case c7 =>
                  dsimp only
                  rw [List.map_append]
                  exact objAt_seteq (by simp <;> omega)
        · have hje : j = a.length := by omega
          rw [hje] at hL
          rcases hR with ⟨rfl, rfl⟩ | ⟨pr, rfl, hnp, hp⟩
          · simp at hLl; omega
          have hpl := objAt_lt hp
          rw [← hL] at eO
          have hM' := hM.fr (s2 := t) fun p hp => hf p hp
          rcases hM with ⟨⟨rfl, rfl⟩ | ⟨q, rfl, hq⟩, hMr⟩
          · (refine ew2 @hcj @hp ?_; try with_reducible exact True.intro)
            refine ⟨by omega, ?_⟩
            refine ⟨(i + 1, ?st4, .msl (t.length + 1) 0 1, [] ++ [(pr, L)]), ?c1, ⟨?c2, ⟨.inr ⟨_, rfl, ?c4⟩, ?c5⟩, ?c6⟩, ?c3⟩
            case c3 => dsimp only; (refine Fg_env ?_) <;> (try (refine ew ?_; try with_reducible exact True.intro)) <;> (repeat' (first | refine ⟨?_, ?_⟩ | exact EvV_int (by omega) | exact EvV_of (by simp) | exact EvV_nil _))
            case c1 => dsimp only; omega
            case c2 => dsimp only; omega
            case c4 => exact objAt_seteq (by simp <;> omega)
            case c5 =>
              dsimp only
              intro x hx
              rw [List.mem_singleton.1 hx]
              dsimp only
              rw [← hp]
              simp (disch := first | omega | (simp only [List.length_append, List.length_set, List.length_cons, List.length_nil]; omega)) only [EVs]
            case c6 => rw [List.map_append, hZ]; exact eO.symm
          · have hqt := (hf q (objAt_lt hq)).trans hq
            have hql := objAt_lt hq
            have hqp : q ≠ pr := by omega
            (refine ew3 @hcj @hp @hqt ?_; try with_reducible exact True.intro)
            refine ⟨by omega, ?_⟩
            refine ⟨(i + 1, ?st5, .msl (t.length + 1) 0 (Z.length + 1), Z ++ [(pr, L)]), ?c1, ⟨?c2, ⟨.inr ⟨_, by rw [List.length_append]; rfl, ?c4⟩, ?c5⟩, ?c6⟩, ?c3⟩
            case c3 => dsimp only; (refine Fg_env ?_) <;> (try (refine ew ?_; try with_reducible exact True.intro)) <;> (repeat' (first | refine ⟨?_, ?_⟩ | exact EvV_int (by omega) | exact EvV_of (by simp) | exact EvV_nil _))
            case c1 => dsimp only; omega
            case c2 => dsimp only; omega
            case c4 =>
              dsimp only
              rw [List.map_append]
              exact objAt_seteq (by simp <;> omega)
            case c5 =>
              dsimp only
              intro x hx
              rcases List.mem_append.1 hx with hx | hx
              · have h1 := hM'.2 x hx
                have h2 := objAt_lt h1
                have hne : x.1 ≠ q := fun e => by rw [e, hqt] at h1; cases h1
                rw [← h1]
                simp (disch := first | omega | (simp only [List.length_append, List.length_set, List.length_cons, List.length_nil]; omega)) only [EVs]
              · rw [List.mem_singleton.1 hx]
                dsimp only
                rw [← hp]
                simp (disch := first | omega | (simp only [List.length_append, List.length_set, List.length_cons, List.length_nil]; omega)) only [EVs]
            case c6 => rw [List.map_append, hZ]; exact eO.symm
    · have hie : i = a.length := by omega
      rw [hie] at hZ
      have hcn : ∀ r ∈ mmM a b a.length a.length, (r.length : Int) = (a.length : Nat) := fun r hr => by
        obtain ⟨k, _, rfl⟩ := List.mem_map.1 hr
        rw [mmRow_len]
      have hlm := mmM_len a b a.length a.length
      have hmo := matOk_of hcn (by omega)
      have hwf : wfL (wfL R.wf) (mmM a b a.length a.length) := (mat_ok (n := 10) (fun r hr => by
        obtain ⟨k, _, rfl⟩ := List.mem_map.1 hr
        exact ⟨mmRow_cn _ _ _ _ _, by rw [mmRow_len]; exact l10⟩) (by omega) (by omega)).2
      have c3 := c_sIsMatrix h.d_spec_IsMatrix (m := mmM a b a.length a.length) (cols := (a.length : Nat)) hwf (by omega)
      have hV : mmV a b = if matOk (mmM a b a.length a.length) (a.length : Nat) = true then mmM a b a.length a.length else [] := by
        unfold mmV mmG
        rw [hc, Bool.true_and, hmo]
      rw [hV]
      generalize mmM a b a.length a.length = mm at *
      generalize matOk mm (a.length : Nat) = x3 at *
      have hx3 : x3 = false ∨ x3 = true := by cases x3 <;> simp
      rcases hM with ⟨⟨rfl, rfl⟩ | ⟨q, rfl, hq⟩, hMr⟩
      · have : mm = [] := hZ.symm
        subst this
        (refine ew1 @hcc ?_; try with_reducible exact True.intro)
        refine PFK_of (.laxF (by simp [LaxL, LaxV]) c3 (laxV_refl _)) ?_
        rcases hx3 with hx3 | hx3
        · (refine ew1 @hx3 ?_; try with_reducible exact True.intro)
          exact of_eq_true (LaxV_nil 1)
        · (refine ew1 @hx3 ?_; try with_reducible exact True.intro)
          exact of_eq_true (LaxV_nil 1)
      · have Rf := MatA.res hMr hq
        rw [hZ] at Rf
        (refine ew2 @hcc @Rf ?_; try with_reducible exact True.intro)
        refine PFK_of c3 ?_
        rcases hx3 with hx3 | hx3
        · (refine ew1 @hx3 ?_; try with_reducible exact True.intro)
          exact of_eq_true (LaxV_nil 1)
        · (refine ew2 @hx3 @Rf ?_; try with_reducible exact True.intro)
          exact laxV_refl _
end Go.Ml
end
section
set_option linter.unusedSimpArgs false
set_option linter.unusedVariables false
set_option maxRecDepth 100000
set_option maxHeartbeats 4000000
namespace Go.Ml
def F_laws_heldRatS : Fn := ⟨2, 44, [.tmp 4], (.seq (.reg false 0 [oN 4 (.mov (cI 0))]) (.seq (.seq (.reg false 0 [oN 5 (.mov (cI 0))]) (.block 0 (.loop (.seq (.seq (.reg false 0 [oN 6 (oV 5), oN 7 (oV 0), oN 8 (.len (.t 7)), oN 9 (.bin .lss (.t 6) (.t 8))]) (.cond (.t 9) .skip (.exit 0))) (.seq (.block 1 (.seq (.seq (.reg false 0 [oN 12 (oV 0), oN 13 (oV 5), oN 14 (.idx 3 (.t 12) (.t 13)), oN 15 (.fld 0 (.t 14)), oN 16 (.fld 0 (.t 15)), oN 17 (.load 1 false (.t 16)), oN 18 (oV 1), oN 19 (.bin .rem (.t 18) (cI 3)), oN 20 (.bin .eql (.t 19) (cI 0)), oN 21 (.beq true (.t 17) (.t 20))]) (.cond (.t 21) (.seq (.reg false 0 [oN 4 (.mov (cI (-1)))]) .ret) .skip)) (.seq (.reg false 0 [oN 22 (oV 1), oN 23 (.bin .add (.t 22) (cI 1)), oN 1 (oV 23)]) (.seq (.reg false 0 [oN 24 (oV 0), oN 25 (oV 5), oN 26 (.idx 3 (.t 24) (.t 25)), oN 27 (.fld 0 (.t 26)), oN 28 (.fld 1 (.t 27)), oN 29 (.load 1 false (.t 28)), oN 30 (oV 1), oN 31 (.call 59 [(.t 29), (.t 30)]), oN 1 (oV 31)]) (.seq (.seq (.reg false 0 [oN 32 (oV 1), oN 33 (.bin .lss (.t 32) (cI 0))]) (.cond (.t 33) (.seq (.reg false 0 [oN 4 (.mov (cI (-1)))]) .ret) .skip)) (.seq (.reg false 0 [oN 34 (oV 0), oN 35 (oV 5), oN 36 (.idx 3 (.t 34) (.t 35)), oN 37 (.fld 2 (.t 36)), oN 38 (.load 1 false (.t 37)), oN 39 (oV 1), oN 40 (.call 59 [(.t 38), (.t 39)]), oN 1 (oV 40)]) (.seq (.reg false 0 [oN 41 (oV 1), oN 42 (.bin .lss (.t 41) (cI 0))]) (.cond (.t 42) (.seq (.reg false 0 [oN 4 (.mov (cI (-1)))]) .ret) .skip)))))))) (.reg false 0 [oN 10 (oV 5), oN 11 (.bin .add (.t 10) (cI 1)), oN 5 (oV 11)])))))) (.seq (.reg false 0 [oN 43 (oV 1), oN 4 (oV 43)]) .ret)))⟩
structure D_laws_heldRatS (T : Nat → Option Fn) : Prop where
  hT : T 313 = some F_laws_heldRatS
  d_laws_heldIntS : D_laws_heldIntS T
def F_laws_heldPointS : Fn := ⟨2, 81, [.tmp 4], (.seq (.reg false 0 [oN 4 (.mov (cI 0))]) (.seq (.seq (.reg false 0 [oN 5 (.mov (cI 0))]) (.block 0 (.loop (.seq (.seq (.reg false 0 [oN 6 (oV 5), oN 7 (oV 0), oN 8 (.len (.t 7)), oN 9 (.bin .lss (.t 6) (.t 8))]) (.cond (.t 9) .skip (.exit 0))) (.seq (.block 1 (.seq (.seq (.reg false 0 [oN 12 (oV 0), oN 13 (oV 5), oN 14 (.idx 6 (.t 12) (.t 13)), oN 15 (.fld 0 (.t 14)), oN 16 (.fld 0 (.t 15)), oN 17 (.fld 0 (.t 16)), oN 18 (.load 1 false (.t 17)), oN 19 (oV 1), oN 20 (.bin .rem (.t 19) (cI 3)), oN 21 (.bin .eql (.t 20) (cI 0)), oN 22 (.beq true (.t 18) (.t 21))]) (.cond (.t 22) (.seq (.reg false 0 [oN 4 (.mov (cI (-1)))]) .ret) .skip)) (.seq (.reg false 0 [oN 23 (oV 1), oN 24 (.bin .add (.t 23) (cI 1)), oN 1 (oV 24)]) (.seq (.reg false 0 [oN 25 (oV 0), oN 26 (oV 5), oN 27 (.idx 6 (.t 25) (.t 26)), oN 28 (.fld 0 (.t 27)), oN 29 (.fld 0 (.t 28)), oN 30 (.fld 1 (.t 29)), oN 31 (.load 1 false (.t 30)), oN 32 (oV 1), oN 33 (.call 59 [(.t 31), (.t 32)]), oN 1 (oV 33)]) (.seq (.seq (.reg false 0 [oN 34 (oV 1), oN 35 (.bin .lss (.t 34) (cI 0))]) (.cond (.t 35) (.seq (.reg false 0 [oN 4 (.mov (cI (-1)))]) .ret) .skip)) (.seq (.reg false 0 [oN 36 (oV 0), oN 37 (oV 5), oN 38 (.idx 6 (.t 36) (.t 37)), oN 39 (.fld 0 (.t 38)), oN 40 (.fld 2 (.t 39)), oN 41 (.load 1 false (.t 40)), oN 42 (oV 1), oN 43 (.call 59 [(.t 41), (.t 42)]), oN 1 (oV 43)]) (.seq (.seq (.reg false 0 [oN 44 (oV 1), oN 45 (.bin .lss (.t 44) (cI 0))]) (.cond (.t 45) (.seq (.reg false 0 [oN 4 (.mov (cI (-1)))]) .ret) .skip)) (.seq (.seq (.reg false 0 [oN 46 (oV 0), oN 47 (oV 5), oN 48 (.idx 6 (.t 46) (.t 47)), oN 49 (.fld 3 (.t 48)), oN 50 (.fld 0 (.t 49)), oN 51 (.fld 0 (.t 50)), oN 52 (.load 1 false (.t 51)), oN 53 (oV 1), oN 54 (.bin .rem (.t 53) (cI 3)), oN 55 (.bin .eql (.t 54) (cI 0)), oN 56 (.beq true (.t 52) (.t 55))]) (.cond (.t 56) (.seq (.reg false 0 [oN 4 (.mov (cI (-1)))]) .ret) .skip)) (.seq (.reg false 0 [oN 57 (oV 1), oN 58 (.bin .add (.t 57) (cI 1)), oN 1 (oV 58)]) (.seq (.reg false 0 [oN 59 (oV 0), oN 60 (oV 5), oN 61 (.idx 6 (.t 59) (.t 60)), oN 62 (.fld 3 (.t 61)), oN 63 (.fld 0 (.t 62)), oN 64 (.fld 1 (.t 63)), oN 65 (.load 1 false (.t 64)), oN 66 (oV 1), oN 67 (.call 59 [(.t 65), (.t 66)]), oN 1 (oV 67)]) (.seq (.seq (.reg false 0 [oN 68 (oV 1), oN 69 (.bin .lss (.t 68) (cI 0))]) (.cond (.t 69) (.seq (.reg false 0 [oN 4 (.mov (cI (-1)))]) .ret) .skip)) (.seq (.reg false 0 [oN 70 (oV 0), oN 71 (oV 5), oN 72 (.idx 6 (.t 70) (.t 71)), oN 73 (.fld 3 (.t 72)), oN 74 (.fld 2 (.t 73)), oN 75 (.load 1 false (.t 74)), oN 76 (oV 1), oN 77 (.call 59 [(.t 75), (.t 76)]), oN 1 (oV 77)]) (.seq (.reg false 0 [oN 78 (oV 1), oN 79 (.bin .lss (.t 78) (cI 0))]) (.cond (.t 79) (.seq (.reg false 0 [oN 4 (.mov (cI (-1)))]) .ret) .skip)))))))))))))) (.reg false 0 [oN 10 (oV 5), oN 11 (.bin .add (.t 10) (cI 1)), oN 5 (oV 11)])))))) (.seq (.reg false 0 [oN 80 (oV 1), oN 4 (oV 80)]) .ret)))⟩
structure D_laws_heldPointS (T : Nat → Option Fn) : Prop where
  hT : T 386 = some F_laws_heldPointS
  d_laws_heldIntS : D_laws_heldIntS T
def F_laws_heldLinkS : Fn := ⟨2, 133, [.tmp 4], (.seq (.reg false 0 [oN 4 (.mov (cI 0))]) (.seq (.seq (.reg false 0 [oN 5 (.mov (cI 0))]) (.block 0 (.loop (.seq (.seq (.reg false 0 [oN 6 (oV 5), oN 7 (oV 0), oN 8 (.len (.t 7)), oN 9 (.bin .lss (.t 6) (.t 8))]) (.cond (.t 9) .skip (.exit 0))) (.seq (.block 1 (.seq (.seq (.reg false 0 [oN 12 (oV 0), oN 13 (oV 5), oN 14 (.idx 11 (.t 12) (.t 13)), oN 15 (.fld 0 (.t 14)), oN 16 (.load 1 false (.t 15)), oN 17 (oV 1), oN 18 (.bin .neq (.t 16) (.t 17))]) (.cond (.t 18) (.seq (.reg false 0 [oN 4 (.mov (cI (-1)))]) .ret) .skip)) (.seq (.reg false 0 [oN 19 (oV 1), oN 20 (.bin .add (.t 19) (cI 1)), oN 1 (oV 20)]) (.seq (.seq (.reg false 0 [oN 21 (oV 0), oN 22 (oV 5), oN 23 (.idx 11 (.t 21) (.t 22)), oN 24 (.fld 1 (.t 23)), oN 25 (.load 1 false (.t 24)), oN 26 (oV 1), oN 27 (.bin .neq (.t 25) (.t 26))]) (.cond (.t 27) (.seq (.reg false 0 [oN 4 (.mov (cI (-1)))]) .ret) .skip)) (.seq (.reg false 0 [oN 28 (oV 1), oN 29 (.bin .add (.t 28) (cI 1)), oN 1 (oV 29)]) (.seq (.seq (.reg false 0 [oN 30 (oV 0), oN 31 (oV 5), oN 32 (.idx 11 (.t 30) (.t 31)), oN 33 (.fld 2 (.t 32)), oN 34 (.fld 0 (.t 33)), oN 35 (.fld 0 (.t 34)), oN 36 (.load 1 false (.t 35)), oN 37 (oV 1), oN 38 (.bin .rem (.t 37) (cI 3)), oN 39 (.bin .eql (.t 38) (cI 0)), oN 40 (.beq true (.t 36) (.t 39))]) (.cond (.t 40) (.seq (.reg false 0 [oN 4 (.mov (cI (-1)))]) .ret) .skip)) (.seq (.reg false 0 [oN 41 (oV 1), oN 42 (.bin .add (.t 41) (cI 1)), oN 1 (oV 42)]) (.seq (.reg false 0 [oN 43 (oV 0), oN 44 (oV 5), oN 45 (.idx 11 (.t 43) (.t 44)), oN 46 (.fld 2 (.t 45)), oN 47 (.fld 0 (.t 46)), oN 48 (.fld 1 (.t 47)), oN 49 (.load 1 false (.t 48)), oN 50 (oV 1), oN 51 (.call 59 [(.t 49), (.t 50)]), oN 1 (oV 51)]) (.seq (.seq (.reg false 0 [oN 52 (oV 1), oN 53 (.bin .lss (.t 52) (cI 0))]) (.cond (.t 53) (.seq (.reg false 0 [oN 4 (.mov (cI (-1)))]) .ret) .skip)) (.seq (.reg false 0 [oN 54 (oV 0), oN 55 (oV 5), oN 56 (.idx 11 (.t 54) (.t 55)), oN 57 (.fld 2 (.t 56)), oN 58 (.fld 2 (.t 57)), oN 59 (.load 1 false (.t 58)), oN 60 (oV 1), oN 61 (.call 59 [(.t 59), (.t 60)]), oN 1 (oV 61)]) (.seq (.seq (.reg false 0 [oN 62 (oV 1), oN 63 (.bin .lss (.t 62) (cI 0))]) (.cond (.t 63) (.seq (.reg false 0 [oN 4 (.mov (cI (-1)))]) .ret) .skip)) (.seq (.seq (.reg false 0 [oN 64 (oV 0), oN 65 (oV 5), oN 66 (.idx 11 (.t 64) (.t 65)), oN 67 (.fld 5 (.t 66)), oN 68 (.fld 0 (.t 67)), oN 69 (.fld 0 (.t 68)), oN 70 (.load 1 false (.t 69)), oN 71 (oV 1), oN 72 (.bin .rem (.t 71) (cI 3)), oN 73 (.bin .eql (.t 72) (cI 0)), oN 74 (.beq true (.t 70) (.t 73))]) (.cond (.t 74) (.seq (.reg false 0 [oN 4 (.mov (cI (-1)))]) .ret) .skip)) (.seq (.reg false 0 [oN 75 (oV 1), oN 76 (.bin .add (.t 75) (cI 1)), oN 1 (oV 76)]) (.seq (.reg false 0 [oN 77 (oV 0), oN 78 (oV 5), oN 79 (.idx 11 (.t 77) (.t 78)), oN 80 (.fld 5 (.t 79)), oN 81 (.fld 0 (.t 80)), oN 82 (.fld 1 (.t 81)), oN 83 (.load 1 false (.t 82)), oN 84 (oV 1), oN 85 (.call 59 [(.t 83), (.t 84)]), oN 1 (oV 85)]) (.seq (.seq (.reg false 0 [oN 86 (oV 1), oN 87 (.bin .lss (.t 86) (cI 0))]) (.cond (.t 87) (.seq (.reg false 0 [oN 4 (.mov (cI (-1)))]) .ret) .skip)) (.seq (.reg false 0 [oN 88 (oV 0), oN 89 (oV 5), oN 90 (.idx 11 (.t 88) (.t 89)), oN 91 (.fld 5 (.t 90)), oN 92 (.fld 2 (.t 91)), oN 93 (.load 1 false (.t 92)), oN 94 (oV 1), oN 95 (.call 59 [(.t 93), (.t 94)]), oN 1 (oV 95)]) (.seq (.seq (.reg false 0 [oN 96 (oV 1), oN 97 (.bin .lss (.t 96) (cI 0))]) (.cond (.t 97) (.seq (.reg false 0 [oN 4 (.mov (cI (-1)))]) .ret) .skip)) (.seq (.seq (.reg false 0 [oN 98 (oV 0), oN 99 (oV 5), oN 100 (.idx 11 (.t 98) (.t 99)), oN 101 (.fld 8 (.t 100)), oN 102 (.fld 0 (.t 101)), oN 103 (.fld 0 (.t 102)), oN 104 (.load 1 false (.t 103)), oN 105 (oV 1), oN 106 (.bin .rem (.t 105) (cI 3)), oN 107 (.bin .eql (.t 106) (cI 0)), oN 108 (.beq true (.t 104) (.t 107))]) (.cond (.t 108) (.seq (.reg false 0 [oN 4 (.mov (cI (-1)))]) .ret) .skip)) (.seq (.reg false 0 [oN 109 (oV 1), oN 110 (.bin .add (.t 109) (cI 1)), oN 1 (oV 110)]) (.seq (.reg false 0 [oN 111 (oV 0), oN 112 (oV 5), oN 113 (.idx 11 (.t 111) (.t 112)), oN 114 (.fld 8 (.t 113)), oN 115 (.fld 0 (.t 114)), oN 116 (.fld 1 (.t 115)), oN 117 (.load 1 false (.t 116)), oN 118 (oV 1), oN 119 (.call 59 [(.t 117), (.t 118)]), oN 1 (oV 119)]) (.seq (.seq (.reg false 0 [oN 120 (oV 1), oN 121 (.bin .lss (.t 120) (cI 0))]) (.cond (.t 121) (.seq (.reg false 0 [oN 4 (.mov (cI (-1)))]) .ret) .skip)) (.seq (.reg false 0 [oN 122 (oV 0), oN 123 (oV 5), oN 124 (.idx 11 (.t 122) (.t 123)), oN 125 (.fld 8 (.t 124)), oN 126 (.fld 2 (.t 125)), oN 127 (.load 1 false (.t 126)), oN 128 (oV 1), oN 129 (.call 59 [(.t 127), (.t 128)]), oN 1 (oV 129)]) (.seq (.reg false 0 [oN 130 (oV 1), oN 131 (.bin .lss (.t 130) (cI 0))]) (.cond (.t 131) (.seq (.reg false 0 [oN 4 (.mov (cI (-1)))]) .ret) .skip)))))))))))))))))))))))) (.reg false 0 [oN 10 (oV 5), oN 11 (.bin .add (.t 10) (cI 1)), oN 5 (oV 11)])))))) (.seq (.reg false 0 [oN 132 (oV 1), oN 4 (oV 132)]) .ret)))⟩
structure D_laws_heldLinkS (T : Nat → Option Fn) : Prop where
  hT : T 229 = some F_laws_heldLinkS
  d_laws_heldIntS : D_laws_heldIntS T
def F_laws_heldRatSS : Fn := ⟨2, 21, [.tmp 4], (.seq (.reg false 0 [oN 4 (.mov (cI 0))]) (.seq (.seq (.reg false 0 [oN 5 (.mov (cI 0))]) (.block 0 (.loop (.seq (.seq (.reg false 0 [oN 6 (oV 5), oN 7 (oV 0), oN 8 (.len (.t 7)), oN 9 (.bin .lss (.t 6) (.t 8))]) (.cond (.t 9) .skip (.exit 0))) (.seq (.block 1 (.seq (.reg false 0 [oN 12 (oV 0), oN 13 (oV 5), oN 14 (.idx 1 (.t 12) (.t 13)), oN 15 (.load 1 false (.t 14)), oN 16 (oV 1), oN 17 (.call 313 [(.t 15), (.t 16)]), oN 1 (oV 17)]) (.seq (.reg false 0 [oN 18 (oV 1), oN 19 (.bin .lss (.t 18) (cI 0))]) (.cond (.t 19) (.seq (.reg false 0 [oN 4 (.mov (cI (-1)))]) .ret) .skip)))) (.reg false 0 [oN 10 (oV 5), oN 11 (.bin .add (.t 10) (cI 1)), oN 5 (oV 11)])))))) (.seq (.reg false 0 [oN 20 (oV 1), oN 4 (oV 20)]) .ret)))⟩
structure D_laws_heldRatSS (T : Nat → Option Fn) : Prop where
  hT : T 303 = some F_laws_heldRatSS
  d_laws_heldRatS : D_laws_heldRatS T
def F_laws_heldBigInt : Fn := ⟨2, 12, [.tmp 4], (.seq (.reg false 1 [oN 2 (.box (.t 0)), oK 4 1 (.mov (cI 0))]) (.seq (.reg false 0 [oN 5 (.fld 1 (.t 2)), oN 6 (.load 1 false (.t 5)), oN 7 (oV 1), oN 8 (.call 59 [(.t 6), (.t 7)]), oN 1 (oV 8)]) (.seq (.seq (.reg false 0 [oN 9 (oV 1), oN 10 (.bin .lss (.t 9) (cI 0))]) (.cond (.t 10) (.seq (.reg false 0 [oN 4 (.mov (cI (-1)))]) .ret) .skip)) (.seq (.reg false 0 [oN 11 (oV 1), oN 4 (oV 11)]) .ret))))⟩
structure D_laws_heldBigInt (T : Nat → Option Fn) : Prop where
  hT : T 58 = some F_laws_heldBigInt
  d_laws_heldIntS : D_laws_heldIntS T
def F_laws_heldRat : Fn := ⟨2, 18, [.tmp 4], (.seq (.reg false 1 [oN 2 (.box (.t 0)), oK 4 1 (.mov (cI 0))]) (.seq (.reg false 0 [oN 5 (.fld 0 (.t 2)), oN 6 (.load 2 true (.t 5)), oN 7 (oV 1), oN 8 (.call 58 [(.t 6), (.t 7)]), oN 1 (oV 8)]) (.seq (.seq (.reg false 0 [oN 9 (oV 1), oN 10 (.bin .lss (.t 9) (cI 0))]) (.cond (.t 10) (.seq (.reg false 0 [oN 4 (.mov (cI (-1)))]) .ret) .skip)) (.seq (.reg false 0 [oN 11 (.fld 2 (.t 2)), oN 12 (.load 1 false (.t 11)), oN 13 (oV 1), oN 14 (.call 59 [(.t 12), (.t 13)]), oN 1 (oV 14)]) (.seq (.seq (.reg false 0 [oN 15 (oV 1), oN 16 (.bin .lss (.t 15) (cI 0))]) (.cond (.t 16) (.seq (.reg false 0 [oN 4 (.mov (cI (-1)))]) .ret) .skip)) (.seq (.reg false 0 [oN 17 (oV 1), oN 4 (oV 17)]) .ret))))))⟩
structure D_laws_heldRat (T : Nat → Option Fn) : Prop where
  hT : T 42 = some F_laws_heldRat
  d_laws_heldBigInt : D_laws_heldBigInt T
  d_laws_heldIntS : D_laws_heldIntS T
theorem c_heldRatS {T : Nat → Option Fn} (h : D_laws_heldRatS T) {l : List R} {k : Int} (hl : szL R.sz l ≤ 1048576 := by first | omega | assumption | (simp; omega)) (hk : 0 ≤ k ∧ k + cnL R.ct l l.length ≤ 1000000000000 := by first | omega | assumption | (simp; omega)) :
    PF T 313 [ratsV (mkL R.mk3 R.ct k l), iv k] (iv (k + cnL R.ct l l.length)) := by
  have hll : l.length ≤ 1048576 := by unfold szL at hl; omega
  have hml := mkL_len R.mk3 R.ct k l
  refine pf_end (fun _ _ => false) h.hT rfl rfl ?_
  dsimp only [F_laws_heldRatS, oN, oS, oG, oK, oA, oH, oV, cI]
  (refine ev ?_; try with_reducible exact True.intro)
  refine loop_at (fun _ _ => false) (α := Nat) (fun i => ⟨argE [ratsV (mkL R.mk3 R.ct k l), iv (k + cnL R.ct l i), .any, .any, .any, iv (i : Nat)], [], 0, 0, [], []⟩) (fun i => i ≤ l.length) (fun i => l.length - i) rfl 0 ?_ ?_ ?_
  · omega
  · (refine Fg_env ?_) <;> (try (refine ev1 @cnL_0 ?_; try with_reducible exact True.intro)) <;> (repeat' (first | refine ⟨?_, ?_⟩ | exact EvV_int (by omega) | exact EvV_of (by simp) | exact EvV_nil _))
  · intro i hi
    (refine ev1 @hml ?_; try with_reducible exact True.intro)
    refine brK_dec (fun hc => ?_) fun hc => ?_
    · have hil : i < l.length := by omega
      have hrow := (mg (f := R.cells) (show i < (mkL R.mk3 R.ct k l).length by omega)).trans (congrArg R.cells (mkL_at R.mk3 R.ct k l i hil))
      obtain ⟨x, hx⟩ : ∃ x, l.getD i default = x := ⟨_, rfl⟩
      have hcn := cnL_s R.ct l hil
      have hcl := cnL_le R.ct l (i := i + 1) hil
      have hxs : R.sz x ≤ 1048576 := by
        have := szL_at R.sz hil
        rw [hx] at this
        omega
      rw [hx] at hcn hrow
      rw [hcn] at hcl
      have hct : R.ct x = 1 + x.mag.length + x.den.length := rfl
      obtain ⟨kk, hkk⟩ : ∃ kk, k + (cnL R.ct l i : Int) = kk := ⟨_, rfl⟩
      rw [hkk] at hrow
      have hrow : (List.map R.cells (mkL R.mk3 R.ct k l)).getD i [] = [.bool (decide ((kk).tmod 3 = 0)), ints (cnt x.mag.length (kk + 1)), ints (cnt x.den.length (kk + 1 + x.mag.length))] := hrow
      simp only [R.sz] at hxs
      (refine ev4 @hc @hrow @hkk @hml ?_; try with_reducible exact True.intro)
      refine PFK_of (c_heldIntS h.d_laws_heldIntS (n := x.mag.length) (k := kk + 1) (by omega) (by omega)) ?_
      (refine ev2 @hrow @hml ?_; try with_reducible exact True.intro)
      refine brK_dec (fun hc => absurd hc (by omega)) fun _ => ?_
      (refine ev2 @hrow @hml ?_; try with_reducible exact True.intro)
      refine PFK_of (c_heldIntS h.d_laws_heldIntS (n := x.den.length) (k := kk + 1 + x.mag.length) (by omega) (by omega)) ?_
      (refine ev2 @hrow @hml ?_; try with_reducible exact True.intro)
      refine brK_dec (fun hc => absurd hc (by omega)) fun _ => ?_
      (refine ev2 @hrow @hml ?_; try with_reducible exact True.intro)
      exact ⟨i + 1, by omega, by omega, by (refine Fg_env ?_) <;> (try (refine ev ?_; try with_reducible exact True.intro)) <;> (repeat' (first | refine ⟨?_, ?_⟩ | exact EvV_int (by omega) | exact EvV_of (by simp) | exact EvV_nil _))⟩
    · have : i = l.length := by omega
      subst this
      (refine ev1 @hc ?_; try with_reducible exact True.intro)
theorem c_heldRatSS {T : Nat → Option Fn} (h : D_laws_heldRatSS T) {l : List (List R)} {k : Int} (hl : szL (szL R.sz) l ≤ 1048576 := by first | omega | assumption | (simp; omega)) (hk : 0 ≤ k ∧ k + cnL rsct l l.length ≤ 1000000000000 := by first | omega | assumption | (simp; omega)) :
    PF T 303 [ratssV (mkL rsmk rsct k l), iv k] (iv (k + cnL rsct l l.length)) := by
  have hll : l.length ≤ 1048576 := by unfold szL at hl; omega
  have hml := mkL_len rsmk rsct k l
  refine pf_end (fun _ _ => false) h.hT rfl rfl ?_
  dsimp only [F_laws_heldRatSS, oN, oS, oG, oK, oA, oH, oV, cI]
  (refine ev ?_; try with_reducible exact True.intro)
  refine loop_at (fun _ _ => false) (α := Nat) (fun i => ⟨argE [ratssV (mkL rsmk rsct k l), iv (k + cnL rsct l i), .any, .any, .any, iv (i : Nat)], [], 0, 0, [], []⟩) (fun i => i ≤ l.length) (fun i => l.length - i) rfl 0 ?_ ?_ ?_
  · omega
  · (refine Fg_env ?_) <;> (try (refine ev1 @cnL_0 ?_; try with_reducible exact True.intro)) <;> (repeat' (first | refine ⟨?_, ?_⟩ | exact EvV_int (by omega) | exact EvV_of (by simp) | exact EvV_nil _))
  · intro i hi
    (refine ev1 @hml ?_; try with_reducible exact True.intro)
    refine brK_dec (fun hc => ?_) fun hc => ?_
    · have hil : i < l.length := by omega
      have hrow := (mg (f := (fun r => [ratsV r])) (show i < (mkL rsmk rsct k l).length by omega)).trans (congrArg (fun r => [ratsV r]) (mkL_at rsmk rsct k l i hil))
      obtain ⟨x, hx⟩ : ∃ x, l.getD i default = x := ⟨_, rfl⟩
      have hcn := cnL_s rsct l hil
      have hcl := cnL_le rsct l (i := i + 1) hil
      have hxs : (szL R.sz) x ≤ 1048576 := by
        have := szL_at (szL R.sz) hil
        rw [hx] at this
        omega
      rw [hx] at hcn hrow
      rw [hcn] at hcl
      have hct : rsct x = cnL R.ct x x.length := rfl
      obtain ⟨kk, hkk⟩ : ∃ kk, k + (cnL rsct l i : Int) = kk := ⟨_, rfl⟩
      rw [hkk] at hrow
      have hrow : (List.map (fun r => [ratsV r]) (mkL rsmk rsct k l)).getD i [] = [ratsV (mkL R.mk3 R.ct (kk) x)] := hrow
      (refine ev4 @hc @hrow @hkk @hml ?_; try with_reducible exact True.intro)
      refine PFK_of (c_heldRatS h.d_laws_heldRatS (l := x) (k := kk) (by omega) (by omega)) ?_
      (refine ev2 @hrow @hml ?_; try with_reducible exact True.intro)
      refine brK_dec (fun hc => absurd hc (by omega)) fun _ => ?_
      (refine ev2 @hrow @hml ?_; try with_reducible exact True.intro)
      exact ⟨i + 1, by omega, by omega, by (refine Fg_env ?_) <;> (try (refine ev ?_; try with_reducible exact True.intro)) <;> (repeat' (first | refine ⟨?_, ?_⟩ | exact EvV_int (by omega) | exact EvV_of (by simp) | exact EvV_nil _))⟩
    · have : i = l.length := by omega
      subst this
      (refine ev1 @hc ?_; try with_reducible exact True.intro)
end Go.Ml
end
section
set_option linter.unusedSimpArgs false
set_option linter.unusedVariables false
namespace Go.Ml
theorem cnL_bd {α : Type} {c f : α → Nat} {K : Nat} (h : ∀ x, c x ≤ K * (1 + f x)) (l : List α) : cnL c l l.length ≤ K * szL f l := by
  unfold cnL szL
  rw [List.take_length]
  induction l with
  | nil => simp
  | cons x l ih =>
    rw [List.map_cons, List.sum_cons, List.map_cons, List.sum_cons, List.length_cons]
    have := h x
    rw [show l.length + 1 + (f x + (l.map f).sum) = (1 + f x) + (l.length + (l.map f).sum) by omega, Nat.mul_add]
    omega
theorem cb_R (x : R) : R.ct x ≤ 5 * (1 + x.sz) := by unfold R.ct R.sz; omega
theorem cb_RatS (l : List R) : cnL R.ct l l.length ≤ 5 * szL R.sz l := cnL_bd cb_R l
theorem cb_rs (x : List R) : rsct x ≤ 5 * (1 + szL R.sz x) := by have := cb_RatS x; unfold rsct; omega
theorem cb_RatSS (l : List (List R)) : cnL rsct l l.length ≤ 5 * szL (szL R.sz) l := cnL_bd cb_rs l
end Go.Ml
end
section
set_option linter.unusedSimpArgs false
set_option linter.unusedVariables false
set_option maxRecDepth 100000
set_option maxHeartbeats 16000000
namespace Go.Ml
def F_laws_FnExactMultiplyMatrices : Fn := ⟨2, 92, [.tmp 4], (.seq (.reg false 0 [oN 4 (.mov (.c (.bool false)))]) (.seq (.reg false 0 [oN 5 (.mov (cI 1048576))]) (.seq (.reg false 0 [oN 14 (oV 0), oN 15 (oV 5), oN 16 (.call 90 [(.t 14), (.t 15)]), oN 5 (oV 16)]) (.seq (.seq (.reg false 0 [oN 17 (oV 5), oN 18 (.bin .lss (.t 17) (cI 0))]) (.cond (.t 18) (.seq (.reg false 0 [oN 4 (.mov (.c (.bool true)))]) .ret) .skip)) (.seq (.reg false 0 [oN 19 (oV 1), oN 20 (oV 5), oN 21 (.call 90 [(.t 19), (.t 20)]), oN 5 (oV 21)]) (.seq (.seq (.reg false 0 [oN 22 (oV 5), oN 23 (.bin .lss (.t 22) (cI 0))]) (.cond (.t 23) (.seq (.reg false 0 [oN 4 (.mov (.c (.bool true)))]) .ret) .skip)) (.seq (.reg false 0 [oN 24 (oV 0), oN 25 (.call 92 [(.t 24)]), oN 26 (oV 1), oN 27 (.call 92 [(.t 26)]), oN 28 (.call 301 [(.t 25), (.t 27)]), oN 6 (oV 28)]) (.seq (.reg false 0 [oN 29 (oV 0), oN 30 (.call 92 [(.t 29)]), oN 7 (oV 30)]) (.seq (.reg false 0 [oN 31 (oV 1), oN 32 (.call 92 [(.t 31)]), oN 8 (oV 32)]) (.seq (.reg false 0 [oN 33 (oV 7), oN 34 (oV 8), oN 35 (.call 233 [(.t 33), (.t 34)]), oN 9 (oV 35)]) (.seq (.seq (.reg false 0 [oN 36 (oV 9), oN 37 (oV 6), oN 38 (.call 94 [(.t 36), (.t 37)]), oN 39 (.un .not (.t 38))]) (.cond (.t 39) (.seq (.reg false 0 [oN 4 (.mov (.c (.bool false)))]) .ret) .skip)) (.seq (.seq (.reg false 0 [oN 40 (oV 7), oN 41 (oV 0), oN 42 (.call 92 [(.t 41)]), oN 43 (.call 94 [(.t 40), (.t 42)]), oN 44 (.un .not (.t 43))]) (.cond (.t 44) (.seq (.reg false 0 [oN 4 (.mov (.c (.bool false)))]) .ret) .skip)) (.seq (.seq (.reg false 0 [oN 45 (oV 8), oN 46 (oV 1), oN 47 (.call 92 [(.t 46)]), oN 48 (.call 94 [(.t 45), (.t 47)]), oN 49 (.un .not (.t 48))]) (.cond (.t 49) (.seq (.reg false 0 [oN 4 (.mov (.c (.bool false)))]) .ret) .skip)) (.seq (.reg false 0 [oN 10 (.mov (cI 1))]) (.seq (.reg false 0 [oN 50 (oV 7), oN 51 (oV 10), oN 52 (.call 302 [(.t 50), (.t 51)]), oN 10 (oV 52)]) (.seq (.reg false 0 [oN 53 (oV 8), oN 54 (oV 10), oN 55 (.call 302 [(.t 53), (.t 54)]), oN 10 (oV 55)]) (.seq (.seq (.reg false 0 [oN 56 (oV 10), oN 57 (.bin .lss (.t 56) (cI 0)), oN 58 (oV 57), oG 58 false 59 (oV 9), oG 58 false 60 (oV 6), oG 58 false 61 (.call 94 [(.t 59), (.t 60)]), oG 58 false 62 (.un .not (.t 61)), oN 63 (.pick (.t 58) (.c (.bool true)) (.t 62))]) (.cond (.t 63) (.seq (.reg false 0 [oN 4 (.mov (.c (.bool false)))]) .ret) .skip)) (.seq (.reg false 0 [oN 11 (.mov (cI 1))]) (.seq (.reg false 0 [oN 64 (oV 9), oN 65 (oV 11), oN 66 (.call 302 [(.t 64), (.t 65)]), oN 11 (oV 66)]) (.seq (.reg false 0 [oN 12 (.mov (cI 1))]) (.seq (.reg false 0 [oN 67 (oV 9), oN 68 (oV 12), oN 69 (.call 303 [(.t 67), (.t 68)]), oN 12 (oV 69)]) (.seq (.seq (.reg false 0 [oN 70 (oV 12), oN 71 (.bin .lss (.t 70) (cI 0))]) (.cond (.t 71) (.seq (.reg false 0 [oN 4 (.mov (.c (.bool false)))]) .ret) .skip)) (.seq (.seq (.reg false 0 [oN 72 (oV 12), oN 73 (oV 11), oN 74 (.bin .neq (.t 72) (.t 73))]) (.cond (.t 74) (.seq (.reg false 0 [oN 4 (.mov (.c (.bool false)))]) .ret) .skip)) (.seq (.reg false 0 [oN 75 (oV 0), oN 76 (.call 92 [(.t 75)]), oN 77 (oV 1), oN 78 (.call 92 [(.t 77)]), oN 79 (.call 233 [(.t 76), (.t 78)]), oN 13 (oV 79)]) (.seq (.seq (.reg false 0 [oN 80 (oV 13), oN 81 (oV 6), oN 82 (.call 94 [(.t 80), (.t 81)]), oN 83 (.un .not (.t 82))]) (.cond (.t 83) (.seq (.reg false 0 [oN 4 (.mov (.c (.bool false)))]) .ret) .skip)) (.seq (.reg false 0 [oN 12 (.mov (cI 1))]) (.seq (.reg false 0 [oN 84 (oV 9), oN 85 (oV 12), oN 86 (.call 303 [(.t 84), (.t 85)]), oN 12 (oV 86)]) (.seq (.seq (.reg false 0 [oN 87 (oV 12), oN 88 (.bin .lss (.t 87) (cI 0))]) (.cond (.t 88) (.seq (.reg false 0 [oN 4 (.mov (.c (.bool false)))]) .ret) .skip)) (.seq (.seq (.reg false 0 [oN 89 (oV 12), oN 90 (oV 11), oN 91 (.bin .neq (.t 89) (.t 90))]) (.cond (.t 91) (.seq (.reg false 0 [oN 4 (.mov (.c (.bool false)))]) .ret) .skip)) (.seq (.reg false 0 [oN 4 (.mov (.c (.bool true)))]) .ret))))))))))))))))))))))))))))))⟩
structure D_laws_FnExactMultiplyMatrices (T : Nat → Option Fn) : Prop where
  hT : T 285 = some F_laws_FnExactMultiplyMatrices
  d_laws_szRatSS : D_laws_szRatSS T
  d_laws_toRatSS : D_laws_toRatSS T
  d_laws_eqRatSS : D_laws_eqRatSS T
  d_impl_MultiplyMatrices : D_impl_MultiplyMatrices T
  d_spec_MultiplyMatrices : D_spec_MultiplyMatrices T
  d_laws_markRatSS : D_laws_markRatSS T
  d_laws_heldRatSS : D_laws_heldRatSS T
theorem c_lawFnExactMultiplyMatrices {T : Nat → Option Fn} (h : D_laws_FnExactMultiplyMatrices T) (a : List (List R)) (wa : (wfL (wfL R.wf)) a) (b : List (List R)) (wb : (wfL (wfL R.wf)) b) : PF T 285 [ratssV a, ratssV b] (.bool true) := by
  refine PO.frz ?_ (dep_bool 11 _)
  refine po_end2 (fun x d => (x == 92 && d == 30) || (x == 92 && d == 32) || (x == 233 && d == 35) || (x == 302 && d == 52) || (x == 302 && d == 55) || (x == 302 && d == 66)) h.hT rfl rfl ?_
  dsimp only [F_laws_FnExactMultiplyMatrices, oN, oS, oG, oK, oA, oH, oV, cI, St.enter, List.length_cons, List.length_nil, Nat.zero_add]
  (refine ew ?_; try with_reducible exact True.intro)
  refine PFK_of (c_szRatSS h.d_laws_szRatSS (l := a) wa ⟨by omega, by omega⟩) ?_
  (refine ew ?_; try with_reducible exact True.intro)
  have ka := @szr_le (1048576) (szL (szL R.sz) a)
  refine brK_dec (fun hba => ?_) fun hba => ?_
  · (refine ew ?_; try with_reducible exact True.intro)
    exact fin_bool
  have sa := szr_nlt hba
  (refine ew ?_; try with_reducible exact True.intro)
  refine PFK_of (c_szRatSS h.d_laws_szRatSS (l := b) wb ⟨by omega, by omega⟩) ?_
  (refine ew ?_; try with_reducible exact True.intro)
  have kb := @szr_le (szr (1048576) (szL (szL R.sz) a)) (szL (szL R.sz) b)
  refine brK_dec (fun hbb => ?_) fun hbb => ?_
  · (refine ew ?_; try with_reducible exact True.intro)
    exact fin_bool
  have sb := szr_nlt hbb
  (refine ew ?_; try with_reducible exact True.intro)
  have za : szL (szL R.sz) a ≤ 1048576 := by omega
  have zb : szL (szL R.sz) b ≤ 1048576 := by omega
  have hcn := mmV_ok a b
  have zr := hcn.1
  have wr := hcn.2
  have := cb_RatSS a
  have := cb_RatSS b
  have := cb_RatSS (mmV a b)
  have PI := po_iMultiplyMatrices h.d_impl_MultiplyMatrices wa wb
  refine PFK_of (c_toRatSS h.d_laws_toRatSS (l := a) za) ?_
  (refine ew ?_; try with_reducible exact True.intro)
  refine PFK_of (c_toRatSS h.d_laws_toRatSS (l := b) zb) ?_
  (refine ew ?_; try with_reducible exact True.intro)
  refine PFK_of (c_sMultiplyMatrices h.d_spec_MultiplyMatrices wa wb) ?_
  (refine ew ?_; try with_reducible exact True.intro)
  refine RefK_got (po_toRatSS h.d_laws_toRatSS (l := a) za) (by (refine ew ?_; try with_reducible exact True.intro)) ?_
  intro x0 q1 o1 G
  have hO := G.ow
  have gn := G.nd
  have gf := G.fresh
  have go := G.old
  have gl := G.len
  clear G
  have E : Ep ([] : Store) [] [] [] [] := ⟨cs_nil, by simp [objAt]⟩
  have E2 := E.got (s1 := ([] : Store)) (fun _ _ => rfl) (by simp) (owL_1 hO) (by first | exact gn | simpa using gn) (by first | exact gf | simpa using gf) (by first | exact go | simpa using go)
  have hq : ([] : Store).length + 0 ≤ q1.length := by first | exact gl | simpa using gl
  clear E gn gf go gl
  have E : Ep q1 [x0] [ratssV a] _ [] := E2
  clear E2
  have Rf := And.intro (E.res 0 rfl rfl (dep_ratss _ _)) (fun x => (E.snoc (x := x)).res 0 rfl rfl (dep_ratss _ _))
  have LF := E.leaf 0 rfl rfl
  (refine ew4 @Rf @LF @numK_any @or_sc ?_; try with_reducible exact True.intro)
  refine RefK_got (po_toRatSS h.d_laws_toRatSS (l := b) zb) (by (refine ew4 @Rf @LF @numK_any @or_sc ?_; try with_reducible exact True.intro)) ?_
  intro x1 q2 o2 G
  have hO := G.ow
  have gn := G.nd
  have gf := G.fresh
  have go := G.old
  have gl := G.len
  clear G
  have E2 := E.got (s1 := q1) (fun _ _ => rfl) (by simp) (owL_1 hO) (by first | exact gn | simpa using gn) (by first | exact gf | simpa using gf) (by first | exact go | simpa using go)
  have hq : q1.length + 0 ≤ q2.length := by first | exact gl | simpa using gl
  clear E gn gf go gl
  have E : Ep q2 [x0, x1] [ratssV a, ratssV b] _ [] := E2
  clear E2
  replace Rf := And.intro (E.res 0 rfl rfl (dep_ratss _ _)) (And.intro (fun x => (E.snoc (x := x)).res 0 rfl rfl (dep_ratss _ _)) (And.intro (E.res 1 rfl rfl (dep_ratss _ _)) (fun x => (E.snoc (x := x)).res 1 rfl rfl (dep_ratss _ _))))
  replace LF := And.intro (E.leaf 0 rfl rfl) (E.leaf 1 rfl rfl)
  (refine ew4 @Rf @LF @numK_any @or_sc ?_; try with_reducible exact True.intro)
  refine RefK_got (PI) (by (refine ew4 @Rf @LF @numK_any @or_sc ?_; try with_reducible exact True.intro)) ?_
  intro g0 q3 o3 G
  have hO := G.ow
  have gn := G.nd
  have gf := G.fresh
  have go := G.old
  have gl := G.len
  clear G
  have E2 := E.got (s1 := q2) (fun _ _ => rfl) (by simp) (owL_1 hO) (by first | exact gn | simpa using gn) (by first | exact gf | simpa using gf) (by first | exact go | simpa using go)
  have hq : q2.length + 0 ≤ q3.length := by first | exact gl | simpa using gl
  clear E gn gf go gl
  have E : Ep q3 [x0, x1, g0] [ratssV a, ratssV b, ratssV (mmV a b)] _ [] := E2
  clear E2
  replace Rf := And.intro (E.res 0 rfl rfl (dep_ratss _ _)) (And.intro (fun x => (E.snoc (x := x)).res 0 rfl rfl (dep_ratss _ _)) (And.intro (E.res 1 rfl rfl (dep_ratss _ _)) (And.intro (fun x => (E.snoc (x := x)).res 1 rfl rfl (dep_ratss _ _)) (And.intro (E.res 2 rfl rfl (dep_ratss _ _)) (fun x => (E.snoc (x := x)).res 2 rfl rfl (dep_ratss _ _))))))
  replace LF := And.intro (E.leaf 0 rfl rfl) (And.intro (E.leaf 1 rfl rfl) (E.leaf 2 rfl rfl))
  (refine ew4 @Rf @LF @numK_any @or_sc ?_; try with_reducible exact True.intro)
  refine PFK_of (c_eqRatSS h.d_laws_eqRatSS (a := (mmV a b)) (b := (mmV a b)) wr wr) ?_
  (refine ew4 @Rf @LF @numK_any @or_sc ?_; try with_reducible exact True.intro)
  refine PFK_of (c_toRatSS h.d_laws_toRatSS (l := a) za) ?_
  (refine ew4 @Rf @LF @numK_any @or_sc ?_; try with_reducible exact True.intro)
  refine PFK_of (c_eqRatSS h.d_laws_eqRatSS (a := a) (b := a) wa wa) ?_
  (refine ew4 @Rf @LF @numK_any @or_sc ?_; try with_reducible exact True.intro)
  refine PFK_of (c_toRatSS h.d_laws_toRatSS (l := b) zb) ?_
  (refine ew4 @Rf @LF @numK_any @or_sc ?_; try with_reducible exact True.intro)
  refine PFK_of (c_eqRatSS h.d_laws_eqRatSS (a := b) (b := b) wb wb) ?_
  (refine ew4 @Rf @LF @numK_any @or_sc ?_; try with_reducible exact True.intro)
  obtain ⟨s4, hr, E2, hl⟩ := E.call 0 (mk_markRatSS h.d_laws_markRatSS (l := a) (k := 1) (by first | omega | (constructor <;> omega)) (by first | omega | (constructor <;> omega))) rfl rfl
  refine RefK_mk hr rfl hl (by simp) ?_
  clear hr hl E Rf LF
  have E : Ep s4 [x0, x1, g0] [ratssV (mkL rsmk rsct 1 a), ratssV b, ratssV (mmV a b)] _ [] := E2
  clear E2
  have Rf := And.intro (E.res 0 rfl rfl (dep_ratss _ _)) (And.intro (fun x => (E.snoc (x := x)).res 0 rfl rfl (dep_ratss _ _)) (And.intro (E.res 1 rfl rfl (dep_ratss _ _)) (And.intro (fun x => (E.snoc (x := x)).res 1 rfl rfl (dep_ratss _ _)) (And.intro (E.res 2 rfl rfl (dep_ratss _ _)) (fun x => (E.snoc (x := x)).res 2 rfl rfl (dep_ratss _ _))))))
  have LF := And.intro (E.leaf 0 rfl rfl) (And.intro (E.leaf 1 rfl rfl) (E.leaf 2 rfl rfl))
  (refine ew4 @Rf @LF @numK_any @or_sc ?_; try with_reducible exact True.intro)
  have hk0 : ¬ ((1 + cnL rsct a a.length + cnL rsct b b.length : Int) < 0) := by omega
  obtain ⟨s5, hr, E2, hl⟩ := E.call 1 (mk_markRatSS h.d_laws_markRatSS (l := b) (k := 1 + cnL rsct a a.length) (by first | omega | (constructor <;> omega)) (by first | omega | (constructor <;> omega))) rfl rfl
  refine RefK_mk hr rfl hl (by simp) ?_
  clear hr hl E Rf LF
  have E : Ep s5 [x0, x1, g0] [ratssV (mkL rsmk rsct 1 a), ratssV (mkL rsmk rsct (1 + cnL rsct a a.length) b), ratssV (mmV a b)] _ [] := E2
  clear E2
  have Rf := And.intro (E.res 0 rfl rfl (dep_ratss _ _)) (And.intro (fun x => (E.snoc (x := x)).res 0 rfl rfl (dep_ratss _ _)) (And.intro (E.res 1 rfl rfl (dep_ratss _ _)) (And.intro (fun x => (E.snoc (x := x)).res 1 rfl rfl (dep_ratss _ _)) (And.intro (E.res 2 rfl rfl (dep_ratss _ _)) (fun x => (E.snoc (x := x)).res 2 rfl rfl (dep_ratss _ _))))))
  have LF := And.intro (E.leaf 0 rfl rfl) (And.intro (E.leaf 1 rfl rfl) (E.leaf 2 rfl rfl))
  (refine ew5 @Rf @LF @numK_any @or_sc @hk0 ?_; try with_reducible exact True.intro)
  refine PFK_of (c_eqRatSS h.d_laws_eqRatSS (a := (mmV a b)) (b := (mmV a b)) wr wr) ?_
  (refine ew5 @Rf @LF @numK_any @or_sc @hk0 ?_; try with_reducible exact True.intro)
  obtain ⟨s6, hr, E2, hl⟩ := E.call 2 (mk_markRatSS h.d_laws_markRatSS (l := (mmV a b)) (k := 1) (by first | omega | (constructor <;> omega)) (by first | omega | (constructor <;> omega))) rfl rfl
  refine RefK_mk hr rfl hl (by simp) ?_
  clear hr hl E Rf LF
  have E : Ep s6 [x0, x1, g0] [ratssV (mkL rsmk rsct 1 a), ratssV (mkL rsmk rsct (1 + cnL rsct a a.length) b), ratssV (mkL rsmk rsct 1 (mmV a b))] _ [] := E2
  clear E2
  have Rf := And.intro (E.res 0 rfl rfl (dep_ratss _ _)) (And.intro (fun x => (E.snoc (x := x)).res 0 rfl rfl (dep_ratss _ _)) (And.intro (E.res 1 rfl rfl (dep_ratss _ _)) (And.intro (fun x => (E.snoc (x := x)).res 1 rfl rfl (dep_ratss _ _)) (And.intro (E.res 2 rfl rfl (dep_ratss _ _)) (fun x => (E.snoc (x := x)).res 2 rfl rfl (dep_ratss _ _))))))
  have LF := And.intro (E.leaf 0 rfl rfl) (And.intro (E.leaf 1 rfl rfl) (E.leaf 2 rfl rfl))
  (refine ew4 @Rf @LF @numK_any @or_sc ?_; try with_reducible exact True.intro)
  refine PFK_of (c_heldRatSS h.d_laws_heldRatSS (l := (mmV a b)) (k := 1) (by first | omega | (constructor <;> omega)) (by first | omega | (constructor <;> omega))) ?_
  (refine ew4 @Rf @LF @numK_any @or_sc ?_; try with_reducible exact True.intro)
  refine brK_dec (fun hc => absurd hc (by first | omega | (constructor <;> omega))) fun _ => ?_
  (refine ew4 @Rf @LF @numK_any @or_sc ?_; try with_reducible exact True.intro)
  refine PFK_of (c_toRatSS h.d_laws_toRatSS (l := a) za) ?_
  (refine ew4 @Rf @LF @numK_any @or_sc ?_; try with_reducible exact True.intro)
  refine PFK_of (c_toRatSS h.d_laws_toRatSS (l := b) zb) ?_
  (refine ew4 @Rf @LF @numK_any @or_sc ?_; try with_reducible exact True.intro)
  refine PFK_of (PI.frz (dep_ratss _ _)) ?_
  (refine ew4 @Rf @LF @numK_any @or_sc ?_; try with_reducible exact True.intro)
  refine PFK_of (c_eqRatSS h.d_laws_eqRatSS (a := (mmV a b)) (b := (mmV a b)) wr wr) ?_
  (refine ew4 @Rf @LF @numK_any @or_sc ?_; try with_reducible exact True.intro)
  refine PFK_of (c_heldRatSS h.d_laws_heldRatSS (l := (mmV a b)) (k := 1) (by first | omega | (constructor <;> omega)) (by first | omega | (constructor <;> omega))) ?_
  (refine ew4 @Rf @LF @numK_any @or_sc ?_; try with_reducible exact True.intro)
  refine brK_dec (fun hc => absurd hc (by first | omega | (constructor <;> omega))) fun _ => ?_
  (refine ew4 @Rf @LF @numK_any @or_sc ?_; try with_reducible exact True.intro)
  exact fin_bool
end Go.Ml
end
section
set_option linter.unusedSimpArgs false
namespace Go.Ml
def OutOk (P : Program) (fid : Nat) (o : OutF) : Prop :=
  ∀ args σ r σ', o.sem args σ r σ' → ∀ w M D (vals : Array Value), rdL w D (XS M D) args vals.toList → SRel w D M σ → Calls P fid vals w (Post M D w σ.length r σ')
def Fits (P : Program) (ν : Nat → Option Nat) (T : Nat → Option Fn) : Prop :=
  ∀ fid f F, ν fid = some f → T f = some F → (∃ fn, P.funcs[fid]? = some fn ∧ trFn P ν fn = some F) ∨ ∃ o, F.body = .lib o ∧ OutOk P fid o
theorem no_lib {T : Nat → Option Fn} {j : Job} {x : Out} (h : Run T j x) : ∀ o st, j ≠ .code (.lib o) st := by
  induction h with
  | gc ρ hn hρ h ih => intro o st e; cases e; exact ih o _ rfl
  | forget he ho hk h ih => intro o st e; cases e; exact ih o _ rfl
  | re W h h' ih => intro o st e; cases e; exact ih o _ rfl
  | _ => intro o st e; cases e
theorem trC_lib {P : Program} {ν : Nat → Option Nat} {nt : Nat} {o : OutF} : ∀ c : Code, trC P ν nt c ≠ some (.lib o) := by
  intro c h
  unfold trC at h
  cases c <;> simp at h
  all_goals (try (split at h <;> simp at h))
theorem trFn_lib {P : Program} {ν : Nat → Option Nat} {fn : Func} {F : Fn} {o : OutF} (h : trFn P ν fn = some F) (hb : F.body = .lib o) : False := by
  unfold trFn at h
  split at h <;> first | (cases h; done) | skip
  split at h <;> first | (cases h; done) | skip
  rename_i b rs' hb' hrs'
  split at h <;> first | (cases h; done) | skip
  simp only [Option.some.injEq] at h
  subst h
  simp only [] at hb
  subst hb
  exact trC_lib _ hb'
section
variable {P : Program} {ν : Nat → Option Nat} {T : Nat → Option Fn}
theorem okK_cons {m : Nat} {x : OpI} {l : List OpI} (h : okK m (x :: l) = true) : okK m l = true ∧ ∀ y ∈ l, y.i.makes = true → y.k ≠ x.k ∧ y.k < m := by
  have hm : ∀ (l : List OpI), okK m l = true → ∀ y ∈ l, y.i.makes = true → y.k < m := by
    intro l
    induction l with
    | nil => intro _ y hy; cases hy
    | cons z l ih =>
      intro h y hy hmk
      simp only [okK, Bool.and_eq_true] at h
      rcases List.mem_cons.1 hy with rfl | hy
      · have := h.1
        rw [if_pos hmk] at this
        simp only [Bool.and_eq_true, decide_eq_true_eq] at this
        exact this.1
      · exact ih h.2 y hy hmk
  simp only [okK, Bool.and_eq_true] at h
  refine ⟨h.2, fun y hy hmk => ⟨?_, hm l h.2 y hy hmk⟩⟩
  by_cases hx : x.i.makes = true
  · have := h.1
    rw [if_pos hx] at this
    simp only [Bool.and_eq_true, decide_eq_true_eq, List.all_eq_true] at this
    have := this.2 y hy
    simpa [hmk] using this
  · have := h.1
    rw [if_neg hx] at this
    simp only [beq_iff_eq] at this
    have := hm l h.2 y hy hmk
    omega
theorem okK_lt {m : Nat} : ∀ (l : List OpI), okK m l = true → ∀ x ∈ l, x.i.makes = true → x.k < m
  | [], _, y, hy, _ => by cases hy
  | z :: l, h, y, hy, hmk => by
    simp only [okK, Bool.and_eq_true] at h
    rcases List.mem_cons.1 hy with rfl | hy
    · have := h.1
      rw [if_pos hmk] at this
      simp only [Bool.and_eq_true, decide_eq_true_eq] at this
      exact this.1
    · exact okK_lt l h.2 y hy hmk
theorem okK_ne {m : Nat} : ∀ (l : List OpI), okK m l = true → ∀ (i j : Nat) (x y : OpI), l[i]? = some x → l[j]? = some y → i ≠ j → x.i.makes = true → x.k ≠ y.k
  | [], _, i, j, x, y, hx, _, _, _ => by simp at hx
  | z :: l, h, i, j, x, y, hx, hy, hij, hmk => by
    obtain ⟨k1, k2⟩ := okK_cons h
    cases i with
    | zero =>
      simp at hx; subst hx
      cases j with
      | zero => exact absurd rfl hij
      | succ j =>
        have hy' : y ∈ l := List.mem_of_getElem? (by simpa using hy)
        by_cases hmy : y.i.makes = true
        · exact fun e => (k2 y hy' hmy).1 e.symm
        · -- one that makes none has the number m
          have hm : ∀ (l : List OpI), okK m l = true → ∀ y ∈ l, y.i.makes ≠ true → y.k = m := by
            intro l
            induction l with
            | nil => intro _ y hy; cases hy
            | cons z l ih =>
              intro h y hy hn
              simp only [okK, Bool.and_eq_true] at h
              rcases List.mem_cons.1 hy with rfl | hy
              · have := h.1
                rw [if_neg hn] at this
                simpa using this
              · exact ih h.2 y hy hn
          have := hm l k1 y hy' hmy
          have h3 := okK_lt _ h z (by simp) hmk
          omega
    | succ i =>
      have hx' : x ∈ l := List.mem_of_getElem? (by simpa using hx)
      cases j with
      | zero =>
        simp at hy; subst hy
        exact (k2 x hx' hmk).1
      | succ j => exact okK_ne l k1 i j x y (by simpa using hx) (by simpa using hy) (by omega) hmk
theorem opsOk_cons {o : OpI} {l : List OpI} {st st1 st2 : St} (h1 : OpOk P ν o st st1) (h2 : OpsOk P ν l st1 st2) : OpsOk P ν (o :: l) st st2 := by
  obtain ⟨a1, a2, a3, a4⟩ := h1
  obtain ⟨b1, b2, b3, b4⟩ := h2
  refine ⟨b1.trans a1, b2.trans a2, Nat.le_trans a3 b3, ?_⟩
  intro ops dr nt m k rest htr hk M w0 D0 D a w hs hid Q hQ
  cases rest with
  | nil => simp [trOps] at htr
  | cons r rest =>
    simp only [trOps] at htr
    split at htr <;> first | (cases htr; done) | skip
    rename_i x hx
    split at htr <;> first | (cases htr; done) | skip
    rename_i l' hl'
    simp only [Option.some.injEq, List.cons.injEq] at htr
    obtain ⟨rfl, rfl⟩ := htr
    obtain ⟨k1, k2⟩ := okK_cons hk
    have key := a4 ops dr nt m k r hx M w0 D0 D a w hs (hid x (by simp)) (wpList P ops Q rest) Q (fun D' a' w' hs' hun => by
      refine b4 ops dr nt m _ rest hl' k1 M w0 D0 D' a' w' hs' (fun y hy hmk => ?_) Q hQ
      rw [a1]
      obtain ⟨e1, e2⟩ := hid y (by simp [hy]) hmk
      exact ⟨Nat.lt_of_lt_of_le e1 a3, hun _ (Nat.le_add_right _ _) e1 e2 (fun h => (k2 y hy hmk).1 (by omega))⟩)
    unfold wpList
    split
    · rename_i hw; rw [if_pos hw] at key; exact .inl key
    · rename_i hw; rw [if_neg hw] at key; exact key
theorem trC_inv {nt : Nat} {cc : Code} {c : C} (h : trC P ν nt cc = some c) : match c with
    | .skip => cc = .skip
    | .reg d m l => ∃ id ops, cc = .region id ops d ∧ trOps P ν ops d nt m 0 ops.toList = some l
    | .seq x y => ∃ a b, cc = .seq a b ∧ trC P ν nt a = some x ∧ trC P ν nt b = some y
    | .cond s x y => ∃ o a b, cc = .cond o a b ∧ trS o = some s ∧ trC P ν nt a = some x ∧ trC P ν nt b = some y
    | .block id x => ∃ a, cc = .block id a ∧ trC P ν nt a = some x
    | .loop x => ∃ a, cc = .loop a ∧ trC P ν nt a = some x
    | .exit id => cc = .exit id
    | .ret => cc = .ret
    | .lib _ => False := by
  cases cc with
  | skip => simp only [trC, Option.some.injEq] at h; subst h; rfl
  | region id ops d =>
    simp only [trC, Option.map_eq_some_iff] at h
    obtain ⟨l, h1, rfl⟩ := h
    exact ⟨id, ops, rfl, h1⟩
  | seq a b =>
    simp only [trC] at h
    split at h <;> first | (cases h; done) | skip
    rename_i x y h1 h2
    simp only [Option.some.injEq] at h; subst h
    exact ⟨a, b, rfl, h1, h2⟩
  | cond o a b =>
    simp only [trC] at h
    split at h <;> first | (cases h; done) | skip
    rename_i s x y h1 h2 h3
    simp only [Option.some.injEq] at h; subst h
    exact ⟨o, a, b, rfl, h1, h2, h3⟩
  | block id a =>
    simp only [trC, Option.map_eq_some_iff] at h
    obtain ⟨x, h1, rfl⟩ := h
    exact ⟨a, rfl, h1⟩
  | loop a =>
    simp only [trC, Option.map_eq_some_iff] at h
    obtain ⟨x, h1, rfl⟩ := h
    exact ⟨a, rfl, h1⟩
  | exit id => simp only [trC, Option.some.injEq] at h; subst h; rfl
  | ret => simp only [trC, Option.some.injEq] at h; subst h; rfl
  | _ => simp [trC] at h
theorem loop_of {c : C} {e : Ex} {st st' : St} (hk : st'.keep = st.keep) (h : LoopOk P ν c e st st') : CodeOk P ν (.loop c) e st st' := by
  refine ⟨hk, ?_⟩
  intro nt cc htr M w0 D0 D a w hs Q hQ
  obtain ⟨cb, rfl, hb⟩ := trC_inv htr
  intro b k cs
  obtain ⟨x, a', w', q, harr⟩ := h nt cb hb M w0 D0 D a w hs Q hQ b k cs
  exact ⟨x, a', w', q, .of_steps (.one step_loop) harr⟩
theorem exOf_ne {e : Ex} (h : e ≠ .normal) : exOf e ≠ .normal := by cases e <;> simp [exOf] at h ⊢
theorem then_of {next : Act → World → Prop} {Q : Exit → Act → World → Prop} {e : Ex} (h : e ≠ .normal) {a : Act} {w : World} (hq : Q (exOf e) a w) : Exit.then next Q (exOf e) a w := by
  cases e <;> first | (simp at h; done) | exact hq
def getRes (tmps : Array Value) : ResultVar → Sem Value
  | .tmp t => pure (tmps.getD t undef)
  | .cell q t => do loadVar t (← asAddr (tmps.getD q undef))
theorem results_eq (fn : Func) (tmps : Array Value) : results fn tmps = (do let vs ← fn.results.mapM (getRes tmps); pure (if h : vs.size = 1 then vs[0] else .tuple vs)) := rfl
theorem fnOk_lib (hT : Fits P ν T) {f : Nat} {args : List V} {σ : Store} {F : Fn} {o : OutF} {r : V} {σ' : Store} (hf : T f = some F) (hb : F.body = .lib o) (h : o.sem args σ r σ') : FnOk P ν f args σ r σ' := by
  intro fid hfid w M D vals hv hS
  rcases hT fid f F hfid hf with ⟨fn, hfn, htr⟩ | ⟨o', e, hO⟩
  · exact (trFn_lib htr hb).elim
  · rw [hb] at e
    cases e
    exact hO args σ r σ' h w M D vals hv hS
theorem fnOk_fn (hT : Fits P ν T) {f : Nat} {args : List V} {σ : Store} {F : Fn} {e : Ex} {st' : St} {rs : List V} (hf : T f = some F) (hl : args.length = F.nargs) (hnl : ∀ o, F.body ≠ .lib o)
    (ih : CodeOk P ν F.body e (St.enter args σ) st') (he : e = .normal ∨ e = .ret) (hr : F.res.mapM (Res.get st') = some rs) : FnOk P ν f args σ (packRes rs) st'.objs := by
  intro fid hfid w M D vals hv hS
  rcases hT fid f F hfid hf with ⟨fn, hfn, htr⟩ | ⟨o, e, _⟩
  case inr => exact (hnl o e).elim
  unfold trFn at htr
  split at htr <;> first | (cases htr; done) | skip
  rename_i body hbody
  split at htr <;> first | (cases htr; done) | skip
  rename_i b rs' hb hrs'
  split at htr <;> first | (cases htr; done) | skip
  rename_i hle
  simp only [Option.some.injEq] at htr; subst htr
  have hvl : vals.size = args.length := by simpa using (rdL_length _ _ hv).symm
  refine calls_of_wp hfn hbody ?_
  have hs0 : SR fn.ntmps M w D (St.enter args σ) D { tmps := vals ++ Array.replicate (fn.ntmps - vals.size) undef, defers := [] } w := by
    refine ⟨?_, ?_, rfl, hS, Gr.refl _ _, fun o d h => .inl ⟨o, d, h, rfl⟩, fun o _ => DSle.refl _⟩
    · intro t
      simp only [St.enter]
      by_cases ht : t < args.length
      · obtain ⟨y, h1, h2⟩ := rdL_get _ _ hv t args[t] (by simp [ht])
        have e1 : argE args t = args[t] := by simp [argE, ht]
        rw [e1]
        have e2 : (vals ++ Array.replicate (fn.ntmps - vals.size) undef).getD t undef = y := by
          rw [Array.getD_eq_getD_getElem?, Array.getElem?_append_left (by omega)]
          rw [← Array.getElem?_toList, h1]; rfl
        rw [e2]; exact h2
      · have e1 : argE args t = .any := by simp [argE, List.getD, List.getElem?_eq_none (Nat.le_of_not_lt ht)]
        rw [e1]; simp only [rd]
    · simp only [Array.size_append, Array.size_replicate]; simp only [] at hl; omega
  refine ih.2 fn.ntmps body hb M w D D _ w hs0 _ ?_
  intro D' a' w' hs'
  have hres : ∃ v, (results fn a'.tmps).run P w' = .ok v w' ∧ rd w' D' (XS M D') (packRes rs) v := by
    have hlist : ∀ (vars : List ResultVar) (rl : List Res) (vl : List V), vars.mapM (trRes P) = some rl → rl.mapM (Res.get st') = some vl →
        ∃ ys : List Value, (vars.mapM (getRes a'.tmps)).run P w' = .ok ys w' ∧ rdL w' D' (XS M D') vl ys := by
      intro vars
      induction vars with
      | nil => intro rl vl h1 h2; simp at h1; subst h1; simp at h2; subst h2; exact ⟨[], by simp, by simp [rdL]⟩
      | cons x vars ihv =>
        intro rl vl h1 h2
        simp only [List.mapM_cons, Option.pure_def, Option.bind_eq_bind, Option.bind_eq_some_iff, Option.some.injEq] at h1
        obtain ⟨r, hr1, rl', hr2, rfl⟩ := h1
        simp only [List.mapM_cons, Option.pure_def, Option.bind_eq_bind, Option.bind_eq_some_iff, Option.some.injEq] at h2
        obtain ⟨z, hz1, vl', hz2, rfl⟩ := h2
        obtain ⟨ys, k1, k2⟩ := ihv rl' vl' hr2 hz2
        cases x with
        | tmp t =>
          simp only [trRes, Option.some.injEq] at hr1; subst hr1
          simp only [Res.get, Option.some.injEq] at hz1; subst hz1
          refine ⟨a'.tmps.getD t undef :: ys, ?_, by simp only [rdL]; exact ⟨_, _, rfl, hs'.env t, k2⟩⟩
          have hg : (getRes a'.tmps (.tmp t)).run P w' = .ok (a'.tmps.getD t undef) w' := rfl
          simp only [List.mapM_cons, Sem.run_bind, Sem.run_pure, Result.andThen_ok, k1, hg]
        | cell q t =>
          simp only [trRes, Option.map_eq_some_iff] at hr1
          obtain ⟨⟨n, g⟩, hg, rfl⟩ := hr1
          simp only [Res.get] at hz1
          split at hz1 <;> first | (cases hz1; done) | skip
          rename_i row off hrow
          obtain ⟨u, j1, j2⟩ := run_load_agg hs'.store hg hrow (hs'.env q) hz1
          obtain ⟨bl, oo, hptr, _⟩ := rowAt_rd hs'.store hrow (hs'.env q)
          refine ⟨u :: ys, ?_, by simp only [rdL]; exact ⟨_, _, rfl, j2, k2⟩⟩
          have j1' : (loadVar t ⟨bl, oo + off, none⟩).run P w' = .ok u w' := by
            rw [hptr] at j1
            simpa [Instr.loadAt, Instr.sureAddr] using j1
          have hg : (getRes a'.tmps (.cell q t)).run P w' = .ok u w' := by
            simp only [getRes, hptr, asAddr, Sem.run_bind, Sem.run_pure, Result.andThen_ok, j1']
          simp only [List.mapM_cons, Sem.run_bind, Sem.run_pure, Result.andThen_ok, k1, hg]
    obtain ⟨ys, k1, k2⟩ := hlist fn.results.toList rs' rs hrs' hr
    refine ⟨if h : ys.toArray.size = 1 then ys.toArray[0] else .tuple ys.toArray, ?_, ?_⟩
    · have : (fn.results.mapM (getRes a'.tmps)).run P w' = .ok ys.toArray w' := by
        rw [← Array.toArray_toList (xs := fn.results), List.mapM_toArray, Sem.run_map, k1]; rfl
      rw [results_eq]
      simp only [Sem.run_bind, this, Result.andThen_ok, Sem.run_pure]
    · have hlen := rdL_length _ _ k2
      have gen : ∀ (rs : List V) (ys : List Value), rdL w' D' (XS M D') rs ys → rs.length = ys.length → rd w' D' (XS M D') (packRes rs) (if h : ys.toArray.size = 1 then ys.toArray[0] else .tuple ys.toArray) := by
        intro rs ys h hl
        cases rs with
        | nil =>
          cases ys with
          | nil => simp only [packRes]; rw [dif_neg (by simp)]; simp only [rd]; exact ⟨_, rfl, h⟩
          | cons y ys => simp at hl
        | cons x xs =>
          cases ys with
          | nil => simp at hl
          | cons y ys =>
            cases xs with
            | nil =>
              cases ys with
              | nil =>
                simp only [rdL] at h
                obtain ⟨y', ys', h0, h1, h2⟩ := h
                cases h0
                simpa [packRes] using h1
              | cons y' ys => simp at hl
            | cons x' xs =>
              cases ys with
              | nil => simp at hl
              | cons y' ys =>
                simp only [packRes]
                rw [dif_neg (by simp)]
                simp only [rd]
                exact ⟨_, rfl, h⟩
      exact gen rs ys k2 hlen
  obtain ⟨v, hv1, hv2⟩ := hres
  have hfin : bodyPost P fn (Post M D w σ.length (packRes rs) st'.objs) .ret a' w' :=
    ⟨hs'.df, v, hv1, v, D', rfl, hv2, hs'.store, hs'.gr, hs'.fr, fun o ho => hs'.kp o (by rw [ih.1]; exact ho)⟩
  rcases he with rfl | rfl <;> exact hfin
theorem trOps_get {ops : Array Oper} {dr : Bool} {nt m : Nat} : ∀ {k : Nat} {rest : List Oper} {l : List OpI}, trOps P ν ops dr nt m k rest = some l →
    l.length = rest.length ∧ ∀ (i : Nat) (x : OpI), l[i]? = some x → ∃ o k', rest[i]? = some o ∧ trOp P ν ops dr nt m k' o = some x
  | k, [], l, h => by simp only [trOps, Option.some.injEq] at h; subst h; simp
  | k, o :: rest, l, h => by
    simp only [trOps] at h
    split at h <;> first | (cases h; done) | skip
    rename_i x hx
    split at h <;> first | (cases h; done) | skip
    rename_i l' hl'
    simp only [Option.some.injEq] at h; subst h
    obtain ⟨e1, e2⟩ := trOps_get hl'
    refine ⟨by simp [e1], fun i y hi => ?_⟩
    cases i with
    | zero => simp at hi; subst hi; exact ⟨o, k, rfl, hx⟩
    | succ i => simpa using e2 i y (by simpa using hi)
theorem trOp_aft {ops : Array Oper} {nt m k : Nat} {o : Oper} {x : OpI} (h : trOp P ν ops true nt m k o = some x) : x.aft = trAft o := by
  unfold trOp at h
  split at h <;> first | (cases h; done) | skip
  split at h <;> first | (cases h; done) | skip
  simp only [Option.some.injEq] at h; subst h
  rfl
theorem ready_iff {ops : Array Oper} {nt m : Nat} {l : List OpI} (h : trOps P ν ops true nt m 0 ops.toList = some l) {done : List Nat} {listed : Array Bool} (hs : listed.size = ops.size)
    (hl : ∀ i, listed.getD i false = true ↔ i ∈ done) {i : Nat} : i ∈ Region.ready .any ops listed ↔ readyB l done i = true := by
  obtain ⟨e1, e2⟩ := trOps_get h
  rw [mem_ready]
  have hlt : ∀ {i : Nat}, i < ops.size → (listed.getD i true = false ↔ i ∉ done) := by
    intro i hi
    have : listed.getD i true = listed.getD i false := by
      rw [Array.getD_eq_getD_getElem?, Array.getD_eq_getD_getElem?, Array.getElem?_eq_getElem (by omega)]; rfl
    rw [this]
    constructor
    · intro h1 h2; rw [(hl i).2 h2] at h1; cases h1
    · intro h1
      cases hb : listed.getD i false with
      | false => rfl
      | true => exact absurd ((hl i).1 hb) h1
  constructor
  · rintro ⟨h1, o, ho, h2⟩
    have hi := (Array.getElem?_eq_some_iff.1 ho).1
    have hil : i < l.length := by rw [e1]; simpa using hi
    obtain ⟨o', k', ho', hx⟩ := e2 i l[i] (by simp [hil])
    have : o' = o := by rw [Array.getElem?_toList] at ho'; rw [ho] at ho'; exact (Option.some.inj ho').symm
    subst this
    unfold readyB
    rw [List.getElem?_eq_getElem hil]
    simp only [Bool.and_eq_true, Bool.not_eq_true', List.all_eq_true]
    refine ⟨?_, ?_⟩
    · have := (hlt hi).1 h1
      simpa using this
    · intro e he
      rw [trOp_aft hx] at he
      simp only [trAft, List.mem_map, List.mem_filter] at he
      obtain ⟨ed, ⟨h3, h4⟩, rfl⟩ := he
      have := h2 ed (by simpa using h3) h4
      simpa using (hl _).1 this
  · intro hr
    unfold readyB at hr
    split at hr <;> first | (cases hr; done) | skip
    rename_i x hx
    simp only [Bool.and_eq_true, Bool.not_eq_true', List.all_eq_true] at hr
    obtain ⟨o, k', ho, htr⟩ := e2 i x hx
    have ho' : ops[i]? = some o := by rwa [Array.getElem?_toList] at ho
    have hi := (Array.getElem?_eq_some_iff.1 ho').1
    refine ⟨(hlt hi).2 (by simpa using hr.1), o, ho', ?_⟩
    intro e he hb
    refine (hl _).2 ?_
    have := hr.2 e.on (by rw [trOp_aft htr]; simp only [trAft, List.mem_map, List.mem_filter]; exact ⟨e, ⟨by simpa using he, hb⟩, rfl⟩)
    simpa using this
theorem sound (hm : P.follows .mixedOrders = true) (hT : Fits P ν T) {j : Job} {o : Out} (h : Run T j o) : Sound P ν j o := by
  induction h with
  | skip st =>
    refine ⟨⟨rfl, ?_⟩, fun x h => by cases h⟩
    intro nt cc htr M w0 D0 D a w hs Q hQ
    have hc : cc = .skip := trC_inv htr
    subst hc
    exact Go.wp_skip (hQ D a w hs)
  | @reg m l st st' hk h ih =>
    obtain ⟨_, i1, i2, i3, i4⟩ := ih
    refine ⟨⟨i2, ?_⟩, fun x h => by cases h⟩
    intro nt cc htr M w0 D0 D a w hs Q hQ
    obtain ⟨id, ops, rfl, hops⟩ := trC_inv htr
    refine wp_region_list ?_
    refine i4 ops false nt m 0 ops.toList hops hk M w0 D0 D a w ⟨hs.env, hs.tm, hs.df, hs.mem m, hs.gr, hs.fr, hs.kp⟩ (fun x hx hmk => ?_) Q (fun D' a' w' h => hQ D' a' w' h)
    have hkm : x.k < m := by
      have : ∀ (l : List OpI), okK m l = true → ∀ x ∈ l, x.i.makes = true → x.k < m := by
        intro l
        induction l with
        | nil => intro _ y hy; cases hy
        | cons z l ih =>
          intro h y hy hmk
          simp only [okK, Bool.and_eq_true] at h
          rcases List.mem_cons.1 hy with rfl | hy
          · have := h.1
            rw [if_pos hmk] at this
            simp only [Bool.and_eq_true, decide_eq_true_eq] at this
            exact this.1
          · exact ih h.2 y hy hmk
      exact this l hk x hx hmk
    simp only [List.length_append, List.length_replicate]
    exact ⟨by omega, hs.store.far _ (by omega)⟩
  | @regD m l st st' hk h ih =>
    obtain ⟨_, i1, i2, i3, i4⟩ := ih
    refine ⟨⟨i2, ?_⟩, fun x h => by cases h⟩
    intro nt cc htr M w0 D0 D a w hs Q hQ
    obtain ⟨id, ops, rfl, hops⟩ := trC_inv htr
    refine wp_region_any hm ?_
    have hsd : SR nt M w0 D0 st D a { w with drawn := w.drawn + 1 } := by
      have hE : Ext w D (XS M D) { w with drawn := w.drawn + 1 } D (XS M D) := ⟨Nat.le_refl _, fun _ _ _ => rfl, fun _ _ h => h, fun _ => DSle.refl _⟩
      refine ⟨fun t => rd_mono _ _ hE (hs.env t), hs.tm, hs.df, ?_, ⟨hs.gr.size, hs.gr.os, hs.gr.tape, hs.gr.output, hs.gr.block⟩, hs.fr, hs.kp⟩
      refine ⟨fun o d ho => ?_, hs.store.alive, hs.store.inj, hs.store.far, hs.store.mlt⟩
      obtain ⟨ob, c, e, g1, g2, g3, g4, g5, g6, g7, g8, g9, g10, g11⟩ := hs.store.live o d ho
      refine ⟨ob, c, e, g1, g2, g3, g4, g5, g6, g7, g8, g9, g10, fun i x hi => ?_⟩
      obtain ⟨k0, y, k1, k2⟩ := g11 i x hi
      exact ⟨k0, y, k1, rd_mono _ _ hE k2⟩
    refine i4 ops nt m hops hk M w0 D0 D a _ ⟨hsd.env, hsd.tm, hsd.df, hsd.mem m, hsd.gr, hsd.fr, hsd.kp⟩ (fun i x hx _ hmk => ?_) Q (fun D' a' w' h => hQ D' a' w' h) _ _ (by simp) (fun i => ?_) ?_
    · have hkm : x.k < m := okK_lt l hk x (List.mem_of_getElem? hx) hmk
      simp only [List.length_append, List.length_replicate]
      exact ⟨by omega, hsd.store.far _ (by omega)⟩
    · simp only [Array.getD_eq_getD_getElem?, Array.getElem?_replicate]
      split <;> simp
    · simp
  | @anyN l done st h =>
    refine ⟨rfl, rfl, rfl, Nat.le_refl _, ?_⟩
    intro ops nt m htr hk M w0 D0 D a w hs hid Q hQ fuel listed h1 h2 h3
    refine wpAny_done ?_ (hQ D a w hs) fuel
    apply List.eq_nil_iff_forall_not_mem.2
    intro i hi
    rw [ready_iff htr h1 h2, h i] at hi
    cases hi
  | @anyC l done st st' i0 h0 f h h' ih ih' =>
    obtain ⟨_, b1, b2, b3, _⟩ := ih' i0 h0
    obtain ⟨x0, hx0⟩ : ∃ x0, l[i0]? = some x0 := by
      unfold readyB at h0
      split at h0 <;> first | (cases h0; done) | skip
      exact ⟨_, by assumption⟩
    obtain ⟨_, a1, a2, a3, _⟩ := ih i0 x0 hx0 h0
    refine ⟨rfl, b1.trans a1, b2.trans a2, Nat.le_trans a3 b3, ?_⟩
    intro ops nt m htr hk M w0 D0 D a w hs hid Q hQ fuel listed h1 h2 h3
    have hready : ∀ i, i ∈ Region.ready .any ops listed ↔ readyB l done i = true := fun i => ready_iff htr h1 h2
    have hpos : fuel ≠ 0 := by
      rintro rfl
      have hi := (hready i0).2 h0
      have := (mem_ready.1 hi).1
      obtain ⟨_, o, ho, _⟩ := mem_ready.1 hi
      have hlt := (Array.getElem?_eq_some_iff.1 ho).1
      have hmem : false ∈ listed.toList := by
        have : listed[i0]'(by omega) = false := by
          rw [Array.getD_eq_getD_getElem?, Array.getElem?_eq_getElem (by omega)] at this
          simpa using this
        rw [← this]; simp
      have := List.count_pos_iff.2 hmem
      omega
    obtain ⟨fuel, rfl⟩ := Nat.exists_eq_succ_of_ne_zero hpos
    refine ⟨fun hnil => ?_, fun i hi => ?_⟩
    · have := (hready i0).2 h0
      rw [hnil] at this; cases this
    · have hr := (hready i).1 hi
      obtain ⟨e1, e2⟩ := trOps_get htr
      obtain ⟨_, o, ho, _⟩ := mem_ready.1 hi
      have hlt := (Array.getElem?_eq_some_iff.1 ho).1
      have hil : i < l.length := by rw [e1]; simpa using hlt
      obtain ⟨o', k', ho', hx⟩ := e2 i l[i] (by simp [hil])
      have : o' = o := by rw [Array.getElem?_toList] at ho'; rw [ho] at ho'; exact (Option.some.inj ho').symm
      subst this
      have hli : l[i]? = some l[i] := by simp [hil]
      have hnd : i ∉ done := by
        unfold readyB at hr
        rw [hli] at hr
        simp only [Bool.and_eq_true, Bool.not_eq_true'] at hr
        simpa using hr.1
      obtain ⟨_, c1, c2, c3, c4⟩ := ih i l[i] hli hr
      obtain ⟨_, d1, d2, d3, d4⟩ := ih' i hr
      have key := c4 ops true nt m k' o' hx M w0 D0 D a w hs (fun hmk => hid i l[i] hli hnd hmk) (wpAny P .any ops Q fuel (listed.setIfInBounds i true)) Q (fun D' a' w' hs' hun => by
        refine d4 ops nt m htr hk M w0 D0 D' a' w' hs' (fun j y hy hj hmk => ?_) Q hQ fuel _ (by simpa using h1) (fun j => ?_) ?_
        · simp only [List.mem_cons, not_or] at hj
          rw [c1]
          obtain ⟨g1, g2⟩ := hid j y hy hj.2 hmk
          refine ⟨Nat.lt_of_lt_of_le g1 c3, hun _ (Nat.le_add_right _ _) g1 g2 ?_⟩
          intro he
          have hne := okK_ne l hk j i y l[i] hy hli hj.1 hmk
          omega
        · rw [Array.getD_eq_getD_getElem?, Array.getElem?_setIfInBounds]
          by_cases hij : i = j
          · subst hij
            simp [h1, hlt]
          · rw [if_neg hij, ← Array.getD_eq_getD_getElem?, h2 j]
            simp only [List.mem_cons]
            constructor
            · exact .inr
            · rintro (h | h)
              · exact absurd h.symm hij
              · exact h
        · have hfi : listed[i]'(by omega) = false := by
            have := (mem_ready.1 hi).1
            rw [Array.getD_eq_getD_getElem?, Array.getElem?_eq_getElem (by omega)] at this
            simpa using this
          rw [Array.toList_setIfInBounds, List.count_set (by simpa using (by omega : i < listed.size))]
          have h4 : listed.toList[i]'(by simpa using (by omega : i < listed.size)) = false := by simpa using hfi
          have h5 : 0 < listed.toList.count false := List.count_pos_iff.2 (by rw [← h4]; exact List.getElem_mem _)
          simp only [h4, beq_self_eq_true, if_true]
          have : (true == false) = false := rfl
          simp only [this, Bool.false_eq_true, if_false]
          omega)
      unfold wpOp
      simp only [ho]
      split
      · rename_i hw; rw [if_pos hw] at key; exact .inl key
      · rename_i hw; rw [if_neg hw] at key; exact key
  | @seqN a b st st1 o h h' ih ih' =>
    cases o with
    | fn r σ => trivial
    | code e st2 =>
    obtain ⟨⟨i1, i2⟩, _⟩ := ih
    obtain ⟨⟨j1, j2⟩, _⟩ := ih'
    refine ⟨⟨j1.trans i1, ?_⟩, fun x h => by cases h⟩
    intro nt cc htr M w0 D0 D a w hs Q hQ
    obtain ⟨ca, cb, rfl, ha, hb⟩ := trC_inv htr
    refine Go.wp_seq (i2 nt ca ha M w0 D0 D a w hs _ fun D' a' w' hs' => ?_)
    exact j2 nt cb hb M w0 D0 D' a' w' hs' Q hQ
  | @seqE a b st e st1 he h ih =>
    obtain ⟨⟨i1, i2⟩, _⟩ := ih
    refine ⟨⟨i1, ?_⟩, fun x h => by cases h⟩
    intro nt cc htr M w0 D0 D a w hs Q hQ
    obtain ⟨ca, cb, rfl, ha, hb⟩ := trC_inv htr
    exact Go.wp_seq (i2 nt ca ha M w0 D0 D a w hs _ fun D' a' w' hs' => then_of he (hQ D' a' w' hs'))
  | @cond x a b st t o hx h ih =>
    cases o with
    | fn r σ => trivial
    | code e st2 =>
    obtain ⟨⟨i1, i2⟩, _⟩ := ih
    refine ⟨⟨i1, ?_⟩, fun x h => by cases h⟩
    intro nt cc htr M w0 D0 D a w hs Q hQ
    obtain ⟨oc, ca, cb, rfl, h1, ha, hb⟩ := trC_inv htr
    have hv := rd_src hs.env h1
    rw [hx] at hv
    simp only [rd] at hv
    refine Go.wp_cond hv (i2 nt _ ?_ M w0 D0 D _ w hs Q hQ)
    cases t
    · exact hb
    · exact ha
  | @block id c st e st1 h ih =>
    obtain ⟨⟨i1, i2⟩, _⟩ := ih
    refine ⟨⟨i1, ?_⟩, fun x h => by cases h⟩
    intro nt cc htr M w0 D0 D a w hs Q hQ
    obtain ⟨ca, rfl, ha⟩ := trC_inv htr
    refine Go.wp_block (i2 nt ca ha M w0 D0 D a w hs _ fun D' a' w' hs' => ?_)
    have := hQ D' a' w' hs'
    cases e with
    | normal => exact this
    | ret => exact this
    | exit id' =>
      simp only [exOf, exIn, Exit.inBlock] at this ⊢
      by_cases hid : id' = id
      · simp only [hid, if_true] at this ⊢; exact this
      · simp only [hid, if_false] at this ⊢; exact this
  | @loopN c st st1 o h h' ih ih' =>
    cases o with
    | fn r σ => trivial
    | code e st2 =>
    obtain ⟨⟨i1, i2⟩, _⟩ := ih
    obtain ⟨⟨j1, _⟩, j2⟩ := ih'
    have key : LoopOk P ν c e st st2 := by
      intro nt cc htr M w0 D0 D a w hs Q hQ b k cs
      obtain ⟨x, a1, w1, ⟨D1, hx, hs1⟩, harr⟩ := i2 nt cc htr M w0 D0 D a w hs (fun x a' w' => ∃ D', x = .normal ∧ SR nt M w0 D0 st1 D' a' w') (fun D' a' w' h => ⟨D', rfl, h⟩) b (.inLoop cc :: k) cs
      subst hx
      obtain ⟨x2, a2, w2, q2, harr2⟩ := j2 c rfl nt cc htr M w0 D0 D1 a1 w1 hs1 Q hQ b k cs
      exact ⟨x2, a2, w2, q2, .of_steps (Steps.trans harr (.one step_inLoop)) harr2⟩
    exact ⟨loop_of (j1.trans i1) key, fun x hx => by cases hx; exact key⟩
  | @loopE c st e st1 he h ih =>
    obtain ⟨⟨i1, i2⟩, _⟩ := ih
    have key : LoopOk P ν c e st st1 := by
      intro nt cc htr M w0 D0 D a w hs Q hQ b k cs
      obtain ⟨x, a1, w1, ⟨D1, hx, hs1⟩, harr⟩ := i2 nt cc htr M w0 D0 D a w hs (fun x a' w' => ∃ D', x = exOf e ∧ SR nt M w0 D0 st1 D' a' w') (fun D' a' w' h => ⟨D', rfl, h⟩) b (.inLoop cc :: k) cs
      subst hx
      exact ⟨_, a1, w1, hQ D1 a1 w1 hs1, .pass (x := .inLoop cc) rfl (fun _ _ => .inl (exOf_ne he)) harr⟩
    exact ⟨loop_of i1 key, fun x hx => by cases hx; exact key⟩
  | exit id st =>
    refine ⟨⟨rfl, ?_⟩, fun x h => by cases h⟩
    intro nt cc htr M w0 D0 D a w hs Q hQ
    have hc : cc = .exit id := trC_inv htr
    subst hc
    exact Go.wp_exit (hQ D a w hs)
  | ret st =>
    refine ⟨⟨rfl, ?_⟩, fun x h => by cases h⟩
    intro nt cc htr M w0 D0 D a w hs Q hQ
    have hc : cc = .ret := trC_inv htr
    subst hc
    exact Go.wp_ret (hQ D a w hs)
  | @gc c st o ρ hn hρ h ih =>
    cases o with
    | fn r σ => trivial
    | code e st2 =>
    obtain ⟨⟨i1, i2⟩, i3⟩ := ih
    refine ⟨⟨i1, ?_⟩, ?_⟩
    · intro nt cc htr M w0 D0 D a w hs Q hQ
      exact i2 nt cc htr M w0 D0 _ a w (hs.gc hn hρ) Q hQ
    · intro x hx nt cc htr M w0 D0 D a w hs Q hQ
      exact i3 x hx nt cc htr M w0 D0 _ a w (hs.gc hn hρ) Q hQ
  | nil st =>
    refine ⟨rfl, rfl, rfl, Nat.le_refl _, ?_⟩
    intro ops dr nt m k rest htr hk M w0 D0 D a w hs hid Q hQ
    cases rest with
    | nil => exact hQ D a w hs
    | cons r rest =>
      simp only [trOps] at htr
      split at htr <;> first | (cases htr; done) | skip
      split at htr <;> first | (cases htr; done) | skip
  | @cons o l st st1 out h h' ih ih' =>
    cases out with
    | fn r σ => trivial
    | code e st2 => exact ⟨ih'.1, opsOk_cons ih.2 ih'.2⟩
  | off hg he => exact ⟨rfl, opOk_off hg he⟩
  | op hg h => exact ⟨rfl, opOk_op hg h⟩
  | callP hg hi ha h hR ih => exact ⟨rfl, opOk_callP hg hi ha ih hR⟩
  | callR ρ hn hρ hg hi h ih => exact ⟨rfl, opOk_callR hn hρ hg hi ih⟩
  | callG hg hi ha h hR ih => exact ⟨rfl, opOk_callG hg hi ha ih hR⟩
  | callI hg hi h hl hb ih => exact ⟨rfl, opOk_callI hg hi ih hl hb⟩
  | @fn f args σ F e st' rs hf hl h he hr ih => exact fnOk_fn hT hf hl (fun o e => no_lib h o (St.enter args σ) (by rw [e])) ih.1 he hr
  | lib hf hb h => exact fnOk_lib hT hf hb h
  | frz h hr ih => exact fnOk_frz hr ih
  | gcF ρ hn hρ h ih => exact fnOk_gcF hn hρ ih
  | @forget c st st2 o he ho hk h' ih =>
    cases o with
    | fn r σ => trivial
    | code e st3 =>
    obtain ⟨⟨i1, i2⟩, i3⟩ := ih
    refine ⟨⟨i1.trans hk, ?_⟩, ?_⟩
    · intro nt cc htr M w0 D0 D a w hs Q hQ
      exact i2 nt cc htr M w0 D0 _ a w (hs.forget he ho hk) Q hQ
    · intro x hx nt cc htr M w0 D0 D a w hs Q hQ
      exact i3 x hx nt cc htr M w0 D0 _ a w (hs.forget he ho hk) Q hQ
  | @re c st st2 o W h h' ih =>
    cases o with
    | fn r σ => trivial
    | code e st3 =>
    obtain ⟨⟨i1, i2⟩, i3⟩ := ih
    refine ⟨⟨i1.trans h.keep, ?_⟩, ?_⟩
    · intro nt cc htr M w0 D0 D a w hs Q hQ
      exact i2 nt cc htr M w0 D0 _ a w (hs.re h) Q hQ
    · intro x hx nt cc htr M w0 D0 D a w hs Q hQ
      exact i3 x hx nt cc htr M w0 D0 _ a w (hs.re h) Q hQ
  | reF W ha h hs hr ih => exact fnOk_reF ha hs hr ih
  | laxF ha h hr ih => exact fnOk_laxF ha hr ih
end
end Go.Ml
end
section
set_option linter.unusedSimpArgs false
set_option linter.unusedVariables false
namespace Go.Ml
open Go.ChangeShapes Go.WideShapes Go.ChangeAt Go.RowKit
def nuOf : List (Nat × Nat × Fn) → Nat → Option Nat
  | [], _ => none
  | x :: l, i => if x.1 = i then some x.2.1 else nuOf l i
def tbOf : List (Nat × Nat × Fn) → Nat → Option Fn
  | [], _ => none
  | x :: l, k => if x.2.1 = k then some x.2.2 else tbOf l k
theorem nuOf_mem : ∀ {l : List (Nat × Nat × Fn)} {i k : Nat}, nuOf l i = some k → ∃ x ∈ l, x.1 = i ∧ x.2.1 = k
  | [], _, _, h => by simp [nuOf] at h
  | x :: l, i, k, h => by
    simp only [nuOf] at h
    split at h
    · rename_i e; exact ⟨x, by simp, e, by simpa using h⟩
    · obtain ⟨y, hy, e⟩ := nuOf_mem h; exact ⟨y, by simp [hy], e⟩
theorem tbOf_mem : ∀ {l : List (Nat × Nat × Fn)} {k : Nat} {F : Fn}, tbOf l k = some F → ∃ x ∈ l, x.2.1 = k ∧ x.2.2 = F
  | [], _, _, h => by simp [tbOf] at h
  | x :: l, i, k, h => by
    simp only [tbOf] at h
    split at h
    · rename_i e; exact ⟨x, by simp, e, by simpa using h⟩
    · obtain ⟨y, hy, e⟩ := tbOf_mem h; exact ⟨y, by simp [hy], e⟩
theorem eq_of_nodup_map {α β : Type} {f : α → β} : ∀ {l : List α}, (l.map f).Nodup → ∀ {x y}, x ∈ l → y ∈ l → f x = f y → x = y
  | [], _, _, _, h, _, _ => by cases h
  | a :: l, hn, x, y, hx, hy, e => by
    simp only [List.map_cons, List.nodup_cons] at hn
    rcases List.mem_cons.1 hx with rfl | hx' <;> rcases List.mem_cons.1 hy with rfl | hy'
    · rfl
    · exact absurd (e ▸ List.mem_map_of_mem hy') hn.1
    · exact absurd (e ▸ List.mem_map_of_mem hx') hn.1
    · exact eq_of_nodup_map hn.2 hx' hy' e
theorem fits_of {P : Program} {l : List (Nat × Nat × Fn)} (hnd : (l.map (·.2.1)).Nodup) (h : ∀ x ∈ l, (∃ fn, P.funcs[x.1]? = some fn ∧ trFn P (nuOf l) fn = some x.2.2) ∨ ∃ o, x.2.2.body = .lib o ∧ OutOk P x.1 o) : Fits P (nuOf l) (tbOf l) := by
  intro fid f F h1 h2
  obtain ⟨x, hx, e1, e2⟩ := nuOf_mem h1
  obtain ⟨y, hy, e3, e4⟩ := tbOf_mem h2
  have : x = y := eq_of_nodup_map hnd hx hy (e2.trans e3.symm)
  subst this
  rw [← e1, ← e4]
  exact h x hx
theorem calls_of {P : Program} {l : List (Nat × Nat × Fn)} (hm : P.follows .mixedOrders = true) (hT : Fits P (nuOf l) (tbOf l)) {f fid : Nat} {args : List V} {r : V} (h : PF (tbOf l) f args r) (hf : nuOf l fid = some f)
    {w : World} {vals : Array Value} (hr : rdL w DM.none (fun _ => False) args vals.toList) :
    Calls P fid vals w fun e w' => (∃ v D X, e = .returned v ∧ rd w' D X r v) ∧ Below w.heap.size w w' := by
  have hs := sound hm hT h
  have hX : XS (fun _ => False) DM.none = fun _ => False := by
    funext b; simp [XS, DM.none]
  refine (hs fid hf w (fun _ => False) DM.none vals (by rw [hX]; exact hr) ⟨?_, ?_, ?_, ?_, ?_⟩).mono fun e w' hp => ?_
  · intro o d h; cases h
  · intro o ob h; simp [objAt] at h
  · intro o o' d d' h; cases h
  · intro o _; rfl
  · intro b h; exact h.elim
  · obtain ⟨v, D', e1, e2, e3, e4, _⟩ := hp
    refine ⟨⟨v, D', _, e1, e2⟩, ⟨e4.os, e4.tape, e4.output, e4.size, fun k hk => e4.block k hk ?_⟩⟩
    rintro ⟨o, d, h, _⟩; cases h
theorem calls_true {P : Program} {l : List (Nat × Nat × Fn)} (hm : P.follows .mixedOrders = true) (hT : Fits P (nuOf l) (tbOf l)) {f fid : Nat} {args : List V} (h : PF (tbOf l) f args (.bool true)) (hf : nuOf l fid = some f)
    {w : World} {vals : Array Value} (hr : rdL w DM.none (fun _ => False) args vals.toList) :
    Calls P fid vals w fun e w' => e = .returned (.bool true) ∧ Below w.heap.size w w' :=
  (calls_of hm hT h hf hr).mono fun e w' hp => by
    obtain ⟨⟨v, D, X, rfl, e2⟩, hb⟩ := hp
    have : v = .bool true := by simpa [rd] using e2
    exact ⟨by rw [this], hb⟩
end Go.Ml
end
section
set_option linter.unusedSimpArgs false
set_option linter.unusedVariables false
namespace Go.Ml
open Go.ChangeShapes Go.WideShapes Go.ChangeAt Go.RowKit
inductive Lf where
  | int (k : IntKind)
  | bool
  | str
  | sl (row : List Lf)
mutual
def Mt : Lf → V → Prop
  | .int k, v => ∃ n, v = .int k n ∧ (Lit.int k n).wf = true
  | .bool, v => ∃ b, v = .bool b
  | .str, v => ∃ s, v = .str s ∧ s.length ≤ maxLen
  | .sl row, v => ∃ rows : List (List V), v = .sl row.length rows ∧ rows.length ≤ maxLen ∧ ∀ r ∈ rows, MtL row r
def MtL : List Lf → List V → Prop
  | [], vs => vs = []
  | l :: ls, vs => ∃ v vs', vs = v :: vs' ∧ Mt l v ∧ MtL ls vs'
end
def shFs (P : Program) (sh : TypeId → Option (List Lf)) : List Field → Nat → Option (List Lf)
  | [], _ => some []
  | f :: fs, off => match sh f.type, shFs P sh fs (off + P.cellsOf f.type) with
    | some r, some rs => if f.offset = off ∧ r.length = P.cellsOf f.type then some (r ++ rs) else none
    | _, _ => none
def shapeOf (P : Program) : Nat → TypeId → Option (List Lf)
  | 0, _ => none
  | n + 1, t => match P.underlying t with
    | some (.int k) => some [.int k]
    | some .bool => some [.bool]
    | some .string => some [.str]
    | some (.slice e) => match shapeOf P n e with
      | some r => if r.length = P.cellsOf e ∧ 0 < r.length then some [.sl r] else none
      | none => none
    | some (.struct fs) => match shFs P (shapeOf P n) fs.toList 0 with
      | some r => if r.length = P.cellsOf t then some r else none
      | none => none
    | _ => none
theorem mtL_append {l1 l2 : List Lf} {v1 v2 : List V} (h1 : MtL l1 v1) (h2 : MtL l2 v2) : MtL (l1 ++ l2) (v1 ++ v2) := by
  induction l1 generalizing v1 with
  | nil => simp only [MtL] at h1; subst h1; simpa using h2
  | cons l l1 ih =>
    simp only [MtL] at h1
    obtain ⟨v, vs, rfl, a, b⟩ := h1
    simp only [List.cons_append, MtL]
    exact ⟨v, vs ++ v2, rfl, a, ih b⟩
theorem mtL_len {l : List Lf} {v : List V} (h : MtL l v) : v.length = l.length := by
  induction l generalizing v with
  | nil => simp only [MtL] at h; subst h; rfl
  | cons x l ih =>
    simp only [MtL] at h
    obtain ⟨v, vs, rfl, a, b⟩ := h
    simp [ih b]
theorem mt_leaf : ∀ {l : Lf} {v : V}, Mt l v → v.leaf = true := by
  intro l v h
  cases l <;> simp only [Mt] at h
  · obtain ⟨n, rfl, _⟩ := h; rfl
  · obtain ⟨b, rfl⟩ := h; rfl
  · obtain ⟨s, rfl, _⟩ := h; rfl
  · obtain ⟨rows, rfl, _⟩ := h; rfl
theorem mtL_leaf {l : List Lf} {v : List V} (h : MtL l v) : ∀ x ∈ v, x.leaf = true := by
  induction l generalizing v with
  | nil => simp only [MtL] at h; subst h; intro x hx; cases hx
  | cons y l ih =>
    simp only [MtL] at h
    obtain ⟨v, vs, rfl, a, b⟩ := h
    intro x hx
    rcases List.mem_cons.1 hx with rfl | hx
    · exact mt_leaf a
    · exact ih b x hx
theorem rdRows_of {w : World} {D : DM} {X : Nat → Prop} {b sz : Nat} : ∀ (off : Nat) (rows : List (List V)),
    (∀ i r, rows[i]? = some r → r.length = sz ∧ rdCells w D X b (off + i * sz) r) → rdRows w D X b sz off rows
  | _, [], _ => by simp [rdRows]
  | off, r :: rows, h => by
    simp only [rdRows]
    have h0 := h 0 r rfl
    refine ⟨h0.1, by simpa using h0.2, rdRows_of (off + sz) rows fun i r' hi => ?_⟩
    have := h (i + 1) r' (by simpa using hi)
    rwa [show off + (i + 1) * sz = off + sz + i * sz by rw [Nat.succ_mul]; omega] at this
theorem rdCells_of_rdL {w : World} {D : DM} {X : Nat → Prop} {b : Nat} : ∀ (off : Nat) (vs : List V) (cs : List Value), rdL w D X vs cs → (∀ x ∈ vs, x.leaf = true) →
    (∀ i, i < cs.length → w.cell? ⟨b, off + i, none⟩ = cs[i]?) → rdCells w D X b off vs
  | _, [], _, _, _, _ => by simp [rdCells]
  | off, v :: vs, cs, h, hl, hc => by
    simp only [rdL] at h
    obtain ⟨y, ys, rfl, h1, h2⟩ := h
    simp only [rdCells]
    refine ⟨hl v (by simp), ⟨y, by simpa using hc 0 (by simp), h1⟩, rdCells_of_rdL (off + 1) vs ys h2 (fun x hx => hl x (by simp [hx])) fun i hi => ?_⟩
    have := hc (i + 1) (by simpa using hi)
    rw [show off + 1 + i = off + (i + 1) by omega, this]
    simp
section
variable {H : Type} {enc : TypeId × Value → H} {P : Program} {w : World}
theorem shape_rd : ∀ (n : Nat) {t : TypeId} {L : List Lf} {fuel : Nat} {cs : List Value} {x : DataW H × List MemPlace}, shapeOf P n t = some L →
    DataW.trod enc P w 0 (fun _ => true) true fuel t cs = some x → ∃ vs, MtL L vs ∧ rdL w DM.none (fun _ => False) vs cs
  | 0, t, L, fuel, cs, x, h, _ => by simp [shapeOf] at h
  | n + 1, t, L, fuel, cs, x, h, hx => by
    cases fuel with
    | zero => simp [DataW.trod] at hx
    | succ fuel =>
    simp only [shapeOf] at h
    split at h
    · rename_i k hu
      simp only [Option.some.injEq] at h; subst h
      obtain ⟨m, rfl, _, hw⟩ := DataW.trod_int hu hx
      exact ⟨[.int k m], by simp [MtL, Mt, hw], by simp [rdL, rd]⟩
    · rename_i hu
      simp only [Option.some.injEq] at h; subst h
      rw [DataW.trod_step] at hx
      unfold DataW.trodStep at hx
      rw [hu] at hx
      split at hx <;> simp_all
      rename_i b
      exact ⟨[.bool b], by simp [MtL, Mt], by simp [rdL, rd]⟩
    · rename_i hu
      simp only [Option.some.injEq] at h; subst h
      rw [DataW.trod_step] at hx
      unfold DataW.trodStep at hx
      rw [hu] at hx
      split at hx <;> simp_all
      rename_i s
      exact ⟨[.str s.data.toList], by simp [MtL, Mt]; exact hx.1, by simp [rdL, rd]⟩
    · rename_i e hu
      split at h <;> first | (cases h; done) | skip
      rename_i r hr
      split at h <;> first | (cases h; done) | skip
      rename_i hsz
      simp only [Option.some.injEq] at h; subst h
      rcases DataW.trod_slice hu hx with ⟨rfl, _⟩ | ⟨a, len, cap, elems, rest, m, _, rfl, _, hb, hl, hm, hlen, hel, _, _⟩
      · exact ⟨[.sl r.length []], by simp [MtL, Mt], by simp only [rdL, rd]; exact ⟨_, [], rfl, ⟨none, 0, rfl, Nat.le_refl _, .inl (by trivial)⟩, rfl⟩⟩
      · have hel' : ∀ i, i < len → ∃ cs', w.cells? 0 (a.add (i * P.cellsOf e)) (P.cellsOf e) = some cs' ∧ ∃ vs, MtL r vs ∧ rdL w DM.none (fun _ => False) vs cs' := by
          intro i hi
          have h1 := hel i hi
          have h2 : elems[i]? = some (elems[i]'(by omega)) := List.getElem?_eq_getElem (by omega)
          rw [h2, Option.bind_eq_some_iff] at h1
          obtain ⟨cs', k1, k2⟩ := h1
          exact ⟨cs', k1, shape_rd n hr k2⟩
        have hch : ∀ i, ∃ p : List Value × List V, i < len → w.cells? 0 (a.add (i * P.cellsOf e)) (P.cellsOf e) = some p.1 ∧ MtL r p.2 ∧ rdL w DM.none (fun _ => False) p.2 p.1 := by
          intro i
          by_cases hi : i < len
          · obtain ⟨cs', k1, vs, k2, k3⟩ := hel' i hi
            exact ⟨(cs', vs), fun _ => ⟨k1, k2, k3⟩⟩
          · exact ⟨([], []), fun h => absurd h hi⟩
        obtain ⟨f, hf⟩ := Classical.axiomOfChoice hch
        have hrow : ∀ i vs, ((List.range len).map fun i => (f i).2)[i]? = some vs → i < len ∧ vs = (f i).2 := by
          intro i vs hi
          rw [List.getElem?_map, Option.map_eq_some_iff] at hi
          obtain ⟨j, h1, h2⟩ := hi
          obtain ⟨h3, h4⟩ := List.getElem?_eq_some_iff.1 h1
          rw [List.getElem_range] at h4
          subst h4
          exact ⟨by simpa using h3, h2.symm⟩
        refine ⟨[.sl r.length ((List.range len).map fun i => (f i).2)], ?_, ?_⟩
        · simp only [MtL, Mt]
          refine ⟨_, [], rfl, ⟨_, rfl, by simp; exact Nat.le_trans hl hm, fun rr hrr => ?_⟩, rfl⟩
          obtain ⟨i, hi⟩ := List.mem_iff_getElem?.1 hrr
          obtain ⟨h1, rfl⟩ := hrow i rr hi
          exact (hf i h1).2.1
        · simp only [rdL, rd]
          refine ⟨_, [], rfl, ⟨some a, cap, by simp, by simpa using hl, ?_⟩, rfl⟩
          by_cases h0 : len = 0
          · left; subst h0; rfl
          · right
            obtain ⟨b, off, spot⟩ := a
            have hspot : spot = none := by
              obtain ⟨_, _, hc⟩ := World.cells?_some (hf 0 (by omega)).1
              have hlen0 := (World.cells?_some (hf 0 (by omega)).1).2.1
              have hc0 := hc 0 (by omega)
              have hlt0 : 0 < (f 0).1.length := by omega
              rw [List.getElem?_eq_getElem hlt0] at hc0
              simpa [Addr.add] using World.cell?_spot hc0
            subst hspot
            have hb' : b < w.heap.size := by
              have := World.cells?_block (hf 0 (by omega)).1 (by omega)
              simpa [Addr.add] using this
            refine ⟨b, off, rfl, hb', fun h => h, rdRows_of _ _ fun i rr hi => ?_⟩
            obtain ⟨h1, rfl⟩ := hrow i rr hi
            obtain ⟨g1, g2, g3⟩ := hf i h1
            obtain ⟨_, hl2, hc⟩ := World.cells?_some g1
            refine ⟨mtL_len g2, rdCells_of_rdL _ _ _ g3 (mtL_leaf g2) fun j hj => ?_⟩
            have := hc j (by omega)
            rw [← this, hsz.1]
            congr 1
            simp only [addr_add]
    · rename_i fs hu
      split at h <;> first | (cases h; done) | skip
      rename_i r hr
      split at h <;> first | (cases h; done) | skip
      rename_i hsz
      simp only [Option.some.injEq] at h; subst h
      rw [DataW.trod_step] at hx
      unfold DataW.trodStep at hx
      rw [hu] at hx
      simp only [] at hx
      split at hx <;> first | (cases hx; done) | skip
      rename_i hlen
      rw [Option.map_eq_some_iff] at hx
      obtain ⟨xs, hxs, _⟩ := hx
      have key : ∀ (fl : List Field) (off : Nat) (r : List Lf) (xs : List (DataW H × List MemPlace)), shFs P (shapeOf P n) fl off = some r →
          (fl.mapM fun f => DataW.trod enc P w 0 (fun _ => true) true fuel f.type ((cs.drop f.offset).take (P.cellsOf f.type))) = some xs →
          ∃ vs, MtL r vs ∧ rdL w DM.none (fun _ => False) vs ((cs.drop off).take r.length) := by
        intro fl
        induction fl with
        | nil =>
          intro off r xs h _
          simp only [shFs, Option.some.injEq] at h; subst h
          exact ⟨[], by simp [MtL], by simp [rdL]⟩
        | cons f fl ih =>
          intro off r xs h hm
          simp only [shFs] at h
          split at h <;> first | (cases h; done) | skip
          rename_i r1 rs h1 h2
          split at h <;> first | (cases h; done) | skip
          rename_i hc
          simp only [Option.some.injEq] at h; subst h
          simp only [List.mapM_cons, Option.pure_def, Option.bind_eq_bind, Option.bind_eq_some_iff, Option.some.injEq] at hm
          obtain ⟨y, hy, ys, hys, rfl⟩ := hm
          obtain ⟨v1, a1, a2⟩ := shape_rd n h1 hy
          obtain ⟨v2, b1, b2⟩ := ih _ rs ys h2 hys
          refine ⟨v1 ++ v2, mtL_append a1 b1, ?_⟩
          have e : (cs.drop off).take (r1 ++ rs).length = (cs.drop off).take r1.length ++ (cs.drop (off + P.cellsOf f.type)).take rs.length := by
            rw [List.length_append, List.take_add, List.drop_drop, hc.2]
          rw [e]
          rw [hc.1, ← hc.2] at a2
          exact rdL_append _ _ _ _ a2 b2
      obtain ⟨vs, a1, a2⟩ := key fs.toList 0 r xs hr hxs
      refine ⟨vs, a1, ?_⟩
      rw [List.drop_zero, List.take_of_length_le (by omega)] at a2
      exact a2
    · cases h
theorem shape_in (n : Nat) {t : TypeId} {L : List Lf} {v : Value} {d : DataW H} {ps : List MemPlace} (hs : shapeOf P n t = some L) (h : DataW.Trod enc P w 0 (fun _ => true) true t v d ps) :
    ∃ vs, MtL L vs ∧ rdL w DM.none (fun _ => False) vs v.cells.toList := by
  obtain ⟨fuel, hf⟩ := h
  exact shape_rd n hs hf
end
end Go.Ml
namespace Go.Ml
open Go.ChangeShapes Go.WideShapes Go.ChangeAt Go.RowKit
def argV (g : Bool) (vs : List V) : V := if g = true then .agg vs else vs.headD .any
def ArgsMt : List (Bool × List Lf) → List V → Prop
  | [], vs => vs = []
  | s :: ss, vs => ∃ cs rest, vs = argV s.1 cs :: rest ∧ MtL s.2 cs ∧ ArgsMt ss rest
def argOk (P : Program) (t : TypeId) (s : Bool × List Lf) : Bool :=
  match P.underlying t with
  | some (.struct _) => s.1
  | some (.int _) | some .bool | some .string | some (.slice _) => !s.1
  | _ => false
def argsOk (P : Program) : List TypeId → List (Bool × List Lf) → Prop
  | [], ss => ss = []
  | t :: ts, ss => ∃ s rest, ss = s :: rest ∧ shapeOf P 20 t = some s.2 ∧ argOk P t s = true ∧ argsOk P ts rest
theorem args_in {H : Type} {enc : TypeId × Value → H} {P : Program} {w : World} {r : Reach} {b : Nat} : ∀ {ts : List TypeId} {ss : List (Bool × List Lf)} {vs : List Value} {ds : List (DataW H)} {ps : List MemPlace},
    argsOk P ts ss → (∀ (j : Nat) t v, ts[j]? = some t → vs[j]? = some v → Value.okWide P w r b t v) → DataW.TrodAll enc P w 0 (fun _ => true) true ts vs ds ps →
    ∃ Vs, ArgsMt ss Vs ∧ rdL w DM.none (fun _ => False) Vs vs
  | [], ss, [], ds, ps, h, _, _ => by simp only [argsOk] at h; subst h; exact ⟨[], rfl, by simp [rdL]⟩
  | [], _, _ :: _, ds, ps, _, _, ht => by cases ds <;> exact ht.elim
  | _ :: _, _, [], ds, ps, _, _, ht => by cases ds <;> exact ht.elim
  | t :: ts, ss, v :: vs, [], ps, _, _, ht => ht.elim
  | t :: ts, ss, v :: vs, d :: ds, ps, h, hw, ht => by
    simp only [argsOk] at h
    obtain ⟨s, rest, rfl, h1, h2, h3⟩ := h
    obtain ⟨p, q, k1, k2, _⟩ := ht
    obtain ⟨Vs, a1, a2⟩ := args_in h3 (fun j t' v' hj hv => hw (j + 1) t' v' (by simpa using hj) (by simpa using hv)) k2
    obtain ⟨cs, c1, c2⟩ := shape_in 20 h1 k1
    have hok := hw 0 t v rfl rfl
    refine ⟨argV s.1 cs :: Vs, ⟨cs, Vs, rfl, c1, a1⟩, ?_⟩
    simp only [rdL]
    refine ⟨v, vs, rfl, ?_, a2⟩
    unfold argOk at h2
    have one : (∀ cs', v ≠ .agg cs') → s.1 = false → s.2.length = 1 → rd w DM.none (fun _ => False) (argV s.1 cs) v := by
      intro hv hs hl
      have hvc : v.cells.toList = [v] := by cases v <;> first | rfl | (exact absurd rfl (hv _))
      rw [hvc] at c2
      have := mtL_len c1
      rw [hl] at this
      cases cs with
      | nil => simp at this
      | cons x xs =>
        simp only [rdL] at c2
        obtain ⟨y, ys, e, e2, _⟩ := c2
        simp only [List.cons.injEq] at e
        rw [hs]
        simp only [argV, Bool.false_eq_true, if_false, List.headD_cons]
        rw [e.1]; exact e2
    unfold shapeOf at h1
    split at h2
    · rename_i fs hu
      rw [h2]
      simp only [Value.okWide, hu] at hok
      obtain ⟨cs', rfl, _⟩ := hok
      simp only [argV, if_true, rd]
      exact ⟨cs', rfl, c2⟩
    · rename_i k hu
      rw [hu] at h1
      simp only [Option.some.injEq] at h1
      obtain ⟨n, rfl⟩ := okWide_int hu hok
      exact one (by intro cs' e; cases e) (by simpa using h2) (by rw [← h1]; rfl)
    · rename_i hu
      rw [hu] at h1
      simp only [Option.some.injEq] at h1
      obtain ⟨n, rfl⟩ := okWide_bool hu hok
      exact one (by intro cs' e; cases e) (by simpa using h2) (by rw [← h1]; rfl)
    · rename_i hu
      rw [hu] at h1
      simp only [Option.some.injEq] at h1
      obtain ⟨n, rfl⟩ := okWide_string hu hok
      exact one (by intro cs' e; cases e) (by simpa using h2) (by rw [← h1]; rfl)
    · rename_i e hu
      rw [hu] at h1
      simp only [] at h1
      obtain ⟨a0, l0, c0, rfl⟩ := okWide_slice hu hok
      refine one (by intro cs' e; cases e) (by simpa using h2) ?_
      split at h1 <;> first | (cases h1; done) | skip
      split at h1 <;> first | (cases h1; done) | skip
      simp only [Option.some.injEq] at h1
      rw [← h1]; rfl
    · cases h2
theorem trodAll_below {H : Type} {enc : TypeId × Value → H} {P : Program} (hl : laidOutB P = true) {W W' : World} (hb : Below W.heap.size W W') : ∀ {ts : List TypeId} {vs : List Value} {ds : List (DataW H)} {ps : List MemPlace},
    (ts.all fun t => P.readableRec t && decide (t < P.types.size)) = true → DataW.TrodAll enc P W 0 (fun _ => true) true ts vs ds ps → (∀ x ∈ ps, x.block < W.heap.size) →
    DataW.TrodAll enc P W' 0 (fun b => decide (b < W.heap.size)) true ts vs ds ps
  | [], [], [], ps, _, h, _ => h
  | [], _ :: _, ds, ps, _, ht, _ => by cases ds <;> exact ht.elim
  | [], [], _ :: _, ps, _, ht, _ => ht.elim
  | _ :: _, [], ds, ps, _, ht, _ => by cases ds <;> exact ht.elim
  | t :: ts, v :: vs, [], ps, _, ht, _ => ht.elim
  | t :: ts, v :: vs, d :: ds, ps, h, ht, hlt => by
    simp only [List.all_cons, Bool.and_eq_true, decide_eq_true_eq] at h
    obtain ⟨p, q, k1, k2, rfl⟩ := ht
    exact ⟨p, q, Below.trod hl h.1.1 h.1.2 k1 hb fun x hx => hlt x (by simp [hx]), trodAll_below hl hb (by simpa using h.2) k2 fun x hx => hlt x (by simp [hx]), rfl⟩
end Go.Ml
end
section
set_option linter.unusedSimpArgs false
set_option linter.unusedVariables false
namespace Go.Ml
theorem dec_list {α : Type} {row : List Lf} {f : α → List V} {W : α → Prop} (h : ∀ r, MtL row r → ∃ x, r = f x ∧ W x) {v : V} (hv : Mt (.sl row) v) : ∃ l : List α, v = .sl row.length (l.map f) ∧ wfL W l := by
  simp only [Mt] at hv
  obtain ⟨rows, rfl, hl, hr⟩ := hv
  have key : ∀ rows : List (List V), (∀ r ∈ rows, MtL row r) → ∃ l : List α, rows = l.map f ∧ ∀ x ∈ l, W x := by
    intro rows
    induction rows with
    | nil => intro _; exact ⟨[], rfl, by simp⟩
    | cons r rows ih =>
      intro hr
      obtain ⟨x, rfl, hx⟩ := h r (hr r (by simp))
      obtain ⟨l, rfl, hl⟩ := ih fun r hr' => hr r (by simp [hr'])
      exact ⟨x :: l, rfl, by simpa using ⟨hx, hl⟩⟩
  obtain ⟨l, rfl, hw⟩ := key rows hr
  exact ⟨l, rfl, by simpa [maxLen] using hl, hw⟩
theorem dec_intv {v : V} (h : Mt (.int .i64) v) : ∃ n, v = iv n ∧ (Lit.int .i64 n).wf = true := by simpa only [Mt] using h
theorem dec_bool {v : V} (h : Mt .bool v) : ∃ b, v = .bool b := by simpa only [Mt] using h
theorem dec_one {l : Lf} {r : List V} (h : MtL [l] r) : ∃ v, r = [v] ∧ Mt l v := by
  simp only [MtL] at h
  obtain ⟨v, vs, rfl, h1, rfl⟩ := h
  exact ⟨v, rfl, h1⟩
abbrev shI : Lf := .sl [.int .i64]
abbrev shR : List Lf := [.bool, shI, shI]
theorem dec_ints {v : V} (h : Mt shI v) : ∃ l : List Int, v = ints l ∧ l.length ≤ 9223372036854775807 := by
  obtain ⟨l, rfl, hl⟩ := dec_list (f := fun n => [iv n]) (W := fun _ => True) (fun r hr => by
    obtain ⟨v, rfl, g⟩ := dec_one hr
    obtain ⟨n, rfl, _⟩ := dec_intv g
    exact ⟨n, rfl, trivial⟩) h
  exact ⟨l, rfl, hl.1⟩
theorem dec_R {vs : List V} (h : MtL shR vs) : ∃ r : R, vs = r.cells ∧ r.wf := by
  simp only [MtL] at h
  obtain ⟨v1, _, rfl, h1, v2, _, rfl, h2, v3, _, rfl, h3, rfl⟩ := h
  obtain ⟨b, rfl⟩ := dec_bool h1
  obtain ⟨m, rfl, hm⟩ := dec_ints h2
  obtain ⟨d, rfl, hd⟩ := dec_ints h3
  exact ⟨⟨b, m, d⟩, rfl, hm, hd⟩
theorem dec_Rs {v : V} (h : Mt (.sl shR) v) : ∃ l, v = ratsV l ∧ wfL R.wf l := dec_list (fun _ hr => dec_R hr) h
theorem dec_Rss {v : V} (h : Mt (.sl [.sl shR]) v) : ∃ l, v = ratssV l ∧ wfL (wfL R.wf) l := dec_list (fun r hr => by
  obtain ⟨v, rfl, h⟩ := dec_one hr
  obtain ⟨l, rfl, hl⟩ := dec_Rs h
  exact ⟨l, rfl, hl⟩) h
def AllP {α : Type} (P : α → Prop) : List α → Prop
  | [] => True
  | x :: l => P x ∧ AllP P l
theorem AllP.mem {α : Type} {P : α → Prop} : ∀ {l : List α}, AllP P l → ∀ x ∈ l, P x
  | [], _, x, hx => by cases hx
  | y :: l, h, x, hx => by
    rcases List.mem_cons.1 hx with rfl | hx
    · exact h.1
    · exact AllP.mem h.2 x hx
end Go.Ml
namespace Go.Ml
theorem trod_len {H : Type} {enc : TypeId × Value → H} {P : Program} {w : World} {b : Nat} {sp : Nat → Bool} {hd : Bool} : ∀ {ts : List TypeId} {vs : List Value} {ds : List (DataW H)} {ps : List MemPlace},
    DataW.TrodAll enc P w b sp hd ts vs ds ps → ds.length = ts.length
  | [], [], [], _, _ => rfl
  | [], [], _ :: _, _, h => h.elim
  | [], _ :: _, ds, _, h => by cases ds <;> exact h.elim
  | _ :: _, [], ds, _, h => by cases ds <;> exact h.elim
  | _ :: _, _ :: _, [], _, h => h.elim
  | t :: ts, v :: vs, d :: ds, ps, h => by
    obtain ⟨p, q, _, h2, _⟩ := h
    simp [trod_len h2]
end Go.Ml
end
