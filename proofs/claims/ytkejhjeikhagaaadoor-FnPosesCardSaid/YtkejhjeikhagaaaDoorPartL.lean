/- Functions of the library, met by their contracts. -/
import Derived.Test.YtkejhjeikhagaaaDoorPart2
import Derived.Shelf.Strconv.Itoa3
import Derived.Shelf.Strconv.AtoiAll
import Derived.Shelf.Strings.OnBuilder
import Derived.Shelf.Strings.Repeat
import Derived.Lib.LaidTab
section
set_option linter.unusedSimpArgs false
set_option linter.unusedVariables false
namespace Go.Ml
open Go.Sort Go.Shelf
theorem tabIs_of [Base] {P : Program} {w : World} {X : Nat → Prop} {nm : String} {k : IntKind} {zs : List Int} (h : Tab w X) (ht : Lib.TabIs P Base.w0 nm k zs) : Lib.TabIs P w nm k zs := by
  unfold Lib.TabIs World.var? at *
  cases hg : P.globalNamed nm with
  | none => rw [hg] at ht; cases ht
  | some g =>
    rw [hg] at ht
    simp only [Option.bind_some] at ht ⊢
    have hb : g < Base.w0.heap.size := by
      rcases Nat.lt_or_ge g Base.w0.heap.size with k | k
      · exact k
      · rw [Array.getElem?_eq_none k] at ht; cases ht
    rw [(h g hb).2.2]; exact ht
theorem tab_vars {P : Program} {W : World} {name : String} {k : IntKind} {zs : List Int} {g : Nat} {t e : TypeId} {n : Nat} (hg : P.globalNamed name = some g) (hty : (P.globals[g]?).map (·.type) = some t)
    (ht : P.underlying t = some (.array n e)) (he : P.underlying e = some (.int k)) (hce : P.cellsOf e = 1) (hct : P.cellsOf t = n) : ∀ {l : List (String × DataW Unit)} {ps : List MemPlace}, DataW.LaidVars P W l ps → (name, Lib.tabData k zs) ∈ l → Lib.TabIs P W name k zs
  | [], _, _, hm => by cases hm
  | (n', d') :: l, ps, hv, hm => by
    obtain ⟨g', t', cs, fuel, p, q, h1, h2, h3, h4, h5, _⟩ := hv
    rcases List.mem_cons.1 hm with e1 | e1
    · cases e1
      obtain rfl := Option.some.inj (hg.symm.trans h1)
      obtain rfl := Option.some.inj (hty.symm.trans h2)
      unfold Lib.TabIs
      rw [h3, ← Lib.cells_of_tab ht he hce hct h4]
    · exact tab_vars hg hty ht he hce hct h5 e1
theorem tab_of {P : Program} {W : World} {name : String} {k : IntKind} {zs : List Int} {g : Nat} {t e : TypeId} {n : Nat} (hg : P.globalNamed name = some g) (hty : (P.globals[g]?).map (·.type) = some t)
    (ht : P.underlying t = some (.array n e)) (he : P.underlying e = some (.int k)) (hce : P.cellsOf e = 1) (hct : P.cellsOf t = n) {l : List (String × DataW Unit)} (h : laidMet P l W) (hm : (name, Lib.tabData k zs) ∈ l) : Lib.TabIs P W name k zs :=
  let ⟨_, hv, _⟩ := h
  tab_vars hg hty ht he hce hct hv hm
theorem post_below [Base] {w w' : World} {D : DM} {M : Nat → Prop} {σ : Store} {r : V} {v : Value} (hS : SRel w D M σ) (hb : RowKit.Below w.heap.size w w') (hr : ∀ w D X, rd w D X r v) : Post M D w σ.length r σ (.returned v) w' := by
  have hD : D.kill [] = D := by funext q; unfold DM.kill; simp
  have hk : killAll σ [] = σ := rfl
  have k1 := (hS.killed [] hb.size (fun b h => hb.block b h)).1
  rw [hD, hk] at k1
  exact ⟨v, D, rfl, hr _ _ _, k1, ⟨hb.size, hb.os, hb.tape, hb.output, fun b h _ => hb.block b h⟩, fun o d h => .inl ⟨o, d, h, rfl⟩, fun o _ => DSle.refl _⟩
theorem below_grow (w : World) (k : Nat) (os : Array _root_.Go.Obj) : RowKit.Below w.heap.size w (Go.Sort.grow (w.drewN k) os) := by
  refine ⟨rfl, rfl, rfl, ?_, fun b hb => ?_⟩
  · unfold Go.Sort.grow; simp [World.drewN]
  · unfold Go.Sort.grow; exact Array.getElem?_append_left hb
theorem arg1 {w : World} {D : DM} {X : Nat → Prop} {x : V} {vals : Array Value} (h : rdL w D X [x] vals.toList) : ∃ y, vals = #[y] ∧ rd w D X x y := by
  simp only [rdL] at h
  obtain ⟨y, ys, e, h1, rfl⟩ := h
  exact ⟨y, by rw [← Array.toArray_toList (xs := vals), e], h1⟩
theorem outOk_itoa [Base] {P : Program} {ρ : Ren} (L : Proofs.LaysM.n171 P ρ) (ht : Lib.TabIs P Base.w0 "internal/strconv.uint64pow10" .u64 Lib.pow10Tab) : OutOk P (ρ.f 171) .itoa := by
  intro args σ r σ' h w M D vals hv hS
  obtain ⟨n, rfl, h0, h1, rfl, rfl⟩ := h
  obtain ⟨y, rfl, hy⟩ := arg1 hv
  simp only [rd] at hy
  subst hy
  refine (Proofs.Any.strconv_Itoa L n h0 h1 w (tabIs_of hS.tab ht)).mono ?_
  rintro e w' ⟨rfl, k, os, rfl⟩
  exact post_below hS (below_grow w k os) fun _ _ _ => by simp only [rd]
end Go.Ml
end
section
set_option linter.unusedSimpArgs false
set_option linter.unusedVariables false
namespace Go.Ml
open Go.Lib
theorem pu_snoc : ∀ (l : List UInt8) (acc a : Nat) (c : UInt8), parseUint10 acc l = .ok a → parseUint10 acc (l ++ [c]) = parseUint10 a [c]
  | [], acc, a, c, h => by
    have e : acc = a := by simpa only [parseUint10, NumEnd.ok.injEq] using h
    rw [e]; rfl
  | b :: l, acc, a, c, h => by
    simp only [parseUint10] at h
    split at h
    · rename_i h1
      split at h
      · cases h
      · rename_i h2
        split at h
        · cases h
        · rename_i h3
          have e : parseUint10 acc (b :: (l ++ [c])) = parseUint10 (acc * 10 + (b.toNat - 48)) (l ++ [c]) := by
            rw [parseUint10, if_pos h1, if_neg h2, if_neg h3]
          rw [List.cons_append, e]
          exact pu_snoc l _ a c h
    · cases h
theorem pu_one {a d : Nat} (hd : d < 10) (h : a * 10 + d < 18446744073709551616) : parseUint10 a [UInt8.ofNat (48 + d)] = .ok (a * 10 + d) := by
  have e : (UInt8.ofNat (48 + d)).toNat = 48 + d := by rw [UInt8.toNat_ofNat']; omega
  simp only [parseUint10, e]
  rw [if_pos (by omega), if_neg (by omega), if_neg (by omega), show a * 10 + (48 + d - 48) = a * 10 + d by omega]
theorem pu_dig (u : Nat) : u < 18446744073709551616 → parseUint10 0 (decDigits u) = .ok u := by
  induction u using Nat.strongRecOn with
  | _ u ih =>
    intro h
    by_cases hu : u < 10
    · rw [dD_lt hu, pu_one (a := 0) hu (by omega)]; simp
    · rw [dD_ge hu, pu_snoc _ _ _ _ (ih (u / 10) (by omega) (by omega)), pu_one (by omega) (by omega), show u / 10 * 10 + u % 10 = u by omega]
theorem atoi_itoa {n : Int} (h0 : -9223372036854775808 ≤ n) (h1 : n ≤ 9223372036854775807) : atoiAll (itoa n) = .ok n := by
  have mag : ∀ u, u < 18446744073709551616 → parseMag (decDigits u) = .ok u := fun u hu => by
    unfold parseMag
    rw [if_neg (fun e => by have := dD_pos u; rw [e] at this; simp at this), pu_dig u hu]
  by_cases hn : n < 0
  · obtain ⟨u, rfl⟩ : ∃ u : Nat, n = -(u : Int) := ⟨n.natAbs, by omega⟩
    rw [it_neg (by omega)]
    unfold atoiAll
    have hu : ¬ (9223372036854775808 < u) := by omega
    simp [show (45 : UInt8).toNat = 45 from rfl, mag u (by omega), hu]
  · obtain ⟨u, rfl⟩ : ∃ u : Nat, n = (u : Int) := ⟨n.natAbs, by omega⟩
    rw [it_nat]
    have hm := mag u (by omega)
    have hd := dD_dig 19 u (by omega)
    cases hl : decDigits u with
    | nil => have := dD_pos u; rw [hl] at this; simp at this
    | cons c r =>
      rw [hl] at hm hd
      have hc := hd c (by simp)
      unfold atoiAll
      simp only []
      rw [if_neg (by omega), hm]
      simp only []
      rw [if_neg (by omega), if_neg (by omega), if_neg (by omega)]
theorem itoa_inj {n m : Int} (h0 : -9223372036854775808 ≤ n) (h1 : n ≤ 9223372036854775807) (k0 : -9223372036854775808 ≤ m) (k1 : m ≤ 9223372036854775807) (e : itoa n = itoa m) : n = m := by
  have := atoi_itoa h0 h1
  rw [e, atoi_itoa k0 k1] at this
  injection this with this
  exact this.symm
def PI (s : List UInt8) (v : Int) (ok : Bool) : Prop := (ok = true ∧ -9223372036854775808 ≤ v ∧ v ≤ 9223372036854775807 ∧ s = itoa v) ∨
  (ok = false ∧ v = 0 ∧ ∀ n : Int, -9223372036854775808 ≤ n → n ≤ 9223372036854775807 → s ≠ itoa n)
theorem err_vars {P : Program} {W : World} {name nm : String} {d : DataW Unit} {g : Nat} {t : TypeId} {ms : Array (String × TypeId)} (hg : P.globalNamed name = some g) (hty : (P.globals[g]?).map (·.type) = some t)
    (ht : P.underlying t = some (.interface ms)) : ∀ {l : List (String × DataW Unit)} {ps : List MemPlace}, DataW.LaidVars P W l ps → (name, DataW.iface nm d) ∈ l → ∃ u v, W.cell? ⟨g, 0, none⟩ = some (.iface u v)
  | [], _, _, hm => by cases hm
  | (n', d') :: l, ps, hv, hm => by
    obtain ⟨g', t', cs, fuel, p, q, h1, h2, h3, h4, h5, _⟩ := hv
    rcases List.mem_cons.1 hm with e1 | e1
    · cases e1
      obtain rfl := Option.some.inj (hg.symm.trans h1)
      obtain rfl := Option.some.inj (hty.symm.trans h2)
      obtain ⟨_, u, v, e, _, _⟩ := iface_of_trod ht h4
      refine ⟨u, v, ?_⟩
      rw [World.var?_cell hg h3 0]
      obtain ⟨cs⟩ := cs
      simp only [] at e
      subst e
      rfl
    · exact err_vars hg hty ht h5 e1
theorem cell_of [Base] {w : World} {X : Nat → Prop} {g : Nat} {v : Value} (h : Tab w X) (hc : Base.w0.cell? ⟨g, 0, none⟩ = some v) : w.cell? ⟨g, 0, none⟩ = some v := by
  have hb : g < Base.w0.heap.size := by
    rcases Nat.lt_or_ge g Base.w0.heap.size with k | k
    · exact k
    · have e : Base.w0.heap[g]? = none := Array.getElem?_eq_none k
      simp [World.cell?, e] at hc
  rw [← hc]
  simp only [World.cell?, (h g hb).2.2]
theorem tab_below {P : Program} {w w' : World} {nm : String} {k : IntKind} {zs : List Int} (h : RowKit.Below w.heap.size w w') (ht : Lib.TabIs P w nm k zs) : Lib.TabIs P w' nm k zs := by
  unfold Lib.TabIs World.var? at *
  cases hg : P.globalNamed nm with
  | none => rw [hg] at ht; cases ht
  | some g =>
    rw [hg] at ht
    simp only [Option.bind_some] at ht ⊢
    have hb : g < w.heap.size := by
      rcases Nat.lt_or_ge g w.heap.size with k | k
      · exact k
      · rw [Array.getElem?_eq_none k] at ht; cases ht
    rw [h.block g hb]; exact ht
theorem outOk_parse [Base] {P : Program} {fid g0 g1 : Nat} {v0 v1 : Value} (ht : Lib.TabIs P Base.w0 "internal/strconv.uint64pow10" .u64 Lib.pow10Tab) (h0 : Base.w0.cell? ⟨g0, 0, none⟩ = some v0)
    (h1 : Base.w0.cell? ⟨g1, 0, none⟩ = some v1) (H : ∀ (s : ByteArray) (w : World), s.size ≤ 140737488355328 → Lib.TabIs P w "internal/strconv.uint64pow10" .u64 Lib.pow10Tab → w.cell? ⟨g0, 0, none⟩ = some v0 →
      w.cell? ⟨g1, 0, none⟩ = some v1 → Calls P fid #[.string s] w fun e w' => ∃ v ok, e = .returned (.tuple #[.int .i64 v, .bool ok]) ∧ RowKit.Below w.heap.size w w' ∧ PI s.data.toList v ok) : OutOk P fid .parseI := by
  intro args σ r σ' h w M D vals hv hS
  obtain ⟨s, rfl, hl, rfl, hr⟩ := h
  obtain ⟨y, rfl, hy⟩ := arg1 hv
  simp only [rd] at hy
  subst hy
  refine (H ⟨s.toArray⟩ w (by simpa [ByteArray.size] using hl) (tabIs_of hS.tab ht) (cell_of hS.tab h0) (cell_of hS.tab h1)).mono ?_
  rintro e w' ⟨v, ok, rfl, hb, hp⟩
  simp only [] at hp
  have er : r = .tup [.int .i64 v, .bool ok] := by
    rcases hr with ⟨n, k0, k1, e, rfl⟩ | ⟨hno, rfl⟩ <;> rcases hp with ⟨rfl, j0, j1, e'⟩ | ⟨rfl, rfl, hno'⟩
    · rw [itoa_inj k0 k1 j0 j1 (e.symm.trans e')]
    · exact absurd e (hno' n k0 k1)
    · exact absurd e' (hno v j0 j1)
    · rfl
  rw [er]
  exact post_below hS hb fun w D X => by simp only [rd, rdL]; exact ⟨_, rfl, _, _, rfl, rfl, _, _, rfl, rfl, rfl⟩
end Go.Ml
end
