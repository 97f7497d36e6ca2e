/- Functions of the library, met by their contracts. -/
import Derived.Test.YtkejhjeikhagaaaDoorPart2
import Derived.Shelf.Strconv.Itoa3
import Derived.Shelf.Strconv.AtoiAll
import Derived.Shelf.Strings.OnBuilder
import Derived.Shelf.Strings.Repeat
import Derived.Lib.LaidTab
section
set_option linter.unusedSimpArgs false
set_option linter.unusedVariables false
namespace Go.Ml
open Go.Sort Go.Shelf
theorem tabIs_of [Base] {P : Program} {w : World} {X : Nat → Prop} {nm : String} {k : IntKind} {zs : List Int} (h : Tab w X) (ht : Lib.TabIs P Base.w0 nm k zs) : Lib.TabIs P w nm k zs := by
  unfold Lib.TabIs World.var? at *
  cases hg : P.globalNamed nm with
  | none => rw [hg] at ht; cases ht
  | some g =>
    rw [hg] at ht
    simp only [Option.bind_some] at ht ⊢
    have hb : g < Base.w0.heap.size := by
      rcases Nat.lt_or_ge g Base.w0.heap.size with k | k
      · exact k
      · rw [Array.getElem?_eq_none k] at ht; cases ht
    rw [(h g hb).2.2]; exact ht
theorem tab_vars {P : Program} {W : World} {name : String} {k : IntKind} {zs : List Int} {g : Nat} {t e : TypeId} {n : Nat} (hg : P.globalNamed name = some g) (hty : (P.globals[g]?).map (·.type) = some t)
    (ht : P.underlying t = some (.array n e)) (he : P.underlying e = some (.int k)) (hce : P.cellsOf e = 1) (hct : P.cellsOf t = n) : ∀ {l : List (String × DataW Unit)} {ps : List MemPlace}, DataW.LaidVars P W l ps → (name, Lib.tabData k zs) ∈ l → Lib.TabIs P W name k zs
  | [], _, _, hm => by cases hm
  | (n', d') :: l, ps, hv, hm => by
    obtain ⟨g', t', cs, fuel, p, q, h1, h2, h3, h4, h5, _⟩ := hv
    rcases List.mem_cons.1 hm with e1 | e1
    · cases e1
      obtain rfl := Option.some.inj (hg.symm.trans h1)
      obtain rfl := Option.some.inj (hty.symm.trans h2)
      unfold Lib.TabIs
      rw [h3, ← Lib.cells_of_tab ht he hce hct h4]
    · exact tab_vars hg hty ht he hce hct h5 e1
theorem tab_of {P : Program} {W : World} {name : String} {k : IntKind} {zs : List Int} {g : Nat} {t e : TypeId} {n : Nat} (hg : P.globalNamed name = some g) (hty : (P.globals[g]?).map (·.type) = some t)
    (ht : P.underlying t = some (.array n e)) (he : P.underlying e = some (.int k)) (hce : P.cellsOf e = 1) (hct : P.cellsOf t = n) {l : List (String × DataW Unit)} (h : laidMet P l W) (hm : (name, Lib.tabData k zs) ∈ l) : Lib.TabIs P W name k zs :=
  let ⟨_, hv, _⟩ := h
  tab_vars hg hty ht he hce hct hv hm
theorem post_below [Base] {w w' : World} {D : DM} {M : Nat → Prop} {σ : Store} {r : V} {v : Value} (hS : SRel w D M σ) (hb : RowKit.Below w.heap.size w w') (hr : ∀ w D X, rd w D X r v) : Post M D w σ.length r σ (.returned v) w' := by
  have hD : D.kill [] = D := by funext q; unfold DM.kill; simp
  have hk : killAll σ [] = σ := rfl
  have k1 := (hS.killed [] hb.size (fun b h => hb.block b h)).1
  rw [hD, hk] at k1
  exact ⟨v, D, rfl, hr _ _ _, k1, ⟨hb.size, hb.os, hb.tape, hb.output, fun b h _ => hb.block b h⟩, fun o d h => .inl ⟨o, d, h, rfl⟩, fun o _ => DSle.refl _⟩
theorem below_grow (w : World) (k : Nat) (os : Array _root_.Go.Obj) : RowKit.Below w.heap.size w (Go.Sort.grow (w.drewN k) os) := by
  refine ⟨rfl, rfl, rfl, ?_, fun b hb => ?_⟩
  · unfold Go.Sort.grow; simp [World.drewN]
  · unfold Go.Sort.grow; exact Array.getElem?_append_left hb
theorem arg1 {w : World} {D : DM} {X : Nat → Prop} {x : V} {vals : Array Value} (h : rdL w D X [x] vals.toList) : ∃ y, vals = #[y] ∧ rd w D X x y := by
  simp only [rdL] at h
  obtain ⟨y, ys, e, h1, rfl⟩ := h
  exact ⟨y, by rw [← Array.toArray_toList (xs := vals), e], h1⟩
theorem arg2 {w : World} {D : DM} {X : Nat → Prop} {x x' : V} {vals : Array Value} (h : rdL w D X [x, x'] vals.toList) : ∃ y y', vals = #[y, y'] ∧ rd w D X x y ∧ rd w D X x' y' := by
  simp only [rdL] at h
  obtain ⟨y, ys, e, h1, y', ys', rfl, h2, rfl⟩ := h
  exact ⟨y, y', by rw [← Array.toArray_toList (xs := vals), e], h1, h2⟩
theorem outOk_itoa [Base] {P : Program} {ρ : Ren} (L : Proofs.LaysM.n171 P ρ) (ht : Lib.TabIs P Base.w0 "internal/strconv.uint64pow10" .u64 Lib.pow10Tab) : OutOk P (ρ.f 171) .itoa := by
  intro args σ r σ' h w M D vals hv hS
  obtain ⟨n, rfl, h0, h1, rfl, rfl⟩ := h
  obtain ⟨y, rfl, hy⟩ := arg1 hv
  simp only [rd] at hy
  subst hy
  refine (Proofs.Any.strconv_Itoa L n h0 h1 w (tabIs_of hS.tab ht)).mono ?_
  rintro e w' ⟨rfl, k, os, rfl⟩
  exact post_below hS (below_grow w k os) fun _ _ _ => by simp only [rd]
theorem flS (l : List (List UInt8)) : (l.map fun x => [V.str x]).flatten = l.map V.str := by
  induction l with
  | nil => rfl
  | cons x l ih => simp only [List.map_cons, List.flatten_cons, ih]; rfl
theorem outOk_join [Base] {P : Program} {ρ : Ren} (L : Proofs.Lays.n156 P ρ) (X : Proofs.Builder.Extra P ρ) : OutOk P (ρ.f 156) .joinS := by
  intro args σ r σ' h w M D vals hv hS
  obtain ⟨l, s, y, rfl, hy, hl, hj, rfl, rfl⟩ := h
  obtain ⟨v, v', rfl, h1, h2⟩ := arg2 hv
  simp only [rd] at h2
  subst h2
  have none : ∀ a c, l = [] → Calls P (ρ.f 156) #[.slice a 0 c, .string ⟨s.toArray⟩] w (Post M D w σ'.length (.str (Lib.join l s)) σ') := by
    rintro a c rfl
    refine (Proofs.Any.strings_Join_none L X a c _ w).mono ?_
    rintro e w' ⟨rfl, rfl⟩
    exact post_below hS (RowKit.Below.refl _ _) fun _ _ _ => by simp only [rd]; rfl
  rcases hy with rfl | ⟨rfl, rfl⟩
  · simp only [rd] at h1
    obtain ⟨a, cap, rfl, hc, h1⟩ := h1
    rw [List.length_map] at hc ⊢
    rcases h1 with h1 | ⟨b, off, rfl, hb, hX, hr⟩
    · have : l = [] := by simpa using h1
      subst this
      exact none a cap rfl
    · have hr := (rdRows_iff _ _).1 hr
      have hcell := (rdCells_iff _ _).1 hr.2
      have hfl := flS l
      have key := Proofs.Any.strings_Join L X b off cap (l.map fun x => (⟨x.toArray⟩ : ByteArray)) ⟨s.toArray⟩ w (fun j x hx => by
        rw [List.getElem?_map, Option.map_eq_some_iff] at hx
        obtain ⟨z, hz, rfl⟩ := hx
        obtain ⟨_, c, k1, k2⟩ := hcell j (.str z) (by rw [hfl, List.getElem?_map, hz]; rfl)
        simp only [rd] at k2
        rw [k1, k2]) hb (by simpa using hl) (by simpa using hc) (by simpa [Function.comp_def] using hj)
      rw [List.length_map] at key
      refine key.mono ?_
      rintro e w' ⟨rfl, hbw⟩
      refine post_below hS hbw fun _ _ _ => ?_
      simp [rd, Function.comp_def]
  · simp only [rd] at h1
    obtain ⟨a, rfl⟩ := h1
    exact none a 0 rfl
theorem outOk_rept [Base] {P : Program} {ρ : Ren} (L : Proofs.Lays.n105 P ρ) (X : Proofs.Builder.Extra P ρ) : OutOk P (ρ.f 105) .rept := by
  intro args σ r σ' h w M D vals hv hS
  obtain ⟨s, c, rfl, h1, h2, rfl, rfl⟩ := h
  obtain ⟨v, v', rfl, k1, k2⟩ := arg2 hv
  simp only [rd] at k1 k2
  subst k1 k2
  refine (Proofs.Any.strings_Repeat L X ⟨s.toArray⟩ c w (by omega) (by simpa [ByteArray.size] using h1)).mono ?_
  rintro e w' ⟨rfl, hb⟩
  exact post_below hS hb fun _ _ _ => by simp only [rd]
end Go.Ml
end
