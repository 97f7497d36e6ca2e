/- From the small language to what a call does; readings of arguments. -/
import Derived.Test.YteiefahbhljlgaaZzEv
import Derived.Test.YteiefahbhljlgaaZzSound4
import Derived.ProofKit
set_option linter.unusedSimpArgs false
set_option linter.unusedVariables false
namespace Go.Ml
open Go.ChangeShapes Go.WideShapes Go.ChangeAt Go.RowKit

def nuOf : List (Nat × Nat × Fn) → Nat → Option Nat
  | [], _ => none
  | x :: l, i => if x.1 = i then some x.2.1 else nuOf l i
def tbOf : List (Nat × Nat × Fn) → Nat → Option Fn
  | [], _ => none
  | x :: l, k => if x.2.1 = k then some x.2.2 else tbOf l k

theorem nuOf_mem : ∀ {l : List (Nat × Nat × Fn)} {i k : Nat}, nuOf l i = some k → ∃ x ∈ l, x.1 = i ∧ x.2.1 = k
  | [], _, _, h => by simp [nuOf] at h
  | x :: l, i, k, h => by
    simp only [nuOf] at h
    split at h
    · rename_i e; exact ⟨x, by simp, e, by simpa using h⟩
    · obtain ⟨y, hy, e⟩ := nuOf_mem h; exact ⟨y, by simp [hy], e⟩

theorem tbOf_mem : ∀ {l : List (Nat × Nat × Fn)} {k : Nat} {F : Fn}, tbOf l k = some F → ∃ x ∈ l, x.2.1 = k ∧ x.2.2 = F
  | [], _, _, h => by simp [tbOf] at h
  | x :: l, i, k, h => by
    simp only [tbOf] at h
    split at h
    · rename_i e; exact ⟨x, by simp, e, by simpa using h⟩
    · obtain ⟨y, hy, e⟩ := tbOf_mem h; exact ⟨y, by simp [hy], e⟩

theorem eq_of_nodup_map {α β : Type} {f : α → β} : ∀ {l : List α}, (l.map f).Nodup → ∀ {x y}, x ∈ l → y ∈ l → f x = f y → x = y
  | [], _, _, _, h, _, _ => by cases h
  | a :: l, hn, x, y, hx, hy, e => by
    simp only [List.map_cons, List.nodup_cons] at hn
    rcases List.mem_cons.1 hx with rfl | hx' <;> rcases List.mem_cons.1 hy with rfl | hy'
    · rfl
    · exact absurd (e ▸ List.mem_map_of_mem hy') hn.1
    · exact absurd (e ▸ List.mem_map_of_mem hx') hn.1
    · exact eq_of_nodup_map hn.2 hx' hy' e

theorem fits_of {P : Program} {l : List (Nat × Nat × Fn)} (hnd : (l.map (·.2.1)).Nodup) (h : ∀ x ∈ l, ∃ fn, P.funcs[x.1]? = some fn ∧ trFn P (nuOf l) fn = some x.2.2) : Fits P (nuOf l) (tbOf l) := by
  intro fid f F h1 h2
  obtain ⟨x, hx, e1, e2⟩ := nuOf_mem h1
  obtain ⟨y, hy, e3, e4⟩ := tbOf_mem h2
  have : x = y := eq_of_nodup_map hnd hx hy (e2.trans e3.symm)
  subst this
  rw [← e1, ← e4]
  exact h x hx

/-- A call whose arguments are frozen and whose answer is one plain value. -/
theorem calls_of {P : Program} {l : List (Nat × Nat × Fn)} (hm : P.follows .mixedOrders = true) (hT : Fits P (nuOf l) (tbOf l)) {f fid : Nat} {args : List V} {r : V} (h : PF (tbOf l) f args r) (hf : nuOf l fid = some f)
    {w : World} {vals : Array Value} (hr : rdL w DM.none (fun _ => False) args vals.toList) :
    Calls P fid vals w fun e w' => (∃ v D X, e = .returned v ∧ rd w' D X r v) ∧ Below w.heap.size w w' := by
  have hs := sound hm hT h
  have hX : XS (fun _ => False) DM.none = fun _ => False := by
    funext b; simp [XS, DM.none]
  refine (hs fid hf w (fun _ => False) DM.none vals (by rw [hX]; exact hr) ⟨?_, ?_, ?_, ?_, ?_⟩).mono fun e w' hp => ?_
  · intro o d h; cases h
  · intro o ob h; simp [objAt] at h
  · intro o o' d d' h; cases h
  · intro o _; rfl
  · intro b h; exact h.elim
  · obtain ⟨v, D', e1, e2, e3, e4, _⟩ := hp
    refine ⟨⟨v, D', _, e1, e2⟩, ⟨e4.os, e4.tape, e4.output, e4.size, fun k hk => e4.block k hk ?_⟩⟩
    rintro ⟨o, d, h, _⟩; cases h

theorem calls_true {P : Program} {l : List (Nat × Nat × Fn)} (hm : P.follows .mixedOrders = true) (hT : Fits P (nuOf l) (tbOf l)) {f fid : Nat} {args : List V} (h : PF (tbOf l) f args (.bool true)) (hf : nuOf l fid = some f)
    {w : World} {vals : Array Value} (hr : rdL w DM.none (fun _ => False) args vals.toList) :
    Calls P fid vals w fun e w' => e = .returned (.bool true) ∧ Below w.heap.size w w' :=
  (calls_of hm hT h hf hr).mono fun e w' hp => by
    obtain ⟨⟨v, D, X, rfl, e2⟩, hb⟩ := hp
    have : v = .bool true := by simpa [rd] using e2
    exact ⟨by rw [this], hb⟩

theorem rdRows_ints {w : World} {X : Nat → Prop} {b : Nat} : ∀ {off : Nat} (zs : List Int), (∀ i, i < zs.length → w.cell? ⟨b, off + i, none⟩ = some (.int .i64 (zs.getD i 0))) → rdRows w DM.none X b 1 off (irows zs)
  | off, [], _ => by simp [irows, rdRows]
  | off, z :: zs, h => by
    simp only [irows, List.map_cons, rdRows, rdCells]
    refine ⟨rfl, ⟨rfl, ⟨_, by simpa using h 0 (by simp), by simp [rd]⟩, trivial⟩, ?_⟩
    refine rdRows_ints zs fun i hi => ?_
    have := h (i + 1) (by simp; omega)
    simpa [Nat.add_assoc, Nat.add_comm 1 i] using this

/-- A slice of integers that came in. -/
theorem ints_in {H : Type} {enc : TypeId × Value → H} {P : Program} {w : World} {t e : TypeId} {v : Value} {d : DataW H} {ps : List MemPlace} (ht : P.underlying t = some (.slice e)) (he : P.underlying e = some (.int .i64)) (hc : P.cellsOf e = 1)
    (hv : ∃ a l c, v = .slice a l c) (h : DataW.Trod enc P w 0 (fun _ => true) true t v d ps) : ∃ zs, rd w DM.none (fun _ => False) (ints zs) v := by
  obtain ⟨a0, len0, cap0, rfl⟩ := hv
  obtain ⟨fuel, hf⟩ := h
  rcases open_ints ht he hc hf with ⟨hcs, hx⟩ | ⟨a, len', cap', zs, hcs, _, hl, hm, hz, hx, hcell, hwz⟩
  · simp [Value.cells] at hcs
    obtain ⟨rfl, rfl, rfl⟩ := hcs
    exact ⟨[], by simp only [rd]; exact ⟨none, 0, rfl, by simp [irows], .inl rfl⟩⟩
  · simp [Value.cells] at hcs
    obtain ⟨rfl, rfl, rfl⟩ := hcs
    simp only [if_true] at hz
    refine ⟨zs.take len0, ?_⟩
    simp only [rd]
    have hlen : (irows (zs.take len0)).length = len0 := by simp [ir_len]; omega
    refine ⟨some a, cap0, by rw [hlen], by rw [hlen]; exact hl, ?_⟩
    by_cases h0 : len0 = 0
    · left; subst h0; rfl
    · right
      obtain ⟨b, off, spot⟩ := a
      have hspot : spot = none := by simpa [Addr.add] using World.cell?_spot (hcell 0 (by omega))
      subst hspot
      have hb : b < w.heap.size := by
        have h1 := hcell 0 (by omega)
        by_cases hb : b < w.heap.size
        · exact hb
        · exfalso
          have : w.heap[b]? = none := by simp; omega
          simp [World.cell?, Addr.add, this] at h1
      refine ⟨b, off, rfl, hb, fun h => h, rdRows_ints _ fun i hi => ?_⟩
      simp at hi
      have := hcell i (by omega)
      have ea : (⟨b, off, none⟩ : Addr).add i = ⟨b, off + i, none⟩ := by
        simp only [Addr.add]
        split
        · subst_vars; rfl
        · rfl
      rw [ea] at this
      rw [this]
      simp [List.getD_eq_getElem?_getD, List.getElem?_take, show i < len0 by omega]

end Go.Ml
