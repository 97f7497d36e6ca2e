/- Values handed to a call: renumbered, or frozen. -/
import Derived.Test.YteiefahbhljlgaaZzTrC
namespace Go.Ml

section
variable {w : World} {X : Nat → Prop}

mutual
theorem rd_map {D D' : DM} {g : Nat → Option Nat} (hg : ∀ o o', g o = some o' → DSle (D o) (D' o')) : ∀ (x : V) (v : Value), rd w D X x v → rd w D' X (mapV g x) v
  | .any, _, _ => by simp [mapV, rd]
  | .one, _, h => by simpa [mapV, rd] using h
  | .int .., _, h => by simpa [mapV, rd] using h
  | .bool _, _, h => by simpa [mapV, rd] using h
  | .str _, _, h => by simpa [mapV, rd] using h
  | .nils, _, h => by simpa [mapV, rd] using h
  | .sl sz rows, v, h => by simpa only [mapV, rd] using h
  | .fptr row off, v, h => by simpa only [mapV, rd] using h
  | .agg cs, v, h => by
    simp only [rd, mapV] at h ⊢
    obtain ⟨a, rfl, h⟩ := h
    exact ⟨a, rfl, rdL_map hg cs _ h⟩
  | .tup cs, v, h => by
    simp only [rd, mapV] at h ⊢
    obtain ⟨a, rfl, h⟩ := h
    exact ⟨a, rfl, rdL_map hg cs _ h⟩
  | .msl o s l, v, h => by
    simp only [mapV]
    cases hgo : g o with
    | none =>
      simp only [rd] at h ⊢
      cases hD : D o with
      | unborn => simp [hD] at h
      | dead => rw [hD] at h; obtain ⟨_, _, _, rfl⟩ := h; rfl
      | live d => rw [hD] at h; obtain ⟨_, _, _, rfl, _⟩ := h; rfl
    | some o' =>
      have hle := hg o o' hgo
      simp only [rd] at h ⊢
      cases hD : D o with
      | unborn => simp [hD] at h
      | dead => rw [hD] at h hle; simp only [DSle] at hle; rw [hle]; exact h
      | live d =>
        rw [hD] at h hle
        rcases hle with h' | h' <;> rw [h']
        · exact h
        · obtain ⟨_, a, cap, h, _⟩ := h; exact ⟨a, l, cap, h⟩
  | .ptr o s l, v, h => by
    simp only [mapV]
    cases hgo : g o with
    | none =>
      simp only [rd] at h ⊢
      cases hD : D o with
      | unborn => simp [hD] at h
      | dead => rw [hD] at h; obtain ⟨_, rfl⟩ := h; rfl
      | live d => rw [hD] at h; simp only [] at h; subst h; rfl
    | some o' =>
      have hle := hg o o' hgo
      simp only [rd] at h ⊢
      cases hD : D o with
      | unborn => simp [hD] at h
      | dead => rw [hD] at h hle; simp only [DSle] at hle; rw [hle]; exact h
      | live d =>
        rw [hD] at h hle
        rcases hle with h' | h' <;> rw [h']
        · exact h
        · exact ⟨_, h⟩
theorem rdL_map {D D' : DM} {g : Nat → Option Nat} (hg : ∀ o o', g o = some o' → DSle (D o) (D' o')) : ∀ (xs : List V) (ys : List Value), rdL w D X xs ys → rdL w D' X (mapV.mapL g xs) ys
  | [], ys, h => by simpa [mapV.mapL, rdL] using h
  | x :: xs, ys, h => by
    simp only [rdL, mapV.mapL] at h ⊢
    obtain ⟨y, ys', rfl, h1, h2⟩ := h
    exact ⟨y, ys', rfl, rd_map hg x y h1, rdL_map hg xs ys' h2⟩
end

theorem leaf_map {g : Nat → Option Nat} {x : V} (h : x.leaf = true) : (mapV g x).leaf = true := by
  cases x <;> first | (simp [V.leaf] at h; done) | skip
  all_goals simp only [mapV]
  all_goals first | rfl | (split <;> rfl)

/-- What does not lie in memory reads the same everywhere. -/
theorem rd_scalar {w w' : World} {D D' : DM} {X X' : Nat → Prop} : ∀ (n : Nat) (x : V) (v : Value), scalar n x = true → rd w D X x v → rd w' D' X' x v
  | 0, x, _, h, _ => by simp [scalar] at h
  | n + 1, x, v, h, hr => by
    have hl : ∀ (cs : List V), cs.all (scalar n) = true → ∀ (ys : List Value), rdL w D X cs ys → rdL w' D' X' cs ys := by
      intro cs
      induction cs with
      | nil => intro _ ys h; simpa only [rdL] using h
      | cons c cs ih =>
        intro hc ys h
        simp only [List.all_cons, Bool.and_eq_true] at hc
        simp only [rdL] at h ⊢
        obtain ⟨y, ys', rfl, h1, h2⟩ := h
        exact ⟨y, ys', rfl, rd_scalar n c y hc.1 h1, ih hc.2 ys' h2⟩
    cases x <;> simp only [scalar] at h <;> first | (cases h; done) | skip
    case int => simpa only [rd] using hr
    case bool => simpa only [rd] using hr
    case str => simpa only [rd] using hr
    case nils => simpa only [rd] using hr
    case agg cs =>
      simp only [rd] at hr ⊢
      obtain ⟨a, rfl, hr⟩ := hr
      exact ⟨a, rfl, hl cs h _ hr⟩
    case tup cs =>
      simp only [rd] at hr ⊢
      obtain ⟨a, rfl, hr⟩ := hr
      exact ⟨a, rfl, hl cs h _ hr⟩

theorem mapM_get {α β : Type} {f : α → Option β} : ∀ {l : List α} {l' : List β}, l.mapM f = some l' → l'.length = l.length ∧ ∀ (i : Nat) (y : β), l'[i]? = some y → ∃ x, l[i]? = some x ∧ f x = some y
  | [], l', h => by simp at h; subst h; simp
  | a :: l, l', h => by
    simp only [List.mapM_cons, Option.pure_def, Option.bind_eq_bind, Option.bind_eq_some_iff, Option.some.injEq] at h
    obtain ⟨b, h1, l2, h2, rfl⟩ := h
    obtain ⟨e1, e2⟩ := mapM_get h2
    refine ⟨by simp [e1], fun i y hi => ?_⟩
    cases i with
    | zero => simp at hi; subst hi; exact ⟨a, rfl, h1⟩
    | succ i => simpa using e2 i y (by simpa using hi)

theorem resolve_leaf {σ : Store} {n : Nat} {x y : V} (h : resolve σ n x = some y) (hl : x.leaf = true) : y.leaf = true := by
  cases n with
  | zero => simp [resolve] at h
  | succ n =>
    cases x <;> first | (simp [V.leaf] at hl; done) | skip
    all_goals simp only [resolve] at h
    all_goals first | (simp only [Option.some.injEq] at h; subst h; rfl) | skip
    · split at h <;> first | (cases h; done) | skip
      split at h <;> first | (cases h; done) | skip
      simp only [Option.map_eq_some_iff] at h
      obtain ⟨_, _, rfl⟩ := h; rfl
    · split at h <;> first | (cases h; done) | skip
      split at h <;> first | (cases h; done) | skip
      simp only [Option.map_eq_some_iff] at h
      obtain ⟨_, _, rfl⟩ := h; rfl

/-- Frozen: read without the store, outside what stays mutable. -/
theorem rd_resolve {D : DM} {M : Nat → Prop} {σ : Store} (hS : SRel w D M σ) {R : List Nat} :
    ∀ (n : Nat) (x y : V) (v : Value), resolve σ n x = some y → (∀ o, o ∈ reach σ n x → o ∈ R) → rd w D (XS M D) x v →
      rd w DM.none (fun b => M b ∨ ∃ o d, D o = .live d ∧ d.blk = b ∧ o ∉ R) y v
  | 0, x, y, v, h, _, _ => by simp [resolve] at h
  | n + 1, x, y, v, h, hR, hr => by
    have E : Ext w DM.none (XS M D) w DM.none (fun b => M b ∨ ∃ o d, D o = .live d ∧ d.blk = b ∧ o ∉ R) :=
      ⟨Nat.le_refl _, fun _ _ _ => rfl, fun b _ h => h.imp id fun ⟨o, d, h1, h2, _⟩ => ⟨o, d, h1, h2⟩, fun _ => DSle.refl _⟩
    have hlist : ∀ (cs cs' : List V) (ys : List Value), cs.mapM (resolve σ n) = some cs' → (∀ o, o ∈ cs.flatMap (reach σ n) → o ∈ R) → rdL w D (XS M D) cs ys →
        rdL w DM.none (fun b => M b ∨ ∃ o d, D o = .live d ∧ d.blk = b ∧ o ∉ R) cs' ys := by
      intro cs
      induction cs with
      | nil => intro cs' ys h _ hr; simp at h; subst h; simpa only [rdL] using hr
      | cons c cs ih =>
        intro cs' ys h hR hr
        simp only [List.mapM_cons, Option.pure_def, Option.bind_eq_bind, Option.bind_eq_some_iff, Option.some.injEq] at h
        obtain ⟨c', h1, cs2, h2, rfl⟩ := h
        simp only [rdL] at hr ⊢
        obtain ⟨y, ys', rfl, k1, k2⟩ := hr
        refine ⟨y, ys', rfl, rd_resolve hS n c c' y h1 (fun o ho => hR o (by simp [ho])) k1, ih cs2 ys' h2 (fun o ho => hR o ?_) k2⟩
        simp only [List.flatMap_cons, List.mem_append]; exact .inr ho
    cases x with
    | any => simp [resolve] at h
    | one => simp only [resolve, Option.some.injEq] at h; subst h; simpa only [rd] using hr
    | int k i => simp only [resolve, Option.some.injEq] at h; subst h; simpa only [rd] using hr
    | bool b => simp only [resolve, Option.some.injEq] at h; subst h; simpa only [rd] using hr
    | str s => simp only [resolve, Option.some.injEq] at h; subst h; simpa only [rd] using hr
    | nils => simp only [resolve, Option.some.injEq] at h; subst h; simpa only [rd] using hr
    | sl sz rows =>
      simp only [resolve, Option.some.injEq] at h; subst h
      have hr' : rd w DM.none (XS M D) (.sl sz rows) v := by simpa only [rd] using hr
      exact rd_mono _ _ E hr'
    | fptr row off =>
      simp only [resolve, Option.some.injEq] at h; subst h
      have hr' : rd w DM.none (XS M D) (.fptr row off) v := by simpa only [rd] using hr
      exact rd_mono _ _ E hr'
    | agg cs =>
      simp only [resolve, Option.map_eq_some_iff] at h
      obtain ⟨cs', h1, rfl⟩ := h
      simp only [rd] at hr ⊢
      obtain ⟨a, rfl, hr⟩ := hr
      exact ⟨a, rfl, hlist cs cs' _ h1 (by simpa only [reach] using hR) hr⟩
    | tup cs =>
      simp only [resolve, Option.map_eq_some_iff] at h
      obtain ⟨cs', h1, rfl⟩ := h
      simp only [rd] at hr ⊢
      obtain ⟨a, rfl, hr⟩ := hr
      exact ⟨a, rfl, hlist cs cs' _ h1 (by simpa only [reach] using hR) hr⟩
    | msl o s l =>
      simp only [resolve] at h
      cases hob : objAt σ o with
      | none => simp [hob] at h
      | some ob =>
        simp only [hob] at h
        split at h <;> first | (cases h; done) | skip
        rename_i hsl
        simp only [Option.map_eq_some_iff] at h
        obtain ⟨rows', h1, rfl⟩ := h
        obtain ⟨d, hd⟩ := hS.alive o ob hob
        obtain ⟨ob', c, e0, g1, g2, g3, g4, g5, g6, g7, g8, g9, g10, g11⟩ := hS.live o d hd
        rw [hob] at g1; cases g1
        simp only [rd, hd] at hr
        obtain ⟨hn, a, cap, rfl, hcap, hwh⟩ := hr
        obtain ⟨e1, e2⟩ := mapM_get h1
        have hlen : rows'.length = l := by rw [e1]; simp; omega
        simp only [rd]
        refine ⟨a, cap, by rw [hlen], by rw [hlen]; exact hcap, ?_⟩
        rcases hwh with ⟨rfl, hfit⟩ | ⟨rfl, rfl⟩
        · refine .inr ⟨d.blk, d.bas + s * d.sz, rfl, g6, ?_, ?_⟩
          · rintro (hm | ⟨o', d', ho', hb, hnR⟩)
            · exact g5 hm
            · have := hS.inj o' o d' d ho' hd hb
              subst this
              exact hnR (hR _ (by simp [reach]))
          · rw [rdRows_iff]
            have hrowlen : ∀ r' ∈ rows', r'.length = ob.sz := by
              intro r' hr'
              obtain ⟨i, hi⟩ := List.mem_iff_getElem?.1 hr'
              obtain ⟨r, hr, hm⟩ := e2 i r' hi
              rw [(mapM_get hm).1]
              exact g10 r (List.mem_of_mem_drop (List.mem_of_mem_take (List.mem_of_getElem? hr)))
            refine ⟨hrowlen, ?_⟩
            rw [rdCells_iff]
            intro i z hz
            -- its row and place
            have hpos : 0 < ob.sz := by rw [← g2]; exact g4
            have hfl := flat_len hrowlen
            have hilt := (List.getElem?_eq_some_iff.1 hz).1
            have hrow : i / ob.sz < rows'.length := Nat.div_lt_of_lt_mul (by rw [Nat.mul_comm]; omega)
            obtain ⟨r, hr, hm⟩ := e2 (i / ob.sz) rows'[i / ob.sz] (by simp [hrow])
            have hmod : i % ob.sz < rows'[i / ob.sz].length := by rw [hrowlen _ (by simp)]; exact Nat.mod_lt _ hpos
            have hz' := flatten_get hrowlen (i := i / ob.sz) (j := i % ob.sz) (r := rows'[i / ob.sz]) (x := rows'[i / ob.sz][i % ob.sz]) (by simp [hrow]) (by simp [hmod])
            have hi : i / ob.sz * ob.sz + i % ob.sz = i := by rw [Nat.mul_comm]; exact Nat.div_add_mod i ob.sz
            rw [hi, hz] at hz'
            obtain ⟨z0, hz0, hres⟩ := (mapM_get hm).2 (i % ob.sz) z (by rw [Option.some.inj hz']; simp [hmod])
            have hr2 : ob.rows[s + i / ob.sz]? = some r := by
              rw [List.getElem?_take] at hr
              split at hr
              · rwa [List.getElem?_drop] at hr
              · cases hr
            obtain ⟨hlf, cv, k1, k2⟩ := g11 _ z0 (flatten_get g10 hr2 hz0)
            refine ⟨resolve_leaf hres hlf, cv, ?_, ?_⟩
            · simp only [World.cell?, g7]
              simp only [Option.isSome_none, Bool.false_eq_true, if_false]
              rw [← k1, g2]; congr 1; rw [Nat.add_mul]; omega
            · refine rd_resolve hS n z0 z cv hres (fun q hq => hR q ?_) k2
              simp only [reach, hob, List.mem_cons, List.mem_flatMap]
              exact .inr ⟨r, List.mem_of_getElem? hr2, z0, List.mem_of_getElem? hz0, hq⟩
        · refine .inl ?_
          apply List.eq_nil_of_length_eq_zero; exact hlen
    | ptr o r off =>
      simp only [resolve] at h
      cases hob : objAt σ o with
      | none => simp [hob] at h
      | some ob =>
        simp only [hob] at h
        split at h <;> first | (cases h; done) | skip
        rename_i row hrow
        simp only [Option.map_eq_some_iff] at h
        obtain ⟨row', h1, rfl⟩ := h
        obtain ⟨d, hd⟩ := hS.alive o ob hob
        obtain ⟨ob', c, e0, g1, g2, g3, g4, g5, g6, g7, g8, g9, g10, g11⟩ := hS.live o d hd
        rw [hob] at g1; cases g1
        simp only [rd, hd] at hr
        subst hr
        obtain ⟨e1, e2⟩ := mapM_get h1
        simp only [rd]
        refine ⟨d.blk, d.bas + r * d.sz, rfl, g6, ?_, ?_⟩
        · rintro (hm | ⟨o', d', ho', hb, hnR⟩)
          · exact g5 hm
          · have := hS.inj o' o d' d ho' hd hb
            subst this
            exact hnR (hR _ (by simp [reach]))
        · rw [rdCells_iff]
          intro i z hz
          obtain ⟨z0, hz0, hres⟩ := e2 i z hz
          obtain ⟨hlf, cv, k1, k2⟩ := g11 _ z0 (flatten_get g10 hrow hz0)
          refine ⟨resolve_leaf hres hlf, cv, ?_, ?_⟩
          · simp only [World.cell?, g7]
            simp only [Option.isSome_none, Bool.false_eq_true, if_false]
            rw [← k1, g2]; congr 1; omega
          · refine rd_resolve hS n z0 z cv hres (fun q hq => hR q ?_) k2
            simp only [reach, hob, List.mem_cons, List.mem_flatMap]
            exact .inr ⟨row, List.mem_of_getElem? hrow, z0, List.mem_of_getElem? hz0, hq⟩
end
end Go.Ml
