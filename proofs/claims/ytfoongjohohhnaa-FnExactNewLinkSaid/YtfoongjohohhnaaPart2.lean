/- A small language for the functions of this claim, its soundness, contracts. -/
import Derived.Test.YtfoongjohohhnaaPart1
section
set_option linter.unusedSimpArgs false
namespace Go.Ml
mutual
theorem rd_noFrz {w : World} {D : DM} {X X' : Nat → Prop} : ∀ (x : V) (v : Value), noFrz x = true → rd w D X x v → rd w D X' x v
  | .sl sz rows, v, h, hr => by
    simp only [noFrz, List.isEmpty_iff] at h
    subst h
    simp only [rd] at hr ⊢
    obtain ⟨a, cap, h1, h2, _⟩ := hr
    exact ⟨a, cap, h1, h2, .inl (by trivial)⟩
  | .agg cs, v, h, hr => by
    simp only [noFrz] at h
    simp only [rd] at hr ⊢
    obtain ⟨a, rfl, hr⟩ := hr
    exact ⟨a, rfl, rdL_noFrz cs _ h hr⟩
  | .tup cs, v, h, hr => by
    simp only [noFrz] at h
    simp only [rd] at hr ⊢
    obtain ⟨a, rfl, hr⟩ := hr
    exact ⟨a, rfl, rdL_noFrz cs _ h hr⟩
  | .fptr .., v, h, hr => by simp [noFrz] at h
  | .any, _, _, _ => by simp [rd]
  | .one, v, h, hr => by simpa only [rd] using hr
  | .int .., v, h, hr => by simpa only [rd] using hr
  | .bool _, v, h, hr => by simpa only [rd] using hr
  | .str _, v, h, hr => by simpa only [rd] using hr
  | .nils, v, h, hr => by simpa only [rd] using hr
  | .msl .., v, h, hr => by simpa only [rd] using hr
  | .ptr .., v, h, hr => by simpa only [rd] using hr
theorem rdL_noFrz {w : World} {D : DM} {X X' : Nat → Prop} : ∀ (xs : List V) (vs : List Value), noFrz.allNoFrz xs = true → rdL w D X xs vs → rdL w D X' xs vs
  | [], vs, _, hr => by simpa only [rdL] using hr
  | x :: xs, vs, h, hr => by
    simp only [noFrz.allNoFrz, Bool.and_eq_true] at h
    simp only [rdL] at hr ⊢
    obtain ⟨v, vs', rfl, k1, k2⟩ := hr
    exact ⟨v, vs', rfl, rd_noFrz x v h.1 k1, rdL_noFrz xs vs' h.2 k2⟩
end
mutual
theorem noFrz_map {g : Nat → Option Nat} : ∀ (x : V), noFrz x = true → noFrz (mapV g x) = true
  | .sl sz rows, h => by simpa only [mapV] using h
  | .agg cs, h => by simp only [noFrz, mapV] at h ⊢; exact allNoFrz_map cs h
  | .tup cs, h => by simp only [noFrz, mapV] at h ⊢; exact allNoFrz_map cs h
  | .fptr .., h => by simp [noFrz] at h
  | .msl o s l, _ => by simp only [mapV]; split <;> rfl
  | .ptr o s l, _ => by simp only [mapV]; split <;> rfl
  | .any, _ => rfl
  | .one, _ => rfl
  | .int .., _ => rfl
  | .bool _, _ => rfl
  | .str _, _ => rfl
  | .nils, _ => rfl
theorem allNoFrz_map {g : Nat → Option Nat} : ∀ (xs : List V), noFrz.allNoFrz xs = true → noFrz.allNoFrz (mapV.mapL g xs) = true
  | [], _ => rfl
  | x :: xs, h => by
    simp only [noFrz.allNoFrz, Bool.and_eq_true, mapV.mapL] at h ⊢
    exact ⟨noFrz_map x h.1, allNoFrz_map xs h.2⟩
end
theorem objAt_addS {σ σ' : Store} {o : Nat} : objAt (addS σ σ') o = if o < σ.length then objAt σ o else (objAt σ' (o - σ.length)).map (mapO (shiftN σ.length)) := by
  unfold addS objAt
  by_cases h : o < σ.length
  · rw [if_pos h, List.getElem?_append_left h]
  · rw [if_neg h, List.getElem?_append_right (by omega), List.getElem?_map]
    cases σ'[o - σ.length]? <;> rfl
section
variable {P : Program} {ν : Nat → Option Nat} {nt : Nat} {M : Nat → Prop} {w0 : World} {D0 : DM} {st : St} {D : DM} {a : Act} {w : World}
theorem opOk_callG {x : OpI} {f : Nat} {as : List Src} {as' : List V} {r : V} {σ' : Store} {R : List Nat} (hg : ∀ g want, x.g = some (g, want) → st.env g = .bool want) (hi : x.i = .call f as)
    (ha : as.mapM (fun s => resolve st.objs FD (s.ev st.env)) = some as') (ih : FnOk P ν f as' [] r σ')
    (hR : R = if noFrz r && freshS σ' then [] else as.flatMap fun s => reach st.objs FD (s.ev st.env)) :
    OpOk P ν x st { st with env := updO st.env x.dst (mapV (shiftN st.objs.length) r), objs := addS (killAll st.objs R) σ' } := by
  have hlk : (killAll st.objs R).length = st.objs.length := len_kill R _
  refine ⟨rfl, rfl, by simp [addS, hlk], ?_⟩
  intro ops dr nt m k o htr M w0 D0 D a w hs _ K Q hK
  obtain ⟨t1, t2, t3, t4⟩ := trOp_spec htr
  rw [if_pos ((wanted_iff hs t4).1 hg)]
  rw [hi] at t1
  obtain ⟨fid, xs, c1, c2, c3⟩ := run_call_op t1
  have hrd := trArgs_rd hs.store hs.env xs c2 ha (R := as.flatMap fun s => reach st.objs FD (s.ev st.env)) (fun o h => h)
  let X' : Nat → Prop := fun b => M b ∨ ∃ o d, D o = .live d ∧ d.blk = b ∧ o ∉ as.flatMap fun s => reach st.objs FD (s.ev st.env)
  have hX : ∀ b, XS X' DM.none b → X' b := by
    rintro b (h | ⟨o, d, h, _⟩)
    · exact h
    · simp [DM.none] at h
  have hlt : ∀ b, X' b → b < w.heap.size := by
    rintro b (h | ⟨o, d, h, rfl, _⟩)
    · exact hs.store.mlt b h
    · obtain ⟨_, _, _, _, _, _, _, _, h6, _⟩ := hs.store.live o d h
      exact h6
  have hcall := ih fid c1 w X' DM.none (xs.map a.eval).toArray (by simpa using rdL_mono' hrd hX)
    ⟨fun o d h => by simp [DM.none] at h, fun o ob h => by simp [objAt] at h, fun o o' d d' h => by simp [DM.none] at h, fun _ _ => rfl, hlt⟩
  refine enter_wp (c3 a w) (R := fun v w' => ∃ Dc, rd w' Dc (XS X' Dc) r v ∧ SRel w' Dc X' σ' ∧ Gr (Own DM.none) w w' ∧ ∀ o d, Dc o = .live d → w.heap.size ≤ d.blk) (hcall.mono ?_) ?_
  · rintro e w' ⟨v, D', rfl, h1, h2, h3, h4, _⟩
    refine ⟨v, rfl, D', h1, h2, h3, fun o d ho => ?_⟩
    rcases h4 o d ho with ⟨_, _, h, _⟩ | h
    · simp [DM.none] at h
    · exact h
  · rintro v w' ⟨Dc, h1, h2, h3, h4⟩
    have hsame : ∀ b, b < w.heap.size → w'.heap[b]? = w.heap[b]? := fun b hb => h3.block b hb (by rintro ⟨o, d, h, _⟩; simp [DM.none] at h)
    let n := st.objs.length
    let D' : DM := fun o => if o < n then D.kill R o else Dc (o - n)
    have dOld : ∀ o, o < n → D' o = D.kill R o := fun o h => by simp only [D', if_pos h]
    have dNew : ∀ j, D' (n + j) = Dc j := fun j => by simp only [D']; rw [if_neg (by omega)]; congr 1; omega
    have dFrom : ∀ o d, D' o = .live d → (o < n ∧ o ∉ R ∧ D o = .live d) ∨ (n ≤ o ∧ Dc (o - n) = .live d) := by
      intro o d ho
      by_cases hon : o < n
      · rw [dOld o hon] at ho
        obtain ⟨k1, k2⟩ := kill_live ho
        exact .inl ⟨hon, k2, k1⟩
      · simp only [D', if_neg hon] at ho
        exact .inr ⟨by omega, ho⟩
    have E : Ext w D (XS M D) w' D' (XS M D') := by
      refine ⟨h3.size, fun b hb _ => hsame b hb, ?_, ?_⟩
      · rintro b hb (h | ⟨o, d, ho, rfl⟩)
        · exact .inl h
        · rcases dFrom o d ho with ⟨_, _, k⟩ | ⟨_, k⟩
          · exact .inr ⟨o, d, k, rfl⟩
          · have := h4 _ d k; omega
      · intro o
        by_cases hon : o < n
        · rw [dOld o hon]; exact kill_le D R o
        · rw [hs.store.far o (by omega)]; trivial
    have hmapX : ∀ {x : V} {v : Value}, ((noFrz r && freshS σ') = true → noFrz x = true) → rd w' Dc (XS X' Dc) x v → rd w' D' (XS M D') (mapV (shiftN n) x) v := by
      intro x v hx hr
      have h := rd_map (D' := D') (g := shiftN n) (fun j j' hj => by simp only [shiftN, Option.some.injEq] at hj; subst hj; rw [dNew]; exact DSle.refl _) x v hr
      by_cases hf : (noFrz r && freshS σ') = true
      · exact rd_noFrz _ _ (noFrz_map _ (hx hf)) h
      · rw [if_neg hf] at hR
        refine rd_mono _ _ ⟨Nat.le_refl _, fun _ _ _ => rfl, fun b _ hb => ?_, fun _ => DSle.refl _⟩ h
        rcases hb with hb | ⟨o, d, ho, rfl⟩
        · exact .inl (.inl hb)
        · rcases dFrom o d ho with ⟨_, k2, k⟩ | ⟨_, k⟩
          · exact .inl (.inr ⟨o, d, k, rfl, by rw [← hR]; exact k2⟩)
          · exact .inr ⟨_, d, k, rfl⟩
    have hcell : ∀ {j : Nat} {ob : Obj}, objAt σ' j = some ob → ∀ x ∈ ob.rows.flatten, ((noFrz r && freshS σ') = true → noFrz x = true) := by
      intro j ob hj x hx hf
      simp only [Bool.and_eq_true, freshS, List.all_eq_true] at hf
      have hmem : some ob ∈ σ' := by
        unfold objAt at hj
        cases hc : σ'[j]? with
        | none => rw [hc] at hj; cases hj
        | some z => rw [hc] at hj; simp at hj; subst hj; exact List.mem_of_getElem? hc
      obtain ⟨rw', hr1, hr2⟩ := List.mem_flatten.1 hx
      have := hf.2 _ hmem
      simp only [List.all_eq_true] at this
      exact this rw' hr1 x hr2
    have hst : SRel w' D' M (addS (killAll st.objs R) σ') := by
      refine ⟨?_, ?_, ?_, ?_, fun b hb => Nat.lt_of_lt_of_le (hs.store.mlt b hb) h3.size⟩
      · intro o d ho
        rcases dFrom o d ho with ⟨k1, k2, k⟩ | ⟨k1, k⟩
        · obtain ⟨ob, c, e, g1, g2, g3, g4, g5, g6, g7, g8, g9, g10, g11⟩ := hs.store.live o d k
          refine ⟨ob, c, e, by rw [objAt_addS, hlk, if_pos k1, objAt_kill, if_neg k2]; exact g1, g2, g3, g4, g5, Nat.lt_of_lt_of_le g6 h3.size, by rw [hsame _ g6]; exact g7, g8, g9, g10, fun i x hi => ?_⟩
          obtain ⟨k0, y, j1, j2⟩ := g11 i x hi
          exact ⟨k0, y, j1, rd_mono _ _ E j2⟩
        · obtain ⟨ob, c, e, g1, g2, g3, g4, g5, g6, g7, g8, g9, g10, g11⟩ := h2.live _ d k
          refine ⟨mapO (shiftN n) ob, c, e, by rw [objAt_addS, hlk, if_neg (by omega), g1]; rfl, g2, by simp [mapO, g3], g4, fun hm => g5 (.inl hm), g6, g7, g8, g9, ?_, fun i x hi => ?_⟩
          · intro rr hrr
            simp only [mapO, List.mem_map] at hrr
            obtain ⟨r0, hr0, rfl⟩ := hrr
            simpa [mapO] using g10 r0 hr0
          · rw [flatten_mapO, List.getElem?_map, Option.map_eq_some_iff] at hi
            obtain ⟨x0, hx0, rfl⟩ := hi
            obtain ⟨k0, y, j1, j2⟩ := g11 i x0 hx0
            exact ⟨leaf_map k0, y, j1, hmapX (hcell g1 x0 (List.mem_of_getElem? hx0)) j2⟩
      · intro o ob ho
        rw [objAt_addS, hlk] at ho
        split at ho
        · rename_i hon
          rw [objAt_kill] at ho
          split at ho
          · cases ho
          · rename_i hR'
            obtain ⟨d, hd⟩ := hs.store.alive o ob ho
            exact ⟨d, by rw [dOld o hon]; simp only [DM.kill, if_neg hR']; exact hd⟩
        · rename_i hon
          simp only [Option.map_eq_some_iff] at ho
          obtain ⟨ob0, ho, _⟩ := ho
          obtain ⟨d, hd⟩ := h2.alive _ ob0 ho
          refine ⟨d, ?_⟩
          show (if o < n then _ else _) = _
          rw [if_neg hon]; exact hd
      · intro o o' d d' ho ho' hb
        rcases dFrom o d ho with ⟨a1, a2, a3⟩ | ⟨a1, a3⟩ <;> rcases dFrom o' d' ho' with ⟨b1, b2, b3⟩ | ⟨b1, b3⟩
        · exact hs.store.inj o o' d d' a3 b3 hb
        · obtain ⟨_, _, _, _, _, _, _, _, g6, _⟩ := hs.store.live o d a3
          have := h4 _ d' b3; omega
        · obtain ⟨_, _, _, _, _, _, _, _, g6, _⟩ := hs.store.live o' d' b3
          have := h4 _ d a3; omega
        · have := h2.inj _ _ d d' a3 b3 hb
          omega
      · intro o ho
        have hlo : n + σ'.length ≤ o := by simpa [addS, hlk] using ho
        simp only [D']
        rw [if_neg (by omega)]
        exact h2.far _ (by omega)
    rw [t2]
    refine hK D' _ w' ⟨rd_put (fun t => rd_mono _ _ E (hs.env t)) (fun d hd => by rw [hs.tm]; exact t3 d (t2.trans hd)) (hmapX (fun hf => by simp only [Bool.and_eq_true] at hf; exact hf.1) h1), ?_, ?_, hst, ?_, ?_, fun o ho => (hs.kp o ho).trans (E.ds o)⟩ ?_
    · rw [← hs.tm]; cases x.dst <;> simp [Act.put]
    · rw [← hs.df]; cases x.dst <;> rfl
    · exact hs.gr.trans (h3.mono fun b _ ⟨o, d, h, _⟩ => by simp [DM.none] at h)
    · intro o d ho
      rcases dFrom o d ho with ⟨_, _, k⟩ | ⟨_, k⟩
      · exact hs.fr o d k
      · exact .inr (Nat.le_trans hs.gr.size (h4 _ d k))
    · intro o _ ho hu _
      rw [dOld o ho]
      simp only [DM.kill, hu]; split <;> rfl
theorem trArgs_id {X : Nat → Prop} {env : Nat → V} (he : ∀ t, rd w D X (env t) (a.tmps.getD t undef)) :
    ∀ (xs : List Operand) {as : List Src}, trArgs xs = some as → rdL w D X (as.map fun s => s.ev env) (xs.map a.eval)
  | [], as, h => by simp only [trArgs, Option.some.injEq] at h; subst h; simp [rdL]
  | x :: xs, as, h => by
    simp only [trArgs] at h
    split at h <;> first | (cases h; done) | skip
    rename_i s r h1 h2
    simp only [Option.some.injEq] at h; subst h
    simp only [List.map_cons, rdL]
    exact ⟨_, _, rfl, rd_src he h1, trArgs_id he xs h2⟩
theorem opOk_callI {x : OpI} {f : Nat} {as : List Src} {r : V} {σ' : Store} (hg : ∀ g want, x.g = some (g, want) → st.env g = .bool want) (hi : x.i = .call f as)
    (ih : FnOk P ν f (as.map fun s => s.ev st.env) st.objs r σ') (hl : st.objs.length ≤ σ'.length) (hb : st.objs.length ≤ st.base) :
    OpOk P ν x st { st with env := updO st.env x.dst r, objs := σ' } := by
  refine ⟨rfl, rfl, hl, ?_⟩
  intro ops dr nt m k o htr M w0 D0 D a w hs _ K Q hK
  obtain ⟨t1, t2, t3, t4⟩ := trOp_spec htr
  rw [if_pos ((wanted_iff hs t4).1 hg)]
  rw [hi] at t1
  obtain ⟨fid, xs, c1, c2, c3⟩ := run_call_op t1
  have hcall := ih fid c1 w M D (xs.map a.eval).toArray (by simpa using trArgs_id hs.env xs c2) hs.store
  refine enter_wp (c3 a w) (R := fun v w' => ∃ D', rd w' D' (XS M D') r v ∧ SRel w' D' M σ' ∧ Gr (Own D) w w' ∧ (∀ o d, D' o = .live d → Own D d.blk ∨ w.heap.size ≤ d.blk) ∧ ∀ j, j < st.objs.length → DSle (D j) (D' j)) (hcall.mono ?_) ?_
  · rintro e w' ⟨v, D', rfl, h1, h2, h3, h4, h5⟩
    exact ⟨v, rfl, D', h1, h2, h3, h4, h5⟩
  · rintro v w' ⟨D', h1, h2, h3, h4, h5⟩
    have E : Ext w D (XS M D) w' D' (XS M D') := by
      refine ⟨h3.size, fun b hb hx => h3.block b hb (fun ho => hx (.inr ho)), ?_, ?_⟩
      · rintro b hb (h | ⟨o, d, ho, rfl⟩)
        · exact .inl h
        · rcases h4 o d ho with h | h
          · exact .inr h
          · omega
      · intro o
        rcases Nat.lt_or_ge o st.objs.length with h | h
        · exact h5 o h
        · rw [hs.store.far o h]; trivial
    rw [t2]
    refine hK D' _ w' ⟨rd_put (fun t => rd_mono _ _ E (hs.env t)) (fun d hd => by rw [hs.tm]; exact t3 d (t2.trans hd)) h1, ?_, ?_, h2, ?_, ?_, fun o ho => (hs.kp o ho).trans (E.ds o)⟩ ?_
    · rw [← hs.tm]; cases x.dst <;> simp [Act.put]
    · rw [← hs.df]; cases x.dst <;> rfl
    · exact hs.gr.trans (h3.mono fun b _ ho => by obtain ⟨o, d, h, hb⟩ := ho; rw [← hb]; exact hs.fr o d h)
    · intro o d ho
      rcases h4 o d ho with ⟨q, d', hq, hb⟩ | h
      · rw [← hb]; exact hs.fr q d' hq
      · exact .inr (Nat.le_trans hs.gr.size h)
    · intro o h1 h2 _ _
      omega
theorem fnOk_reF {W : Win} {f : Nat} {args args2 : List V} {σ' σ2 : Store} {r r2 : V} (ha : LaxL args args2) (hs : ReS W σ' σ2) (hr : CanV W σ' r r2) (ih : FnOk P ν f args [] r σ') : FnOk P ν f args2 [] r2 σ2 := by
  intro fid hf w M D vals h1 h2
  refine (ih fid hf w M D vals (rdL_lax _ _ _ _ _ ha h1) h2).mono ?_
  rintro e w' ⟨v, D', rfl, k1, k2, k3, k4, k5⟩
  refine ⟨v, D'.win W 0, rfl, rd_can k2 hs.some _ _ _ hr k1, k2.re hs (Nat.zero_le _), k3, ?_, fun o ho => by simp at ho⟩
  intro k d hk
  obtain ⟨o, s, l, d0, _, e2, rfl⟩ := win_live hk
  exact k4 o d0 e2
theorem fnOk_laxF {f : Nat} {args args2 : List V} {σ σ' : Store} {r r2 : V} (ha : LaxL args args2) (hr : LaxV r2 r) (ih : FnOk P ν f args σ r σ') : FnOk P ν f args2 σ r2 σ' := by
  intro fid hf w M D vals h1 h2
  refine (ih fid hf w M D vals (rdL_lax _ _ _ _ _ ha h1) h2).mono ?_
  rintro e w' ⟨v, D', rfl, k1, k2⟩
  exact ⟨v, D', rfl, rd_lax _ _ _ _ _ hr k1, k2⟩
end
end Go.Ml
end
section
set_option linter.unusedSimpArgs false
set_option linter.unusedVariables false
namespace Go.Ml
section
variable {σ : Store} {ρ : List Nat}
mutual
theorem OwV.gc {g : Nat → Nat} : ∀ {t v : V} {os : List Nat}, OwV σ v t os → (∀ o ∈ os, place ρ o = some (g o) ∧ o ∈ ρ) → OwV (gcS ρ σ) (mapV (place ρ) v) t (os.map g)
  | .sl sz rows, v, os, h, hg => by
    simp only [OwV] at h ⊢
    rcases h with ⟨h1, rfl, rfl⟩ | ⟨o, rows', os', rfl, h2, rfl, h3⟩
    · exact .inl ⟨h1, rfl, rfl⟩
    · obtain ⟨g1, g2⟩ := hg o (by simp)
      refine .inr ⟨g o, rows'.map fun r => r.map (mapV (place ρ)), os'.map g, by simp only [mapV, g1], ?_, rfl, OwR.gc h3 fun q hq => hg q (by simp [hq])⟩
      rw [objAt_gcS, place_some g1]
      simp only [h2, Option.map_some]; rfl
  | .agg cs, v, os, h, hg => by simp only [OwV] at h ⊢; obtain ⟨cs', rfl, h⟩ := h; exact ⟨_, rfl, OwL.gc h hg⟩
  | .tup cs, v, os, h, hg => by simp only [OwV] at h ⊢; obtain ⟨cs', rfl, h⟩ := h; exact ⟨_, rfl, OwL.gc h hg⟩
  | .any, v, os, h, _ => by simp [OwV] at h
  | .one, v, os, h, _ => by simp [OwV] at h
  | .int .., v, os, h, _ => by simp only [OwV] at h ⊢; obtain ⟨rfl, rfl⟩ := h; exact ⟨rfl, rfl⟩
  | .bool _, v, os, h, _ => by simp only [OwV] at h ⊢; obtain ⟨rfl, rfl⟩ := h; exact ⟨rfl, rfl⟩
  | .str _, v, os, h, _ => by simp only [OwV] at h ⊢; obtain ⟨rfl, rfl⟩ := h; exact ⟨rfl, rfl⟩
  | .nils, v, os, h, _ => by simp [OwV] at h
  | .msl .., v, os, h, _ => by simp [OwV] at h
  | .ptr .., v, os, h, _ => by simp [OwV] at h
  | .fptr .., v, os, h, _ => by simp [OwV] at h
theorem OwL.gc {g : Nat → Nat} : ∀ {ts vs : List V} {os : List Nat}, OwL σ vs ts os → (∀ o ∈ os, place ρ o = some (g o) ∧ o ∈ ρ) → OwL (gcS ρ σ) (mapV.mapL (place ρ) vs) ts (os.map g)
  | [], vs, os, h, _ => by simp only [OwL] at h ⊢; obtain ⟨rfl, rfl⟩ := h; exact ⟨rfl, rfl⟩
  | t :: ts, vs, os, h, hg => by
    simp only [OwL] at h ⊢
    obtain ⟨v, vs', o1, o2, rfl, rfl, h1, h2⟩ := h
    exact ⟨_, _, _, _, rfl, by rw [List.map_append], OwV.gc h1 fun q hq => hg q (by simp [hq]), OwL.gc h2 fun q hq => hg q (by simp [hq])⟩
theorem OwR.gc {g : Nat → Nat} : ∀ {ts vs : List (List V)} {os : List Nat}, OwR σ vs ts os → (∀ o ∈ os, place ρ o = some (g o) ∧ o ∈ ρ) → OwR (gcS ρ σ) (vs.map fun r => r.map (mapV (place ρ))) ts (os.map g)
  | [], vs, os, h, _ => by simp only [OwR] at h ⊢; obtain ⟨rfl, rfl⟩ := h; exact ⟨rfl, rfl⟩
  | t :: ts, vs, os, h, hg => by
    simp only [OwR] at h ⊢
    obtain ⟨v, vs', o1, o2, rfl, rfl, h1, h2⟩ := h
    have hm : ∀ l : List V, mapV.mapL (place ρ) l = l.map (mapV (place ρ)) := by
      intro l
      induction l with
      | nil => rfl
      | cons x l ih => simp only [mapV.mapL, List.map_cons, ih]
    exact ⟨_, _, _, _, rfl, by rw [List.map_append], by rw [show (fun r => List.map (mapV (place ρ)) r) v = mapV.mapL (place ρ) v from (hm v).symm]; exact OwL.gc h1 fun q hq => hg q (by simp [hq]), OwR.gc h2 fun q hq => hg q (by simp [hq])⟩
end
theorem allNoFrz_iff {cs : List V} : noFrz.allNoFrz cs = true ↔ ∀ c ∈ cs, noFrz c = true := by
  induction cs with
  | nil => simp [noFrz.allNoFrz]
  | cons c cs ih => simp [noFrz.allNoFrz, ih]
mutual
theorem OwV.objs : ∀ {t v : V} {os : List Nat}, OwV σ v t os → ∀ o ∈ os, ∃ ob, objAt σ o = some ob ∧ ∀ r ∈ ob.rows, ∀ c ∈ r, noFrz c = true
  | .sl sz rows, v, os, h => by
    simp only [OwV] at h
    rcases h with ⟨_, _, rfl⟩ | ⟨o, rows', os', _, h2, rfl, h3⟩
    · intro o ho; cases ho
    · intro q hq
      rcases List.mem_cons.1 hq with rfl | hq
      · exact ⟨_, h2, OwR.noFrz h3⟩
      · exact OwR.objs h3 q hq
  | .agg cs, v, os, h => by simp only [OwV] at h; obtain ⟨cs', _, h⟩ := h; exact OwL.objs h
  | .tup cs, v, os, h => by simp only [OwV] at h; obtain ⟨cs', _, h⟩ := h; exact OwL.objs h
  | .any, v, os, h => by simp [OwV] at h
  | .one, v, os, h => by simp [OwV] at h
  | .int .., v, os, h => by simp only [OwV] at h; rw [h.2]; intro o ho; cases ho
  | .bool _, v, os, h => by simp only [OwV] at h; rw [h.2]; intro o ho; cases ho
  | .str _, v, os, h => by simp only [OwV] at h; rw [h.2]; intro o ho; cases ho
  | .nils, v, os, h => by simp [OwV] at h
  | .msl .., v, os, h => by simp [OwV] at h
  | .ptr .., v, os, h => by simp [OwV] at h
  | .fptr .., v, os, h => by simp [OwV] at h
theorem OwL.objs : ∀ {ts vs : List V} {os : List Nat}, OwL σ vs ts os → ∀ o ∈ os, ∃ ob, objAt σ o = some ob ∧ ∀ r ∈ ob.rows, ∀ c ∈ r, noFrz c = true
  | [], vs, os, h => by simp only [OwL] at h; rw [h.2]; intro o ho; cases ho
  | t :: ts, vs, os, h => by
    simp only [OwL] at h
    obtain ⟨v, vs', o1, o2, _, rfl, h1, h2⟩ := h
    intro o ho
    rcases List.mem_append.1 ho with ho | ho
    · exact OwV.objs h1 o ho
    · exact OwL.objs h2 o ho
theorem OwR.objs : ∀ {ts vs : List (List V)} {os : List Nat}, OwR σ vs ts os → ∀ o ∈ os, ∃ ob, objAt σ o = some ob ∧ ∀ r ∈ ob.rows, ∀ c ∈ r, noFrz c = true
  | [], vs, os, h => by simp only [OwR] at h; rw [h.2]; intro o ho; cases ho
  | t :: ts, vs, os, h => by
    simp only [OwR] at h
    obtain ⟨v, vs', o1, o2, _, rfl, h1, h2⟩ := h
    intro o ho
    rcases List.mem_append.1 ho with ho | ho
    · exact OwL.objs h1 o ho
    · exact OwR.objs h2 o ho
theorem OwR.noFrz : ∀ {ts vs : List (List V)} {os : List Nat}, OwR σ vs ts os → ∀ r ∈ vs, ∀ c ∈ r, Ml.noFrz c = true
  | [], vs, os, h => by simp only [OwR] at h; rw [h.1]; intro r hr; cases hr
  | t :: ts, vs, os, h => by
    simp only [OwR] at h
    obtain ⟨v, vs', o1, o2, rfl, _, h1, h2⟩ := h
    intro r hr
    rcases List.mem_cons.1 hr with rfl | hr
    · exact allNoFrz_iff.1 (OwL.noFrz h1)
    · exact OwR.noFrz h2 r hr
end
def PO (T : Nat → Option Fn) (f : Nat) (args : List V) (t : V) : Prop :=
  ∃ r σ' os, Run T (.fn f args []) (.fn r σ') ∧ OwV σ' r t os ∧ os.Nodup ∧ freshS σ' = true
theorem PO.of {T : Nat → Option Fn} {f : Nat} {args : List V} {t r : V} {σ' : Store} {os : List Nat} (h : Run T (.fn f args []) (.fn r σ')) (ho : OwV σ' r t os) (hn : os.Nodup) : PO T f args t := by
  have hg : ∀ o ∈ os, place os o = some ((place os o).getD 0) ∧ o ∈ os := by
    intro o hm
    refine ⟨?_, hm⟩
    cases hp : place os o with
    | none => exact absurd hm (place_none hp)
    | some j => rfl
  refine ⟨_, _, _, .gcF os hn (fun i hi => by simp at hi) h, ho.gc hg, ?_, ?_⟩
  · refine (List.pairwise_map.2 ?_)
    refine List.Pairwise.imp_of_mem (fun {a b} ha hb hne e => hne ?_) hn
    have e1 := place_some (hg a ha).1
    have e2 := place_some (hg b hb).1
    rw [e, e2] at e1
    exact (Option.some.inj e1).symm
  · simp only [freshS, List.all_eq_true]
    intro x hx
    obtain ⟨o, hm, rfl⟩ := List.mem_map.1 hx
    obtain ⟨ob, h1, h2⟩ := ho.objs o hm
    rw [h1]
    simp only [Option.map_some, mapO, List.all_eq_true]
    intro r hr c hc
    obtain ⟨r0, hr0, rfl⟩ := List.mem_map.1 hr
    obtain ⟨c0, hc0, rfl⟩ := List.mem_map.1 hc
    exact noFrz_map _ (h2 r0 hr0 c0 hc0)
theorem PO.frz {T : Nat → Option Fn} {f : Nat} {args : List V} {t : V} (h : PO T f args t) (hd : DepLe FD t) : PF T f args t := by
  obtain ⟨r, σ', os, h1, h2, _, _⟩ := h
  exact .frz h1 (ow_res FD h2 hd)
theorem RefK_own {T : Nat → Option Fn} {f : Nat} {as : List Src} {dst : Option Nat} {env : Nat → V} {σ : Store} {kp bs : Nat} {rs ms : List Nat} {k : St → Prop} {as' : List V} {t : V} (h : PO T f as' t)
    (ha : resK env σ as (· = as'))
    (hk : ∀ r σ2 os, OwV σ2 r t os → os.Nodup → (∀ o ∈ os, σ.length ≤ o) → (∀ o, o < σ.length → objAt σ2 o = objAt σ o) → σ.length ≤ σ2.length → k ⟨updO env dst r, σ2, kp, bs, rs, ms⟩) :
    RefK T f as dst ⟨env, σ, kp, bs, rs, ms⟩ k := by
  obtain ⟨r, σ', os, h1, h2, h3, h4⟩ := h
  obtain ⟨vs, e, rfl⟩ := resK_spec ha
  refine ⟨_, .own e h1 (R := []) (by rw [if_pos]; simp [h2.noFrz, h4]), ?_⟩
  have key : ∀ o, objAt (addS (killAll σ []) σ') (σ.length + o) = (objAt σ' o).map (mapO (shiftN σ.length)) := by
    intro o
    show objAt (addS σ σ') _ = _
    rw [objAt_addS, if_neg (by omega)]
    congr 2; omega
  refine hk _ _ (os.map (σ.length + ·)) (h2.shift key) ?_ ?_ ?_ ?_
  · exact List.pairwise_map.2 (h3.imp fun hne e => hne (by omega))
  · intro o ho
    obtain ⟨q, _, rfl⟩ := List.mem_map.1 ho
    omega
  · intro o ho
    show objAt (addS σ σ') _ = _
    rw [objAt_addS, if_pos ho]
  · simp [addS, killAll]
theorem RefK_idn {T : Nat → Option Fn} {f : Nat} {as : List Src} {dst : Option Nat} {env : Nat → V} {σ σ' : Store} {kp bs : Nat} {rs ms : List Nat} {k : St → Prop} {r : V}
    (h : Run T (.fn f (as.map fun s => s.ev env) σ) (.fn r σ')) (hl : σ.length ≤ σ'.length) (hb : σ.length ≤ bs) (hk : k ⟨updO env dst r, σ', kp, bs, rs, ms⟩) : RefK T f as dst ⟨env, σ, kp, bs, rs, ms⟩ k :=
  ⟨_, .idn h hl hb, hk⟩
def outW : List Res → List V → St → (V → Store → Prop) → Prop
  | [], acc, st, k => mvK (packRes acc.reverse) fun v => k v st.objs
  | r :: rs, acc, st, k => optK (r.get st) fun v => mvK v fun v => outW rs (v :: acc) st k
theorem outW_spec {st : St} {k : V → Store → Prop} : ∀ (rs : List Res) (acc : List V), outW rs acc st k → optK (rs.mapM (Res.get st)) fun vs => k (packRes (acc.reverse ++ vs)) st.objs
  | [], acc, h => by simpa [optK, outW, mvK] using h
  | r :: rs, acc, h => by
    obtain ⟨v, e, h⟩ := optK_spec h
    have := outW_spec rs (v :: acc) h
    obtain ⟨vs, e2, h⟩ := optK_spec this
    simp only [List.mapM_cons, e, e2]
    simpa [optK, wr] using h
def endW (rs : List Res) (e : Ex) (k : V → Store → Prop) (st : St) : Prop := match e with
  | .normal => outW rs [] st k
  | .ret => outW rs [] st k
  | .exit _ => False
theorem endW_n (rs : List Res) (k : V → Store → Prop) (st : St) : endW rs .normal k st = outW rs [] st k := nr rfl
theorem endW_r (rs : List Res) (k : V → Store → Prop) (st : St) : endW rs .ret k st = outW rs [] st k := nr rfl
theorem outW_n (acc : List V) (st : St) (k : V → Store → Prop) : outW [] acc st k = mvK (packRes acc.reverse) fun v => k v st.objs := nr rfl
theorem outW_t (t : Nat) (rs : List Res) (acc : List V) (st : St) (k : V → Store → Prop) : outW (.tmp t :: rs) acc st k = mvK (st.env t) fun v => outW rs (v :: acc) st k := nr rfl
theorem outW_c1 (t n : Nat) (rs : List Res) (acc : List V) (st : St) (k : V → Store → Prop) : outW (.cell t n false :: rs) acc st k = optK (rowAt st.objs (st.env t)) fun p => optK p.1[p.2]? fun v => mvK v fun v => outW rs (v :: acc) st k := by
  simp only [outW, Res.get]
  cases rowAt st.objs (st.env t) <;> rfl
theorem outW_cn (t n : Nat) (rs : List Res) (acc : List V) (st : St) (k : V → Store → Prop) : outW (.cell t n true :: rs) acc st k = optK (rowAt st.objs (st.env t)) fun p => if p.2 + n ≤ p.1.length then mvK (.agg ((p.1.drop p.2).take n)) fun v => outW rs (v :: acc) st k else False := by
  simp only [outW, Res.get]
  cases e : rowAt st.objs (st.env t) with
  | none => rfl
  | some p =>
    by_cases h : p.2 + n ≤ p.1.length
    · simp only [optK, if_true, mvK, wr_eq, if_pos h]
    · simp only [optK, if_true, mvK, wr_eq, if_neg h]
theorem run_end {T : Nat → Option Fn} {f : Nat} {F : Fn} {args : List V} {σ : Store} {k : V → Store → Prop} (rf : Nat → Nat → Bool) (hT : T f = some F) (hl : args.length = F.nargs) (hk : F.body.okC = true)
    (h : wp T rf F.body (fun e st => endW F.res e k st) (St.enter args σ)) : ∃ r σ', Run T (.fn f args σ) (.fn r σ') ∧ k r σ' := by
  obtain ⟨e, st', h1, h2⟩ := wp_sound hk h
  have h3 : (e = .normal ∨ e = .ret) ∧ outW F.res [] st' k := by
    cases e with
    | normal => exact ⟨.inl rfl, h2⟩
    | ret => exact ⟨.inr rfl, h2⟩
    | exit id => exact h2.elim
  obtain ⟨he, h3⟩ := h3
  obtain ⟨rs, e1, h4⟩ := optK_spec (outW_spec _ _ h3)
  exact ⟨_, _, .fn hT hl h1 he e1, h4⟩
end
end Go.Ml
end
section
set_option linter.unusedSimpArgs false
set_option linter.unusedVariables false
namespace Go.Ml
section
variable {σ : Store}
theorem OwL.len : ∀ {ts vs : List V} {os : List Nat}, OwL σ vs ts os → vs.length = ts.length
  | [], vs, os, h => by simp only [OwL] at h; simp [h.1]
  | t :: ts, vs, os, h => by
    simp only [OwL] at h
    obtain ⟨v, vs', o1, o2, rfl, _, _, h2⟩ := h
    simp [OwL.len h2]
theorem OwL.focus : ∀ {ts vs : List V} {os : List Nat} (c : Nat) (t : V), OwL σ vs ts os → os.Nodup → ts[c]? = some t →
    ∃ vc oc, vs[c]? = some vc ∧ OwV σ vc t oc ∧ oc.Nodup ∧ (∀ q ∈ oc, q ∈ os) ∧
      ∀ σ' vc' tc', OwV σ' vc' tc' oc → (∀ q ∈ os, q ∉ oc → objAt σ' q = objAt σ q) → OwL σ' (vs.set c vc') (ts.set c tc') os
  | [], vs, os, c, t, _, _, hc => by simp at hc
  | x :: ts, vs, os, 0, t, h, hn, hc => by
    simp only [OwL] at h
    obtain ⟨v, vs', o1, o2, rfl, rfl, h1, h2⟩ := h
    simp at hc; subst hc
    rw [List.nodup_append] at hn
    refine ⟨v, o1, rfl, h1, hn.1, fun q hq => by simp [hq], fun σ' vc' tc' hv hf => ?_⟩
    simp only [List.set_cons_zero, OwL]
    exact ⟨vc', vs', o1, o2, rfl, rfl, hv, h2.frame fun q hq => hf q (by simp [hq]) fun h => hn.2.2 q h q hq rfl⟩
  | x :: ts, vs, os, c + 1, t, h, hn, hc => by
    simp only [OwL] at h
    obtain ⟨v, vs', o1, o2, rfl, rfl, h1, h2⟩ := h
    rw [List.nodup_append] at hn
    obtain ⟨vc, oc, k1, k2, k3, k4, k5⟩ := OwL.focus c t h2 hn.2.1 (by simpa using hc)
    refine ⟨vc, oc, by simpa using k1, k2, k3, fun q hq => by simp [k4 q hq], fun σ' vc' tc' hv hf => ?_⟩
    simp only [List.set_cons_succ, OwL]
    exact ⟨v, _, o1, o2, rfl, rfl, h1.frame fun q hq => hf q (by simp [hq]) fun h => hn.2.2 q hq q (k4 q h) rfl, k5 σ' vc' tc' hv fun q hq hnq => hf q (by simp [hq]) hnq⟩
theorem OwR.focus : ∀ {ts vs : List (List V)} {os : List Nat} (c : Nat) (t : List V), OwR σ vs ts os → os.Nodup → ts[c]? = some t →
    ∃ vc oc, vs[c]? = some vc ∧ OwL σ vc t oc ∧ oc.Nodup ∧ (∀ q ∈ oc, q ∈ os) ∧
      ∀ σ' vc' tc', OwL σ' vc' tc' oc → (∀ q ∈ os, q ∉ oc → objAt σ' q = objAt σ q) → OwR σ' (vs.set c vc') (ts.set c tc') os
  | [], vs, os, c, t, _, _, hc => by simp at hc
  | x :: ts, vs, os, 0, t, h, hn, hc => by
    simp only [OwR] at h
    obtain ⟨v, vs', o1, o2, rfl, rfl, h1, h2⟩ := h
    simp at hc; subst hc
    rw [List.nodup_append] at hn
    refine ⟨v, o1, rfl, h1, hn.1, fun q hq => by simp [hq], fun σ' vc' tc' hv hf => ?_⟩
    simp only [List.set_cons_zero, OwR]
    exact ⟨vc', vs', o1, o2, rfl, rfl, hv, h2.frame fun q hq => hf q (by simp [hq]) fun h => hn.2.2 q h q hq rfl⟩
  | x :: ts, vs, os, c + 1, t, h, hn, hc => by
    simp only [OwR] at h
    obtain ⟨v, vs', o1, o2, rfl, rfl, h1, h2⟩ := h
    rw [List.nodup_append] at hn
    obtain ⟨vc, oc, k1, k2, k3, k4, k5⟩ := OwR.focus c t h2 hn.2.1 (by simpa using hc)
    refine ⟨vc, oc, by simpa using k1, k2, k3, fun q hq => by simp [k4 q hq], fun σ' vc' tc' hv hf => ?_⟩
    simp only [List.set_cons_succ, OwR]
    exact ⟨v, _, o1, o2, rfl, rfl, h1.frame fun q hq => hf q (by simp [hq]) fun h => hn.2.2 q hq q (k4 q h) rfl, k5 σ' vc' tc' hv fun q hq hnq => hf q (by simp [hq]) hnq⟩
theorem OwV.focus {v : V} {sz : Nat} {rows : List (List V)} {os : List Nat} {i c : Nat} {row : List V} {t : V} (h : OwV σ v (.sl sz rows) os) (hn : os.Nodup) (hi : rows[i]? = some row) (hc : row[c]? = some t) :
    ∃ o rows' row' vc oc, v = .msl o 0 rows.length ∧ objAt σ o = some ⟨sz, rows'⟩ ∧ rows'.length = rows.length ∧ rows'[i]? = some row' ∧ row'.length = row.length ∧ row'[c]? = some vc ∧ OwV σ vc t oc ∧ oc.Nodup ∧ (∀ q ∈ oc, q ∈ os) ∧ o ∈ os ∧ o ∉ oc ∧
      (∀ σ' tc', OwV σ' vc tc' oc → (∀ q ∈ os, q ∉ oc → objAt σ' q = objAt σ q) → OwV σ' v (.sl sz (rows.set i (row.set c tc'))) os) ∧
      (∀ x, oc = [] → (x.leaf = true) → (∃ k n, x = .int k n) ∨ (∃ b, x = .bool b) → OwV (σ.set o (some ⟨sz, rows'.set i (row'.set c x)⟩)) v (.sl sz (rows.set i (row.set c x))) os) := by
  simp only [OwV] at h
  rcases h with ⟨rfl, _, _⟩ | ⟨o, rows', os', rfl, h2, rfl, h3⟩
  · simp at hi
  rw [List.nodup_cons] at hn
  obtain ⟨row', oi, k1, k2, k3, k4, k5⟩ := h3.focus i row hn.2 hi
  obtain ⟨vc, oc, j1, j2, j3, j4, j5⟩ := k2.focus c t k3 hc
  have hno : o ∉ oc := fun h => hn.1 (k4 o (j4 o h))
  have hset : rows'.set i (row'.set c vc) = rows' := by
    have : row'.set c vc = row' := by
      apply List.ext_getElem?
      intro n
      rw [List.getElem?_set]
      split
      · subst_vars
        split
        · exact j1.symm
        · rename_i hlt
          rw [List.getElem?_eq_none (by omega)]
      · rfl
    rw [this]
    apply List.ext_getElem?
    intro n
    rw [List.getElem?_set]
    split
    · subst_vars
      split
      · exact k1.symm
      · rename_i hlt
        rw [List.getElem?_eq_none (by omega)]
    · rfl
  refine ⟨o, rows', row', vc, oc, rfl, h2, h3.len, k1, k2.len, j1, j2, j3, fun q hq => by simp [k4 q (j4 q hq)], by simp, hno, ?_, ?_⟩
  · intro σ' tc' hv hf
    simp only [OwV]
    refine .inr ⟨o, rows', os', by simp, by rw [hf o (by simp) hno]; exact h2, rfl, ?_⟩
    have h6 := j5 σ' vc tc' hv fun q hq hnq => hf q (by simp [k4 q hq]) hnq
    have h7 := k5 σ' _ _ h6 fun q hq hnq => hf q (by simp [hq]) fun h => hnq (j4 q h)
    rwa [hset] at h7
  · intro x hoc hl hx
    have hlt := objAt_lt h2
    have hf : ∀ q, q ≠ o → objAt (σ.set o (some ⟨sz, rows'.set i (row'.set c x)⟩)) q = objAt σ q := fun q hq => by
      rw [objAt_set hlt, if_neg (fun e => hq e.symm)]
    simp only [OwV]
    refine .inr ⟨o, rows'.set i (row'.set c x), os', by simp, by rw [objAt_set hlt, if_pos rfl], rfl, ?_⟩
    have hno' : ∀ q ∈ os', q ≠ o := fun q hq e => hn.1 (e ▸ hq)
    have hx' : OwV (σ.set o (some ⟨sz, rows'.set i (row'.set c x)⟩)) x x oc := by
      rw [hoc]
      rcases hx with ⟨k, n, rfl⟩ | ⟨b, rfl⟩ <;> simp [OwV]
    have h6 := j5 (σ.set o (some ⟨sz, rows'.set i (row'.set c x)⟩)) x x hx' fun q hq _ => hf q (hno' q (k4 q hq))
    exact k5 _ _ _ h6 fun q hq _ => hf q (hno' q hq)
def Owns (σ : Store) (vs ts : List V) : Prop := ∃ os, OwL σ vs ts os ∧ os.Nodup
theorem owL_append : ∀ {ts vs ts' vs' : List V} {os os' : List Nat}, OwL σ vs ts os → OwL σ vs' ts' os' → OwL σ (vs ++ vs') (ts ++ ts') (os ++ os')
  | [], vs, ts', vs', os, os', h, h' => by simp only [OwL] at h; obtain ⟨rfl, rfl⟩ := h; simpa using h'
  | t :: ts, vs, ts', vs', os, os', h, h' => by
    simp only [OwL] at h
    obtain ⟨v, vs1, o1, o2, rfl, rfl, h1, h2⟩ := h
    simp only [List.cons_append, OwL]
    exact ⟨v, vs1 ++ vs', o1, o2 ++ os', rfl, by simp, h1, owL_append h2 h'⟩
theorem Owns.push {σ2 : Store} {vs ts : List V} {r t : V} {os : List Nat} (h : Owns σ vs ts) (h1 : OwV σ2 r t os) (h2 : os.Nodup) (h3 : ∀ o ∈ os, σ.length ≤ o) (h4 : ∀ o, o < σ.length → objAt σ2 o = objAt σ o) :
    Owns σ2 (vs ++ [r]) (ts ++ [t]) := by
  obtain ⟨os0, k1, k2⟩ := h
  refine ⟨os0 ++ os, owL_append (k1.frame fun o ho => h4 o (OwL.lt k1 o ho)) ?_, ?_⟩
  · simp only [OwL]; exact ⟨r, [], os, [], rfl, by simp, h1, rfl, rfl⟩
  · rw [List.nodup_append]
    refine ⟨k2, h2, fun a ha b hb e => ?_⟩
    have := OwL.lt k1 a ha
    have := h3 b hb
    omega
theorem Owns.frame {σ2 : Store} {vs ts : List V} (h : Owns σ vs ts) (h4 : ∀ o, o < σ.length → objAt σ2 o = objAt σ o) : Owns σ2 vs ts := by
  obtain ⟨os0, k1, k2⟩ := h
  exact ⟨os0, k1.frame fun o ho => h4 o (OwL.lt k1 o ho), k2⟩
theorem Owns.res {vs ts : List V} (h : Owns σ vs ts) {i : Nat} {v t : V} (hv : vs[i]? = some v) (ht : ts[i]? = some t) (hd : DepLe FD t) : resolve σ FD v = some t := by
  obtain ⟨os, k1, k2⟩ := h
  obtain ⟨vc, oc, j1, j2, _⟩ := k1.focus i t k2 ht
  rw [hv] at j1
  cases j1
  exact ow_res FD j2 hd
def Mk (T : Nat → Option Fn) (f : Nat) (t : V) (k : Int) (t' : V) (k' : Int) : Prop :=
  ∀ σ v os, OwV σ v t os → os.Nodup → ∃ σ', Run T (.fn f [v, .int .i64 k] σ) (.fn (.int .i64 k') σ') ∧ OwV σ' v t' os ∧ (∀ o, o < σ.length → o ∉ os → objAt σ' o = objAt σ o) ∧ σ.length ≤ σ'.length
end
end Go.Ml
end
section
set_option linter.unusedSimpArgs false
set_option linter.unusedVariables false
namespace Go.Ml
theorem EVw : (∀ (rs : List Res) (k : V → Store → Prop) (st : St), endW rs .normal k st = outW rs [] st k) ∧ (∀ (rs : List Res) (k : V → Store → Prop) (st : St), endW rs .ret k st = outW rs [] st k) ∧
    (∀ (acc : List V) (st : St) (k : V → Store → Prop), outW [] acc st k = mvK (packRes acc.reverse) fun v => k v st.objs) ∧
    (∀ (t : Nat) (rs : List Res) (acc : List V) (st : St) (k : V → Store → Prop), outW (.tmp t :: rs) acc st k = mvK (st.env t) fun v => outW rs (v :: acc) st k) ∧
    (∀ (t n : Nat) (rs : List Res) (acc : List V) (st : St) (k : V → Store → Prop), outW (.cell t n false :: rs) acc st k = optK (rowAt st.objs (st.env t)) fun p => optK p.1[p.2]? fun v => mvK v fun v => outW rs (v :: acc) st k) ∧
    (∀ (t n : Nat) (rs : List Res) (acc : List V) (st : St) (k : V → Store → Prop), outW (.cell t n true :: rs) acc st k = optK (rowAt st.objs (st.env t)) fun p => if p.2 + n ≤ p.1.length then mvK (.agg ((p.1.drop p.2).take n)) fun v => outW rs (v :: acc) st k else False) :=
  ⟨endW_n, endW_r, outW_n, outW_t, outW_c1, outW_cn⟩
theorem objAt_snoc (σ : Store) (a : Option Obj) : objAt (σ ++ [a]) σ.length = a := by simp [objAt]
theorem objAt_snoc_n (σ : Store) (o : Nat) : objAt (σ ++ [none]) o = objAt σ o := by
  unfold objAt
  rcases Nat.lt_trichotomy o σ.length with h | h | h
  · rw [List.getElem?_append_left h]
  · subst h; simp
  · rw [List.getElem?_eq_none (by simp; omega), List.getElem?_eq_none (by omega)]
theorem objAt_snoc_lt {σ : Store} {a : Option Obj} {o : Nat} (h : o < σ.length) : objAt (σ ++ [a]) o = objAt σ o := by
  unfold objAt; rw [List.getElem?_append_left h]
theorem set_snoc (σ : Store) (a b : Option Obj) : (σ ++ [a]).set σ.length b = σ ++ [b] := by
  rw [List.set_append_right _ _ (Nat.le_refl _)]; simp
theorem set_snoc_lt {σ : Store} {a b : Option Obj} {o : Nat} (h : o < σ.length) : (σ ++ [a]).set o b = σ.set o b ++ [a] := List.set_append_left _ _ h
theorem objAt_seteq {σ : Store} {o : Nat} {x : Option Obj} (h : o < σ.length) : objAt (σ.set o x) o = x := by
  rw [objAt_set h, if_pos rfl]
theorem objAt_setne {σ : Store} {o p : Nat} {x : Option Obj} (h : o ≠ p) : objAt (σ.set p x) o = objAt σ o := by
  unfold objAt
  rw [List.getElem?_set, if_neg (fun e => h e.symm)]
theorem stoK_any (σ : Store) (k : Store → Prop) : stoK σ k = k σ := nr rfl
theorem EVs : (∀ (σ : Store) (k : Store → Prop), stoK σ k = k σ) ∧ (∀ (σ : Store) (a : Option Obj), objAt (σ ++ [a]) σ.length = a) ∧ (∀ (σ : Store) (o : Nat), objAt (σ ++ [none]) o = objAt σ o) ∧
    (∀ {σ : Store} {a : Option Obj} {o : Nat}, o < σ.length → objAt (σ ++ [a]) o = objAt σ o) ∧ (∀ (σ : Store) (a b : Option Obj), (σ ++ [a]).set σ.length b = σ ++ [b]) ∧
    (∀ {σ : Store} {a b : Option Obj} {o : Nat}, o < σ.length → (σ ++ [a]).set o b = σ.set o b ++ [a]) ∧ (∀ {σ : Store} {o : Nat} {x : Option Obj}, o < σ.length → objAt (σ.set o x) o = x) ∧
    (∀ {σ : Store} {o p : Nat} {x : Option Obj}, o ≠ p → objAt (σ.set p x) o = objAt σ o) ∧ (∀ (σ : Store) (a : Option Obj), (σ ++ [a]).length = σ.length + 1) ∧ (∀ (σ : Store) (o : Nat) (x : Option Obj), (σ.set o x).length = σ.length) :=
  ⟨stoK_any, objAt_snoc, objAt_snoc_n, fun h => objAt_snoc_lt h, set_snoc, fun h => set_snoc_lt h, fun h => objAt_seteq h, fun h => objAt_setne h, fun σ a => by simp, fun σ o x => by simp⟩
structure Got (σ σ2 : Store) (r t : V) (os : List Nat) : Prop where
  ow : OwV σ2 r t os
  nd : os.Nodup
  fresh : ∀ o ∈ os, σ.length ≤ o
  old : ∀ o, o < σ.length → objAt σ2 o = objAt σ o
  len : σ.length ≤ σ2.length
theorem RefK_got {T : Nat → Option Fn} {f : Nat} {as : List Src} {dst : Option Nat} {env : Nat → V} {σ : Store} {kp bs : Nat} {rs ms : List Nat} {k : St → Prop} {as' : List V} {t : V} (h : PO T f as' t)
    (ha : resK env σ as (· = as')) (hk : ∀ r σ2 os, Got σ σ2 r t os → k ⟨updO env dst r, σ2, kp, bs, rs, ms⟩) : RefK T f as dst ⟨env, σ, kp, bs, rs, ms⟩ k :=
  RefK_own h ha fun r σ2 os h1 h2 h3 h4 h5 => hk r σ2 os ⟨h1, h2, h3, h4, h5⟩
theorem Owns.got {σ σ2 : Store} {vs ts : List V} {r t : V} {os : List Nat} (h : Owns σ vs ts) (g : Got σ σ2 r t os) : Owns σ2 (vs ++ [r]) (ts ++ [t]) := h.push g.ow g.nd g.fresh g.old
theorem owL_int {σ : Store} {q : IntKind} {n : Int} {vs ts : List V} {os : List Nat} (h : OwL σ vs ts os) : OwL σ (.int q n :: vs) (.int q n :: ts) os := by
  simp only [OwL]; exact ⟨_, vs, [], os, rfl, rfl, by simp [OwV], h⟩
theorem owL_bool {σ : Store} {b : Bool} {vs ts : List V} {os : List Nat} (h : OwL σ vs ts os) : OwL σ (.bool b :: vs) (.bool b :: ts) os := by
  simp only [OwL]; exact ⟨_, vs, [], os, rfl, rfl, by simp [OwV], h⟩
theorem owL_v {σ : Store} {v t : V} {vs ts : List V} {o1 o2 : List Nat} (h1 : OwV σ v t o1) (h : OwL σ vs ts o2) : OwL σ (v :: vs) (t :: ts) (o1 ++ o2) := by
  simp only [OwL]; exact ⟨v, vs, o1, o2, rfl, rfl, h1, h⟩
theorem owL_nil {σ : Store} : OwL σ [] [] [] := by simp [OwL]
theorem owV_agg {σ : Store} {cs ts : List V} {os : List Nat} (h : OwL σ cs ts os) : OwV σ (.agg cs) (.agg ts) os := by simp only [OwV]; exact ⟨cs, rfl, h⟩
theorem owV_tup {σ : Store} {cs ts : List V} {os : List Nat} (h : OwL σ cs ts os) : OwV σ (.tup cs) (.tup ts) os := by simp only [OwV]; exact ⟨cs, rfl, h⟩
theorem owV_ints {σ : Store} {o : Nat} {l : List Int} (h : objAt σ o = some ⟨1, irows l⟩) : OwV σ (.msl o 0 l.length) (ints l) [o] := by
  simp only [OwV]
  refine .inr ⟨o, irows l, [], by rw [ir_len], h, rfl, ?_⟩
  have : ∀ (l : List Int), OwR σ (irows l) (irows l) [] := by
    intro l
    induction l with
    | nil => simp [irows, OwR]
    | cons x l ih => simp only [irows_cons, OwR]; exact ⟨_, _, [], [], rfl, rfl, owL_int owL_nil, ih⟩
  exact this _
theorem owV_ints0 {σ : Store} : OwV σ (.sl 1 []) (ints []) [] := by simp [OwV, irows]
theorem OwV.ints_inv {σ : Store} {v : V} {l : List Int} {os : List Nat} (h : OwV σ v (ints l) os) : (l = [] ∧ v = .sl 1 [] ∧ os = []) ∨ ∃ o, v = .msl o 0 l.length ∧ objAt σ o = some ⟨1, irows l⟩ ∧ os = [o] := by
  simp only [OwV] at h
  rcases h with ⟨h1, h2, h3⟩ | ⟨o, rows', os', h1, h2, h3, h4⟩
  · left; exact ⟨by simpa [irows] using h1, h2, h3⟩
  · right
    have key : ∀ (l : List Int) (rows' : List (List V)) (os' : List Nat), OwR σ rows' (irows l) os' → rows' = irows l ∧ os' = [] := by
      intro l
      induction l with
      | nil => intro rows' os' h; simp only [irows_nil, OwR] at h; exact h
      | cons x l ih =>
        intro rows' os' h
        simp only [irows_cons, OwR] at h
        obtain ⟨v, vs', o1, o2, rfl, rfl, h1, h2⟩ := h
        obtain ⟨rfl, rfl⟩ := ih _ _ h2
        simp only [OwL, OwV] at h1
        obtain ⟨v1, vs1, a1, a2, rfl, rfl, ⟨rfl, rfl⟩, rfl, rfl⟩ := h1
        exact ⟨rfl, rfl⟩
    obtain ⟨rfl, rfl⟩ := key l rows' os' h4
    exact ⟨o, by rw [h1, ir_len], h2, h3⟩
structure Fr (os : List Nat) (σ σ' : Store) : Prop where
  old : ∀ o, o < σ.length → o ∉ os → objAt σ' o = objAt σ o
  len : σ.length ≤ σ'.length
theorem Fr.refl (os : List Nat) (σ : Store) : Fr os σ σ := ⟨fun _ _ _ => rfl, Nat.le_refl _⟩
theorem Fr.trans {os : List Nat} {a b c : Store} (h : Fr os a b) (k : Fr os b c) : Fr os a c := ⟨fun o hl ho => (k.old o (Nat.lt_of_lt_of_le hl h.len) ho).trans (h.old o hl ho), Nat.le_trans h.len k.len⟩
theorem Fr.mono {os os' : List Nat} {a b : Store} (h : Fr os a b) (hs : ∀ o ∈ os, o ∈ os') : Fr os' a b := ⟨fun o hl ho => h.old o hl fun k => ho (hs o k), h.len⟩
theorem fr_set {os : List Nat} {σ : Store} {o : Nat} {x : Option Obj} (h : o ∈ os) : Fr os σ (σ.set o x) := ⟨fun p _ hp => objAt_setne fun e => hp (e ▸ h), by simp⟩
theorem fr_snoc {os : List Nat} {σ : Store} {x : Option Obj} : Fr os σ (σ ++ [x]) := ⟨fun p hl _ => objAt_snoc_lt hl, by simp⟩
theorem mk_iff {T : Nat → Option Fn} {f : Nat} {t t' : V} {k k' : Int} (h : ∀ σ v os, OwV σ v t os → os.Nodup → ∃ σ', Run T (.fn f [v, .int .i64 k] σ) (.fn (.int .i64 k') σ') ∧ OwV σ' v t' os ∧ Fr os σ σ') : Mk T f t k t' k' := by
  intro σ v os h1 h2
  obtain ⟨σ', a, b, c⟩ := h σ v os h1 h2
  exact ⟨σ', a, b, c.old, c.len⟩
def Fin (σ : Store) (r t : V) : Prop := ∃ r' os, LaxV r' r ∧ OwV σ r' t os ∧ os.Nodup
theorem fin_of {σ : Store} {r t : V} {os : List Nat} (h : OwV σ r t os) (hn : os.Nodup) : Fin σ r t := ⟨r, os, laxV_refl _, h, hn⟩
theorem fin_nil {σ : Store} {sz : Nat} : Fin σ .nils (.sl sz []) := ⟨.sl sz [], [], by simp [LaxV], by simp [OwV], .nil⟩
theorem fin_ints {σ : Store} {o : Nat} {l : List Int} (h : objAt σ o = some ⟨1, irows l⟩) : Fin σ (.msl o 0 l.length) (ints l) := fin_of (owV_ints h) (by simp)
theorem po_end2 {T : Nat → Option Fn} {f : Nat} {F : Fn} {args : List V} {t : V} (rf : Nat → Nat → Bool) (hT : T f = some F) (hl : args.length = F.nargs) (hk : F.body.okC = true)
    (h : wp T rf F.body (fun e st => endW F.res e (fun r σ => Fin σ r t) st) (St.enter args [])) : PO T f args t := by
  obtain ⟨r, σ', h1, r', os, h2, h3, h4⟩ := run_end rf hT hl hk h
  exact .of (.laxF (laxL_refl _) h1 h2) h3 h4
theorem cells_lf {v : V} (h : v.leaf = true) (k : List V → Prop) : cellsK v k = k [v] := by
  cases v <;> first | rfl | (simp [V.leaf] at h)
theorem Got.lf {σ σ2 : Store} {r t : V} {os : List Nat} (g : Got σ σ2 r t os) (h : t.leaf = true) (k : List V → Prop) : cellsK r k = k [r] := cells_lf (g.ow.leaf h) k
theorem Got.at {σ σ2 : Store} {r t : V} {os : List Nat} (g : Got σ σ2 r t os) (o : Nat) {x : Option Obj} (h : o < σ.length) (hx : objAt σ o = x) : objAt σ2 o = x := (g.old o h).trans hx
theorem EVl : V.leaf .one = true ∧ (∀ k n, V.leaf (.int k n) = true) ∧ (∀ b, V.leaf (.bool b) = true) ∧ (∀ b, V.leaf (.str b) = true) ∧ V.leaf .nils = true ∧ (∀ a b, V.leaf (.sl a b) = true) ∧ (∀ a b c, V.leaf (.msl a b c) = true) ∧
    (∀ a b c, V.leaf (.ptr a b c) = true) ∧ (∀ a b, V.leaf (.fptr a b) = true) ∧ (∀ a, V.leaf (.agg a) = false) ∧ (∀ a, V.leaf (.tup a) = false) ∧ V.leaf .any = false :=
  ⟨rfl, fun _ _ => rfl, fun _ => rfl, fun _ => rfl, rfl, fun _ _ => rfl, fun _ _ _ => rfl, fun _ _ _ => rfl, fun _ _ => rfl, fun _ => rfl, fun _ => rfl, rfl⟩
theorem OwV.agg_inv {σ : Store} {r : V} {ts : List V} {os : List Nat} (h : OwV σ r (.agg ts) os) : ∃ cs, r = .agg cs ∧ OwL σ cs ts os := by simpa only [OwV] using h
theorem OwV.tup_inv {σ : Store} {r : V} {ts : List V} {os : List Nat} (h : OwV σ r (.tup ts) os) : ∃ cs, r = .tup cs ∧ OwL σ cs ts os := by simpa only [OwV] using h
theorem OwL.int_inv {σ : Store} {vs ts : List V} {q : IntKind} {n : Int} {os : List Nat} (h : OwL σ vs (.int q n :: ts) os) : ∃ vs', vs = .int q n :: vs' ∧ OwL σ vs' ts os := by
  simp only [OwL, OwV] at h
  obtain ⟨v, vs', o1, o2, rfl, rfl, ⟨rfl, rfl⟩, h⟩ := h
  exact ⟨vs', rfl, h⟩
theorem OwL.bool_inv {σ : Store} {vs ts : List V} {b : Bool} {os : List Nat} (h : OwL σ vs (.bool b :: ts) os) : ∃ vs', vs = .bool b :: vs' ∧ OwL σ vs' ts os := by
  simp only [OwL, OwV] at h
  obtain ⟨v, vs', o1, o2, rfl, rfl, ⟨rfl, rfl⟩, h⟩ := h
  exact ⟨vs', rfl, h⟩
theorem OwL.inv {σ : Store} {vs ts : List V} {t : V} {os : List Nat} (h : OwL σ vs (t :: ts) os) : ∃ v vs' o1 o2, vs = v :: vs' ∧ os = o1 ++ o2 ∧ OwV σ v t o1 ∧ OwL σ vs' ts o2 := by
  simpa only [OwL] using h
theorem OwL.nil_inv {σ : Store} {vs : List V} {os : List Nat} (h : OwL σ vs [] os) : vs = [] ∧ os = [] := by simpa only [OwL] using h
theorem OwL.leaf : ∀ {σ : Store} {ts vs : List V} {os : List Nat}, OwL σ vs ts os → ts.all V.leaf = true → vs.all V.leaf = true
  | _, [], vs, os, h, _ => by obtain ⟨rfl, _⟩ := h.nil_inv; rfl
  | σ, t :: ts, vs, os, h, hl => by
    obtain ⟨v, vs', o1, o2, rfl, rfl, h1, h2⟩ := h.inv
    simp only [List.all_cons, Bool.and_eq_true] at hl ⊢
    exact ⟨h1.leaf hl.1, h2.leaf hl.2⟩
theorem cells_agg {cs : List V} (h : cs.all V.leaf = true) (k : List V → Prop) : cellsK (.agg cs) k = k cs := by
  unfold cellsK
  simp only [V.cells?]
  rw [if_pos h]; rfl
theorem OwV.bi_inv {σ : Store} {v : V} {n : Bool} {l : List Int} {os : List Nat} (h : OwV σ v (.agg [.bool n, ints l]) os) : ∃ v1, v = .agg [.bool n, v1] ∧ OwV σ v1 (ints l) os := by
  obtain ⟨cs, rfl, a⟩ := h.agg_inv
  obtain ⟨cs, rfl, b⟩ := a.bool_inv
  obtain ⟨v1, cs, o1, o2, rfl, rfl, c, d⟩ := b.inv
  obtain ⟨rfl, rfl⟩ := d.nil_inv
  exact ⟨v1, rfl, by simpa using c⟩
theorem OwV.rat_inv {σ : Store} {v : V} {n : Bool} {l m : List Int} {os : List Nat} (h : OwV σ v (.agg [.bool n, ints l, ints m]) os) :
    ∃ v1 v2 o1 o2, v = .agg [.bool n, v1, v2] ∧ os = o1 ++ o2 ∧ OwV σ v1 (ints l) o1 ∧ OwV σ v2 (ints m) o2 := by
  obtain ⟨cs, rfl, a⟩ := h.agg_inv
  obtain ⟨cs, rfl, b⟩ := a.bool_inv
  obtain ⟨v1, cs, o1, o2, rfl, rfl, c, d⟩ := b.inv
  obtain ⟨v2, cs, o3, o4, rfl, rfl, e, f⟩ := d.inv
  obtain ⟨rfl, rfl⟩ := f.nil_inv
  exact ⟨v1, v2, o1, o3, rfl, by simp, c, e⟩
structure Ow (n : Nat) (σ : Store) (vs ts : List V) : Prop where
  ex : ∃ os, OwL σ vs ts os ∧ os.Nodup ∧ ∀ o ∈ os, n ≤ o
theorem ow_nil {n : Nat} {σ : Store} : Ow n σ [] [] := ⟨[], owL_nil, .nil, by simp⟩
theorem Ow.set {n : Nat} {σ : Store} {vs ts : List V} (h : Ow n σ vs ts) {o : Nat} {x : Option Obj} (ho : o < n) : Ow n (σ.set o x) vs ts := by
  obtain ⟨os, a, b, c⟩ := h.ex
  exact ⟨os, a.frame fun q hq => objAt_setne (by have := c q hq; omega), b, c⟩
theorem Ow.snoc {n : Nat} {σ : Store} {vs ts : List V} (h : Ow n σ vs ts) {x : Option Obj} : Ow n (σ ++ [x]) vs ts := by
  obtain ⟨os, a, b, c⟩ := h.ex
  exact ⟨os, a.frame fun q hq => objAt_snoc_lt (a.lt q hq), b, c⟩
theorem Ow.got {n : Nat} {σ σ2 : Store} {vs ts : List V} {r t : V} {os : List Nat} (h : Ow n σ vs ts) (g : Got σ σ2 r t os) (hn : n ≤ σ.length) : Ow n σ2 (vs ++ [r]) (ts ++ [t]) := by
  obtain ⟨os0, a, b, c⟩ := h.ex
  refine ⟨os0 ++ os, owL_append (a.frame fun o ho => g.old o (a.lt o ho)) ?_, ?_, fun o ho => ?_⟩
  · simpa using owL_v g.ow owL_nil
  · rw [List.nodup_append]
    refine ⟨b, g.nd, fun x hx y hy e => ?_⟩
    have := a.lt x hx
    have := g.fresh y hy
    omega
  · rcases List.mem_append.1 ho with ho | ho
    · exact c o ho
    · have := g.fresh o ho; omega
theorem Ow.int {n : Nat} {σ : Store} {vs ts : List V} (h : Ow n σ vs ts) (q : IntKind) (k : Int) : Ow n σ (vs ++ [.int q k]) (ts ++ [.int q k]) := by
  obtain ⟨os0, a, b, c⟩ := h.ex
  exact ⟨os0, by simpa using owL_append a (owL_int (q := q) (n := k) owL_nil), b, c⟩
theorem Ow.bool {n : Nat} {σ : Store} {vs ts : List V} (h : Ow n σ vs ts) (k : Bool) : Ow n σ (vs ++ [.bool k]) (ts ++ [.bool k]) := by
  obtain ⟨os0, a, b, c⟩ := h.ex
  exact ⟨os0, by simpa using owL_append a (owL_bool (b := k) owL_nil), b, c⟩
theorem owL_split : ∀ {σ : Store} {ts ts' vs : List V} {os : List Nat}, OwL σ vs (ts ++ ts') os → ∃ v1 v2 o1 o2, vs = v1 ++ v2 ∧ os = o1 ++ o2 ∧ OwL σ v1 ts o1 ∧ OwL σ v2 ts' o2
  | σ, [], ts', vs, os, h => ⟨[], vs, [], os, rfl, rfl, owL_nil, h⟩
  | σ, t :: ts, ts', vs, os, h => by
    obtain ⟨v, vs', o1, o2, rfl, rfl, h1, h2⟩ := OwL.inv h
    obtain ⟨a, b, c, d, rfl, rfl, h3, h4⟩ := owL_split h2
    exact ⟨v :: a, b, o1 ++ c, d, rfl, by simp, owL_v h1 h3, h4⟩
theorem Ow.flat {n : Nat} {σ : Store} {vs ts cs tcs : List V} (h : Ow n σ (vs ++ [.agg cs]) (ts ++ [.agg tcs])) (hl : vs.length = ts.length) : Ow n σ (vs ++ cs) (ts ++ tcs) := by
  obtain ⟨os0, a, b, c⟩ := h.ex
  obtain ⟨v1, v2, o1, o2, e, rfl, h1, h2⟩ := owL_split a
  have hl1 := h1.len
  obtain ⟨rfl, rfl⟩ := List.append_inj e (by omega)
  obtain ⟨v, vs', o3, o4, e2, rfl, h3, h4⟩ := h2.inv
  simp only [List.cons.injEq] at e2
  obtain ⟨rfl, rfl⟩ := e2
  obtain ⟨_, rfl⟩ := h4.nil_inv
  obtain ⟨cs', e3, h5⟩ := h3.agg_inv
  cases e3
  exact ⟨o1 ++ o3, owL_append h1 h5, by simpa using b, fun o ho => c o (by simpa using ho)⟩
theorem Ow.fin {n : Nat} {σ : Store} {vs ts : List V} (h : Ow n σ vs ts) : Fin σ (.agg vs) (.agg ts) := by
  obtain ⟨os0, a, b, c⟩ := h.ex
  exact fin_of (owV_agg a) b
theorem owR_append : ∀ {σ : Store} {ts vs ts' vs' : List (List V)} {os os' : List Nat}, OwR σ vs ts os → OwR σ vs' ts' os' → OwR σ (vs ++ vs') (ts ++ ts') (os ++ os')
  | σ, [], vs, ts', vs', os, os', h, h' => by simp only [OwR] at h; obtain ⟨rfl, rfl⟩ := h; simpa using h'
  | σ, t :: ts, vs, ts', vs', os, os', h, h' => by
    simp only [OwR] at h
    obtain ⟨v, vs1, o1, o2, rfl, rfl, h1, h2⟩ := h
    simp only [List.cons_append, OwR]
    exact ⟨v, vs1 ++ vs', o1, o2 ++ os', rfl, by simp, h1, owR_append h2 h'⟩
theorem owR_1 {σ : Store} {v t : List V} {os : List Nat} (h : OwL σ v t os) : OwR σ [v] [t] os := by
  simp only [OwR]; exact ⟨v, [], os, [], rfl, by simp, h, rfl, rfl⟩
structure OwRs (n : Nat) (σ : Store) (vs ts : List (List V)) : Prop where
  ex : ∃ os, OwR σ vs ts os ∧ os.Nodup ∧ ∀ o ∈ os, n ≤ o
theorem OwRs.set {n : Nat} {σ : Store} {vs ts : List (List V)} (h : OwRs n σ vs ts) {o : Nat} {x : Option Obj} (ho : o < n) : OwRs n (σ.set o x) vs ts := by
  obtain ⟨os, a, b, c⟩ := h.ex
  exact ⟨os, a.frame fun q hq => objAt_setne (by have := c q hq; omega), b, c⟩
theorem OwRs.got {n : Nat} {σ σ2 : Store} {vs ts : List (List V)} {cs tcs : List V} {os : List Nat} (h : OwRs n σ vs ts) (g : Got σ σ2 (.agg cs) (.agg tcs) os) (hn : n ≤ σ.length) : OwRs n σ2 (vs ++ [cs]) (ts ++ [tcs]) := by
  obtain ⟨os0, a, b, c⟩ := h.ex
  obtain ⟨cs', e, h5⟩ := g.ow.agg_inv
  cases e
  refine ⟨os0 ++ os, owR_append (a.frame fun o ho => g.old o (a.lt o ho)) (owR_1 h5), ?_, fun o ho => ?_⟩
  · rw [List.nodup_append]
    refine ⟨b, g.nd, fun x hx y hy e => ?_⟩
    have := a.lt x hx
    have := g.fresh y hy
    omega
  · rcases List.mem_append.1 ho with ho | ho
    · exact c o ho
    · have := g.fresh o ho; omega
theorem OwRs.fin {n o sz : Nat} {σ : Store} {vs ts : List (List V)} (h : OwRs n σ vs ts) (ho : objAt σ o = some ⟨sz, vs⟩) (hn : o < n) : Fin σ (.msl o 0 ts.length) (.sl sz ts) := by
  obtain ⟨os0, a, b, c⟩ := h.ex
  refine fin_of (os := o :: os0) ?_ (List.nodup_cons.2 ⟨fun k => by have := c o k; omega, b⟩)
  simp only [OwV]
  exact .inr ⟨o, vs, os0, rfl, ho, rfl, a⟩
theorem ew {P Q : Prop} (h : Q) (e : P = Q := by conv => lhs; simp (maxSteps := 1000000) (disch := first | omega | assumption | (simp; done) | (simp; omega)) only [↓EVp, ↓EVw, EVs, EVl, EVq, splice, Nat.reduceAdd, Nat.reduceEqDiff, Nat.reduceMul, Nat.reduceLT, Nat.reduceLeDiff, Nat.reduceBEq, reduceIte, noWr, noRf, dN_s, Bool.true_and, Bool.false_and, Bool.or_false, Bool.false_or, Bool.true_or, reduceCtorEq]) : P := Eq.mpr (e) h
theorem ew1 {P Q A1 : Prop} (x1 : A1) (h : Q) (e : A1 → P = Q := by intro x1; conv => lhs; simp (maxSteps := 1000000) (disch := first | omega | assumption | (simp; done) | (simp; omega)) only [↓EVp, ↓EVw, EVs, EVl, EVq, splice, Nat.reduceAdd, Nat.reduceEqDiff, Nat.reduceMul, Nat.reduceLT, Nat.reduceLeDiff, Nat.reduceBEq, reduceIte, noWr, noRf, dN_s, Bool.true_and, Bool.false_and, Bool.or_false, Bool.false_or, Bool.true_or, reduceCtorEq, x1]) : P := Eq.mpr (e x1) h
theorem ew2 {P Q A1 A2 : Prop} (x1 : A1) (x2 : A2) (h : Q) (e : A1 → A2 → P = Q := by intro x1 x2; conv => lhs; simp (maxSteps := 1000000) (disch := first | omega | assumption | (simp; done) | (simp; omega)) only [↓EVp, ↓EVw, EVs, EVl, EVq, splice, Nat.reduceAdd, Nat.reduceEqDiff, Nat.reduceMul, Nat.reduceLT, Nat.reduceLeDiff, Nat.reduceBEq, reduceIte, noWr, noRf, dN_s, Bool.true_and, Bool.false_and, Bool.or_false, Bool.false_or, Bool.true_or, reduceCtorEq, x1, x2]) : P := Eq.mpr (e x1 x2) h
theorem ew3 {P Q A1 A2 A3 : Prop} (x1 : A1) (x2 : A2) (x3 : A3) (h : Q) (e : A1 → A2 → A3 → P = Q := by intro x1 x2 x3; conv => lhs; simp (maxSteps := 1000000) (disch := first | omega | assumption | (simp; done) | (simp; omega)) only [↓EVp, ↓EVw, EVs, EVl, EVq, splice, Nat.reduceAdd, Nat.reduceEqDiff, Nat.reduceMul, Nat.reduceLT, Nat.reduceLeDiff, Nat.reduceBEq, reduceIte, noWr, noRf, dN_s, Bool.true_and, Bool.false_and, Bool.or_false, Bool.false_or, Bool.true_or, reduceCtorEq, x1, x2, x3]) : P := Eq.mpr (e x1 x2 x3) h
theorem ew4 {P Q A1 A2 A3 A4 : Prop} (x1 : A1) (x2 : A2) (x3 : A3) (x4 : A4) (h : Q) (e : A1 → A2 → A3 → A4 → P = Q := by intro x1 x2 x3 x4; conv => lhs; simp (maxSteps := 1000000) (disch := first | omega | assumption | (simp; done) | (simp; omega)) only [↓EVp, ↓EVw, EVs, EVl, EVq, splice, Nat.reduceAdd, Nat.reduceEqDiff, Nat.reduceMul, Nat.reduceLT, Nat.reduceLeDiff, Nat.reduceBEq, reduceIte, noWr, noRf, dN_s, Bool.true_and, Bool.false_and, Bool.or_false, Bool.false_or, Bool.true_or, reduceCtorEq, x1, x2, x3, x4]) : P := Eq.mpr (e x1 x2 x3 x4) h
theorem ew5 {P Q A1 A2 A3 A4 A5 : Prop} (x1 : A1) (x2 : A2) (x3 : A3) (x4 : A4) (x5 : A5) (h : Q) (e : A1 → A2 → A3 → A4 → A5 → P = Q := by intro x1 x2 x3 x4 x5; conv => lhs; simp (maxSteps := 1000000) (disch := first | omega | assumption | (simp; done) | (simp; omega)) only [↓EVp, ↓EVw, EVs, EVl, EVq, splice, Nat.reduceAdd, Nat.reduceEqDiff, Nat.reduceMul, Nat.reduceLT, Nat.reduceLeDiff, Nat.reduceBEq, reduceIte, noWr, noRf, dN_s, Bool.true_and, Bool.false_and, Bool.or_false, Bool.false_or, Bool.true_or, reduceCtorEq, x1, x2, x3, x4, x5]) : P := Eq.mpr (e x1 x2 x3 x4 x5) h
theorem ew6 {P Q A1 A2 A3 A4 A5 A6 : Prop} (x1 : A1) (x2 : A2) (x3 : A3) (x4 : A4) (x5 : A5) (x6 : A6) (h : Q) (e : A1 → A2 → A3 → A4 → A5 → A6 → P = Q := by intro x1 x2 x3 x4 x5 x6; conv => lhs; simp (maxSteps := 1000000) (disch := first | omega | assumption | (simp; done) | (simp; omega)) only [↓EVp, ↓EVw, EVs, EVl, EVq, splice, Nat.reduceAdd, Nat.reduceEqDiff, Nat.reduceMul, Nat.reduceLT, Nat.reduceLeDiff, Nat.reduceBEq, reduceIte, noWr, noRf, dN_s, Bool.true_and, Bool.false_and, Bool.or_false, Bool.false_or, Bool.true_or, reduceCtorEq, x1, x2, x3, x4, x5, x6]) : P := Eq.mpr (e x1 x2 x3 x4 x5 x6) h
end Go.Ml
end
section
set_option linter.unusedSimpArgs false
set_option linter.unusedVariables false
namespace Go.Ml
theorem Mk.go {T : Nat → Option Fn} {f : Nat} {t t' : V} {k k' : Int} (h : Mk T f t k t' k') {σ : Store} {v : V} {os : List Nat} (ho : OwV σ v t os) (hn : os.Nodup) :
    ∃ σ', Run T (.fn f [v, .int .i64 k] σ) (.fn (.int .i64 k') σ') ∧ OwV σ' v t' os ∧ Fr os σ σ' := by
  obtain ⟨σ', a, b, c, d⟩ := h σ v os ho hn
  exact ⟨σ', a, b, ⟨c, d⟩⟩
structure Cs (σ : Store) (cs ts : List V) (os : List Nat) : Prop where
  ow : OwL σ cs ts os
  nd : os.Nodup
theorem set_at {α : Type} {l : List α} {i : Nat} {x : α} (h : l[i]? = some x) : l.set i x = l := by
  apply List.ext_getElem?
  intro n
  rw [List.getElem?_set]
  split
  · subst_vars
    split
    · exact h.symm
    · rename_i hlt; rw [List.getElem?_eq_none (by omega)]
  · rfl
section
variable {σ σ' : Store} {cs ts : List V} {os : List Nat}
theorem Cs.lt (h : Cs σ cs ts os) : ∀ q ∈ os, q < σ.length := h.ow.lt
theorem Cs.frame (h : Cs σ cs ts os) (f : ∀ q ∈ os, objAt σ' q = objAt σ q) : Cs σ' cs ts os := ⟨h.ow.frame f, h.nd⟩
theorem Cs.fr {os' : List Nat} (h : Cs σ cs ts os) (f : Fr os' σ σ') (hd : ∀ q ∈ os, q ∉ os') : Cs σ' cs ts os := h.frame fun q hq => f.old q (h.lt q hq) (hd q hq)
theorem Cs.snoc (h : Cs σ cs ts os) {x : Option Obj} : Cs (σ ++ [x]) cs ts os := h.frame fun q hq => objAt_snoc_lt (h.lt q hq)
theorem Cs.set (h : Cs σ cs ts os) {o : Nat} {x : Option Obj} (ho : o ∉ os) : Cs (σ.set o x) cs ts os := h.frame fun q hq => objAt_setne fun e => ho (e ▸ hq)
theorem Cs.call {T : Nat → Option Fn} {f : Nat} {t t' v : V} {k k' : Int} (h : Cs σ cs ts os) (c : Nat) (hm : Mk T f t k t' k') (hv : cs[c]? = some v) (ht : ts[c]? = some t) :
    ∃ σ', Run T (.fn f [v, .int .i64 k] σ) (.fn (.int .i64 k') σ') ∧ Cs σ' cs (ts.set c t') os ∧ Fr os σ σ' := by
  obtain ⟨vc, oc, j1, j2, j3, j4, j5⟩ := h.ow.focus c t h.nd ht
  rw [hv] at j1
  cases j1
  obtain ⟨σ', m1, m2, m3⟩ := hm.go j2 j3
  refine ⟨σ', m1, ⟨?_, h.nd⟩, m3.mono j4⟩
  have := j5 σ' v t' m2 fun q hq' hq => m3.old q (h.lt q hq') hq
  rwa [set_at hv] at this
theorem Cs.part {T : Nat → Option Fn} {f : Nat} {t2 t2' : List V} {k k' : Int} (h : Cs σ cs ts os) (n m : Nat) (hm : Mk T f (.agg t2) k (.agg t2') k') (ht : (ts.drop n).take m = t2) (hn : n + m ≤ ts.length) :
    ∃ σ', Run T (.fn f [.agg ((cs.drop n).take m), .int .i64 k] σ) (.fn (.int .i64 k') σ') ∧ Cs σ' cs (ts.take n ++ t2' ++ ts.drop (n + m)) os ∧ Fr os σ σ' := by
  have e : ts = ts.take n ++ (t2 ++ ts.drop (n + m)) := by
    rw [← ht]
    conv => lhs; rw [← List.take_append_drop n ts, ← List.take_append_drop m (ts.drop n), List.drop_drop]
  have lt2 : t2.length = m := by rw [← ht]; simp; omega
  have h1 := h.ow
  rw [e] at h1
  obtain ⟨c1, c2, o1, o2, rfl, rfl, a1, a2⟩ := owL_split h1
  have l1 := a1.len
  obtain ⟨c3, c4, o3, o4, rfl, rfl, a3, a4⟩ := owL_split a2
  have l2 := a3.len
  have nd := h.nd
  have l1' : c1.length = n := by rw [l1]; simp; omega
  have e2 : ((c1 ++ (c3 ++ c4)).drop n).take m = c3 := by
    rw [← l1', List.drop_left, ← lt2, ← l2, List.take_left]
  rw [e2]
  simp only [List.nodup_append, List.mem_append] at nd
  obtain ⟨nd1, ⟨nd3, nd4, d34⟩, d1⟩ := nd
  obtain ⟨σ', m1, m2, m3⟩ := hm.go (owV_agg a3) nd3
  obtain ⟨cs', e3, m4⟩ := m2.agg_inv
  cases e3
  have lt := h.lt
  refine ⟨σ', m1, ⟨?_, h.nd⟩, m3.mono (by simp +contextual)⟩
  rw [List.append_assoc]
  refine owL_append (a1.frame fun q hq => m3.old q (lt q (by simp [hq])) fun hk => d1 q hq q (.inl hk) rfl) (owL_append m4 (a4.frame fun q hq => m3.old q (lt q (by simp [hq])) fun hk => d34 q hk q hq rfl))
theorem Cs.got {σ2 : Store} {r t : V} {os2 : List Nat} (h : Cs σ cs ts os) (g : Got σ σ2 r t os2) : Cs σ2 (cs ++ [r]) (ts ++ [t]) (os ++ os2) := by
  refine ⟨owL_append (h.ow.frame fun q hq => g.old q (h.lt q hq)) (by simpa using owL_v g.ow owL_nil), ?_⟩
  rw [List.nodup_append]
  refine ⟨h.nd, g.nd, fun x hx y hy e => ?_⟩
  have := h.lt x hx
  have := g.fresh y hy
  omega
theorem cs_nil : Cs σ [] [] [] := ⟨owL_nil, .nil⟩
theorem Cs.res (h : Cs σ cs ts os) (c : Nat) {v t : V} (hv : cs[c]? = some v) (ht : ts[c]? = some t) (hd : DepLe FD t) : resolve σ FD v = some t := by
  obtain ⟨vc, oc, j1, j2, _⟩ := h.ow.focus c t h.nd ht
  rw [hv] at j1
  cases j1
  exact ow_res FD j2 hd
end
theorem RefK_mk {T : Nat → Option Fn} {f : Nat} {as : List Src} {dst : Option Nat} {env : Nat → V} {σ σ' : Store} {kp bs : Nat} {rs ms : List Nat} {k : St → Prop} {as' : List V} {r : V}
    (h : Run T (.fn f as' σ) (.fn r σ')) (ha : (as.map fun s => s.ev env) = as') (hl : σ.length ≤ σ'.length) (hb : σ.length ≤ bs) (hk : k ⟨updO env dst r, σ', kp, bs, rs, ms⟩) : RefK T f as dst ⟨env, σ, kp, bs, rs, ms⟩ k := by
  subst ha
  exact RefK_idn h hl hb hk
def mkL {α : Type} (f : Int → α → α) (c : α → Nat) : Int → List α → List α
  | _, [] => []
  | k, x :: l => f k x :: mkL f c (k + c x) l
def cnL {α : Type} (c : α → Nat) (l : List α) (i : Nat) : Nat := ((l.take i).map c).sum
end Go.Ml
end
section
set_option linter.unusedSimpArgs false
set_option linter.unusedVariables false
namespace Go.Ml
theorem mapL_eq (g : Nat → Option Nat) : ∀ l : List V, mapV.mapL g l = l.map (mapV g)
  | [] => rfl
  | x :: l => by simp only [mapV.mapL, List.map_cons, mapL_eq g l]
section
variable {σ σ2 : Store} {m : Nat}
theorem mapM_shift {n : Nat} (ih : ∀ v t : V, resolve σ n v = some t → resolve σ2 n (mapV (shiftN m) v) = some t) : ∀ (l l' : List V), l.mapM (resolve σ n) = some l' → (l.map (mapV (shiftN m))).mapM (resolve σ2 n) = some l'
  | [], l', h => by simpa using h
  | x :: l, l', h => by
    simp only [List.mapM_cons, Option.pure_def, Option.bind_eq_bind, Option.bind_eq_some_iff, List.map_cons] at h ⊢
    obtain ⟨a, ha, b, hb, e⟩ := h
    exact ⟨a, ih x a ha, b, mapM_shift ih l b hb, e⟩
theorem mapM_shiftR {n : Nat} (ih : ∀ v t : V, resolve σ n v = some t → resolve σ2 n (mapV (shiftN m) v) = some t) : ∀ (l : List (List V)) (l' : List (List V)), (l.mapM fun (r : List V) => r.mapM (resolve σ n)) = some l' →
    ((l.map fun r => r.map (mapV (shiftN m))).mapM fun (r : List V) => r.mapM (resolve σ2 n)) = some l'
  | [], l', h => by simpa using h
  | x :: l, l', h => by
    simp only [List.mapM_cons, Option.pure_def, Option.bind_eq_bind, Option.bind_eq_some_iff, List.map_cons] at h ⊢
    obtain ⟨a, ha, b, hb, e⟩ := h
    exact ⟨a, mapM_shift ih x a ha, b, mapM_shiftR ih l b hb, e⟩
theorem res_shift (hs : ∀ o, objAt σ2 (m + o) = (objAt σ o).map (mapO (shiftN m))) : ∀ (n : Nat) (v t : V), resolve σ n v = some t → resolve σ2 n (mapV (shiftN m) v) = some t
  | 0, _, _, h => by simp [resolve] at h
  | n + 1, v, t, h => by
    have ih := res_shift hs n
    cases v with
    | msl o s l =>
      simp only [mapV, shiftN, resolve, hs] at h ⊢
      cases ho : objAt σ o with
      | none => rw [ho] at h; cases h
      | some ob =>
        rw [ho] at h
        simp only [Option.map_some, mapO, List.length_map] at h ⊢
        split at h
        · rename_i hl
          rw [if_pos hl]
          obtain ⟨rows, h1, rfl⟩ := Option.map_eq_some_iff.1 h
          rw [Option.map_eq_some_iff]
          refine ⟨rows, ?_, rfl⟩
          rw [← List.map_drop, ← List.map_take]
          exact mapM_shiftR ih _ _ h1
        · cases h
    | ptr o r off =>
      simp only [mapV, shiftN, resolve, hs] at h ⊢
      cases ho : objAt σ o with
      | none => rw [ho] at h; cases h
      | some ob =>
        rw [ho] at h
        simp only [Option.map_some, mapO, List.getElem?_map] at h ⊢
        cases hr : ob.rows[r]? with
        | none => rw [hr] at h; cases h
        | some row =>
          rw [hr] at h
          simp only [Option.map_some] at h ⊢
          obtain ⟨row', h1, rfl⟩ := Option.map_eq_some_iff.1 h
          rw [Option.map_eq_some_iff]
          exact ⟨row', mapM_shift ih _ _ h1, rfl⟩
    | agg cs =>
      simp only [mapV, resolve] at h ⊢
      obtain ⟨cs', h1, rfl⟩ := Option.map_eq_some_iff.1 h
      rw [Option.map_eq_some_iff, mapL_eq]
      exact ⟨cs', mapM_shift ih _ _ h1, rfl⟩
    | tup cs =>
      simp only [mapV, resolve] at h ⊢
      obtain ⟨cs', h1, rfl⟩ := Option.map_eq_some_iff.1 h
      rw [Option.map_eq_some_iff, mapL_eq]
      exact ⟨cs', mapM_shift ih _ _ h1, rfl⟩
    | any => simp [resolve] at h
    | one => simpa only [mapV, resolve] using h
    | int k n => simpa only [mapV, resolve] using h
    | bool b => simpa only [mapV, resolve] using h
    | str b => simpa only [mapV, resolve] using h
    | nils => simpa only [mapV, resolve] using h
    | sl a b => simpa only [mapV, resolve] using h
    | fptr a b => simpa only [mapV, resolve] using h
end
def OwX (σ : Store) : List V → List (Bool × V) → List Nat → Prop
  | vs, [], os => vs = [] ∧ os = []
  | vs, (b, t) :: ts, os => ∃ v vs' o1 o2, vs = v :: vs' ∧ os = o1 ++ o2 ∧ (if b = true then OwV σ v t o1 else resolve σ FD v = some t ∧ o1 = []) ∧ OwX σ vs' ts o2
theorem OwX.shift {σ σ2 : Store} {n : Nat} (hs : ∀ o, objAt σ2 (n + o) = (objAt σ o).map (mapO (shiftN n))) : ∀ {ts : List (Bool × V)} {vs : List V} {os : List Nat}, OwX σ vs ts os → OwX σ2 (vs.map (mapV (shiftN n))) ts (os.map (n + ·))
  | [], vs, os, h => by simp only [OwX] at h ⊢; obtain ⟨rfl, rfl⟩ := h; exact ⟨rfl, rfl⟩
  | (b, t) :: ts, vs, os, h => by
    simp only [OwX] at h ⊢
    obtain ⟨v, vs', o1, o2, rfl, rfl, h1, h2⟩ := h
    refine ⟨_, _, o1.map (n + ·), o2.map (n + ·), rfl, by rw [List.map_append], ?_, OwX.shift hs h2⟩
    cases b with
    | true => simp only [if_true] at h1 ⊢; exact OwV.shift hs h1
    | false =>
      simp only [Bool.false_eq_true, if_false] at h1 ⊢
      exact ⟨res_shift hs _ _ _ h1.1, by rw [h1.2]; rfl⟩
structure GotX (σ σ2 : Store) (vs : List V) (ts : List (Bool × V)) (os : List Nat) : Prop where
  ow : OwX σ2 vs ts os
  nd : os.Nodup
  fresh : ∀ o ∈ os, σ.length ≤ o
  old : ∀ o, o < σ.length → objAt σ2 o = objAt σ o
  len : σ.length ≤ σ2.length
theorem Got.tup1 {σ σ2 : Store} {r t : V} {b : Bool} {os : List Nat} (g : Got σ σ2 r (.tup [t, .bool b]) os) : ∃ v, r = .tup [v, .bool b] ∧ Got σ σ2 v t os := by
  obtain ⟨cs, rfl, h⟩ := g.ow.tup_inv
  obtain ⟨v, vs, o1, o2, rfl, rfl, h1, h2⟩ := h.inv
  obtain ⟨vs, rfl, h3⟩ := h2.bool_inv
  obtain ⟨rfl, rfl⟩ := h3.nil_inv
  exact ⟨v, rfl, by simpa using h1, g.nd, g.fresh, g.old, g.len⟩
theorem fin_bool {σ : Store} {b : Bool} : Fin σ (.bool b) (.bool b) := fin_of (os := []) (by simp [OwV]) .nil
theorem Fin.tup1 {σ : Store} {v t : V} {b : Bool} (h : Fin σ v t) : Fin σ (.tup [v, .bool b]) (.tup [t, .bool b]) := by
  obtain ⟨r', os, h1, h2, h3⟩ := h
  refine ⟨.tup [r', .bool b], os, ?_, owV_tup (by simpa using owL_v h2 (owL_bool owL_nil)), h3⟩
  simp only [LaxV, LaxL]
  exact ⟨_, rfl, _, _, rfl, h1, _, _, rfl, rfl, rfl⟩
end Go.Ml
end
section
set_option linter.unusedSimpArgs false
set_option linter.unusedVariables false
namespace Go.Ml
theorem dep_int (n : Nat) (q : IntKind) (k : Int) : DepLe (n + 1) (.int q k) := by simp [DepLe]
theorem dep_bool (n : Nat) (b : Bool) : DepLe (n + 1) (.bool b) := by simp [DepLe]
theorem dep_ints (n : Nat) (l : List Int) : DepLe (n + 2) (ints l) := by
  simp only [DepLe]
  intro r hr c hc
  simp only [irows, List.mem_map] at hr
  obtain ⟨x, _, rfl⟩ := hr
  simp only [List.mem_cons, List.not_mem_nil, or_false] at hc
  subst hc; simp [DepLe]
theorem dep_agg {n : Nat} {cs : List V} (h : ∀ c ∈ cs, DepLe n c) : DepLe (n + 1) (.agg cs) := by simpa only [DepLe] using h
theorem dc_lk (n : Nat) (x : Lk) : ∀ c ∈ x.cells, DepLe (n + 2) c := by
  simp only [List.forall_mem_cons]; exact ⟨dep_int _ _ _, dep_int _ _ _, dep_bool _ _, dep_ints _ _, dep_ints _ _, dep_bool _ _, dep_ints _ _, dep_ints _ _, dep_bool _ _, dep_ints _ _, dep_ints _ _, by simp⟩
theorem dep_lk (n : Nat) (x : Lk) : DepLe (n + 3) (lkV x) := dep_agg (dc_lk n x)
theorem dep_tup2 {n : Nat} {a b : V} (h1 : DepLe n a) (h2 : DepLe n b) : DepLe (n + 1) (.tup [a, b]) := by
  simp only [DepLe, List.forall_mem_cons]; exact ⟨h1, h2, by simp⟩
end Go.Ml
end
section
set_option linter.unusedSimpArgs false
set_option linter.unusedVariables false
namespace Go.Ml
structure Grow (s : Store) (v : V) (sz : Nat) (A ts : List (List V)) : Prop where
  ex : ∃ os, OwR s A ts os ∧ os.Nodup ∧ ((A = [] ∧ v = .nils) ∨ ∃ o, v = .msl o 0 A.length ∧ objAt s o = some ⟨sz, A⟩ ∧ o ∉ os)
section
variable {s s1 σ2 S : Store} {v : V} {sz : Nat} {A ts : List (List V)}
theorem Grow.len (h : Grow s v sz A ts) : A.length = ts.length := by obtain ⟨os, a, _⟩ := h.ex; exact a.len
theorem Grow.cases (h : Grow s v sz A ts) : (A = [] ∧ ts = [] ∧ v = .nils) ∨ ∃ o, v = .msl o 0 A.length ∧ objAt s o = some ⟨sz, A⟩ ∧ o < s.length := by
  have hl := h.len
  obtain ⟨os, a, b, c⟩ := h.ex
  rcases c with ⟨rfl, rfl⟩ | ⟨o, rfl, h1, h2⟩
  · exact .inl ⟨rfl, List.eq_nil_of_length_eq_zero (by simpa using hl.symm), rfl⟩
  · exact .inr ⟨o, rfl, h1, objAt_lt h1⟩
theorem Grow.frame (h : Grow s v sz A ts) (f : ∀ o, o < s.length → objAt S o = objAt s o) : Grow S v sz A ts := by
  obtain ⟨os, a, b, c⟩ := h.ex
  refine ⟨os, a.frame fun q hq => f q (a.lt q hq), b, ?_⟩
  rcases c with c | ⟨o, rfl, h1, h2⟩
  · exact .inl c
  · exact .inr ⟨o, rfl, (f o (objAt_lt h1)).trans h1, h2⟩
theorem Grow.fin (h : Grow s v sz A ts) : Fin s v (.sl sz ts) := by
  have hl := h.len
  obtain ⟨os, a, b, c⟩ := h.ex
  rcases c with ⟨rfl, rfl⟩ | ⟨o, rfl, h1, h2⟩
  · have : ts = [] := List.eq_nil_of_length_eq_zero (by simpa using hl.symm)
    subst this; exact fin_nil
  · rw [hl]
    refine fin_of (os := o :: os) ?_ (List.nodup_cons.2 ⟨h2, b⟩)
    simp only [OwV]
    exact .inr ⟨o, A, os, rfl, h1, rfl, a⟩
theorem Grow.app {cs tcs : List V} {os2 : List Nat} {id2 : Nat} (h : Grow s v sz A ts) (hs : ∀ o, o < s.length → objAt s1 o = objAt s o) (hl : s.length ≤ s1.length) (g : Got s1 σ2 (.agg cs) (.agg tcs) os2)
    (h0 : s.length ≤ id2) (hid : id2 < s1.length) (h2 : objAt S id2 = some ⟨sz, A ++ [cs]⟩)
    (hf : ∀ q, q ≠ id2 → (q < s.length ∨ s1.length ≤ q) → (∀ n, v ≠ .msl q 0 n) → objAt S q = objAt σ2 q) : Grow S (.msl id2 0 (A.length + 1)) sz (A ++ [cs]) (ts ++ [tcs]) := by
  obtain ⟨os, a, b, c⟩ := h.ex
  have a' := a.frame (σ' := σ2) fun q hq => by
    have := a.lt q hq
    rw [g.old q (by omega), hs q this]
  obtain ⟨cs', e, hc⟩ := g.ow.agg_inv
  cases e
  have hlt := a.lt
  have hv : ∀ q ∈ os ++ os2, ∀ n, v ≠ .msl q 0 n := by
    intro q hq n
    rcases c with ⟨_, rfl⟩ | ⟨o, rfl, h1, h2⟩
    · simp
    · intro e
      have e2 : o = q := by injection e
      rw [e2] at h1 h2
      rcases List.mem_append.1 hq with hq | hq
      · exact h2 hq
      · have := g.fresh q hq
        have := objAt_lt h1
        omega
  have hne : ∀ q ∈ os ++ os2, q ≠ id2 ∧ (q < s.length ∨ s1.length ≤ q) := by
    intro q hq
    rcases List.mem_append.1 hq with hq | hq
    · have := hlt q hq; exact ⟨by omega, by omega⟩
    · have := g.fresh q hq; exact ⟨by omega, by omega⟩
  have fr : ∀ q ∈ os ++ os2, objAt S q = objAt σ2 q := fun q hq => hf q (hne q hq).1 (hne q hq).2 (hv q hq)
  refine ⟨os ++ os2, owR_append (a'.frame fun q hq => fr q (List.mem_append_left _ hq)) (owR_1 (hc.frame fun q hq => fr q (List.mem_append_right _ hq))), ?_, .inr ⟨id2, by simp, h2, fun hm => (hne id2 hm).1 rfl⟩⟩
  rw [List.nodup_append]
  refine ⟨b, g.nd, fun x hx y hy e => ?_⟩
  have := hlt x hx
  have := g.fresh y hy
  omega
theorem objAt_app_lt {s t : Store} {o : Nat} (h : o < s.length) : objAt (s ++ t) o = objAt s o := by
  unfold objAt; rw [List.getElem?_append_left h]
end
end Go.Ml
end
section
set_option linter.unusedSimpArgs false
set_option linter.unusedVariables false
namespace Go.Ml
structure Ep (s : Store) (cs ts : List V) (os : List Nat) (L : List (Nat × Obj)) : Prop where
  c : Cs s cs ts os
  l : ∀ q ∈ L, objAt s q.1 = some q.2 ∧ q.1 ∉ os
section
variable {s σ2 : Store} {cs ts : List V} {os os2 : List Nat} {L : List (Nat × Obj)}
theorem Ep.lt (E : Ep s cs ts os L) : ∀ q ∈ L, q.1 < s.length := fun q hq => objAt_lt (E.l q hq).1
theorem Ep.snoc (E : Ep s cs ts os L) {x : Option Obj} : Ep (s ++ [x]) cs ts os L := ⟨E.c.snoc, fun q hq => ⟨(objAt_snoc_lt (E.lt q hq)).trans (E.l q hq).1, (E.l q hq).2⟩⟩
theorem Ep.res (E : Ep s cs ts os L) (c : Nat) {v t : V} (hv : cs[c]? = some v) (ht : ts[c]? = some t) (hd : DepLe FD t) : resolve s FD v = some t := E.c.res c hv ht hd
theorem Ep.res1 (E : Ep s cs ts os L) (c : Nat) {v t : V} (hv : cs[c]? = some v) (ht : ts[c]? = some t) (hd : DepLe 11 t) : resolve s 11 v = some t := by
  obtain ⟨vc, oc, j1, j2, _⟩ := E.c.ow.focus c t E.c.nd ht
  rw [hv] at j1
  cases j1
  exact ow_res 11 j2 hd
theorem Ep.leaf (E : Ep s cs ts os L) (c : Nat) {v t : V} (hv : cs[c]? = some v) (ht : ts[c]? = some t) (hl : t.leaf = true := by rfl) : v.leaf = true := by
  obtain ⟨vc, oc, j1, j2, _⟩ := E.c.ow.focus c t E.c.nd ht
  rw [hv] at j1
  cases j1
  exact j2.leaf hl
theorem Ep.got {s1 : Store} {rs trs : List V} (E : Ep s cs ts os L) (h1 : ∀ o, o < s.length → objAt s1 o = objAt s o) (hl : s.length ≤ s1.length) (ho : OwL σ2 rs trs os2) (hn : os2.Nodup) (hf : ∀ o ∈ os2, s1.length ≤ o)
    (old : ∀ o, o < s1.length → objAt σ2 o = objAt s1 o) : Ep σ2 (cs ++ rs) (ts ++ trs) (os ++ os2) L := by
  have hlt := E.c.lt
  refine ⟨⟨owL_append (E.c.ow.frame fun q hq => ?_) ho, ?_⟩, fun q hq => ⟨?_, ?_⟩⟩
  · have := hlt q hq
    rw [old q (by omega), h1 q this]
  · rw [List.nodup_append]
    refine ⟨E.c.nd, hn, fun x hx y hy e => ?_⟩
    have := hlt x hx
    have := hf y hy
    omega
  · have := E.lt q hq
    rw [old _ (by omega), h1 _ this]; exact (E.l q hq).1
  · intro hm
    have := E.lt q hq
    rcases List.mem_append.1 hm with hm | hm
    · exact (E.l q hq).2 hm
    · have := hf _ hm; omega
theorem Ep.free {s1 : Store} (E : Ep s cs ts os L) {p : Nat} (hf : ∀ o ∈ os2, s1.length ≤ o) (h0 : s.length ≤ p) (h1 : p < s1.length) : p ∉ os ++ os2 := by
  intro hm
  rcases List.mem_append.1 hm with hm | hm
  · have := E.c.lt p hm; omega
  · have := hf p hm; omega
theorem Ep.call {T : Nat → Option Fn} {f : Nat} {t t' v : V} {k k' : Int} (E : Ep s cs ts os L) (c : Nat) (hm : Mk T f t k t' k') (hv : cs[c]? = some v) (ht : ts[c]? = some t) :
    ∃ s', Run T (.fn f [v, .int .i64 k] s) (.fn (.int .i64 k') s') ∧ Ep s' cs (ts.set c t') os L ∧ s.length ≤ s'.length := by
  obtain ⟨s', h1, h2, h3⟩ := E.c.call c hm hv ht
  exact ⟨s', h1, ⟨h2, fun q hq => ⟨(h3.old _ (E.lt q hq) (E.l q hq).2).trans (E.l q hq).1, (E.l q hq).2⟩⟩, h3.len⟩
theorem Ep.part {T : Nat → Option Fn} {f : Nat} {t2 t2' r2 : List V} {k k' : Int} (E : Ep s cs ts os L) (n m : Nat) (hm : Mk T f (.agg t2) k (.agg t2') k') (hr : (cs.drop n).take m = r2) (ht : (ts.drop n).take m = t2) (hn : n + m ≤ ts.length) :
    ∃ s', Run T (.fn f [.agg r2, .int .i64 k] s) (.fn (.int .i64 k') s') ∧ Ep s' cs (ts.take n ++ t2' ++ ts.drop (n + m)) os L ∧ s.length ≤ s'.length := by
  obtain ⟨s', h1, h2, h3⟩ := E.c.part n m hm ht hn
  rw [hr] at h1
  exact ⟨s', h1, ⟨h2, fun q hq => ⟨(h3.old _ (E.lt q hq) (E.l q hq).2).trans (E.l q hq).1, (E.l q hq).2⟩⟩, h3.len⟩
theorem Ep.at0 {p : Nat} {ob : Obj} (E : Ep s cs ts os L) (h : (p, ob) ∈ L) : objAt s p = some ob ∧ p < s.length := ⟨(E.l _ h).1, E.lt _ h⟩
end
section
variable {σ : Store} {os : List Nat}
theorem OwL.lk {cs : List V} {x : Lk} (h : OwL σ cs x.cells os) : ∃ c3 c4 c6 c7 c9 c10, cs = [iv x.a, iv x.b, .bool x.w.neg, c3, c4, .bool x.dx.neg, c6, c7, .bool x.dy.neg, c9, c10] := by
  obtain ⟨cs, rfl, h1⟩ := h.int_inv
  obtain ⟨cs, rfl, h2⟩ := h1.int_inv
  obtain ⟨cs, rfl, h3⟩ := h2.bool_inv
  obtain ⟨a, cs, _, _, rfl, rfl, _, h4⟩ := h3.inv
  obtain ⟨b, cs, _, _, rfl, rfl, _, h5⟩ := h4.inv
  obtain ⟨cs, rfl, h6⟩ := h5.bool_inv
  obtain ⟨c, cs, _, _, rfl, rfl, _, h7⟩ := h6.inv
  obtain ⟨d, cs, _, _, rfl, rfl, _, h8⟩ := h7.inv
  obtain ⟨cs, rfl, h9⟩ := h8.bool_inv
  match cs, h9.len with
  | [e, f], _ => exact ⟨a, b, c, d, e, f, rfl⟩
end
end Go.Ml
namespace Go.Ml
theorem numK_any (l : List Nat) (k : List Nat → Prop) : numK l k = k l := nr rfl
theorem or_sc (p : Prop) : (p ∨ True) = True := by simp
theorem Ep.reloc {s : Store} {cs ts : List V} {os : List Nat} {L L' : List (Nat × Obj)} {p : Nat} {ob : Obj} (E : Ep s cs ts os L) (hp : p ∉ os) (hl : p < s.length) (h : ∀ q ∈ L', (q.1 ≠ p ∧ q ∈ L) ∨ q = (p, ob)) :
    Ep (s.set p (some ob)) cs ts os L' := by
  refine ⟨E.c.set hp, fun q hq => ?_⟩
  rcases h q hq with ⟨h1, h2⟩ | rfl
  · exact ⟨(objAt_setne h1).trans (E.l q h2).1, (E.l q h2).2⟩
  · exact ⟨objAt_seteq hl, hp⟩
end Go.Ml
namespace Go.Ml
def sh (n0 n x : Nat) : Nat := if x < n0 then x else x + (n - n0)
end Go.Ml
namespace Go.Ml
end Go.Ml
end
section
set_option linter.unusedSimpArgs false
set_option linter.unusedVariables false
namespace Go.Ml
theorem mapO_ints (g : Nat → Option Nat) (l : List Int) : mapO g ⟨1, irows l⟩ = ⟨1, irows l⟩ := by
  unfold mapO
  congr 1
  simp only [irows, List.map_map]
  rfl
theorem RefK_refI {T : Nat → Option Fn} {f : Nat} {as : List Src} {dst : Option Nat} {env : Nat → V} {σ : Store} {kp bs : Nat} {rs ms : List Nat} {k : St → Prop} {ρ : List Nat} {as' : List V} {r : V} {σ' : Store} (hn : ρ.Nodup)
    (hρ : ∀ o, o ∈ ρ → ∃ l, objAt σ o = some ⟨1, irows l⟩) (ha : (as.map fun s => mapV (place ρ) (s.ev env)) = as') (hr : Run T (.fn f as' (gcS ρ σ)) (.fn r σ'))
    (hold : ∀ q, q < ρ.length → objAt σ' q = objAt (gcS ρ σ) q) (hk : ∀ σ2 : Store, (∀ q, q < σ.length → objAt σ2 q = objAt σ q) → σ.length ≤ σ2.length → k ⟨updO env dst (mapV (back ρ σ.length) r), σ2, kp, bs, rs, ms⟩) :
    RefK T f as dst ⟨env, σ, kp, bs, rs, ms⟩ k := by
  subst ha
  refine ⟨_, .ref ρ hn (fun o ho => by obtain ⟨l, h⟩ := hρ o ho; rw [h]; rfl) hr, ?_⟩
  refine hk _ (fun q hq => ?_) (by simp [putBack])
  have e1 : objAt (putBack ρ σ σ') q = ((σ.mapIdx fun o ob => match place ρ o with
      | some j => (objAt σ' j).map (mapO (back ρ σ.length))
      | none => ob)[q]?).getD none := by
    show ((putBack ρ σ σ')[q]?).getD none = _
    unfold putBack
    rw [List.getElem?_append_left (by simpa using hq)]
    rfl
  show objAt (putBack ρ σ σ') q = _
  rw [e1, List.getElem?_mapIdx, List.getElem?_eq_getElem hq]
  simp only [Option.map_some, Option.getD_some]
  cases hp : place ρ q with
  | none => simp [objAt, List.getElem?_eq_getElem hq]
  | some j =>
    have hj := place_some hp
    have hlt := (List.getElem?_eq_some_iff.1 hj).1
    simp only []
    rw [hold j hlt, objAt_gcS, hj]
    obtain ⟨l, hl⟩ := hρ q (List.mem_of_getElem? hj)
    simp only [hl, Option.map_some, mapO_ints]
end Go.Ml
end
section
set_option linter.unusedSimpArgs false
set_option linter.unusedVariables false
set_option maxRecDepth 100000
namespace Go.Ml
def F_laws_toIntS : Fn := ⟨1, 22, [.tmp 2], (.seq (.reg false 0 [oN 2 (.mov (.c (.nils)))]) (.seq (.reg false 1 [oK 5 1 (oV 0), oK 6 1 (.len (.t 5)), oN 7 (.make [.int .i64 0] 8 (.t 6)), oK 3 1 (oV 7)]) (.seq (.seq (.reg false 0 [oN 4 (.mov (cI 0))]) (.block 0 (.loop (.seq (.seq (.reg false 0 [oN 8 (oV 4), oN 9 (oV 0), oN 10 (.len (.t 9)), oN 11 (.bin .lss (.t 8) (.t 10))]) (.cond (.t 11) .skip (.exit 0))) (.seq (.block 1 (.reg false 0 [oN 14 (oV 3), oN 15 (oV 4), oN 16 (oV 0), oN 17 (oV 4), oN 18 (.idx 1 (.t 16) (.t 17)), oN 19 (.load 1 false (.t 18)), oN 20 (.idx 1 (.t 14) (.t 15)), oS (.store 1 (.t 20) (.t 19))])) (.reg false 0 [oN 12 (oV 4), oN 13 (.bin .add (.t 12) (cI 1)), oN 4 (oV 13)])))))) (.seq (.reg false 0 [oN 21 (oV 3), oN 2 (oV 21)]) .ret))))⟩
structure D_laws_toIntS (T : Nat → Option Fn) : Prop where
  hT : T 6 = some F_laws_toIntS
def F_laws_eqIntS : Fn := ⟨2, 26, [.tmp 4], (.seq (.reg false 0 [oN 4 (.mov (.c (.bool false)))]) (.seq (.seq (.reg false 0 [oN 6 (oV 0), oN 7 (.len (.t 6)), oN 8 (oV 1), oN 9 (.len (.t 8)), oN 10 (.bin .neq (.t 7) (.t 9))]) (.cond (.t 10) (.seq (.reg false 0 [oN 4 (.mov (.c (.bool false)))]) .ret) .skip)) (.seq (.seq (.reg false 0 [oN 5 (.mov (cI 0))]) (.block 0 (.loop (.seq (.seq (.reg false 0 [oN 11 (oV 5), oN 12 (oV 0), oN 13 (.len (.t 12)), oN 14 (.bin .lss (.t 11) (.t 13))]) (.cond (.t 14) .skip (.exit 0))) (.seq (.block 1 (.seq (.reg true 0 [oN 17 (oV 0), oN 18 (oV 5), oA 19 0 (.idx 1 (.t 17) (.t 18)) [0, 1], oA 20 0 (.load 1 false (.t 19)) [2], oN 21 (oV 1), oN 22 (oV 5), oA 23 0 (.idx 1 (.t 21) (.t 22)) [4, 5], oA 24 0 (.load 1 false (.t 23)) [6], oA 25 0 (.bin .neq (.t 20) (.t 24)) [3, 7]]) (.cond (.t 25) (.seq (.reg false 0 [oN 4 (.mov (.c (.bool false)))]) .ret) .skip))) (.reg false 0 [oN 15 (oV 5), oN 16 (.bin .add (.t 15) (cI 1)), oN 5 (oV 16)])))))) (.seq (.reg false 0 [oN 4 (.mov (.c (.bool true)))]) .ret))))⟩
structure D_laws_eqIntS (T : Nat → Option Fn) : Prop where
  hT : T 8 = some F_laws_eqIntS
def F_laws_szIntS : Fn := ⟨2, 12, [.tmp 4], (.seq (.reg false 0 [oN 4 (.mov (cI 0))]) (.seq (.reg false 0 [oN 5 (oV 1), oN 6 (oV 0), oN 7 (.len (.t 6)), oN 8 (.bin .sub (.t 5) (.t 7)), oN 1 (oV 8)]) (.seq (.seq (.reg false 0 [oN 9 (oV 1), oN 10 (.bin .lss (.t 9) (cI 0))]) (.cond (.t 10) (.seq (.reg false 0 [oN 4 (.mov (cI (-1)))]) .ret) .skip)) (.seq (.reg false 0 [oN 11 (oV 1), oN 4 (oV 11)]) .ret))))⟩
structure D_laws_szIntS (T : Nat → Option Fn) : Prop where
  hT : T 61 = some F_laws_szIntS
def F_laws_szBigInt : Fn := ⟨2, 12, [.tmp 4], (.seq (.reg false 1 [oN 2 (.box (.t 0)), oK 4 1 (.mov (cI 0))]) (.seq (.reg false 0 [oN 5 (.fld 1 (.t 2)), oN 6 (.load 1 false (.t 5)), oN 7 (oV 1), oN 8 (.call 61 [(.t 6), (.t 7)]), oN 1 (oV 8)]) (.seq (.seq (.reg false 0 [oN 9 (oV 1), oN 10 (.bin .lss (.t 9) (cI 0))]) (.cond (.t 10) (.seq (.reg false 0 [oN 4 (.mov (cI (-1)))]) .ret) .skip)) (.seq (.reg false 0 [oN 11 (oV 1), oN 4 (oV 11)]) .ret))))⟩
structure D_laws_szBigInt (T : Nat → Option Fn) : Prop where
  hT : T 60 = some F_laws_szBigInt
  d_laws_szIntS : D_laws_szIntS T
def F_laws_szRat : Fn := ⟨2, 18, [.tmp 4], (.seq (.reg false 1 [oN 2 (.box (.t 0)), oK 4 1 (.mov (cI 0))]) (.seq (.reg false 0 [oN 5 (.fld 0 (.t 2)), oN 6 (.load 2 true (.t 5)), oN 7 (oV 1), oN 8 (.call 60 [(.t 6), (.t 7)]), oN 1 (oV 8)]) (.seq (.seq (.reg false 0 [oN 9 (oV 1), oN 10 (.bin .lss (.t 9) (cI 0))]) (.cond (.t 10) (.seq (.reg false 0 [oN 4 (.mov (cI (-1)))]) .ret) .skip)) (.seq (.reg false 0 [oN 11 (.fld 2 (.t 2)), oN 12 (.load 1 false (.t 11)), oN 13 (oV 1), oN 14 (.call 61 [(.t 12), (.t 13)]), oN 1 (oV 14)]) (.seq (.seq (.reg false 0 [oN 15 (oV 1), oN 16 (.bin .lss (.t 15) (cI 0))]) (.cond (.t 16) (.seq (.reg false 0 [oN 4 (.mov (cI (-1)))]) .ret) .skip)) (.seq (.reg false 0 [oN 17 (oV 1), oN 4 (oV 17)]) .ret))))))⟩
structure D_laws_szRat (T : Nat → Option Fn) : Prop where
  hT : T 46 = some F_laws_szRat
  d_laws_szBigInt : D_laws_szBigInt T
  d_laws_szIntS : D_laws_szIntS T
def F_laws_toBigInt : Fn := ⟨1, 12, [.cell 2 2 true], (.seq (.reg false 2 [oN 1 (.box (.t 0)), oK 2 1 (.alloc [.bool false, .nils])]) (.seq (.reg false 1 [oN 3 (.alloc [.bool false, .nils])]) (.seq (.reg false 0 [oN 4 (.fld 0 (.t 1)), oN 5 (.load 1 false (.t 4)), oN 6 (.fld 0 (.t 3)), oS (.store 1 (.t 6) (.t 5))]) (.seq (.reg false 0 [oN 7 (.fld 1 (.t 1)), oN 8 (.load 1 false (.t 7)), oN 9 (.call 6 [(.t 8)]), oN 10 (.fld 1 (.t 3)), oS (.store 1 (.t 10) (.t 9))]) (.seq (.reg false 0 [oN 11 (.load 2 true (.t 3)), oS (.store 2 (.t 2) (.t 11))]) .ret)))))⟩
structure D_laws_toBigInt (T : Nat → Option Fn) : Prop where
  hT : T 63 = some F_laws_toBigInt
  d_laws_toIntS : D_laws_toIntS T
def F_laws_toRat : Fn := ⟨1, 13, [.cell 2 3 true], (.seq (.reg false 2 [oN 1 (.box (.t 0)), oK 2 1 (.alloc [.bool false, .nils, .nils])]) (.seq (.reg false 1 [oN 3 (.alloc [.bool false, .nils, .nils])]) (.seq (.reg false 0 [oN 4 (.fld 0 (.t 1)), oN 5 (.load 2 true (.t 4)), oN 6 (.call 63 [(.t 5)]), oN 7 (.fld 0 (.t 3)), oS (.store 2 (.t 7) (.t 6))]) (.seq (.reg false 0 [oN 8 (.fld 2 (.t 1)), oN 9 (.load 1 false (.t 8)), oN 10 (.call 6 [(.t 9)]), oN 11 (.fld 2 (.t 3)), oS (.store 1 (.t 11) (.t 10))]) (.seq (.reg false 0 [oN 12 (.load 3 true (.t 3)), oS (.store 3 (.t 2) (.t 12))]) .ret)))))⟩
structure D_laws_toRat (T : Nat → Option Fn) : Prop where
  hT : T 48 = some F_laws_toRat
  d_laws_toIntS : D_laws_toIntS T
  d_laws_toBigInt : D_laws_toBigInt T
def F_laws_eqBigInt : Fn := ⟨2, 16, [.tmp 4], (.seq (.reg false 2 [oN 2 (.box (.t 0)), oK 3 1 (.box (.t 1)), oK 4 2 (.mov (.c (.bool false)))]) (.seq (.seq (.reg false 0 [oN 5 (.fld 0 (.t 2)), oN 6 (.load 1 false (.t 5)), oN 7 (.fld 0 (.t 3)), oN 8 (.load 1 false (.t 7)), oN 9 (.beq true (.t 6) (.t 8))]) (.cond (.t 9) (.seq (.reg false 0 [oN 4 (.mov (.c (.bool false)))]) .ret) .skip)) (.seq (.seq (.reg false 0 [oN 10 (.fld 1 (.t 2)), oN 11 (.load 1 false (.t 10)), oN 12 (.fld 1 (.t 3)), oN 13 (.load 1 false (.t 12)), oN 14 (.call 8 [(.t 11), (.t 13)]), oN 15 (.un .not (.t 14))]) (.cond (.t 15) (.seq (.reg false 0 [oN 4 (.mov (.c (.bool false)))]) .ret) .skip)) (.seq (.reg false 0 [oN 4 (.mov (.c (.bool true)))]) .ret))))⟩
structure D_laws_eqBigInt (T : Nat → Option Fn) : Prop where
  hT : T 55 = some F_laws_eqBigInt
  d_laws_eqIntS : D_laws_eqIntS T
def F_laws_eqRat : Fn := ⟨2, 17, [.tmp 4], (.seq (.reg false 2 [oN 2 (.box (.t 0)), oK 3 1 (.box (.t 1)), oK 4 2 (.mov (.c (.bool false)))]) (.seq (.seq (.reg false 0 [oN 5 (.fld 0 (.t 2)), oN 6 (.load 2 true (.t 5)), oN 7 (.fld 0 (.t 3)), oN 8 (.load 2 true (.t 7)), oN 9 (.call 55 [(.t 6), (.t 8)]), oN 10 (.un .not (.t 9))]) (.cond (.t 10) (.seq (.reg false 0 [oN 4 (.mov (.c (.bool false)))]) .ret) .skip)) (.seq (.seq (.reg false 0 [oN 11 (.fld 2 (.t 2)), oN 12 (.load 1 false (.t 11)), oN 13 (.fld 2 (.t 3)), oN 14 (.load 1 false (.t 13)), oN 15 (.call 8 [(.t 12), (.t 14)]), oN 16 (.un .not (.t 15))]) (.cond (.t 16) (.seq (.reg false 0 [oN 4 (.mov (.c (.bool false)))]) .ret) .skip)) (.seq (.reg false 0 [oN 4 (.mov (.c (.bool true)))]) .ret))))⟩
structure D_laws_eqRat (T : Nat → Option Fn) : Prop where
  hT : T 40 = some F_laws_eqRat
  d_laws_eqIntS : D_laws_eqIntS T
  d_laws_eqBigInt : D_laws_eqBigInt T
theorem c_eqIntS {T : Nat → Option Fn} (h : D_laws_eqIntS T) {a b : List Int} (hl : a.length ≤ 9223372036854775807 := by first | omega | assumption | (simp; omega)) (hb : b.length ≤ 9223372036854775807 := by first | omega | assumption | (simp; omega)) : PF T 8 [ints a, ints b] (.bool (decide (a = b))) := by
  refine pf_end (fun _ _ => false) h.hT rfl rfl ?_
  dsimp only [F_laws_eqIntS, oN, oS, oG, oK, oA, oH, oV, cI]
  (refine ev ?_; try with_reducible exact True.intro)
  refine brK_dec (fun h1 => ?_) fun h1 => ?_ <;> (refine ev1 @h1 ?_; try with_reducible exact True.intro)
  · have h1 : a.length = b.length := by omega
    refine loop_at (fun _ _ => false) (α := Nat) (fun i => ⟨argE [ints a, ints b, .any, .any, .any, iv (i : Nat)], [], 0, 0, [], []⟩) (fun i => i ≤ a.length ∧ ∀ j, j < i → a.getD j 0 = b.getD j 0) (fun i => a.length - i) rfl 0 ?_ ?_ ?_
    · exact ⟨by omega, by intro j hj; omega⟩
    · (refine Fg_env ?_) <;> (try (refine ev ?_; try with_reducible exact True.intro)) <;> (repeat' (first | refine ⟨?_, ?_⟩ | exact EvV_int (by omega) | exact EvV_of (by simp) | exact EvV_nil _))
    · rintro i ⟨hi, hj⟩
      (refine ev ?_; try with_reducible exact True.intro)
      refine brK_dec (fun h2 => ?_) fun h2 => ?_ <;> (refine ev1 @h2 ?_; try with_reducible exact True.intro)
      · refine brK_dec (fun h3 => ?_) fun h3 => ?_ <;> (refine ev1 @h3 ?_; try with_reducible exact True.intro)
        · refine ⟨i + 1, by omega, ⟨by omega, fun j hj' => ?_⟩, by (refine Fg_env ?_) <;> (try (refine ev ?_; try with_reducible exact True.intro)) <;> (repeat' (first | refine ⟨?_, ?_⟩ | exact EvV_int (by omega) | exact EvV_of (by simp) | exact EvV_nil _))⟩
          by_cases e : j = i
          · subst e; exact h3
          · exact hj j (by omega)
        · have : ¬ a = b := fun e => h3 (by rw [e])
          simp [this]
      · have : a = b := getD_ext' h1 fun j h => hj j (by omega)
        simp [this]
  · have : ¬ a = b := fun e => h1 (by rw [e])
    simp [this]
theorem c_eqBigInt {T : Nat → Option Fn} (h : D_laws_eqBigInt T) {y z : Bi} (hy : y.mag.length ≤ 9223372036854775807 := by first | omega | assumption | (simp; omega)) (hz : z.mag.length ≤ 9223372036854775807 := by first | omega | assumption | (simp; omega)) : PF T 55 [biV y, biV z] (.bool (decide (y = z))) := by
  refine pf_end (fun _ _ => false) h.hT rfl rfl ?_
  dsimp only [F_laws_eqBigInt, oN, oS, oG, oK, oA, oH, oV, cI]
  (refine ev ?_; try with_reducible exact True.intro)
  refine brK_dec (fun hb => ?_) fun hb => ?_ <;> (refine ev1 @hb ?_; try with_reducible exact True.intro)
  · refine PFK_of (c_eqIntS h.d_laws_eqIntS) ?_
    (refine ev ?_; try with_reducible exact True.intro)
    refine brK_dec (fun hc => ?_) fun hc => ?_ <;> (refine ev1 @hc ?_; try with_reducible exact True.intro)
    · cases y; cases z; simp_all
    · cases y; cases z; simp_all
  · cases y; cases z; simp_all
theorem c_eqRat {T : Nat → Option Fn} (h : D_laws_eqRat T) {y z : R} (hy : y.wf := by first | omega | assumption | (simp; omega)) (hz : z.wf := by first | omega | assumption | (simp; omega)) : PF T 40 [ratV y, ratV z] (.bool (decide (y = z))) := by
  obtain ⟨w1, w2⟩ := hy
  obtain ⟨w3, w4⟩ := hz
  refine pf_end (fun _ _ => false) h.hT rfl rfl ?_
  dsimp only [F_laws_eqRat, oN, oS, oG, oK, oA, oH, oV, cI]
  (refine ev ?_; try with_reducible exact True.intro)
  refine PFK_of (c_eqBigInt h.d_laws_eqBigInt (y := y.num) (z := z.num)) ?_
  (refine ev ?_; try with_reducible exact True.intro)
  refine brK_dec (fun hb => ?_) fun hb => ?_ <;> (refine ev1 @hb ?_; try with_reducible exact True.intro)
  · refine PFK_of (c_eqIntS h.d_laws_eqIntS) ?_
    (refine ev ?_; try with_reducible exact True.intro)
    refine brK_dec (fun hc => ?_) fun hc => ?_ <;> (refine ev1 @hc ?_; try with_reducible exact True.intro)
    · cases y; cases z; simp_all
    · cases y; cases z; simp_all
  · cases y; cases z; simp_all
end Go.Ml
end
section
set_option linter.unusedSimpArgs false
set_option linter.unusedVariables false
set_option maxRecDepth 100000
set_option maxHeartbeats 4000000
namespace Go.Ml
def F_laws_markIntS : Fn := ⟨2, 19, [.tmp 4], (.seq (.reg false 0 [oN 4 (.mov (cI 0))]) (.seq (.seq (.reg false 0 [oN 5 (.mov (cI 0))]) (.block 0 (.loop (.seq (.seq (.reg false 0 [oN 6 (oV 5), oN 7 (oV 0), oN 8 (.len (.t 7)), oN 9 (.bin .lss (.t 6) (.t 8))]) (.cond (.t 9) .skip (.exit 0))) (.seq (.block 1 (.seq (.reg false 0 [oN 12 (oV 0), oN 13 (oV 5), oN 14 (oV 1), oN 15 (.idx 1 (.t 12) (.t 13)), oS (.store 1 (.t 15) (.t 14))]) (.reg false 0 [oN 16 (oV 1), oN 17 (.bin .add (.t 16) (cI 1)), oN 1 (oV 17)]))) (.reg false 0 [oN 10 (oV 5), oN 11 (.bin .add (.t 10) (cI 1)), oN 5 (oV 11)])))))) (.seq (.reg false 0 [oN 18 (oV 1), oN 4 (oV 18)]) .ret)))⟩
structure D_laws_markIntS (T : Nat → Option Fn) : Prop where
  hT : T 57 = some F_laws_markIntS
def F_laws_heldIntS : Fn := ⟨2, 21, [.tmp 4], (.seq (.reg false 0 [oN 4 (.mov (cI 0))]) (.seq (.seq (.reg false 0 [oN 5 (.mov (cI 0))]) (.block 0 (.loop (.seq (.seq (.reg false 0 [oN 6 (oV 5), oN 7 (oV 0), oN 8 (.len (.t 7)), oN 9 (.bin .lss (.t 6) (.t 8))]) (.cond (.t 9) .skip (.exit 0))) (.seq (.block 1 (.seq (.seq (.reg false 0 [oN 12 (oV 0), oN 13 (oV 5), oN 14 (.idx 1 (.t 12) (.t 13)), oN 15 (.load 1 false (.t 14)), oN 16 (oV 1), oN 17 (.bin .neq (.t 15) (.t 16))]) (.cond (.t 17) (.seq (.reg false 0 [oN 4 (.mov (cI (-1)))]) .ret) .skip)) (.reg false 0 [oN 18 (oV 1), oN 19 (.bin .add (.t 18) (cI 1)), oN 1 (oV 19)]))) (.reg false 0 [oN 10 (oV 5), oN 11 (.bin .add (.t 10) (cI 1)), oN 5 (oV 11)])))))) (.seq (.reg false 0 [oN 20 (oV 1), oN 4 (oV 20)]) .ret)))⟩
structure D_laws_heldIntS (T : Nat → Option Fn) : Prop where
  hT : T 59 = some F_laws_heldIntS
def cnt (n : Nat) (k : Int) : List Int := (List.range n).map fun i => k + ((i : Nat) : Int)
theorem cnt_len (n : Nat) (k : Int) : (cnt n k).length = n := by simp [cnt]
theorem cnt_at {n i : Nat} (k : Int) (h : i < n) : (cnt n k).getD i 0 = k + (i : Nat) := by
  simp [cnt, List.getD_eq_getElem?_getD, h]
def cntTo (l : List Int) (k : Int) (i : Nat) : List Int := cnt i k ++ l.drop i
theorem cntTo_0 (l : List Int) (k : Int) : cntTo l k 0 = l := by simp [cntTo, cnt]
theorem cntTo_all (l : List Int) (k : Int) : cntTo l k l.length = cnt l.length k := by simp [cntTo]
theorem cntTo_len (l : List Int) (k : Int) {i : Nat} (h : i ≤ l.length) : (cntTo l k i).length = l.length := by simp [cntTo, cnt_len]; omega
theorem cntTo_set (l : List Int) (k : Int) {i : Nat} (h : i < l.length) : (cntTo l k i).set i (k + (i : Nat)) = cntTo l k (i + 1) := by
  unfold cntTo
  rw [List.set_append_right _ _ (by rw [cnt_len]; exact Nat.le_refl _), cnt_len, Nat.sub_self, List.drop_eq_getElem_cons h, List.set_cons_zero]
  unfold cnt
  rw [List.range_succ, List.map_append]
  simp
theorem mk_markIntS {T : Nat → Option Fn} (h : D_laws_markIntS T) {l : List Int} {k : Int} (hl : l.length ≤ 1048576 := by first | omega | assumption | (simp; omega)) (hk : 0 ≤ k ∧ k ≤ 1000000000000 := by first | omega | assumption | (simp; omega)) :
    Mk T 57 (ints l) k (ints (cnt l.length k)) (k + l.length) := by
  refine mk_iff fun σ v os ho hn => ?_
  rcases ho.ints_inv with ⟨rfl, rfl, rfl⟩ | ⟨o, rfl, h1, rfl⟩
  · have : ∃ r σ', Run T (.fn 57 [.sl 1 [], iv k] σ) (.fn r σ') ∧ (r = iv k ∧ σ' = σ) := by
      refine run_end (fun _ _ => false) h.hT rfl rfl ?_
      dsimp only [F_laws_markIntS, oN, oS, oG, oK, oA, oH, oV, cI, St.enter, List.length_cons, List.length_nil, Nat.zero_add]
      (refine ew ?_; try with_reducible exact True.intro)
      refine loop_at (fun _ _ => false) (α := Nat) (fun i => ⟨argE [.sl 1 [], iv k, .any, .any, .any, iv 0], σ, σ.length, 0, [], []⟩) (fun i => i = 0) (fun i => i) rfl 0 ?_ ?_ ?_
      · rfl
      · (refine Fg_env ?_) <;> (try (refine ew ?_; try with_reducible exact True.intro)) <;> (repeat' (first | refine ⟨?_, ?_⟩ | exact EvV_int (by omega) | exact EvV_of (by simp) | exact EvV_nil _))
      · rintro i rfl
        (refine ew ?_; try with_reducible exact True.intro)
        refine brK_dec (fun hc => absurd hc (by omega)) fun hc => ?_
        (refine ew ?_; try with_reducible exact True.intro)
    obtain ⟨r, σ', h2, rfl, rfl⟩ := this
    exact ⟨σ', by simpa using h2, ho, Fr.refl _ _⟩
  · have hlt := objAt_lt h1
    have : ∃ r σ', Run T (.fn 57 [.msl o 0 l.length, iv k] σ) (.fn r σ') ∧ (r = iv (k + l.length) ∧ objAt σ' o = some ⟨1, irows (cnt l.length k)⟩ ∧ Fr [o] σ σ') := by
      refine run_end (fun _ _ => false) h.hT rfl rfl ?_
      dsimp only [F_laws_markIntS, oN, oS, oG, oK, oA, oH, oV, cI, St.enter, List.length_cons, List.length_nil, Nat.zero_add]
      (refine ew ?_; try with_reducible exact True.intro)
      refine loop_at (fun _ _ => false) (α := Nat × Store) (fun q => ⟨argE [.msl o 0 l.length, iv (k + (q.1 : Nat)), .any, .any, .any, iv (q.1 : Nat)], q.2, σ.length, 0, [], []⟩) (fun q => q.1 ≤ l.length ∧ objAt q.2 o = some ⟨1, irows (cntTo l k q.1)⟩ ∧ Fr [o] σ q.2) (fun q => l.length - q.1) rfl (0, σ) ?_ ?_ ?_
      · exact ⟨by omega, by rw [cntTo_0]; exact h1, Fr.refl _ _⟩
      · (refine Fg_env ?_) <;> (try (refine ew ?_; try with_reducible exact True.intro)) <;> (repeat' (first | refine ⟨?_, ?_⟩ | exact EvV_int (by omega) | exact EvV_of (by simp) | exact EvV_nil _))
      · rintro ⟨i, s⟩ ⟨hi, h2, h3⟩
        dsimp only at hi h2 h3
        have e1 := cntTo_len l k hi
        have hls := h3.len
        (refine ew1 @h2 ?_; try with_reducible exact True.intro)
        refine brK_dec (fun hc => ?_) fun hc => ?_ <;> (refine ew3 @hc @h2 @e1 ?_; try with_reducible exact True.intro)
        · have e2 := cntTo_set l k (i := i) (by omega)
          rw [e2]
          refine ⟨(i + 1, s.set o (some ⟨1, irows (cntTo l k (i + 1))⟩)), by dsimp only; omega, ⟨by dsimp only; omega, ?_, ?_⟩, by (refine Fg_env ?_) <;> (try (refine ew ?_; try with_reducible exact True.intro)) <;> (repeat' (first | refine ⟨?_, ?_⟩ | exact EvV_int (by omega) | exact EvV_of (by simp) | exact EvV_nil _))⟩
          · dsimp only; exact objAt_seteq (by omega)
          · dsimp only; exact h3.trans (fr_set (by simp))
        · have : i = l.length := by omega
          subst this
          exact ⟨rfl, by rw [cntTo_all], h3⟩
    obtain ⟨r, σ', h2, rfl, h3, h4⟩ := this
    have := owV_ints h3
    rw [cnt_len] at this
    exact ⟨σ', h2, this, h4⟩
theorem c_heldIntS {T : Nat → Option Fn} (h : D_laws_heldIntS T) {n : Nat} {k : Int} (hl : n ≤ 1048576 := by first | omega | assumption | (simp; omega)) (hk : 0 ≤ k ∧ k ≤ 1000000000000 := by first | omega | assumption | (simp; omega)) :
    PF T 59 [ints (cnt n k), iv k] (iv (k + n)) := by
  have hcl := cnt_len n k
  refine pf_end (fun _ _ => false) h.hT rfl rfl ?_
  dsimp only [F_laws_heldIntS, oN, oS, oG, oK, oA, oH, oV, cI]
  (refine ev ?_; try with_reducible exact True.intro)
  refine loop_at (fun _ _ => false) (α := Nat) (fun i => ⟨argE [ints (cnt n k), iv (k + (i : Nat)), .any, .any, .any, iv (i : Nat)], [], 0, 0, [], []⟩) (fun i => i ≤ n) (fun i => n - i) rfl 0 ?_ ?_ ?_
  · omega
  · (refine Fg_env ?_) <;> (try (refine ev ?_; try with_reducible exact True.intro)) <;> (repeat' (first | refine ⟨?_, ?_⟩ | exact EvV_int (by omega) | exact EvV_of (by simp) | exact EvV_nil _))
  · intro i hi
    (refine ev1 @hcl ?_; try with_reducible exact True.intro)
    refine brK_dec (fun hc => ?_) fun hc => ?_ <;> (refine ev2 @hc @hcl ?_; try with_reducible exact True.intro)
    · have := cnt_at k (show i < n by omega)
      (refine ev1 @this ?_; try with_reducible exact True.intro)
      exact ⟨i + 1, by omega, by omega, by (refine Fg_env ?_) <;> (try (refine ev ?_; try with_reducible exact True.intro)) <;> (repeat' (first | refine ⟨?_, ?_⟩ | exact EvV_int (by omega) | exact EvV_of (by simp) | exact EvV_nil _))⟩
    · have : i = n := by omega
      subst this
      rfl
end Go.Ml
end
section
set_option linter.unusedSimpArgs false
set_option linter.unusedVariables false
set_option maxRecDepth 100000
set_option maxHeartbeats 8000000
namespace Go.Ml
theorem po_natOfUint {T : Nat → Option Fn} (h : D_impl_natOfUint T) {n : Int} (hn : 0 ≤ n ∧ n < 18446744073709551616 := by first | omega | assumption | (simp; omega)) : PO T 69 [.int .u64 n] (ints (mk n.toNat)) := by
  have hlen : (mk n.toNat).length ≤ 3 := mk_len_le.2 (by omega)
  refine po_end2 (fun _ _ => false) h.hT rfl rfl ?_
  dsimp only [F_impl_natOfUint, oN, oS, oG, oK, oA, oH, oV, cI, St.enter, List.length_cons, List.length_nil, Nat.zero_add]
  (refine ew ?_; try with_reducible exact True.intro)
  refine loop_at (fun _ _ => false) (α := Nat × List Int) (fun q => ⟨argE [.int .u64 (q.1 : Nat), .any, .any, slV q.2.length], slS 1 (irows q.2), 0, 0, [], []⟩) (fun q => q.2 ++ mk q.1 = mk n.toNat ∧ q.1 ≤ n.toNat) (fun q => q.1) rfl (n.toNat, []) ?_ ?_ ?_
  · exact ⟨rfl, Nat.le_refl _⟩
  · first | ((refine Fg_env ?_) <;> (try (refine ew ?_; try with_reducible exact True.intro)) <;> (repeat' (first | refine ⟨?_, ?_⟩ | exact EvV_int (by omega) | exact EvV_of (by simp) | exact EvV_nil _)); done) | ((refine Fg_re [] (by simp) (by intro p hp; cases hp) rfl ?_) <;> (try (refine ew ?_; try with_reducible exact True.intro)) <;> (repeat' (first | exact True.intro | omega | exact CanE_ptr rfl (by simp) | refine ⟨?_, ?_⟩ | exact of_eq_true (CanE_nil _ _ _) | exact CanE_of rfl (by simp; done) | exact CanE_of rfl rfl | (refine CanE_msl rfl ?_ rfl; simp [irows]; done) | (refine CanE_msl rfl ?_ rfl; simp [irows]; omega) | (refine CanE_frz ?_ ?_; (focus ((refine ew ?_; try with_reducible exact True.intro); done)); (intro q hq k s0 l0; simp; done)))); done)
  · rintro ⟨m, xs⟩ ⟨hm, hle⟩
    dsimp only at hm hle
    have hx : xs.length ≤ 3 := by
      have := congrArg List.length hm
      simp at this; omega
    have e1 : ((m : Int).tmod 1000000000) = ((m % 1000000000 : Nat) : Int) := by rw [tmod_B (by omega)]; omega
    have e2 : ((m : Int).tdiv 1000000000) = ((m / 1000000000 : Nat) : Int) := by rw [tdiv_B (by omega)]; omega
    have key : 0 < m → (xs ++ [((m % 1000000000 : Nat) : Int)]) ++ mk (m / 1000000000) = mk n.toNat := fun h => by
      rw [← hm, mk_pos (n := m) (by omega)]; simp
    (rcases xs with _ | ⟨x, xs⟩ <;> simp only [List.length_nil, List.length_cons, slV_0, slV_s, slI_nil, slI_cons] at hx ⊢)
    · (refine ew ?_; try with_reducible exact True.intro)
      refine brK_dec (fun hb => ?_) fun hb => ?_ <;> (refine ew3 @hb @e1 @e2 ?_; try with_reducible exact True.intro)
      · exact ⟨by omega, (m / 1000000000, [] ++ [((m % 1000000000 : Nat) : Int)]), by dsimp only; omega, ⟨key (by omega), by dsimp only; omega⟩, by (simp only [← irows_snoc]; refine Fg_push (k := 1) (still_isnoc _ _) rfl ?_; (try (refine ew ?_; try with_reducible exact True.intro)); (repeat' (first | exact True.intro | omega | exact CanE_push (by simp) (by simp) (by simp) | refine ⟨?_, ?_⟩ | exact CanE_of rfl (by simp))))⟩
      · have e : mk n.toNat = [] := by rw [← hm, show m = 0 by omega, mk_zero]; rfl
        rw [e]; exact fin_nil
    · (refine ew ?_; try with_reducible exact True.intro)
      refine brK_dec (fun hb => ?_) fun hb => ?_ <;> (refine ew3 @hb @e1 @e2 ?_; try with_reducible exact True.intro)
      · refine ⟨by omega, (m / 1000000000, (x :: xs) ++ [((m % 1000000000 : Nat) : Int)]), by dsimp only; omega, ⟨key (by omega), by dsimp only; omega⟩, by (simp only [← irows_snoc]; refine Fg_push (k := 2) (still_isnoc _ _) rfl ?_; (try (refine ew ?_; try with_reducible exact True.intro)); (repeat' (first | exact True.intro | omega | exact CanE_push (by simp) (by simp) (by simp) | refine ⟨?_, ?_⟩ | exact CanE_of rfl (by simp))))⟩
      · have e : x :: xs = mk n.toNat := by rw [← hm, show m = 0 by omega, mk_zero]; simp
        rw [← e]; exact fin_ints (o := 0) (l := x :: xs) rfl
theorem rf_bigMake {T : Nat → Option Fn} (h : D_impl_bigMake T) {neg : Bool} {n : Nat} {σ : Store} {o : Nat} (h0 : objAt σ o = some ⟨1, irows (mk n)⟩) (hn : 0 < n) (hl : (mk n).length ≤ 60 := by first | omega | assumption | (simp; omega)) :
    ∃ σ', Run T (.fn 68 [.bool neg, .msl o 0 (mk n).length] σ) (.fn (.agg [.bool neg, .msl o 0 (mk n).length]) σ') ∧ (∀ q, q < σ.length → objAt σ' q = objAt σ q) ∧ σ.length ≤ σ'.length := by
  have : ∃ r σ', Run T (.fn 68 [.bool neg, .msl o 0 (mk n).length] σ) (.fn r σ') ∧ (r = .agg [.bool neg, .msl o 0 (mk n).length] ∧ (∀ q, q < σ.length → objAt σ' q = objAt σ q) ∧ σ.length ≤ σ'.length) := by
    have hp := ln_pos.2 hn
    refine run_end (fun _ _ => false) h.hT rfl rfl ?_
    dsimp only [F_impl_bigMake, oN, oS, oG, oK, oA, oH, oV, cI, St.enter, List.length_cons, List.length_nil, Nat.zero_add]
    (refine ew ?_; try with_reducible exact True.intro)
    have hlt := objAt_lt h0
    have c1 : ¬ (((mk n).length : Nat) : Int) = 0 := by omega
    have c2 : ¬ (60 : Int) < ((mk n).length : Nat) := by omega
    (refine ew4 @h0 @hlt @c1 @c2 ?_; try with_reducible exact True.intro)
    exact ⟨fun q hq => objAt_snoc_lt hq, by omega⟩
  obtain ⟨r, σ', h1, rfl, h2, h3⟩ := this
  exact ⟨σ', h1, h2, h3⟩
theorem owV_agg2 {σ : Store} {b : Bool} {v : V} {l : List Int} {os : List Nat} (h : OwV σ v (ints l) os) : OwV σ (.agg [.bool b, v]) (.agg [.bool b, ints l]) os := owV_agg (owL_bool (by simpa using owL_v h owL_nil))
theorem owV_rat {σ : Store} {b : Bool} {v w : V} {l m : List Int} {o1 o2 : List Nat} (h : OwV σ v (ints l) o1) (k : OwV σ w (ints m) o2) : OwV σ (.agg [.bool b, v, w]) (.agg [.bool b, ints l, ints m]) (o1 ++ o2) :=
  owV_agg (owL_bool (owL_v h (by simpa using owL_v k owL_nil)))
theorem rf_bigMake0 {T : Nat → Option Fn} (h : D_impl_bigMake T) {neg : Bool} {σ : Store} {v : V} {os : List Nat} (h0 : OwV σ v (ints []) os) :
    ∃ σ', Run T (.fn 68 [.bool neg, v] σ) (.fn (.agg [.bool false, .nils]) σ') ∧ (∀ q, q < σ.length → objAt σ' q = objAt σ q) ∧ σ.length ≤ σ'.length := by
  have : ∃ r σ', Run T (.fn 68 [.bool neg, v] σ) (.fn r σ') ∧ (r = .agg [.bool false, .nils] ∧ (∀ q, q < σ.length → objAt σ' q = objAt σ q) ∧ σ.length ≤ σ'.length) := by
    rcases h0.ints_inv with ⟨_, rfl, _⟩ | ⟨o, rfl, h1, _⟩
    · have hz : ((0 : Nat) : Int) = 0 := rfl
      refine run_end (fun _ _ => false) h.hT rfl rfl ?_
      dsimp only [F_impl_bigMake, oN, oS, oG, oK, oA, oH, oV, cI, St.enter, List.length_cons, List.length_nil, Nat.zero_add]
      (refine ew ?_; try with_reducible exact True.intro)
      (refine ew1 @hz ?_; try with_reducible exact True.intro)
      exact ⟨fun q hq => objAt_snoc_lt hq, by omega⟩
    · have hlt := objAt_lt h1
      have hz : ((0 : Nat) : Int) = 0 := rfl
      simp only [List.length_nil]
      refine run_end (fun _ _ => false) h.hT rfl rfl ?_
      dsimp only [F_impl_bigMake, oN, oS, oG, oK, oA, oH, oV, cI, St.enter, List.length_cons, List.length_nil, Nat.zero_add]
      (refine ew ?_; try with_reducible exact True.intro)
      (refine ew3 @h1 @hlt @hz ?_; try with_reducible exact True.intro)
      exact ⟨fun q hq => objAt_snoc_lt hq, by omega⟩
  obtain ⟨r, σ', h1, rfl, h2, h3⟩ := this
  exact ⟨σ', h1, h2, h3⟩
theorem RefK_big {T : Nat → Option Fn} (h : D_impl_bigMake T) {as : List Src} {dst : Option Nat} {env : Nat → V} {σ : Store} {kp bs : Nat} {rs ms : List Nat} {k : St → Prop} {neg : Bool} {n o : Nat}
    (h0 : objAt σ o = some ⟨1, irows (mk n)⟩) (hn : 0 < n) (ha : (as.map fun s => s.ev env) = [.bool neg, .msl o 0 (mk n).length]) (hl : (mk n).length ≤ 60)
    (hk : ∀ σ2 : Store, (∀ q, q < σ.length → objAt σ2 q = objAt σ q) → σ.length ≤ σ2.length → k ⟨updO env dst (.agg [.bool neg, .msl o 0 (mk n).length]), σ2, kp, bs, rs, ms⟩) : RefK T 68 as dst ⟨env, σ, kp, bs, rs, ms⟩ k := by
  have e1 : gcS [o] σ = [some ⟨1, irows (mk n)⟩] := by simp [gcS, h0, mapO_ints]
  obtain ⟨σ', hr, hold, hlen⟩ := rf_bigMake h (neg := neg) (n := n) (σ := gcS [o] σ) (o := 0) (by rw [e1]; rfl) hn hl
  refine RefK_refI (ρ := [o]) (by simp) (fun q hq => ⟨_, by simp at hq; subst hq; exact h0⟩) ?_ hr (fun q hq => hold q (by rw [e1]; exact hq)) ?_
  · have := congrArg (List.map (mapV (place [o]))) ha
    rw [List.map_map] at this
    refine Eq.trans this ?_
    simp [mapV, place]
  · intro σ2 h1 h2
    have := hk σ2 h1 h2
    simpa [mapV, mapV.mapL, back] using this
theorem RefK_big0 {T : Nat → Option Fn} (h : D_impl_bigMake T) {as : List Src} {dst : Option Nat} {env : Nat → V} {σ : Store} {kp bs : Nat} {rs ms : List Nat} {k : St → Prop} {neg : Bool} {v : V} {os : List Nat}
    (h0 : OwV σ v (ints []) os) (ha : (as.map fun s => s.ev env) = [.bool neg, v])
    (hk : ∀ σ2 : Store, (∀ q, q < σ.length → objAt σ2 q = objAt σ q) → σ.length ≤ σ2.length → k ⟨updO env dst (.agg [.bool false, .nils]), σ2, kp, bs, rs, ms⟩) : RefK T 68 as dst ⟨env, σ, kp, bs, rs, ms⟩ k := by
  rcases h0.ints_inv with ⟨_, rfl, _⟩ | ⟨o, rfl, h1, _⟩
  · obtain ⟨σ', hr, hold, hlen⟩ := rf_bigMake0 h (neg := neg) (σ := gcS [] σ) (v := .sl 1 []) (os := []) owV_ints0
    refine RefK_refI (ρ := []) (by simp) (by simp) ?_ hr (fun q hq => by simp at hq) ?_
    · have := congrArg (List.map (mapV (place []))) ha
      rw [List.map_map] at this
      refine Eq.trans this ?_
      simp [mapV, place]
    · intro σ2 h1 h2
      have := hk σ2 h1 h2
      simpa [mapV, mapV.mapL, back] using this
  · have e1 : gcS [o] σ = [some ⟨1, irows []⟩] := by simp [gcS, h1, mapO_ints]
    obtain ⟨σ', hr, hold, hlen⟩ := rf_bigMake0 h (neg := neg) (σ := gcS [o] σ) (v := .msl 0 0 ([] : List Int).length) (os := [0]) (owV_ints (by rw [e1]; rfl))
    refine RefK_refI (ρ := [o]) (by simp) (fun q hq => ⟨_, by simp at hq; subst hq; exact h1⟩) ?_ hr (fun q hq => hold q (by rw [e1]; exact hq)) ?_
    · have := congrArg (List.map (mapV (place [o]))) ha
      rw [List.map_map] at this
      refine Eq.trans this ?_
      simp [mapV, place]
    · intro σ2 h1 h2
      have := hk σ2 h1 h2
      simpa [mapV, mapV.mapL, back] using this
end Go.Ml
end
section
set_option linter.unusedSimpArgs false
set_option linter.unusedVariables false
set_option maxRecDepth 100000
set_option maxHeartbeats 8000000
namespace Go.Ml
theorem po_BigIntOf {T : Nat → Option Fn} (h : D_impl_BigIntOf T) {n : Int} (hn : -1000000000000000000 < n ∧ n < 1000000000000000000 := by first | omega | assumption | (simp; omega)) : PO T 54 [iv n] (biV (bi n)) := by
  have hl : (mk n.natAbs).length ≤ 2 := ln_small (by omega)
  by_cases hneg : n < 0
  · have c1 := po_natOfUint h.d_impl_natOfUint (n := -(n + 1) + 1) (by omega)
    rw [show (-(n + 1) + 1).toNat = n.natAbs by omega] at c1
    have e : bi n = ⟨true, mk n.natAbs⟩ := by unfold bi; rw [decide_eq_true hneg]
    rw [e]
    refine po_end2 (fun x d => x == 69 || x == 68) h.hT rfl rfl ?_
    dsimp only [F_impl_BigIntOf, oN, oS, oG, oK, oA, oH, oV, cI, St.enter, List.length_cons, List.length_nil, Nat.zero_add]
    (refine ew ?_; try with_reducible exact True.intro)
    (refine ew1 @hneg ?_; try with_reducible exact True.intro)
    rw [show (0 : Int) - (n + 1) + 1 = -(n + 1) + 1 by omega]
    refine RefK_got c1 (by (refine ew ?_; try with_reducible exact True.intro)) ?_
    intro v q1 o1 g
    have B0 := g.at 0 (by simp) rfl
    have lq : 1 ≤ q1.length := g.len
    have f1 : ∀ o ∈ o1, 1 ≤ o := g.fresh
    have k1 := g.ow
    have n1 := g.nd
    clear g
    (refine ew2 @B0 @lq ?_; try with_reducible exact True.intro)
    rcases k1.ints_inv with ⟨h1, _, _⟩ | ⟨o, rfl, h1, _⟩
    · have := ln_pos.2 (show 0 < n.natAbs by omega)
      rw [h1] at this; simp at this
    refine RefK_big h.d_impl_bigMake (neg := true) h1 (by omega) rfl (by omega) ?_
    intro q3 hold hlen
    replace B0 := (hold 0 (by omega)).trans B0
    have lq3 : 1 ≤ q3.length := by omega
    (refine ew2 @B0 @lq3 ?_; try with_reducible exact True.intro)
    refine fin_of (owV_agg2 (k1.frame fun p hp => ?_)) n1
    have := f1 p hp
    rw [objAt_setne (by omega), hold p (k1.lt p hp)]
  · have c1 := po_natOfUint h.d_impl_natOfUint (n := n) (by omega)
    rw [show n.toNat = n.natAbs by omega] at c1
    have e : bi n = ⟨false, mk n.natAbs⟩ := by unfold bi; rw [decide_eq_false hneg]
    rw [e]
    refine po_end2 (fun x d => x == 69 || x == 68) h.hT rfl rfl ?_
    dsimp only [F_impl_BigIntOf, oN, oS, oG, oK, oA, oH, oV, cI, St.enter, List.length_cons, List.length_nil, Nat.zero_add]
    (refine ew ?_; try with_reducible exact True.intro)
    (refine ew1 @hneg ?_; try with_reducible exact True.intro)
    refine RefK_got c1 (by (refine ew ?_; try with_reducible exact True.intro)) ?_
    intro v q1 o1 g
    have B0 := g.at 0 (by simp) rfl
    have lq : 1 ≤ q1.length := g.len
    have f1 : ∀ o ∈ o1, 1 ≤ o := g.fresh
    have k1 := g.ow
    have n1 := g.nd
    clear g
    (refine ew2 @B0 @lq ?_; try with_reducible exact True.intro)
    by_cases h0 : n.natAbs = 0
    · rw [h0, mk_zero] at k1 ⊢
      refine RefK_big0 h.d_impl_bigMake (neg := false) k1 rfl ?_
      intro q3 hold hlen
      replace B0 := (hold 0 (by omega)).trans B0
      have lq3 : 1 ≤ q3.length := by omega
      (refine ew2 @B0 @lq3 ?_; try with_reducible exact True.intro)
      exact ⟨.agg [.bool false, .sl 1 []], [], laxBi0, owV_agg2 (owV_ints0), .nil⟩
    rcases k1.ints_inv with ⟨h1, _, _⟩ | ⟨o, rfl, h1, _⟩
    · have := ln_pos.2 (show 0 < n.natAbs by omega)
      rw [h1] at this; simp at this
    refine RefK_big h.d_impl_bigMake (neg := false) h1 (by omega) rfl (by omega) ?_
    intro q3 hold hlen
    replace B0 := (hold 0 (by omega)).trans B0
    have lq3 : 1 ≤ q3.length := by omega
    (refine ew2 @B0 @lq3 ?_; try with_reducible exact True.intro)
    refine fin_of (owV_agg2 (k1.frame fun p hp => ?_)) n1
    have := f1 p hp
    rw [objAt_setne (by omega), hold p (k1.lt p hp)]
theorem po_RatFromInt {T : Nat → Option Fn} (h : D_impl_RatFromInt T) {n : Int} (hn : -1000000000000000000 < n ∧ n < 1000000000000000000 := by first | omega | assumption | (simp; omega)) : PO T 39 [iv n] (ratV (intR n)) := by
  rw [intR_raw]
  refine po_end2 (fun x d => x == 54) h.hT rfl rfl ?_
  dsimp only [F_impl_RatFromInt, oN, oS, oG, oK, oA, oH, oV, cI, St.enter, List.length_cons, List.length_nil, Nat.zero_add]
  (refine ew ?_; try with_reducible exact True.intro)
  refine RefK_got (po_BigIntOf h.d_impl_BigIntOf hn) (by (refine ew ?_; try with_reducible exact True.intro)) ?_
  intro v q1 o1 g
  obtain ⟨v1, rfl, k1⟩ := g.ow.bi_inv
  have B0 := g.at 0 (by simp) rfl
  have B1 := g.at 1 (by simp) rfl
  have lq : 2 ≤ q1.length := g.len
  have f1 : ∀ o ∈ o1, 2 ≤ o := g.fresh
  have n1 := g.nd
  have la := k1.leaf rfl
  have fc := fun b k => cells_agg (cs := [.bool b, v1]) (by simp [la, show ∀ b, V.leaf (.bool b) = true from fun _ => rfl]) k
  clear g
  (refine ew5 @B0 @B1 @lq @la @fc ?_; try with_reducible exact True.intro)
  refine fin_of (owV_rat (o1 := o1) (o2 := [1]) (k1.frame fun p hp => ?_) (owV_ints (l := [1]) ?_)) ?_
  · have := f1 p hp
    rw [objAt_setne (by omega), objAt_setne (by omega)]
  · rw [objAt_setne (by omega), objAt_seteq (by omega)]; rfl
  · rw [List.nodup_append]
    refine ⟨n1, by simp, fun a ha b hb e => ?_⟩
    have := f1 a ha
    simp at hb
    omega
end Go.Ml
end
section
set_option linter.unusedSimpArgs false
set_option linter.unusedVariables false
set_option maxRecDepth 100000
namespace Go.Ml
def F_impl_sameInts : Fn := ⟨2, 26, [.tmp 4], (.seq (.reg false 0 [oN 4 (.mov (.c (.bool false)))]) (.seq (.seq (.reg false 0 [oN 7 (oV 0), oN 8 (.len (.t 7)), oN 9 (oV 1), oN 10 (.len (.t 9)), oN 11 (.bin .neq (.t 8) (.t 10))]) (.cond (.t 11) (.seq (.reg false 0 [oN 4 (.mov (.c (.bool false)))]) .ret) .skip)) (.seq (.seq (.reg false 0 [oN 12 (oV 0), oN 13 (.len (.t 12)), oN 14 (.mov (cI 0))]) (.block 0 (.loop (.seq (.reg false 0 [oN 15 (.bin .lss (.t 14) (.t 13))]) (.seq (.cond (.t 15) .skip (.exit 0)) (.seq (.block 1 (.seq (.reg false 0 [oN 16 (oV 14), oN 17 (.idx 1 (.t 12) (.t 14)), oN 18 (.load 1 false (.t 17)), oN 5 (oV 16), oN 6 (oV 18)]) (.seq (.reg false 0 [oN 19 (oV 6), oN 20 (oV 1), oN 21 (oV 5), oN 22 (.idx 1 (.t 20) (.t 21)), oN 23 (.load 1 false (.t 22)), oN 24 (.bin .neq (.t 19) (.t 23))]) (.cond (.t 24) (.seq (.reg false 0 [oN 4 (.mov (.c (.bool false)))]) .ret) .skip)))) (.reg false 0 [oN 25 (.bin .add (.t 14) (cI 1)), oN 14 (oV 25)]))))))) (.seq (.reg false 0 [oN 4 (.mov (.c (.bool true)))]) .ret))))⟩
structure D_impl_sameInts (T : Nat → Option Fn) : Prop where
  hT : T 52 = some F_impl_sameInts
def F_spec_l04List : Fn := ⟨2, 26, [.tmp 4], (.seq (.reg false 0 [oN 4 (.mov (.c (.bool false)))]) (.seq (.seq (.reg false 0 [oN 6 (oV 0), oN 7 (.len (.t 6)), oN 8 (oV 1), oN 9 (.len (.t 8)), oN 10 (.bin .neq (.t 7) (.t 9))]) (.cond (.t 10) (.seq (.reg false 0 [oN 4 (.mov (.c (.bool false)))]) .ret) .skip)) (.seq (.seq (.reg false 0 [oN 11 (oV 0), oN 12 (.len (.t 11)), oN 13 (.mov (cI 0))]) (.block 0 (.loop (.seq (.reg false 0 [oN 14 (.bin .lss (.t 13) (.t 12))]) (.seq (.cond (.t 14) .skip (.exit 0)) (.seq (.block 1 (.seq (.reg false 0 [oN 15 (oV 13), oN 5 (oV 15)]) (.seq (.reg true 0 [oN 16 (oV 0), oN 17 (oV 5), oA 18 0 (.idx 1 (.t 16) (.t 17)) [0, 1], oA 19 0 (.load 1 false (.t 18)) [2], oN 20 (oV 1), oN 21 (oV 5), oA 22 0 (.idx 1 (.t 20) (.t 21)) [4, 5], oA 23 0 (.load 1 false (.t 22)) [6], oA 24 0 (.bin .neq (.t 19) (.t 23)) [3, 7]]) (.cond (.t 24) (.seq (.reg false 0 [oN 4 (.mov (.c (.bool false)))]) .ret) .skip)))) (.reg false 0 [oN 25 (.bin .add (.t 13) (cI 1)), oN 13 (oV 25)]))))))) (.seq (.reg false 0 [oN 4 (.mov (.c (.bool true)))]) .ret))))⟩
structure D_spec_l04List (T : Nat → Option Fn) : Prop where
  hT : T 51 = some F_spec_l04List
def F_impl_RatEqual : Fn := ⟨2, 28, [.tmp 4], (.seq (.reg false 2 [oN 2 (.box (.t 0)), oK 3 1 (.box (.t 1)), oK 4 2 (.mov (.c (.bool false)))]) (.seq (.reg false 0 [oN 5 (.fld 0 (.t 2)), oN 6 (.fld 0 (.t 5)), oN 7 (.load 1 false (.t 6)), oN 8 (.fld 0 (.t 3)), oN 9 (.fld 0 (.t 8)), oN 10 (.load 1 false (.t 9)), oN 11 (.beq false (.t 7) (.t 10)), oN 12 (oV 11), oG 12 true 13 (.fld 0 (.t 2)), oG 12 true 14 (.fld 1 (.t 13)), oG 12 true 15 (.load 1 false (.t 14)), oG 12 true 16 (.fld 0 (.t 3)), oG 12 true 17 (.fld 1 (.t 16)), oG 12 true 18 (.load 1 false (.t 17)), oG 12 true 19 (.call 52 [(.t 15), (.t 18)]), oN 20 (.pick (.t 12) (.t 19) (.c (.bool false))), oN 21 (oV 20), oG 21 true 22 (.fld 2 (.t 2)), oG 21 true 23 (.load 1 false (.t 22)), oG 21 true 24 (.fld 2 (.t 3)), oG 21 true 25 (.load 1 false (.t 24)), oG 21 true 26 (.call 52 [(.t 23), (.t 25)]), oN 27 (.pick (.t 21) (.t 26) (.c (.bool false))), oN 4 (oV 27)]) .ret))⟩
structure D_impl_RatEqual (T : Nat → Option Fn) : Prop where
  hT : T 32 = some F_impl_RatEqual
  d_impl_sameInts : D_impl_sameInts T
def F_spec_RatEqual : Fn := ⟨2, 28, [.tmp 4], (.seq (.reg false 2 [oN 2 (.box (.t 0)), oK 3 1 (.box (.t 1)), oK 4 2 (.mov (.c (.bool false)))]) (.seq (.reg false 0 [oN 5 (.fld 0 (.t 2)), oN 6 (.fld 0 (.t 5)), oN 7 (.load 1 false (.t 6)), oN 8 (.fld 0 (.t 3)), oN 9 (.fld 0 (.t 8)), oN 10 (.load 1 false (.t 9)), oN 11 (.beq false (.t 7) (.t 10)), oN 12 (oV 11), oG 12 true 13 (.fld 0 (.t 2)), oG 12 true 14 (.fld 1 (.t 13)), oG 12 true 15 (.load 1 false (.t 14)), oG 12 true 16 (.fld 0 (.t 3)), oG 12 true 17 (.fld 1 (.t 16)), oG 12 true 18 (.load 1 false (.t 17)), oG 12 true 19 (.call 51 [(.t 15), (.t 18)]), oN 20 (.pick (.t 12) (.t 19) (.c (.bool false))), oN 21 (oV 20), oG 21 true 22 (.fld 2 (.t 2)), oG 21 true 23 (.load 1 false (.t 22)), oG 21 true 24 (.fld 2 (.t 3)), oG 21 true 25 (.load 1 false (.t 24)), oG 21 true 26 (.call 51 [(.t 23), (.t 25)]), oN 27 (.pick (.t 21) (.t 26) (.c (.bool false))), oN 4 (oV 27)]) .ret))⟩
structure D_spec_RatEqual (T : Nat → Option Fn) : Prop where
  hT : T 30 = some F_spec_RatEqual
  d_spec_l04List : D_spec_l04List T
end Go.Ml
end
section
set_option linter.unusedSimpArgs false
set_option linter.unusedVariables false
set_option maxRecDepth 100000
namespace Go.Ml
def F_laws_szPoint : Fn := ⟨2, 18, [.tmp 4], (.seq (.reg false 1 [oN 2 (.box (.t 0)), oK 4 1 (.mov (cI 0))]) (.seq (.reg false 0 [oN 5 (.fld 0 (.t 2)), oN 6 (.load 3 true (.t 5)), oN 7 (oV 1), oN 8 (.call 46 [(.t 6), (.t 7)]), oN 1 (oV 8)]) (.seq (.seq (.reg false 0 [oN 9 (oV 1), oN 10 (.bin .lss (.t 9) (cI 0))]) (.cond (.t 10) (.seq (.reg false 0 [oN 4 (.mov (cI (-1)))]) .ret) .skip)) (.seq (.reg false 0 [oN 11 (.fld 3 (.t 2)), oN 12 (.load 3 true (.t 11)), oN 13 (oV 1), oN 14 (.call 46 [(.t 12), (.t 13)]), oN 1 (oV 14)]) (.seq (.seq (.reg false 0 [oN 15 (oV 1), oN 16 (.bin .lss (.t 15) (cI 0))]) (.cond (.t 16) (.seq (.reg false 0 [oN 4 (.mov (cI (-1)))]) .ret) .skip)) (.seq (.reg false 0 [oN 17 (oV 1), oN 4 (oV 17)]) .ret))))))⟩
structure D_laws_szPoint (T : Nat → Option Fn) : Prop where
  hT : T 29 = some F_laws_szPoint
  d_laws_szRat : D_laws_szRat T
def F_laws_toPoint : Fn := ⟨1, 13, [.cell 2 6 true], (.seq (.reg false 2 [oN 1 (.box (.t 0)), oK 2 1 (.alloc [.bool false, .nils, .nils, .bool false, .nils, .nils])]) (.seq (.reg false 1 [oN 3 (.alloc [.bool false, .nils, .nils, .bool false, .nils, .nils])]) (.seq (.reg false 0 [oN 4 (.fld 0 (.t 1)), oN 5 (.load 3 true (.t 4)), oN 6 (.call 48 [(.t 5)]), oN 7 (.fld 0 (.t 3)), oS (.store 3 (.t 7) (.t 6))]) (.seq (.reg false 0 [oN 8 (.fld 3 (.t 1)), oN 9 (.load 3 true (.t 8)), oN 10 (.call 48 [(.t 9)]), oN 11 (.fld 3 (.t 3)), oS (.store 3 (.t 11) (.t 10))]) (.seq (.reg false 0 [oN 12 (.load 6 true (.t 3)), oS (.store 6 (.t 2) (.t 12))]) .ret)))))⟩
structure D_laws_toPoint (T : Nat → Option Fn) : Prop where
  hT : T 31 = some F_laws_toPoint
  d_laws_toRat : D_laws_toRat T
def F_laws_eqPoint : Fn := ⟨2, 17, [.tmp 4], (.seq (.reg false 2 [oN 2 (.box (.t 0)), oK 3 1 (.box (.t 1)), oK 4 2 (.mov (.c (.bool false)))]) (.seq (.seq (.reg false 0 [oN 5 (.fld 0 (.t 2)), oN 6 (.load 3 true (.t 5)), oN 7 (.fld 0 (.t 3)), oN 8 (.load 3 true (.t 7)), oN 9 (.call 40 [(.t 6), (.t 8)]), oN 10 (.un .not (.t 9))]) (.cond (.t 10) (.seq (.reg false 0 [oN 4 (.mov (.c (.bool false)))]) .ret) .skip)) (.seq (.seq (.reg false 0 [oN 11 (.fld 3 (.t 2)), oN 12 (.load 3 true (.t 11)), oN 13 (.fld 3 (.t 3)), oN 14 (.load 3 true (.t 13)), oN 15 (.call 40 [(.t 12), (.t 14)]), oN 16 (.un .not (.t 15))]) (.cond (.t 16) (.seq (.reg false 0 [oN 4 (.mov (.c (.bool false)))]) .ret) .skip)) (.seq (.reg false 0 [oN 4 (.mov (.c (.bool true)))]) .ret))))⟩
structure D_laws_eqPoint (T : Nat → Option Fn) : Prop where
  hT : T 33 = some F_laws_eqPoint
  d_laws_eqRat : D_laws_eqRat T
def F_laws_szPointS : Fn := ⟨2, 27, [.tmp 4], (.seq (.reg false 0 [oN 4 (.mov (cI 0))]) (.seq (.reg false 0 [oN 6 (oV 1), oN 7 (oV 0), oN 8 (.len (.t 7)), oN 9 (.bin .sub (.t 6) (.t 8)), oN 1 (oV 9)]) (.seq (.seq (.reg false 0 [oN 10 (oV 1), oN 11 (.bin .lss (.t 10) (cI 0))]) (.cond (.t 11) (.seq (.reg false 0 [oN 4 (.mov (cI (-1)))]) .ret) .skip)) (.seq (.seq (.reg false 0 [oN 5 (.mov (cI 0))]) (.block 0 (.loop (.seq (.seq (.reg false 0 [oN 12 (oV 5), oN 13 (oV 0), oN 14 (.len (.t 13)), oN 15 (.bin .lss (.t 12) (.t 14))]) (.cond (.t 15) .skip (.exit 0))) (.seq (.block 1 (.seq (.reg false 0 [oN 18 (oV 0), oN 19 (oV 5), oN 20 (.idx 6 (.t 18) (.t 19)), oN 21 (.load 6 true (.t 20)), oN 22 (oV 1), oN 23 (.call 29 [(.t 21), (.t 22)]), oN 1 (oV 23)]) (.seq (.reg false 0 [oN 24 (oV 1), oN 25 (.bin .lss (.t 24) (cI 0))]) (.cond (.t 25) (.seq (.reg false 0 [oN 4 (.mov (cI (-1)))]) .ret) .skip)))) (.reg false 0 [oN 16 (oV 5), oN 17 (.bin .add (.t 16) (cI 1)), oN 5 (oV 17)])))))) (.seq (.reg false 0 [oN 26 (oV 1), oN 4 (oV 26)]) .ret)))))⟩
structure D_laws_szPointS (T : Nat → Option Fn) : Prop where
  hT : T 9 = some F_laws_szPointS
  d_laws_szPoint : D_laws_szPoint T
def F_laws_toPointS : Fn := ⟨1, 23, [.tmp 2], (.seq (.reg false 0 [oN 2 (.mov (.c (.nils)))]) (.seq (.reg false 1 [oK 5 1 (oV 0), oK 6 1 (.len (.t 5)), oN 7 (.make [.bool false, .nils, .nils, .bool false, .nils, .nils] 112 (.t 6)), oK 3 1 (oV 7)]) (.seq (.seq (.reg false 0 [oN 4 (.mov (cI 0))]) (.block 0 (.loop (.seq (.seq (.reg false 0 [oN 8 (oV 4), oN 9 (oV 0), oN 10 (.len (.t 9)), oN 11 (.bin .lss (.t 8) (.t 10))]) (.cond (.t 11) .skip (.exit 0))) (.seq (.block 1 (.reg false 0 [oN 14 (oV 3), oN 15 (oV 4), oN 16 (oV 0), oN 17 (oV 4), oN 18 (.idx 6 (.t 16) (.t 17)), oN 19 (.load 6 true (.t 18)), oN 20 (.call 31 [(.t 19)]), oN 21 (.idx 6 (.t 14) (.t 15)), oS (.store 6 (.t 21) (.t 20))])) (.reg false 0 [oN 12 (oV 4), oN 13 (.bin .add (.t 12) (cI 1)), oN 4 (oV 13)])))))) (.seq (.reg false 0 [oN 22 (oV 3), oN 2 (oV 22)]) .ret))))⟩
structure D_laws_toPointS (T : Nat → Option Fn) : Prop where
  hT : T 11 = some F_laws_toPointS
  d_laws_toPoint : D_laws_toPoint T
def F_laws_eqPointS : Fn := ⟨2, 27, [.tmp 4], (.seq (.reg false 0 [oN 4 (.mov (.c (.bool false)))]) (.seq (.seq (.reg false 0 [oN 6 (oV 0), oN 7 (.len (.t 6)), oN 8 (oV 1), oN 9 (.len (.t 8)), oN 10 (.bin .neq (.t 7) (.t 9))]) (.cond (.t 10) (.seq (.reg false 0 [oN 4 (.mov (.c (.bool false)))]) .ret) .skip)) (.seq (.seq (.reg false 0 [oN 5 (.mov (cI 0))]) (.block 0 (.loop (.seq (.seq (.reg false 0 [oN 11 (oV 5), oN 12 (oV 0), oN 13 (.len (.t 12)), oN 14 (.bin .lss (.t 11) (.t 13))]) (.cond (.t 14) .skip (.exit 0))) (.seq (.block 1 (.seq (.reg true 0 [oN 17 (oV 0), oN 18 (oV 5), oA 19 0 (.idx 6 (.t 17) (.t 18)) [0, 1], oA 20 0 (.load 6 true (.t 19)) [2], oN 21 (oV 1), oN 22 (oV 5), oA 23 0 (.idx 6 (.t 21) (.t 22)) [4, 5], oA 24 0 (.load 6 true (.t 23)) [6], oA 25 0 (.call 33 [(.t 20), (.t 24)]) [3, 7], oA 26 0 (.un .not (.t 25)) [8]]) (.cond (.t 26) (.seq (.reg false 0 [oN 4 (.mov (.c (.bool false)))]) .ret) .skip))) (.reg false 0 [oN 15 (oV 5), oN 16 (.bin .add (.t 15) (cI 1)), oN 5 (oV 16)])))))) (.seq (.reg false 0 [oN 4 (.mov (.c (.bool true)))]) .ret))))⟩
structure D_laws_eqPointS (T : Nat → Option Fn) : Prop where
  hT : T 13 = some F_laws_eqPointS
  d_laws_eqPoint : D_laws_eqPoint T
def F_laws_szLink : Fn := ⟨2, 24, [.tmp 4], (.seq (.reg false 1 [oN 2 (.box (.t 0)), oK 4 1 (.mov (cI 0))]) (.seq (.reg false 0 [oN 5 (.fld 2 (.t 2)), oN 6 (.load 3 true (.t 5)), oN 7 (oV 1), oN 8 (.call 46 [(.t 6), (.t 7)]), oN 1 (oV 8)]) (.seq (.seq (.reg false 0 [oN 9 (oV 1), oN 10 (.bin .lss (.t 9) (cI 0))]) (.cond (.t 10) (.seq (.reg false 0 [oN 4 (.mov (cI (-1)))]) .ret) .skip)) (.seq (.reg false 0 [oN 11 (.fld 5 (.t 2)), oN 12 (.load 3 true (.t 11)), oN 13 (oV 1), oN 14 (.call 46 [(.t 12), (.t 13)]), oN 1 (oV 14)]) (.seq (.seq (.reg false 0 [oN 15 (oV 1), oN 16 (.bin .lss (.t 15) (cI 0))]) (.cond (.t 16) (.seq (.reg false 0 [oN 4 (.mov (cI (-1)))]) .ret) .skip)) (.seq (.reg false 0 [oN 17 (.fld 8 (.t 2)), oN 18 (.load 3 true (.t 17)), oN 19 (oV 1), oN 20 (.call 46 [(.t 18), (.t 19)]), oN 1 (oV 20)]) (.seq (.seq (.reg false 0 [oN 21 (oV 1), oN 22 (.bin .lss (.t 21) (cI 0))]) (.cond (.t 22) (.seq (.reg false 0 [oN 4 (.mov (cI (-1)))]) .ret) .skip)) (.seq (.reg false 0 [oN 23 (oV 1), oN 4 (oV 23)]) .ret))))))))⟩
structure D_laws_szLink (T : Nat → Option Fn) : Prop where
  hT : T 43 = some F_laws_szLink
  d_laws_szRat : D_laws_szRat T
def F_laws_toLink : Fn := ⟨1, 23, [.cell 2 11 true], (.seq (.reg false 2 [oN 1 (.box (.t 0)), oK 2 1 (.alloc [.int .i64 0, .int .i64 0, .bool false, .nils, .nils, .bool false, .nils, .nils, .bool false, .nils, .nils])]) (.seq (.reg false 1 [oN 3 (.alloc [.int .i64 0, .int .i64 0, .bool false, .nils, .nils, .bool false, .nils, .nils, .bool false, .nils, .nils])]) (.seq (.reg false 0 [oN 4 (.fld 0 (.t 1)), oN 5 (.load 1 false (.t 4)), oN 6 (.fld 0 (.t 3)), oS (.store 1 (.t 6) (.t 5))]) (.seq (.reg false 0 [oN 7 (.fld 1 (.t 1)), oN 8 (.load 1 false (.t 7)), oN 9 (.fld 1 (.t 3)), oS (.store 1 (.t 9) (.t 8))]) (.seq (.reg false 0 [oN 10 (.fld 2 (.t 1)), oN 11 (.load 3 true (.t 10)), oN 12 (.call 48 [(.t 11)]), oN 13 (.fld 2 (.t 3)), oS (.store 3 (.t 13) (.t 12))]) (.seq (.reg false 0 [oN 14 (.fld 5 (.t 1)), oN 15 (.load 3 true (.t 14)), oN 16 (.call 48 [(.t 15)]), oN 17 (.fld 5 (.t 3)), oS (.store 3 (.t 17) (.t 16))]) (.seq (.reg false 0 [oN 18 (.fld 8 (.t 1)), oN 19 (.load 3 true (.t 18)), oN 20 (.call 48 [(.t 19)]), oN 21 (.fld 8 (.t 3)), oS (.store 3 (.t 21) (.t 20))]) (.seq (.reg false 0 [oN 22 (.load 11 true (.t 3)), oS (.store 11 (.t 2) (.t 22))]) .ret))))))))⟩
structure D_laws_toLink (T : Nat → Option Fn) : Prop where
  hT : T 44 = some F_laws_toLink
  d_laws_toRat : D_laws_toRat T
def F_laws_eqLink : Fn := ⟨2, 33, [.tmp 4], (.seq (.reg false 2 [oN 2 (.box (.t 0)), oK 3 1 (.box (.t 1)), oK 4 2 (.mov (.c (.bool false)))]) (.seq (.seq (.reg false 0 [oN 5 (.fld 0 (.t 2)), oN 6 (.load 1 false (.t 5)), oN 7 (.fld 0 (.t 3)), oN 8 (.load 1 false (.t 7)), oN 9 (.bin .neq (.t 6) (.t 8))]) (.cond (.t 9) (.seq (.reg false 0 [oN 4 (.mov (.c (.bool false)))]) .ret) .skip)) (.seq (.seq (.reg false 0 [oN 10 (.fld 1 (.t 2)), oN 11 (.load 1 false (.t 10)), oN 12 (.fld 1 (.t 3)), oN 13 (.load 1 false (.t 12)), oN 14 (.bin .neq (.t 11) (.t 13))]) (.cond (.t 14) (.seq (.reg false 0 [oN 4 (.mov (.c (.bool false)))]) .ret) .skip)) (.seq (.seq (.reg false 0 [oN 15 (.fld 2 (.t 2)), oN 16 (.load 3 true (.t 15)), oN 17 (.fld 2 (.t 3)), oN 18 (.load 3 true (.t 17)), oN 19 (.call 40 [(.t 16), (.t 18)]), oN 20 (.un .not (.t 19))]) (.cond (.t 20) (.seq (.reg false 0 [oN 4 (.mov (.c (.bool false)))]) .ret) .skip)) (.seq (.seq (.reg false 0 [oN 21 (.fld 5 (.t 2)), oN 22 (.load 3 true (.t 21)), oN 23 (.fld 5 (.t 3)), oN 24 (.load 3 true (.t 23)), oN 25 (.call 40 [(.t 22), (.t 24)]), oN 26 (.un .not (.t 25))]) (.cond (.t 26) (.seq (.reg false 0 [oN 4 (.mov (.c (.bool false)))]) .ret) .skip)) (.seq (.seq (.reg false 0 [oN 27 (.fld 8 (.t 2)), oN 28 (.load 3 true (.t 27)), oN 29 (.fld 8 (.t 3)), oN 30 (.load 3 true (.t 29)), oN 31 (.call 40 [(.t 28), (.t 30)]), oN 32 (.un .not (.t 31))]) (.cond (.t 32) (.seq (.reg false 0 [oN 4 (.mov (.c (.bool false)))]) .ret) .skip)) (.seq (.reg false 0 [oN 4 (.mov (.c (.bool true)))]) .ret)))))))⟩
structure D_laws_eqLink (T : Nat → Option Fn) : Prop where
  hT : T 16 = some F_laws_eqLink
  d_laws_eqRat : D_laws_eqRat T
def F_laws_szLinkS : Fn := ⟨2, 27, [.tmp 4], (.seq (.reg false 0 [oN 4 (.mov (cI 0))]) (.seq (.reg false 0 [oN 6 (oV 1), oN 7 (oV 0), oN 8 (.len (.t 7)), oN 9 (.bin .sub (.t 6) (.t 8)), oN 1 (oV 9)]) (.seq (.seq (.reg false 0 [oN 10 (oV 1), oN 11 (.bin .lss (.t 10) (cI 0))]) (.cond (.t 11) (.seq (.reg false 0 [oN 4 (.mov (cI (-1)))]) .ret) .skip)) (.seq (.seq (.reg false 0 [oN 5 (.mov (cI 0))]) (.block 0 (.loop (.seq (.seq (.reg false 0 [oN 12 (oV 5), oN 13 (oV 0), oN 14 (.len (.t 13)), oN 15 (.bin .lss (.t 12) (.t 14))]) (.cond (.t 15) .skip (.exit 0))) (.seq (.block 1 (.seq (.reg false 0 [oN 18 (oV 0), oN 19 (oV 5), oN 20 (.idx 11 (.t 18) (.t 19)), oN 21 (.load 11 true (.t 20)), oN 22 (oV 1), oN 23 (.call 43 [(.t 21), (.t 22)]), oN 1 (oV 23)]) (.seq (.reg false 0 [oN 24 (oV 1), oN 25 (.bin .lss (.t 24) (cI 0))]) (.cond (.t 25) (.seq (.reg false 0 [oN 4 (.mov (cI (-1)))]) .ret) .skip)))) (.reg false 0 [oN 16 (oV 5), oN 17 (.bin .add (.t 16) (cI 1)), oN 5 (oV 17)])))))) (.seq (.reg false 0 [oN 26 (oV 1), oN 4 (oV 26)]) .ret)))))⟩
structure D_laws_szLinkS (T : Nat → Option Fn) : Prop where
  hT : T 19 = some F_laws_szLinkS
  d_laws_szLink : D_laws_szLink T
def F_laws_toLinkS : Fn := ⟨1, 23, [.tmp 2], (.seq (.reg false 0 [oN 2 (.mov (.c (.nils)))]) (.seq (.reg false 1 [oK 5 1 (oV 0), oK 6 1 (.len (.t 5)), oN 7 (.make [.int .i64 0, .int .i64 0, .bool false, .nils, .nils, .bool false, .nils, .nils, .bool false, .nils, .nils] 184 (.t 6)), oK 3 1 (oV 7)]) (.seq (.seq (.reg false 0 [oN 4 (.mov (cI 0))]) (.block 0 (.loop (.seq (.seq (.reg false 0 [oN 8 (oV 4), oN 9 (oV 0), oN 10 (.len (.t 9)), oN 11 (.bin .lss (.t 8) (.t 10))]) (.cond (.t 11) .skip (.exit 0))) (.seq (.block 1 (.reg false 0 [oN 14 (oV 3), oN 15 (oV 4), oN 16 (oV 0), oN 17 (oV 4), oN 18 (.idx 11 (.t 16) (.t 17)), oN 19 (.load 11 true (.t 18)), oN 20 (.call 44 [(.t 19)]), oN 21 (.idx 11 (.t 14) (.t 15)), oS (.store 11 (.t 21) (.t 20))])) (.reg false 0 [oN 12 (oV 4), oN 13 (.bin .add (.t 12) (cI 1)), oN 4 (oV 13)])))))) (.seq (.reg false 0 [oN 22 (oV 3), oN 2 (oV 22)]) .ret))))⟩
structure D_laws_toLinkS (T : Nat → Option Fn) : Prop where
  hT : T 21 = some F_laws_toLinkS
  d_laws_toLink : D_laws_toLink T
def F_laws_eqLinkS : Fn := ⟨2, 27, [.tmp 4], (.seq (.reg false 0 [oN 4 (.mov (.c (.bool false)))]) (.seq (.seq (.reg false 0 [oN 6 (oV 0), oN 7 (.len (.t 6)), oN 8 (oV 1), oN 9 (.len (.t 8)), oN 10 (.bin .neq (.t 7) (.t 9))]) (.cond (.t 10) (.seq (.reg false 0 [oN 4 (.mov (.c (.bool false)))]) .ret) .skip)) (.seq (.seq (.reg false 0 [oN 5 (.mov (cI 0))]) (.block 0 (.loop (.seq (.seq (.reg false 0 [oN 11 (oV 5), oN 12 (oV 0), oN 13 (.len (.t 12)), oN 14 (.bin .lss (.t 11) (.t 13))]) (.cond (.t 14) .skip (.exit 0))) (.seq (.block 1 (.seq (.reg true 0 [oN 17 (oV 0), oN 18 (oV 5), oA 19 0 (.idx 11 (.t 17) (.t 18)) [0, 1], oA 20 0 (.load 11 true (.t 19)) [2], oN 21 (oV 1), oN 22 (oV 5), oA 23 0 (.idx 11 (.t 21) (.t 22)) [4, 5], oA 24 0 (.load 11 true (.t 23)) [6], oA 25 0 (.call 16 [(.t 20), (.t 24)]) [3, 7], oA 26 0 (.un .not (.t 25)) [8]]) (.cond (.t 26) (.seq (.reg false 0 [oN 4 (.mov (.c (.bool false)))]) .ret) .skip))) (.reg false 0 [oN 15 (oV 5), oN 16 (.bin .add (.t 15) (cI 1)), oN 5 (oV 16)])))))) (.seq (.reg false 0 [oN 4 (.mov (.c (.bool true)))]) .ret))))⟩
structure D_laws_eqLinkS (T : Nat → Option Fn) : Prop where
  hT : T 23 = some F_laws_eqLinkS
  d_laws_eqLink : D_laws_eqLink T
theorem c_eqLink {T : Nat → Option Fn} (h : D_laws_eqLink T) {x y : Lk} (hx : x.wf := by first | omega | assumption | (simp; omega)) (hy : y.wf := by first | omega | assumption | (simp; omega)) : PF T 16 [lkV x, lkV y] (.bool (decide (x = y))) := by
  obtain ⟨w0, w1, w2⟩ := hx
  obtain ⟨v0, v1, v2⟩ := hy
  refine pf_end (fun _ _ => false) h.hT rfl rfl ?_
  dsimp only [F_laws_eqLink, oN, oS, oG, oK, oA, oH, oV, cI]
  (refine ev ?_; try with_reducible exact True.intro)
  refine brK_dec (fun hb0 => ?_) fun hb0 => ?_ <;> (refine ev1 @hb0 ?_; try with_reducible exact True.intro)
  rotate_left
  · cases x; cases y; simp_all
  refine brK_dec (fun hb1 => ?_) fun hb1 => ?_ <;> (refine ev1 @hb1 ?_; try with_reducible exact True.intro)
  rotate_left
  · cases x; cases y; simp_all
  refine PFK_of (c_eqRat h.d_laws_eqRat (y := x.w) (z := y.w) w0 v0) ?_
  (refine ev ?_; try with_reducible exact True.intro)
  refine brK_dec (fun hb2 => ?_) fun hb2 => ?_ <;> (refine ev1 @hb2 ?_; try with_reducible exact True.intro)
  rotate_left
  · cases x; cases y; simp_all
  refine PFK_of (c_eqRat h.d_laws_eqRat (y := x.dx) (z := y.dx) w1 v1) ?_
  (refine ev ?_; try with_reducible exact True.intro)
  refine brK_dec (fun hb3 => ?_) fun hb3 => ?_ <;> (refine ev1 @hb3 ?_; try with_reducible exact True.intro)
  rotate_left
  · cases x; cases y; simp_all
  refine PFK_of (c_eqRat h.d_laws_eqRat (y := x.dy) (z := y.dy) w2 v2) ?_
  (refine ev ?_; try with_reducible exact True.intro)
  refine brK_dec (fun hb4 => ?_) fun hb4 => ?_ <;> (refine ev1 @hb4 ?_; try with_reducible exact True.intro)
  rotate_left
  · cases x; cases y; simp_all
  · cases x; cases y; simp_all
end Go.Ml
end
section
set_option linter.unusedSimpArgs false
set_option linter.unusedVariables false
set_option maxRecDepth 100000
namespace Go.Ml
def F_laws_szParent : Fn := ⟨2, 24, [.tmp 4], (.seq (.reg false 1 [oN 2 (.box (.t 0)), oK 4 1 (.mov (cI 0))]) (.seq (.reg false 0 [oN 5 (.fld 1 (.t 2)), oN 6 (.load 3 true (.t 5)), oN 7 (oV 1), oN 8 (.call 46 [(.t 6), (.t 7)]), oN 1 (oV 8)]) (.seq (.seq (.reg false 0 [oN 9 (oV 1), oN 10 (.bin .lss (.t 9) (cI 0))]) (.cond (.t 10) (.seq (.reg false 0 [oN 4 (.mov (cI (-1)))]) .ret) .skip)) (.seq (.reg false 0 [oN 11 (.fld 4 (.t 2)), oN 12 (.load 3 true (.t 11)), oN 13 (oV 1), oN 14 (.call 46 [(.t 12), (.t 13)]), oN 1 (oV 14)]) (.seq (.seq (.reg false 0 [oN 15 (oV 1), oN 16 (.bin .lss (.t 15) (cI 0))]) (.cond (.t 16) (.seq (.reg false 0 [oN 4 (.mov (cI (-1)))]) .ret) .skip)) (.seq (.reg false 0 [oN 17 (.fld 7 (.t 2)), oN 18 (.load 3 true (.t 17)), oN 19 (oV 1), oN 20 (.call 46 [(.t 18), (.t 19)]), oN 1 (oV 20)]) (.seq (.seq (.reg false 0 [oN 21 (oV 1), oN 22 (.bin .lss (.t 21) (cI 0))]) (.cond (.t 22) (.seq (.reg false 0 [oN 4 (.mov (cI (-1)))]) .ret) .skip)) (.seq (.reg false 0 [oN 23 (oV 1), oN 4 (oV 23)]) .ret))))))))⟩
structure D_laws_szParent (T : Nat → Option Fn) : Prop where
  hT : T 62 = some F_laws_szParent
  d_laws_szRat : D_laws_szRat T
def F_laws_toParent : Fn := ⟨1, 20, [.cell 2 10 true], (.seq (.reg false 2 [oN 1 (.box (.t 0)), oK 2 1 (.alloc [.int .i64 0, .bool false, .nils, .nils, .bool false, .nils, .nils, .bool false, .nils, .nils])]) (.seq (.reg false 1 [oN 3 (.alloc [.int .i64 0, .bool false, .nils, .nils, .bool false, .nils, .nils, .bool false, .nils, .nils])]) (.seq (.reg false 0 [oN 4 (.fld 0 (.t 1)), oN 5 (.load 1 false (.t 4)), oN 6 (.fld 0 (.t 3)), oS (.store 1 (.t 6) (.t 5))]) (.seq (.reg false 0 [oN 7 (.fld 1 (.t 1)), oN 8 (.load 3 true (.t 7)), oN 9 (.call 48 [(.t 8)]), oN 10 (.fld 1 (.t 3)), oS (.store 3 (.t 10) (.t 9))]) (.seq (.reg false 0 [oN 11 (.fld 4 (.t 1)), oN 12 (.load 3 true (.t 11)), oN 13 (.call 48 [(.t 12)]), oN 14 (.fld 4 (.t 3)), oS (.store 3 (.t 14) (.t 13))]) (.seq (.reg false 0 [oN 15 (.fld 7 (.t 1)), oN 16 (.load 3 true (.t 15)), oN 17 (.call 48 [(.t 16)]), oN 18 (.fld 7 (.t 3)), oS (.store 3 (.t 18) (.t 17))]) (.seq (.reg false 0 [oN 19 (.load 10 true (.t 3)), oS (.store 10 (.t 2) (.t 19))]) .ret)))))))⟩
structure D_laws_toParent (T : Nat → Option Fn) : Prop where
  hT : T 64 = some F_laws_toParent
  d_laws_toRat : D_laws_toRat T
def F_laws_eqParent : Fn := ⟨2, 28, [.tmp 4], (.seq (.reg false 2 [oN 2 (.box (.t 0)), oK 3 1 (.box (.t 1)), oK 4 2 (.mov (.c (.bool false)))]) (.seq (.seq (.reg false 0 [oN 5 (.fld 0 (.t 2)), oN 6 (.load 1 false (.t 5)), oN 7 (.fld 0 (.t 3)), oN 8 (.load 1 false (.t 7)), oN 9 (.bin .neq (.t 6) (.t 8))]) (.cond (.t 9) (.seq (.reg false 0 [oN 4 (.mov (.c (.bool false)))]) .ret) .skip)) (.seq (.seq (.reg false 0 [oN 10 (.fld 1 (.t 2)), oN 11 (.load 3 true (.t 10)), oN 12 (.fld 1 (.t 3)), oN 13 (.load 3 true (.t 12)), oN 14 (.call 40 [(.t 11), (.t 13)]), oN 15 (.un .not (.t 14))]) (.cond (.t 15) (.seq (.reg false 0 [oN 4 (.mov (.c (.bool false)))]) .ret) .skip)) (.seq (.seq (.reg false 0 [oN 16 (.fld 4 (.t 2)), oN 17 (.load 3 true (.t 16)), oN 18 (.fld 4 (.t 3)), oN 19 (.load 3 true (.t 18)), oN 20 (.call 40 [(.t 17), (.t 19)]), oN 21 (.un .not (.t 20))]) (.cond (.t 21) (.seq (.reg false 0 [oN 4 (.mov (.c (.bool false)))]) .ret) .skip)) (.seq (.seq (.reg false 0 [oN 22 (.fld 7 (.t 2)), oN 23 (.load 3 true (.t 22)), oN 24 (.fld 7 (.t 3)), oN 25 (.load 3 true (.t 24)), oN 26 (.call 40 [(.t 23), (.t 25)]), oN 27 (.un .not (.t 26))]) (.cond (.t 27) (.seq (.reg false 0 [oN 4 (.mov (.c (.bool false)))]) .ret) .skip)) (.seq (.reg false 0 [oN 4 (.mov (.c (.bool true)))]) .ret))))))⟩
structure D_laws_eqParent (T : Nat → Option Fn) : Prop where
  hT : T 65 = some F_laws_eqParent
  d_laws_eqRat : D_laws_eqRat T
def F_laws_szParentS : Fn := ⟨2, 27, [.tmp 4], (.seq (.reg false 0 [oN 4 (.mov (cI 0))]) (.seq (.reg false 0 [oN 6 (oV 1), oN 7 (oV 0), oN 8 (.len (.t 7)), oN 9 (.bin .sub (.t 6) (.t 8)), oN 1 (oV 9)]) (.seq (.seq (.reg false 0 [oN 10 (oV 1), oN 11 (.bin .lss (.t 10) (cI 0))]) (.cond (.t 11) (.seq (.reg false 0 [oN 4 (.mov (cI (-1)))]) .ret) .skip)) (.seq (.seq (.reg false 0 [oN 5 (.mov (cI 0))]) (.block 0 (.loop (.seq (.seq (.reg false 0 [oN 12 (oV 5), oN 13 (oV 0), oN 14 (.len (.t 13)), oN 15 (.bin .lss (.t 12) (.t 14))]) (.cond (.t 15) .skip (.exit 0))) (.seq (.block 1 (.seq (.reg false 0 [oN 18 (oV 0), oN 19 (oV 5), oN 20 (.idx 10 (.t 18) (.t 19)), oN 21 (.load 10 true (.t 20)), oN 22 (oV 1), oN 23 (.call 62 [(.t 21), (.t 22)]), oN 1 (oV 23)]) (.seq (.reg false 0 [oN 24 (oV 1), oN 25 (.bin .lss (.t 24) (cI 0))]) (.cond (.t 25) (.seq (.reg false 0 [oN 4 (.mov (cI (-1)))]) .ret) .skip)))) (.reg false 0 [oN 16 (oV 5), oN 17 (.bin .add (.t 16) (cI 1)), oN 5 (oV 17)])))))) (.seq (.reg false 0 [oN 26 (oV 1), oN 4 (oV 26)]) .ret)))))⟩
structure D_laws_szParentS (T : Nat → Option Fn) : Prop where
  hT : T 47 = some F_laws_szParentS
  d_laws_szParent : D_laws_szParent T
def F_laws_toParentS : Fn := ⟨1, 23, [.tmp 2], (.seq (.reg false 0 [oN 2 (.mov (.c (.nils)))]) (.seq (.reg false 1 [oK 5 1 (oV 0), oK 6 1 (.len (.t 5)), oN 7 (.make [.int .i64 0, .bool false, .nils, .nils, .bool false, .nils, .nils, .bool false, .nils, .nils] 176 (.t 6)), oK 3 1 (oV 7)]) (.seq (.seq (.reg false 0 [oN 4 (.mov (cI 0))]) (.block 0 (.loop (.seq (.seq (.reg false 0 [oN 8 (oV 4), oN 9 (oV 0), oN 10 (.len (.t 9)), oN 11 (.bin .lss (.t 8) (.t 10))]) (.cond (.t 11) .skip (.exit 0))) (.seq (.block 1 (.reg false 0 [oN 14 (oV 3), oN 15 (oV 4), oN 16 (oV 0), oN 17 (oV 4), oN 18 (.idx 10 (.t 16) (.t 17)), oN 19 (.load 10 true (.t 18)), oN 20 (.call 64 [(.t 19)]), oN 21 (.idx 10 (.t 14) (.t 15)), oS (.store 10 (.t 21) (.t 20))])) (.reg false 0 [oN 12 (oV 4), oN 13 (.bin .add (.t 12) (cI 1)), oN 4 (oV 13)])))))) (.seq (.reg false 0 [oN 22 (oV 3), oN 2 (oV 22)]) .ret))))⟩
structure D_laws_toParentS (T : Nat → Option Fn) : Prop where
  hT : T 49 = some F_laws_toParentS
  d_laws_toParent : D_laws_toParent T
def F_laws_eqParentS : Fn := ⟨2, 27, [.tmp 4], (.seq (.reg false 0 [oN 4 (.mov (.c (.bool false)))]) (.seq (.seq (.reg false 0 [oN 6 (oV 0), oN 7 (.len (.t 6)), oN 8 (oV 1), oN 9 (.len (.t 8)), oN 10 (.bin .neq (.t 7) (.t 9))]) (.cond (.t 10) (.seq (.reg false 0 [oN 4 (.mov (.c (.bool false)))]) .ret) .skip)) (.seq (.seq (.reg false 0 [oN 5 (.mov (cI 0))]) (.block 0 (.loop (.seq (.seq (.reg false 0 [oN 11 (oV 5), oN 12 (oV 0), oN 13 (.len (.t 12)), oN 14 (.bin .lss (.t 11) (.t 13))]) (.cond (.t 14) .skip (.exit 0))) (.seq (.block 1 (.seq (.reg true 0 [oN 17 (oV 0), oN 18 (oV 5), oA 19 0 (.idx 10 (.t 17) (.t 18)) [0, 1], oA 20 0 (.load 10 true (.t 19)) [2], oN 21 (oV 1), oN 22 (oV 5), oA 23 0 (.idx 10 (.t 21) (.t 22)) [4, 5], oA 24 0 (.load 10 true (.t 23)) [6], oA 25 0 (.call 65 [(.t 20), (.t 24)]) [3, 7], oA 26 0 (.un .not (.t 25)) [8]]) (.cond (.t 26) (.seq (.reg false 0 [oN 4 (.mov (.c (.bool false)))]) .ret) .skip))) (.reg false 0 [oN 15 (oV 5), oN 16 (.bin .add (.t 15) (cI 1)), oN 5 (oV 16)])))))) (.seq (.reg false 0 [oN 4 (.mov (.c (.bool true)))]) .ret))))⟩
structure D_laws_eqParentS (T : Nat → Option Fn) : Prop where
  hT : T 50 = some F_laws_eqParentS
  d_laws_eqParent : D_laws_eqParent T
def F_laws_szConditional : Fn := ⟨2, 18, [.tmp 4], (.seq (.reg false 1 [oN 2 (.box (.t 0)), oK 4 1 (.mov (cI 0))]) (.seq (.reg false 0 [oN 5 (.fld 1 (.t 2)), oN 6 (.load 3 true (.t 5)), oN 7 (oV 1), oN 8 (.call 46 [(.t 6), (.t 7)]), oN 1 (oV 8)]) (.seq (.seq (.reg false 0 [oN 9 (oV 1), oN 10 (.bin .lss (.t 9) (cI 0))]) (.cond (.t 10) (.seq (.reg false 0 [oN 4 (.mov (cI (-1)))]) .ret) .skip)) (.seq (.reg false 0 [oN 11 (.fld 4 (.t 2)), oN 12 (.load 1 false (.t 11)), oN 13 (oV 1), oN 14 (.call 47 [(.t 12), (.t 13)]), oN 1 (oV 14)]) (.seq (.seq (.reg false 0 [oN 15 (oV 1), oN 16 (.bin .lss (.t 15) (cI 0))]) (.cond (.t 16) (.seq (.reg false 0 [oN 4 (.mov (cI (-1)))]) .ret) .skip)) (.seq (.reg false 0 [oN 17 (oV 1), oN 4 (oV 17)]) .ret))))))⟩
structure D_laws_szConditional (T : Nat → Option Fn) : Prop where
  hT : T 24 = some F_laws_szConditional
  d_laws_szRat : D_laws_szRat T
  d_laws_szParentS : D_laws_szParentS T
def F_laws_toConditional : Fn := ⟨1, 16, [.cell 2 5 true], (.seq (.reg false 2 [oN 1 (.box (.t 0)), oK 2 1 (.alloc [.int .i64 0, .bool false, .nils, .nils, .nils])]) (.seq (.reg false 1 [oN 3 (.alloc [.int .i64 0, .bool false, .nils, .nils, .nils])]) (.seq (.reg false 0 [oN 4 (.fld 0 (.t 1)), oN 5 (.load 1 false (.t 4)), oN 6 (.fld 0 (.t 3)), oS (.store 1 (.t 6) (.t 5))]) (.seq (.reg false 0 [oN 7 (.fld 1 (.t 1)), oN 8 (.load 3 true (.t 7)), oN 9 (.call 48 [(.t 8)]), oN 10 (.fld 1 (.t 3)), oS (.store 3 (.t 10) (.t 9))]) (.seq (.reg false 0 [oN 11 (.fld 4 (.t 1)), oN 12 (.load 1 false (.t 11)), oN 13 (.call 49 [(.t 12)]), oN 14 (.fld 4 (.t 3)), oS (.store 1 (.t 14) (.t 13))]) (.seq (.reg false 0 [oN 15 (.load 5 true (.t 3)), oS (.store 5 (.t 2) (.t 15))]) .ret))))))⟩
structure D_laws_toConditional (T : Nat → Option Fn) : Prop where
  hT : T 26 = some F_laws_toConditional
  d_laws_toRat : D_laws_toRat T
  d_laws_toParentS : D_laws_toParentS T
def F_laws_eqConditional : Fn := ⟨2, 22, [.tmp 4], (.seq (.reg false 2 [oN 2 (.box (.t 0)), oK 3 1 (.box (.t 1)), oK 4 2 (.mov (.c (.bool false)))]) (.seq (.seq (.reg false 0 [oN 5 (.fld 0 (.t 2)), oN 6 (.load 1 false (.t 5)), oN 7 (.fld 0 (.t 3)), oN 8 (.load 1 false (.t 7)), oN 9 (.bin .neq (.t 6) (.t 8))]) (.cond (.t 9) (.seq (.reg false 0 [oN 4 (.mov (.c (.bool false)))]) .ret) .skip)) (.seq (.seq (.reg false 0 [oN 10 (.fld 1 (.t 2)), oN 11 (.load 3 true (.t 10)), oN 12 (.fld 1 (.t 3)), oN 13 (.load 3 true (.t 12)), oN 14 (.call 40 [(.t 11), (.t 13)]), oN 15 (.un .not (.t 14))]) (.cond (.t 15) (.seq (.reg false 0 [oN 4 (.mov (.c (.bool false)))]) .ret) .skip)) (.seq (.seq (.reg false 0 [oN 16 (.fld 4 (.t 2)), oN 17 (.load 1 false (.t 16)), oN 18 (.fld 4 (.t 3)), oN 19 (.load 1 false (.t 18)), oN 20 (.call 50 [(.t 17), (.t 19)]), oN 21 (.un .not (.t 20))]) (.cond (.t 21) (.seq (.reg false 0 [oN 4 (.mov (.c (.bool false)))]) .ret) .skip)) (.seq (.reg false 0 [oN 4 (.mov (.c (.bool true)))]) .ret)))))⟩
structure D_laws_eqConditional (T : Nat → Option Fn) : Prop where
  hT : T 28 = some F_laws_eqConditional
  d_laws_eqRat : D_laws_eqRat T
  d_laws_eqParentS : D_laws_eqParentS T
def F_laws_eqConditionalS : Fn := ⟨2, 27, [.tmp 4], (.seq (.reg false 0 [oN 4 (.mov (.c (.bool false)))]) (.seq (.seq (.reg false 0 [oN 6 (oV 0), oN 7 (.len (.t 6)), oN 8 (oV 1), oN 9 (.len (.t 8)), oN 10 (.bin .neq (.t 7) (.t 9))]) (.cond (.t 10) (.seq (.reg false 0 [oN 4 (.mov (.c (.bool false)))]) .ret) .skip)) (.seq (.seq (.reg false 0 [oN 5 (.mov (cI 0))]) (.block 0 (.loop (.seq (.seq (.reg false 0 [oN 11 (oV 5), oN 12 (oV 0), oN 13 (.len (.t 12)), oN 14 (.bin .lss (.t 11) (.t 13))]) (.cond (.t 14) .skip (.exit 0))) (.seq (.block 1 (.seq (.reg true 0 [oN 17 (oV 0), oN 18 (oV 5), oA 19 0 (.idx 5 (.t 17) (.t 18)) [0, 1], oA 20 0 (.load 5 true (.t 19)) [2], oN 21 (oV 1), oN 22 (oV 5), oA 23 0 (.idx 5 (.t 21) (.t 22)) [4, 5], oA 24 0 (.load 5 true (.t 23)) [6], oA 25 0 (.call 28 [(.t 20), (.t 24)]) [3, 7], oA 26 0 (.un .not (.t 25)) [8]]) (.cond (.t 26) (.seq (.reg false 0 [oN 4 (.mov (.c (.bool false)))]) .ret) .skip))) (.reg false 0 [oN 15 (oV 5), oN 16 (.bin .add (.t 15) (cI 1)), oN 5 (oV 16)])))))) (.seq (.reg false 0 [oN 4 (.mov (.c (.bool true)))]) .ret))))⟩
structure D_laws_eqConditionalS (T : Nat → Option Fn) : Prop where
  hT : T 307 = some F_laws_eqConditionalS
  d_laws_eqConditional : D_laws_eqConditional T
end Go.Ml
end
section
set_option linter.unusedSimpArgs false
set_option linter.unusedVariables false
set_option maxRecDepth 100000
namespace Go.Ml
def F_laws_szTreeNode : Fn := ⟨2, 30, [.tmp 4], (.seq (.reg false 1 [oN 2 (.box (.t 0)), oK 4 1 (.mov (cI 0))]) (.seq (.reg false 0 [oN 5 (.fld 2 (.t 2)), oN 6 (.load 1 false (.t 5)), oN 7 (oV 1), oN 8 (.call 19 [(.t 6), (.t 7)]), oN 1 (oV 8)]) (.seq (.seq (.reg false 0 [oN 9 (oV 1), oN 10 (.bin .lss (.t 9) (cI 0))]) (.cond (.t 10) (.seq (.reg false 0 [oN 4 (.mov (cI (-1)))]) .ret) .skip)) (.seq (.reg false 0 [oN 11 (.fld 3 (.t 2)), oN 12 (.load 5 true (.t 11)), oN 13 (oV 1), oN 14 (.call 24 [(.t 12), (.t 13)]), oN 1 (oV 14)]) (.seq (.seq (.reg false 0 [oN 15 (oV 1), oN 16 (.bin .lss (.t 15) (cI 0))]) (.cond (.t 16) (.seq (.reg false 0 [oN 4 (.mov (cI (-1)))]) .ret) .skip)) (.seq (.reg false 0 [oN 17 (.fld 8 (.t 2)), oN 18 (.load 1 false (.t 17)), oN 19 (oV 1), oN 20 (.call 19 [(.t 18), (.t 19)]), oN 1 (oV 20)]) (.seq (.seq (.reg false 0 [oN 21 (oV 1), oN 22 (.bin .lss (.t 21) (cI 0))]) (.cond (.t 22) (.seq (.reg false 0 [oN 4 (.mov (cI (-1)))]) .ret) .skip)) (.seq (.reg false 0 [oN 23 (.fld 9 (.t 2)), oN 24 (.load 3 true (.t 23)), oN 25 (oV 1), oN 26 (.call 46 [(.t 24), (.t 25)]), oN 1 (oV 26)]) (.seq (.seq (.reg false 0 [oN 27 (oV 1), oN 28 (.bin .lss (.t 27) (cI 0))]) (.cond (.t 28) (.seq (.reg false 0 [oN 4 (.mov (cI (-1)))]) .ret) .skip)) (.seq (.reg false 0 [oN 29 (oV 1), oN 4 (oV 29)]) .ret))))))))))⟩
structure D_laws_szTreeNode (T : Nat → Option Fn) : Prop where
  hT : T 115 = some F_laws_szTreeNode
  d_laws_szLinkS : D_laws_szLinkS T
  d_laws_szConditional : D_laws_szConditional T
  d_laws_szRat : D_laws_szRat T
def F_laws_toTreeNode : Fn := ⟨1, 27, [.cell 2 12 true], (.seq (.reg false 2 [oN 1 (.box (.t 0)), oK 2 1 (.alloc [.int .i64 0, .int .i64 0, .nils, .int .i64 0, .bool false, .nils, .nils, .nils, .nils, .bool false, .nils, .nils])]) (.seq (.reg false 1 [oN 3 (.alloc [.int .i64 0, .int .i64 0, .nils, .int .i64 0, .bool false, .nils, .nils, .nils, .nils, .bool false, .nils, .nils])]) (.seq (.reg false 0 [oN 4 (.fld 0 (.t 1)), oN 5 (.load 1 false (.t 4)), oN 6 (.fld 0 (.t 3)), oS (.store 1 (.t 6) (.t 5))]) (.seq (.reg false 0 [oN 7 (.fld 1 (.t 1)), oN 8 (.load 1 false (.t 7)), oN 9 (.fld 1 (.t 3)), oS (.store 1 (.t 9) (.t 8))]) (.seq (.reg false 0 [oN 10 (.fld 2 (.t 1)), oN 11 (.load 1 false (.t 10)), oN 12 (.call 21 [(.t 11)]), oN 13 (.fld 2 (.t 3)), oS (.store 1 (.t 13) (.t 12))]) (.seq (.reg false 0 [oN 14 (.fld 3 (.t 1)), oN 15 (.load 5 true (.t 14)), oN 16 (.call 26 [(.t 15)]), oN 17 (.fld 3 (.t 3)), oS (.store 5 (.t 17) (.t 16))]) (.seq (.reg false 0 [oN 18 (.fld 8 (.t 1)), oN 19 (.load 1 false (.t 18)), oN 20 (.call 21 [(.t 19)]), oN 21 (.fld 8 (.t 3)), oS (.store 1 (.t 21) (.t 20))]) (.seq (.reg false 0 [oN 22 (.fld 9 (.t 1)), oN 23 (.load 3 true (.t 22)), oN 24 (.call 48 [(.t 23)]), oN 25 (.fld 9 (.t 3)), oS (.store 3 (.t 25) (.t 24))]) (.seq (.reg false 0 [oN 26 (.load 12 true (.t 3)), oS (.store 12 (.t 2) (.t 26))]) .ret)))))))))⟩
structure D_laws_toTreeNode (T : Nat → Option Fn) : Prop where
  hT : T 116 = some F_laws_toTreeNode
  d_laws_toLinkS : D_laws_toLinkS T
  d_laws_toConditional : D_laws_toConditional T
  d_laws_toRat : D_laws_toRat T
def F_laws_eqTreeNode : Fn := ⟨2, 39, [.tmp 4], (.seq (.reg false 2 [oN 2 (.box (.t 0)), oK 3 1 (.box (.t 1)), oK 4 2 (.mov (.c (.bool false)))]) (.seq (.seq (.reg false 0 [oN 5 (.fld 0 (.t 2)), oN 6 (.load 1 false (.t 5)), oN 7 (.fld 0 (.t 3)), oN 8 (.load 1 false (.t 7)), oN 9 (.bin .neq (.t 6) (.t 8))]) (.cond (.t 9) (.seq (.reg false 0 [oN 4 (.mov (.c (.bool false)))]) .ret) .skip)) (.seq (.seq (.reg false 0 [oN 10 (.fld 1 (.t 2)), oN 11 (.load 1 false (.t 10)), oN 12 (.fld 1 (.t 3)), oN 13 (.load 1 false (.t 12)), oN 14 (.bin .neq (.t 11) (.t 13))]) (.cond (.t 14) (.seq (.reg false 0 [oN 4 (.mov (.c (.bool false)))]) .ret) .skip)) (.seq (.seq (.reg false 0 [oN 15 (.fld 2 (.t 2)), oN 16 (.load 1 false (.t 15)), oN 17 (.fld 2 (.t 3)), oN 18 (.load 1 false (.t 17)), oN 19 (.call 23 [(.t 16), (.t 18)]), oN 20 (.un .not (.t 19))]) (.cond (.t 20) (.seq (.reg false 0 [oN 4 (.mov (.c (.bool false)))]) .ret) .skip)) (.seq (.seq (.reg false 0 [oN 21 (.fld 3 (.t 2)), oN 22 (.load 5 true (.t 21)), oN 23 (.fld 3 (.t 3)), oN 24 (.load 5 true (.t 23)), oN 25 (.call 28 [(.t 22), (.t 24)]), oN 26 (.un .not (.t 25))]) (.cond (.t 26) (.seq (.reg false 0 [oN 4 (.mov (.c (.bool false)))]) .ret) .skip)) (.seq (.seq (.reg false 0 [oN 27 (.fld 8 (.t 2)), oN 28 (.load 1 false (.t 27)), oN 29 (.fld 8 (.t 3)), oN 30 (.load 1 false (.t 29)), oN 31 (.call 23 [(.t 28), (.t 30)]), oN 32 (.un .not (.t 31))]) (.cond (.t 32) (.seq (.reg false 0 [oN 4 (.mov (.c (.bool false)))]) .ret) .skip)) (.seq (.seq (.reg false 0 [oN 33 (.fld 9 (.t 2)), oN 34 (.load 3 true (.t 33)), oN 35 (.fld 9 (.t 3)), oN 36 (.load 3 true (.t 35)), oN 37 (.call 40 [(.t 34), (.t 36)]), oN 38 (.un .not (.t 37))]) (.cond (.t 38) (.seq (.reg false 0 [oN 4 (.mov (.c (.bool false)))]) .ret) .skip)) (.seq (.reg false 0 [oN 4 (.mov (.c (.bool true)))]) .ret))))))))⟩
structure D_laws_eqTreeNode (T : Nat → Option Fn) : Prop where
  hT : T 117 = some F_laws_eqTreeNode
  d_laws_eqLinkS : D_laws_eqLinkS T
  d_laws_eqConditional : D_laws_eqConditional T
  d_laws_eqRat : D_laws_eqRat T
def F_laws_szTreeNodeS : Fn := ⟨2, 27, [.tmp 4], (.seq (.reg false 0 [oN 4 (.mov (cI 0))]) (.seq (.reg false 0 [oN 6 (oV 1), oN 7 (oV 0), oN 8 (.len (.t 7)), oN 9 (.bin .sub (.t 6) (.t 8)), oN 1 (oV 9)]) (.seq (.seq (.reg false 0 [oN 10 (oV 1), oN 11 (.bin .lss (.t 10) (cI 0))]) (.cond (.t 11) (.seq (.reg false 0 [oN 4 (.mov (cI (-1)))]) .ret) .skip)) (.seq (.seq (.reg false 0 [oN 5 (.mov (cI 0))]) (.block 0 (.loop (.seq (.seq (.reg false 0 [oN 12 (oV 5), oN 13 (oV 0), oN 14 (.len (.t 13)), oN 15 (.bin .lss (.t 12) (.t 14))]) (.cond (.t 15) .skip (.exit 0))) (.seq (.block 1 (.seq (.reg false 0 [oN 18 (oV 0), oN 19 (oV 5), oN 20 (.idx 12 (.t 18) (.t 19)), oN 21 (.load 12 true (.t 20)), oN 22 (oV 1), oN 23 (.call 115 [(.t 21), (.t 22)]), oN 1 (oV 23)]) (.seq (.reg false 0 [oN 24 (oV 1), oN 25 (.bin .lss (.t 24) (cI 0))]) (.cond (.t 25) (.seq (.reg false 0 [oN 4 (.mov (cI (-1)))]) .ret) .skip)))) (.reg false 0 [oN 16 (oV 5), oN 17 (.bin .add (.t 16) (cI 1)), oN 5 (oV 17)])))))) (.seq (.reg false 0 [oN 26 (oV 1), oN 4 (oV 26)]) .ret)))))⟩
structure D_laws_szTreeNodeS (T : Nat → Option Fn) : Prop where
  hT : T 95 = some F_laws_szTreeNodeS
  d_laws_szTreeNode : D_laws_szTreeNode T
def F_laws_toTreeNodeS : Fn := ⟨1, 23, [.tmp 2], (.seq (.reg false 0 [oN 2 (.mov (.c (.nils)))]) (.seq (.reg false 1 [oK 5 1 (oV 0), oK 6 1 (.len (.t 5)), oN 7 (.make [.int .i64 0, .int .i64 0, .nils, .int .i64 0, .bool false, .nils, .nils, .nils, .nils, .bool false, .nils, .nils] 208 (.t 6)), oK 3 1 (oV 7)]) (.seq (.seq (.reg false 0 [oN 4 (.mov (cI 0))]) (.block 0 (.loop (.seq (.seq (.reg false 0 [oN 8 (oV 4), oN 9 (oV 0), oN 10 (.len (.t 9)), oN 11 (.bin .lss (.t 8) (.t 10))]) (.cond (.t 11) .skip (.exit 0))) (.seq (.block 1 (.reg false 0 [oN 14 (oV 3), oN 15 (oV 4), oN 16 (oV 0), oN 17 (oV 4), oN 18 (.idx 12 (.t 16) (.t 17)), oN 19 (.load 12 true (.t 18)), oN 20 (.call 116 [(.t 19)]), oN 21 (.idx 12 (.t 14) (.t 15)), oS (.store 12 (.t 21) (.t 20))])) (.reg false 0 [oN 12 (oV 4), oN 13 (.bin .add (.t 12) (cI 1)), oN 4 (oV 13)])))))) (.seq (.reg false 0 [oN 22 (oV 3), oN 2 (oV 22)]) .ret))))⟩
structure D_laws_toTreeNodeS (T : Nat → Option Fn) : Prop where
  hT : T 96 = some F_laws_toTreeNodeS
  d_laws_toTreeNode : D_laws_toTreeNode T
def F_laws_eqTreeNodeS : Fn := ⟨2, 27, [.tmp 4], (.seq (.reg false 0 [oN 4 (.mov (.c (.bool false)))]) (.seq (.seq (.reg false 0 [oN 6 (oV 0), oN 7 (.len (.t 6)), oN 8 (oV 1), oN 9 (.len (.t 8)), oN 10 (.bin .neq (.t 7) (.t 9))]) (.cond (.t 10) (.seq (.reg false 0 [oN 4 (.mov (.c (.bool false)))]) .ret) .skip)) (.seq (.seq (.reg false 0 [oN 5 (.mov (cI 0))]) (.block 0 (.loop (.seq (.seq (.reg false 0 [oN 11 (oV 5), oN 12 (oV 0), oN 13 (.len (.t 12)), oN 14 (.bin .lss (.t 11) (.t 13))]) (.cond (.t 14) .skip (.exit 0))) (.seq (.block 1 (.seq (.reg true 0 [oN 17 (oV 0), oN 18 (oV 5), oA 19 0 (.idx 12 (.t 17) (.t 18)) [0, 1], oA 20 0 (.load 12 true (.t 19)) [2], oN 21 (oV 1), oN 22 (oV 5), oA 23 0 (.idx 12 (.t 21) (.t 22)) [4, 5], oA 24 0 (.load 12 true (.t 23)) [6], oA 25 0 (.call 117 [(.t 20), (.t 24)]) [3, 7], oA 26 0 (.un .not (.t 25)) [8]]) (.cond (.t 26) (.seq (.reg false 0 [oN 4 (.mov (.c (.bool false)))]) .ret) .skip))) (.reg false 0 [oN 15 (oV 5), oN 16 (.bin .add (.t 15) (cI 1)), oN 5 (oV 16)])))))) (.seq (.reg false 0 [oN 4 (.mov (.c (.bool true)))]) .ret))))⟩
structure D_laws_eqTreeNodeS (T : Nat → Option Fn) : Prop where
  hT : T 97 = some F_laws_eqTreeNodeS
  d_laws_eqTreeNode : D_laws_eqTreeNode T
end Go.Ml
end
section
set_option linter.unusedSimpArgs false
set_option linter.unusedVariables false
set_option maxRecDepth 100000
namespace Go.Ml
def F_laws_szTree : Fn := ⟨2, 12, [.tmp 4], (.seq (.reg false 1 [oN 2 (.box (.t 0)), oK 4 1 (.mov (cI 0))]) (.seq (.reg false 0 [oN 5 (.fld 0 (.t 2)), oN 6 (.load 1 false (.t 5)), oN 7 (oV 1), oN 8 (.call 95 [(.t 6), (.t 7)]), oN 1 (oV 8)]) (.seq (.seq (.reg false 0 [oN 9 (oV 1), oN 10 (.bin .lss (.t 9) (cI 0))]) (.cond (.t 10) (.seq (.reg false 0 [oN 4 (.mov (cI (-1)))]) .ret) .skip)) (.seq (.reg false 0 [oN 11 (oV 1), oN 4 (oV 11)]) .ret))))⟩
structure D_laws_szTree (T : Nat → Option Fn) : Prop where
  hT : T 77 = some F_laws_szTree
  d_laws_szTreeNodeS : D_laws_szTreeNodeS T
def F_laws_toTree : Fn := ⟨1, 9, [.cell 2 1 true], (.seq (.reg false 2 [oN 1 (.box (.t 0)), oK 2 1 (.alloc [.nils])]) (.seq (.reg false 1 [oN 3 (.alloc [.nils])]) (.seq (.reg false 0 [oN 4 (.fld 0 (.t 1)), oN 5 (.load 1 false (.t 4)), oN 6 (.call 96 [(.t 5)]), oN 7 (.fld 0 (.t 3)), oS (.store 1 (.t 7) (.t 6))]) (.seq (.reg false 0 [oN 8 (.load 1 true (.t 3)), oS (.store 1 (.t 2) (.t 8))]) .ret))))⟩
structure D_laws_toTree (T : Nat → Option Fn) : Prop where
  hT : T 79 = some F_laws_toTree
  d_laws_toTreeNodeS : D_laws_toTreeNodeS T
def F_laws_eqTree : Fn := ⟨2, 11, [.tmp 4], (.seq (.reg false 2 [oN 2 (.box (.t 0)), oK 3 1 (.box (.t 1)), oK 4 2 (.mov (.c (.bool false)))]) (.seq (.seq (.reg false 0 [oN 5 (.fld 0 (.t 2)), oN 6 (.load 1 false (.t 5)), oN 7 (.fld 0 (.t 3)), oN 8 (.load 1 false (.t 7)), oN 9 (.call 97 [(.t 6), (.t 8)]), oN 10 (.un .not (.t 9))]) (.cond (.t 10) (.seq (.reg false 0 [oN 4 (.mov (.c (.bool false)))]) .ret) .skip)) (.seq (.reg false 0 [oN 4 (.mov (.c (.bool true)))]) .ret)))⟩
structure D_laws_eqTree (T : Nat → Option Fn) : Prop where
  hT : T 81 = some F_laws_eqTree
  d_laws_eqTreeNodeS : D_laws_eqTreeNodeS T
end Go.Ml
end
section
set_option linter.unusedSimpArgs false
set_option linter.unusedVariables false
set_option maxRecDepth 100000
namespace Go.Ml
def F_laws_szRatS : Fn := ⟨2, 27, [.tmp 4], (.seq (.reg false 0 [oN 4 (.mov (cI 0))]) (.seq (.reg false 0 [oN 6 (oV 1), oN 7 (oV 0), oN 8 (.len (.t 7)), oN 9 (.bin .sub (.t 6) (.t 8)), oN 1 (oV 9)]) (.seq (.seq (.reg false 0 [oN 10 (oV 1), oN 11 (.bin .lss (.t 10) (cI 0))]) (.cond (.t 11) (.seq (.reg false 0 [oN 4 (.mov (cI (-1)))]) .ret) .skip)) (.seq (.seq (.reg false 0 [oN 5 (.mov (cI 0))]) (.block 0 (.loop (.seq (.seq (.reg false 0 [oN 12 (oV 5), oN 13 (oV 0), oN 14 (.len (.t 13)), oN 15 (.bin .lss (.t 12) (.t 14))]) (.cond (.t 15) .skip (.exit 0))) (.seq (.block 1 (.seq (.reg false 0 [oN 18 (oV 0), oN 19 (oV 5), oN 20 (.idx 3 (.t 18) (.t 19)), oN 21 (.load 3 true (.t 20)), oN 22 (oV 1), oN 23 (.call 46 [(.t 21), (.t 22)]), oN 1 (oV 23)]) (.seq (.reg false 0 [oN 24 (oV 1), oN 25 (.bin .lss (.t 24) (cI 0))]) (.cond (.t 25) (.seq (.reg false 0 [oN 4 (.mov (cI (-1)))]) .ret) .skip)))) (.reg false 0 [oN 16 (oV 5), oN 17 (.bin .add (.t 16) (cI 1)), oN 5 (oV 17)])))))) (.seq (.reg false 0 [oN 26 (oV 1), oN 4 (oV 26)]) .ret)))))⟩
structure D_laws_szRatS (T : Nat → Option Fn) : Prop where
  hT : T 112 = some F_laws_szRatS
  d_laws_szRat : D_laws_szRat T
def F_laws_toRatS : Fn := ⟨1, 23, [.tmp 2], (.seq (.reg false 0 [oN 2 (.mov (.c (.nils)))]) (.seq (.reg false 1 [oK 5 1 (oV 0), oK 6 1 (.len (.t 5)), oN 7 (.make [.bool false, .nils, .nils] 56 (.t 6)), oK 3 1 (oV 7)]) (.seq (.seq (.reg false 0 [oN 4 (.mov (cI 0))]) (.block 0 (.loop (.seq (.seq (.reg false 0 [oN 8 (oV 4), oN 9 (oV 0), oN 10 (.len (.t 9)), oN 11 (.bin .lss (.t 8) (.t 10))]) (.cond (.t 11) .skip (.exit 0))) (.seq (.block 1 (.reg false 0 [oN 14 (oV 3), oN 15 (oV 4), oN 16 (oV 0), oN 17 (oV 4), oN 18 (.idx 3 (.t 16) (.t 17)), oN 19 (.load 3 true (.t 18)), oN 20 (.call 48 [(.t 19)]), oN 21 (.idx 3 (.t 14) (.t 15)), oS (.store 3 (.t 21) (.t 20))])) (.reg false 0 [oN 12 (oV 4), oN 13 (.bin .add (.t 12) (cI 1)), oN 4 (oV 13)])))))) (.seq (.reg false 0 [oN 22 (oV 3), oN 2 (oV 22)]) .ret))))⟩
structure D_laws_toRatS (T : Nat → Option Fn) : Prop where
  hT : T 113 = some F_laws_toRatS
  d_laws_toRat : D_laws_toRat T
def F_laws_eqRatS : Fn := ⟨2, 27, [.tmp 4], (.seq (.reg false 0 [oN 4 (.mov (.c (.bool false)))]) (.seq (.seq (.reg false 0 [oN 6 (oV 0), oN 7 (.len (.t 6)), oN 8 (oV 1), oN 9 (.len (.t 8)), oN 10 (.bin .neq (.t 7) (.t 9))]) (.cond (.t 10) (.seq (.reg false 0 [oN 4 (.mov (.c (.bool false)))]) .ret) .skip)) (.seq (.seq (.reg false 0 [oN 5 (.mov (cI 0))]) (.block 0 (.loop (.seq (.seq (.reg false 0 [oN 11 (oV 5), oN 12 (oV 0), oN 13 (.len (.t 12)), oN 14 (.bin .lss (.t 11) (.t 13))]) (.cond (.t 14) .skip (.exit 0))) (.seq (.block 1 (.seq (.reg true 0 [oN 17 (oV 0), oN 18 (oV 5), oA 19 0 (.idx 3 (.t 17) (.t 18)) [0, 1], oA 20 0 (.load 3 true (.t 19)) [2], oN 21 (oV 1), oN 22 (oV 5), oA 23 0 (.idx 3 (.t 21) (.t 22)) [4, 5], oA 24 0 (.load 3 true (.t 23)) [6], oA 25 0 (.call 40 [(.t 20), (.t 24)]) [3, 7], oA 26 0 (.un .not (.t 25)) [8]]) (.cond (.t 26) (.seq (.reg false 0 [oN 4 (.mov (.c (.bool false)))]) .ret) .skip))) (.reg false 0 [oN 15 (oV 5), oN 16 (.bin .add (.t 15) (cI 1)), oN 5 (oV 16)])))))) (.seq (.reg false 0 [oN 4 (.mov (.c (.bool true)))]) .ret))))⟩
structure D_laws_eqRatS (T : Nat → Option Fn) : Prop where
  hT : T 114 = some F_laws_eqRatS
  d_laws_eqRat : D_laws_eqRat T
def F_laws_szRatSS : Fn := ⟨2, 27, [.tmp 4], (.seq (.reg false 0 [oN 4 (.mov (cI 0))]) (.seq (.reg false 0 [oN 6 (oV 1), oN 7 (oV 0), oN 8 (.len (.t 7)), oN 9 (.bin .sub (.t 6) (.t 8)), oN 1 (oV 9)]) (.seq (.seq (.reg false 0 [oN 10 (oV 1), oN 11 (.bin .lss (.t 10) (cI 0))]) (.cond (.t 11) (.seq (.reg false 0 [oN 4 (.mov (cI (-1)))]) .ret) .skip)) (.seq (.seq (.reg false 0 [oN 5 (.mov (cI 0))]) (.block 0 (.loop (.seq (.seq (.reg false 0 [oN 12 (oV 5), oN 13 (oV 0), oN 14 (.len (.t 13)), oN 15 (.bin .lss (.t 12) (.t 14))]) (.cond (.t 15) .skip (.exit 0))) (.seq (.block 1 (.seq (.reg false 0 [oN 18 (oV 0), oN 19 (oV 5), oN 20 (.idx 1 (.t 18) (.t 19)), oN 21 (.load 1 false (.t 20)), oN 22 (oV 1), oN 23 (.call 112 [(.t 21), (.t 22)]), oN 1 (oV 23)]) (.seq (.reg false 0 [oN 24 (oV 1), oN 25 (.bin .lss (.t 24) (cI 0))]) (.cond (.t 25) (.seq (.reg false 0 [oN 4 (.mov (cI (-1)))]) .ret) .skip)))) (.reg false 0 [oN 16 (oV 5), oN 17 (.bin .add (.t 16) (cI 1)), oN 5 (oV 17)])))))) (.seq (.reg false 0 [oN 26 (oV 1), oN 4 (oV 26)]) .ret)))))⟩
structure D_laws_szRatSS (T : Nat → Option Fn) : Prop where
  hT : T 90 = some F_laws_szRatSS
  d_laws_szRatS : D_laws_szRatS T
def F_laws_toRatSS : Fn := ⟨1, 23, [.tmp 2], (.seq (.reg false 0 [oN 2 (.mov (.c (.nils)))]) (.seq (.reg false 1 [oK 5 1 (oV 0), oK 6 1 (.len (.t 5)), oN 7 (.make [.nils] 24 (.t 6)), oK 3 1 (oV 7)]) (.seq (.seq (.reg false 0 [oN 4 (.mov (cI 0))]) (.block 0 (.loop (.seq (.seq (.reg false 0 [oN 8 (oV 4), oN 9 (oV 0), oN 10 (.len (.t 9)), oN 11 (.bin .lss (.t 8) (.t 10))]) (.cond (.t 11) .skip (.exit 0))) (.seq (.block 1 (.reg false 0 [oN 14 (oV 3), oN 15 (oV 4), oN 16 (oV 0), oN 17 (oV 4), oN 18 (.idx 1 (.t 16) (.t 17)), oN 19 (.load 1 false (.t 18)), oN 20 (.call 113 [(.t 19)]), oN 21 (.idx 1 (.t 14) (.t 15)), oS (.store 1 (.t 21) (.t 20))])) (.reg false 0 [oN 12 (oV 4), oN 13 (.bin .add (.t 12) (cI 1)), oN 4 (oV 13)])))))) (.seq (.reg false 0 [oN 22 (oV 3), oN 2 (oV 22)]) .ret))))⟩
structure D_laws_toRatSS (T : Nat → Option Fn) : Prop where
  hT : T 92 = some F_laws_toRatSS
  d_laws_toRatS : D_laws_toRatS T
def F_laws_eqRatSS : Fn := ⟨2, 27, [.tmp 4], (.seq (.reg false 0 [oN 4 (.mov (.c (.bool false)))]) (.seq (.seq (.reg false 0 [oN 6 (oV 0), oN 7 (.len (.t 6)), oN 8 (oV 1), oN 9 (.len (.t 8)), oN 10 (.bin .neq (.t 7) (.t 9))]) (.cond (.t 10) (.seq (.reg false 0 [oN 4 (.mov (.c (.bool false)))]) .ret) .skip)) (.seq (.seq (.reg false 0 [oN 5 (.mov (cI 0))]) (.block 0 (.loop (.seq (.seq (.reg false 0 [oN 11 (oV 5), oN 12 (oV 0), oN 13 (.len (.t 12)), oN 14 (.bin .lss (.t 11) (.t 13))]) (.cond (.t 14) .skip (.exit 0))) (.seq (.block 1 (.seq (.reg true 0 [oN 17 (oV 0), oN 18 (oV 5), oA 19 0 (.idx 1 (.t 17) (.t 18)) [0, 1], oA 20 0 (.load 1 false (.t 19)) [2], oN 21 (oV 1), oN 22 (oV 5), oA 23 0 (.idx 1 (.t 21) (.t 22)) [4, 5], oA 24 0 (.load 1 false (.t 23)) [6], oA 25 0 (.call 114 [(.t 20), (.t 24)]) [3, 7], oA 26 0 (.un .not (.t 25)) [8]]) (.cond (.t 26) (.seq (.reg false 0 [oN 4 (.mov (.c (.bool false)))]) .ret) .skip))) (.reg false 0 [oN 15 (oV 5), oN 16 (.bin .add (.t 15) (cI 1)), oN 5 (oV 16)])))))) (.seq (.reg false 0 [oN 4 (.mov (.c (.bool true)))]) .ret))))⟩
structure D_laws_eqRatSS (T : Nat → Option Fn) : Prop where
  hT : T 94 = some F_laws_eqRatSS
  d_laws_eqRatS : D_laws_eqRatS T
end Go.Ml
end
section
set_option linter.unusedSimpArgs false
set_option linter.unusedVariables false
set_option maxRecDepth 100000
set_option maxHeartbeats 4000000
namespace Go.Ml
def F_laws_markRatS : Fn := ⟨2, 38, [.tmp 4], (.seq (.reg false 0 [oN 4 (.mov (cI 0))]) (.seq (.seq (.reg false 0 [oN 5 (.mov (cI 0))]) (.block 0 (.loop (.seq (.seq (.reg false 0 [oN 6 (oV 5), oN 7 (oV 0), oN 8 (.len (.t 7)), oN 9 (.bin .lss (.t 6) (.t 8))]) (.cond (.t 9) .skip (.exit 0))) (.seq (.block 1 (.seq (.reg false 0 [oN 12 (oV 0), oN 13 (oV 5), oN 14 (oV 1), oN 15 (.bin .rem (.t 14) (cI 3)), oN 16 (.bin .eql (.t 15) (cI 0)), oN 17 (.idx 3 (.t 12) (.t 13)), oN 18 (.fld 0 (.t 17)), oN 19 (.fld 0 (.t 18)), oS (.store 1 (.t 19) (.t 16))]) (.seq (.reg false 0 [oN 20 (oV 1), oN 21 (.bin .add (.t 20) (cI 1)), oN 1 (oV 21)]) (.seq (.reg false 0 [oN 22 (oV 0), oN 23 (oV 5), oN 24 (.idx 3 (.t 22) (.t 23)), oN 25 (.fld 0 (.t 24)), oN 26 (.fld 1 (.t 25)), oN 27 (.load 1 false (.t 26)), oN 28 (oV 1), oN 29 (.call 57 [(.t 27), (.t 28)]), oN 1 (oV 29)]) (.reg false 0 [oN 30 (oV 0), oN 31 (oV 5), oN 32 (.idx 3 (.t 30) (.t 31)), oN 33 (.fld 2 (.t 32)), oN 34 (.load 1 false (.t 33)), oN 35 (oV 1), oN 36 (.call 57 [(.t 34), (.t 35)]), oN 1 (oV 36)]))))) (.reg false 0 [oN 10 (oV 5), oN 11 (.bin .add (.t 10) (cI 1)), oN 5 (oV 11)])))))) (.seq (.reg false 0 [oN 37 (oV 1), oN 4 (oV 37)]) .ret)))⟩
structure D_laws_markRatS (T : Nat → Option Fn) : Prop where
  hT : T 312 = some F_laws_markRatS
  d_laws_markIntS : D_laws_markIntS T
def F_laws_markPointS : Fn := ⟨2, 69, [.tmp 4], (.seq (.reg false 0 [oN 4 (.mov (cI 0))]) (.seq (.seq (.reg false 0 [oN 5 (.mov (cI 0))]) (.block 0 (.loop (.seq (.seq (.reg false 0 [oN 6 (oV 5), oN 7 (oV 0), oN 8 (.len (.t 7)), oN 9 (.bin .lss (.t 6) (.t 8))]) (.cond (.t 9) .skip (.exit 0))) (.seq (.block 1 (.seq (.reg false 0 [oN 12 (oV 0), oN 13 (oV 5), oN 14 (oV 1), oN 15 (.bin .rem (.t 14) (cI 3)), oN 16 (.bin .eql (.t 15) (cI 0)), oN 17 (.idx 6 (.t 12) (.t 13)), oN 18 (.fld 0 (.t 17)), oN 19 (.fld 0 (.t 18)), oN 20 (.fld 0 (.t 19)), oS (.store 1 (.t 20) (.t 16))]) (.seq (.reg false 0 [oN 21 (oV 1), oN 22 (.bin .add (.t 21) (cI 1)), oN 1 (oV 22)]) (.seq (.reg false 0 [oN 23 (oV 0), oN 24 (oV 5), oN 25 (.idx 6 (.t 23) (.t 24)), oN 26 (.fld 0 (.t 25)), oN 27 (.fld 0 (.t 26)), oN 28 (.fld 1 (.t 27)), oN 29 (.load 1 false (.t 28)), oN 30 (oV 1), oN 31 (.call 57 [(.t 29), (.t 30)]), oN 1 (oV 31)]) (.seq (.reg false 0 [oN 32 (oV 0), oN 33 (oV 5), oN 34 (.idx 6 (.t 32) (.t 33)), oN 35 (.fld 0 (.t 34)), oN 36 (.fld 2 (.t 35)), oN 37 (.load 1 false (.t 36)), oN 38 (oV 1), oN 39 (.call 57 [(.t 37), (.t 38)]), oN 1 (oV 39)]) (.seq (.reg false 0 [oN 40 (oV 0), oN 41 (oV 5), oN 42 (oV 1), oN 43 (.bin .rem (.t 42) (cI 3)), oN 44 (.bin .eql (.t 43) (cI 0)), oN 45 (.idx 6 (.t 40) (.t 41)), oN 46 (.fld 3 (.t 45)), oN 47 (.fld 0 (.t 46)), oN 48 (.fld 0 (.t 47)), oS (.store 1 (.t 48) (.t 44))]) (.seq (.reg false 0 [oN 49 (oV 1), oN 50 (.bin .add (.t 49) (cI 1)), oN 1 (oV 50)]) (.seq (.reg false 0 [oN 51 (oV 0), oN 52 (oV 5), oN 53 (.idx 6 (.t 51) (.t 52)), oN 54 (.fld 3 (.t 53)), oN 55 (.fld 0 (.t 54)), oN 56 (.fld 1 (.t 55)), oN 57 (.load 1 false (.t 56)), oN 58 (oV 1), oN 59 (.call 57 [(.t 57), (.t 58)]), oN 1 (oV 59)]) (.reg false 0 [oN 60 (oV 0), oN 61 (oV 5), oN 62 (.idx 6 (.t 60) (.t 61)), oN 63 (.fld 3 (.t 62)), oN 64 (.fld 2 (.t 63)), oN 65 (.load 1 false (.t 64)), oN 66 (oV 1), oN 67 (.call 57 [(.t 65), (.t 66)]), oN 1 (oV 67)]))))))))) (.reg false 0 [oN 10 (oV 5), oN 11 (.bin .add (.t 10) (cI 1)), oN 5 (oV 11)])))))) (.seq (.reg false 0 [oN 68 (oV 1), oN 4 (oV 68)]) .ret)))⟩
structure D_laws_markPointS (T : Nat → Option Fn) : Prop where
  hT : T 334 = some F_laws_markPointS
  d_laws_markIntS : D_laws_markIntS T
def F_laws_markLinkS : Fn := ⟨2, 111, [.tmp 4], (.seq (.reg false 0 [oN 4 (.mov (cI 0))]) (.seq (.seq (.reg false 0 [oN 5 (.mov (cI 0))]) (.block 0 (.loop (.seq (.seq (.reg false 0 [oN 6 (oV 5), oN 7 (oV 0), oN 8 (.len (.t 7)), oN 9 (.bin .lss (.t 6) (.t 8))]) (.cond (.t 9) .skip (.exit 0))) (.seq (.block 1 (.seq (.reg false 0 [oN 12 (oV 0), oN 13 (oV 5), oN 14 (oV 1), oN 15 (.idx 11 (.t 12) (.t 13)), oN 16 (.fld 0 (.t 15)), oS (.store 1 (.t 16) (.t 14))]) (.seq (.reg false 0 [oN 17 (oV 1), oN 18 (.bin .add (.t 17) (cI 1)), oN 1 (oV 18)]) (.seq (.reg false 0 [oN 19 (oV 0), oN 20 (oV 5), oN 21 (oV 1), oN 22 (.idx 11 (.t 19) (.t 20)), oN 23 (.fld 1 (.t 22)), oS (.store 1 (.t 23) (.t 21))]) (.seq (.reg false 0 [oN 24 (oV 1), oN 25 (.bin .add (.t 24) (cI 1)), oN 1 (oV 25)]) (.seq (.reg false 0 [oN 26 (oV 0), oN 27 (oV 5), oN 28 (oV 1), oN 29 (.bin .rem (.t 28) (cI 3)), oN 30 (.bin .eql (.t 29) (cI 0)), oN 31 (.idx 11 (.t 26) (.t 27)), oN 32 (.fld 2 (.t 31)), oN 33 (.fld 0 (.t 32)), oN 34 (.fld 0 (.t 33)), oS (.store 1 (.t 34) (.t 30))]) (.seq (.reg false 0 [oN 35 (oV 1), oN 36 (.bin .add (.t 35) (cI 1)), oN 1 (oV 36)]) (.seq (.reg false 0 [oN 37 (oV 0), oN 38 (oV 5), oN 39 (.idx 11 (.t 37) (.t 38)), oN 40 (.fld 2 (.t 39)), oN 41 (.fld 0 (.t 40)), oN 42 (.fld 1 (.t 41)), oN 43 (.load 1 false (.t 42)), oN 44 (oV 1), oN 45 (.call 57 [(.t 43), (.t 44)]), oN 1 (oV 45)]) (.seq (.reg false 0 [oN 46 (oV 0), oN 47 (oV 5), oN 48 (.idx 11 (.t 46) (.t 47)), oN 49 (.fld 2 (.t 48)), oN 50 (.fld 2 (.t 49)), oN 51 (.load 1 false (.t 50)), oN 52 (oV 1), oN 53 (.call 57 [(.t 51), (.t 52)]), oN 1 (oV 53)]) (.seq (.reg false 0 [oN 54 (oV 0), oN 55 (oV 5), oN 56 (oV 1), oN 57 (.bin .rem (.t 56) (cI 3)), oN 58 (.bin .eql (.t 57) (cI 0)), oN 59 (.idx 11 (.t 54) (.t 55)), oN 60 (.fld 5 (.t 59)), oN 61 (.fld 0 (.t 60)), oN 62 (.fld 0 (.t 61)), oS (.store 1 (.t 62) (.t 58))]) (.seq (.reg false 0 [oN 63 (oV 1), oN 64 (.bin .add (.t 63) (cI 1)), oN 1 (oV 64)]) (.seq (.reg false 0 [oN 65 (oV 0), oN 66 (oV 5), oN 67 (.idx 11 (.t 65) (.t 66)), oN 68 (.fld 5 (.t 67)), oN 69 (.fld 0 (.t 68)), oN 70 (.fld 1 (.t 69)), oN 71 (.load 1 false (.t 70)), oN 72 (oV 1), oN 73 (.call 57 [(.t 71), (.t 72)]), oN 1 (oV 73)]) (.seq (.reg false 0 [oN 74 (oV 0), oN 75 (oV 5), oN 76 (.idx 11 (.t 74) (.t 75)), oN 77 (.fld 5 (.t 76)), oN 78 (.fld 2 (.t 77)), oN 79 (.load 1 false (.t 78)), oN 80 (oV 1), oN 81 (.call 57 [(.t 79), (.t 80)]), oN 1 (oV 81)]) (.seq (.reg false 0 [oN 82 (oV 0), oN 83 (oV 5), oN 84 (oV 1), oN 85 (.bin .rem (.t 84) (cI 3)), oN 86 (.bin .eql (.t 85) (cI 0)), oN 87 (.idx 11 (.t 82) (.t 83)), oN 88 (.fld 8 (.t 87)), oN 89 (.fld 0 (.t 88)), oN 90 (.fld 0 (.t 89)), oS (.store 1 (.t 90) (.t 86))]) (.seq (.reg false 0 [oN 91 (oV 1), oN 92 (.bin .add (.t 91) (cI 1)), oN 1 (oV 92)]) (.seq (.reg false 0 [oN 93 (oV 0), oN 94 (oV 5), oN 95 (.idx 11 (.t 93) (.t 94)), oN 96 (.fld 8 (.t 95)), oN 97 (.fld 0 (.t 96)), oN 98 (.fld 1 (.t 97)), oN 99 (.load 1 false (.t 98)), oN 100 (oV 1), oN 101 (.call 57 [(.t 99), (.t 100)]), oN 1 (oV 101)]) (.reg false 0 [oN 102 (oV 0), oN 103 (oV 5), oN 104 (.idx 11 (.t 102) (.t 103)), oN 105 (.fld 8 (.t 104)), oN 106 (.fld 2 (.t 105)), oN 107 (.load 1 false (.t 106)), oN 108 (oV 1), oN 109 (.call 57 [(.t 107), (.t 108)]), oN 1 (oV 109)]))))))))))))))))) (.reg false 0 [oN 10 (oV 5), oN 11 (.bin .add (.t 10) (cI 1)), oN 5 (oV 11)])))))) (.seq (.reg false 0 [oN 110 (oV 1), oN 4 (oV 110)]) .ret)))⟩
structure D_laws_markLinkS (T : Nat → Option Fn) : Prop where
  hT : T 118 = some F_laws_markLinkS
  d_laws_markIntS : D_laws_markIntS T
def F_laws_markParentS : Fn := ⟨2, 104, [.tmp 4], (.seq (.reg false 0 [oN 4 (.mov (cI 0))]) (.seq (.seq (.reg false 0 [oN 5 (.mov (cI 0))]) (.block 0 (.loop (.seq (.seq (.reg false 0 [oN 6 (oV 5), oN 7 (oV 0), oN 8 (.len (.t 7)), oN 9 (.bin .lss (.t 6) (.t 8))]) (.cond (.t 9) .skip (.exit 0))) (.seq (.block 1 (.seq (.reg false 0 [oN 12 (oV 0), oN 13 (oV 5), oN 14 (oV 1), oN 15 (.idx 10 (.t 12) (.t 13)), oN 16 (.fld 0 (.t 15)), oS (.store 1 (.t 16) (.t 14))]) (.seq (.reg false 0 [oN 17 (oV 1), oN 18 (.bin .add (.t 17) (cI 1)), oN 1 (oV 18)]) (.seq (.reg false 0 [oN 19 (oV 0), oN 20 (oV 5), oN 21 (oV 1), oN 22 (.bin .rem (.t 21) (cI 3)), oN 23 (.bin .eql (.t 22) (cI 0)), oN 24 (.idx 10 (.t 19) (.t 20)), oN 25 (.fld 1 (.t 24)), oN 26 (.fld 0 (.t 25)), oN 27 (.fld 0 (.t 26)), oS (.store 1 (.t 27) (.t 23))]) (.seq (.reg false 0 [oN 28 (oV 1), oN 29 (.bin .add (.t 28) (cI 1)), oN 1 (oV 29)]) (.seq (.reg false 0 [oN 30 (oV 0), oN 31 (oV 5), oN 32 (.idx 10 (.t 30) (.t 31)), oN 33 (.fld 1 (.t 32)), oN 34 (.fld 0 (.t 33)), oN 35 (.fld 1 (.t 34)), oN 36 (.load 1 false (.t 35)), oN 37 (oV 1), oN 38 (.call 57 [(.t 36), (.t 37)]), oN 1 (oV 38)]) (.seq (.reg false 0 [oN 39 (oV 0), oN 40 (oV 5), oN 41 (.idx 10 (.t 39) (.t 40)), oN 42 (.fld 1 (.t 41)), oN 43 (.fld 2 (.t 42)), oN 44 (.load 1 false (.t 43)), oN 45 (oV 1), oN 46 (.call 57 [(.t 44), (.t 45)]), oN 1 (oV 46)]) (.seq (.reg false 0 [oN 47 (oV 0), oN 48 (oV 5), oN 49 (oV 1), oN 50 (.bin .rem (.t 49) (cI 3)), oN 51 (.bin .eql (.t 50) (cI 0)), oN 52 (.idx 10 (.t 47) (.t 48)), oN 53 (.fld 4 (.t 52)), oN 54 (.fld 0 (.t 53)), oN 55 (.fld 0 (.t 54)), oS (.store 1 (.t 55) (.t 51))]) (.seq (.reg false 0 [oN 56 (oV 1), oN 57 (.bin .add (.t 56) (cI 1)), oN 1 (oV 57)]) (.seq (.reg false 0 [oN 58 (oV 0), oN 59 (oV 5), oN 60 (.idx 10 (.t 58) (.t 59)), oN 61 (.fld 4 (.t 60)), oN 62 (.fld 0 (.t 61)), oN 63 (.fld 1 (.t 62)), oN 64 (.load 1 false (.t 63)), oN 65 (oV 1), oN 66 (.call 57 [(.t 64), (.t 65)]), oN 1 (oV 66)]) (.seq (.reg false 0 [oN 67 (oV 0), oN 68 (oV 5), oN 69 (.idx 10 (.t 67) (.t 68)), oN 70 (.fld 4 (.t 69)), oN 71 (.fld 2 (.t 70)), oN 72 (.load 1 false (.t 71)), oN 73 (oV 1), oN 74 (.call 57 [(.t 72), (.t 73)]), oN 1 (oV 74)]) (.seq (.reg false 0 [oN 75 (oV 0), oN 76 (oV 5), oN 77 (oV 1), oN 78 (.bin .rem (.t 77) (cI 3)), oN 79 (.bin .eql (.t 78) (cI 0)), oN 80 (.idx 10 (.t 75) (.t 76)), oN 81 (.fld 7 (.t 80)), oN 82 (.fld 0 (.t 81)), oN 83 (.fld 0 (.t 82)), oS (.store 1 (.t 83) (.t 79))]) (.seq (.reg false 0 [oN 84 (oV 1), oN 85 (.bin .add (.t 84) (cI 1)), oN 1 (oV 85)]) (.seq (.reg false 0 [oN 86 (oV 0), oN 87 (oV 5), oN 88 (.idx 10 (.t 86) (.t 87)), oN 89 (.fld 7 (.t 88)), oN 90 (.fld 0 (.t 89)), oN 91 (.fld 1 (.t 90)), oN 92 (.load 1 false (.t 91)), oN 93 (oV 1), oN 94 (.call 57 [(.t 92), (.t 93)]), oN 1 (oV 94)]) (.reg false 0 [oN 95 (oV 0), oN 96 (oV 5), oN 97 (.idx 10 (.t 95) (.t 96)), oN 98 (.fld 7 (.t 97)), oN 99 (.fld 2 (.t 98)), oN 100 (.load 1 false (.t 99)), oN 101 (oV 1), oN 102 (.call 57 [(.t 100), (.t 101)]), oN 1 (oV 102)]))))))))))))))) (.reg false 0 [oN 10 (oV 5), oN 11 (.bin .add (.t 10) (cI 1)), oN 5 (oV 11)])))))) (.seq (.reg false 0 [oN 103 (oV 1), oN 4 (oV 103)]) .ret)))⟩
structure D_laws_markParentS (T : Nat → Option Fn) : Prop where
  hT : T 119 = some F_laws_markParentS
  d_laws_markIntS : D_laws_markIntS T
def F_laws_markConditionalS : Fn := ⟨2, 55, [.tmp 4], (.seq (.reg false 0 [oN 4 (.mov (cI 0))]) (.seq (.seq (.reg false 0 [oN 5 (.mov (cI 0))]) (.block 0 (.loop (.seq (.seq (.reg false 0 [oN 6 (oV 5), oN 7 (oV 0), oN 8 (.len (.t 7)), oN 9 (.bin .lss (.t 6) (.t 8))]) (.cond (.t 9) .skip (.exit 0))) (.seq (.block 1 (.seq (.reg false 0 [oN 12 (oV 0), oN 13 (oV 5), oN 14 (oV 1), oN 15 (.idx 5 (.t 12) (.t 13)), oN 16 (.fld 0 (.t 15)), oS (.store 1 (.t 16) (.t 14))]) (.seq (.reg false 0 [oN 17 (oV 1), oN 18 (.bin .add (.t 17) (cI 1)), oN 1 (oV 18)]) (.seq (.reg false 0 [oN 19 (oV 0), oN 20 (oV 5), oN 21 (oV 1), oN 22 (.bin .rem (.t 21) (cI 3)), oN 23 (.bin .eql (.t 22) (cI 0)), oN 24 (.idx 5 (.t 19) (.t 20)), oN 25 (.fld 1 (.t 24)), oN 26 (.fld 0 (.t 25)), oN 27 (.fld 0 (.t 26)), oS (.store 1 (.t 27) (.t 23))]) (.seq (.reg false 0 [oN 28 (oV 1), oN 29 (.bin .add (.t 28) (cI 1)), oN 1 (oV 29)]) (.seq (.reg false 0 [oN 30 (oV 0), oN 31 (oV 5), oN 32 (.idx 5 (.t 30) (.t 31)), oN 33 (.fld 1 (.t 32)), oN 34 (.fld 0 (.t 33)), oN 35 (.fld 1 (.t 34)), oN 36 (.load 1 false (.t 35)), oN 37 (oV 1), oN 38 (.call 57 [(.t 36), (.t 37)]), oN 1 (oV 38)]) (.seq (.reg false 0 [oN 39 (oV 0), oN 40 (oV 5), oN 41 (.idx 5 (.t 39) (.t 40)), oN 42 (.fld 1 (.t 41)), oN 43 (.fld 2 (.t 42)), oN 44 (.load 1 false (.t 43)), oN 45 (oV 1), oN 46 (.call 57 [(.t 44), (.t 45)]), oN 1 (oV 46)]) (.reg false 0 [oN 47 (oV 0), oN 48 (oV 5), oN 49 (.idx 5 (.t 47) (.t 48)), oN 50 (.fld 4 (.t 49)), oN 51 (.load 1 false (.t 50)), oN 52 (oV 1), oN 53 (.call 119 [(.t 51), (.t 52)]), oN 1 (oV 53)])))))))) (.reg false 0 [oN 10 (oV 5), oN 11 (.bin .add (.t 10) (cI 1)), oN 5 (oV 11)])))))) (.seq (.reg false 0 [oN 54 (oV 1), oN 4 (oV 54)]) .ret)))⟩
structure D_laws_markConditionalS (T : Nat → Option Fn) : Prop where
  hT : T 385 = some F_laws_markConditionalS
  d_laws_markIntS : D_laws_markIntS T
  d_laws_markParentS : D_laws_markParentS T
def F_laws_markTreeNodeS : Fn := ⟨2, 116, [.tmp 4], (.seq (.reg false 0 [oN 4 (.mov (cI 0))]) (.seq (.seq (.reg false 0 [oN 5 (.mov (cI 0))]) (.block 0 (.loop (.seq (.seq (.reg false 0 [oN 6 (oV 5), oN 7 (oV 0), oN 8 (.len (.t 7)), oN 9 (.bin .lss (.t 6) (.t 8))]) (.cond (.t 9) .skip (.exit 0))) (.seq (.block 1 (.seq (.reg false 0 [oN 12 (oV 0), oN 13 (oV 5), oN 14 (oV 1), oN 15 (.idx 12 (.t 12) (.t 13)), oN 16 (.fld 0 (.t 15)), oS (.store 1 (.t 16) (.t 14))]) (.seq (.reg false 0 [oN 17 (oV 1), oN 18 (.bin .add (.t 17) (cI 1)), oN 1 (oV 18)]) (.seq (.reg false 0 [oN 19 (oV 0), oN 20 (oV 5), oN 21 (oV 1), oN 22 (.idx 12 (.t 19) (.t 20)), oN 23 (.fld 1 (.t 22)), oS (.store 1 (.t 23) (.t 21))]) (.seq (.reg false 0 [oN 24 (oV 1), oN 25 (.bin .add (.t 24) (cI 1)), oN 1 (oV 25)]) (.seq (.reg false 0 [oN 26 (oV 0), oN 27 (oV 5), oN 28 (.idx 12 (.t 26) (.t 27)), oN 29 (.fld 2 (.t 28)), oN 30 (.load 1 false (.t 29)), oN 31 (oV 1), oN 32 (.call 118 [(.t 30), (.t 31)]), oN 1 (oV 32)]) (.seq (.reg false 0 [oN 33 (oV 0), oN 34 (oV 5), oN 35 (oV 1), oN 36 (.idx 12 (.t 33) (.t 34)), oN 37 (.fld 3 (.t 36)), oN 38 (.fld 0 (.t 37)), oS (.store 1 (.t 38) (.t 35))]) (.seq (.reg false 0 [oN 39 (oV 1), oN 40 (.bin .add (.t 39) (cI 1)), oN 1 (oV 40)]) (.seq (.reg false 0 [oN 41 (oV 0), oN 42 (oV 5), oN 43 (oV 1), oN 44 (.bin .rem (.t 43) (cI 3)), oN 45 (.bin .eql (.t 44) (cI 0)), oN 46 (.idx 12 (.t 41) (.t 42)), oN 47 (.fld 3 (.t 46)), oN 48 (.fld 1 (.t 47)), oN 49 (.fld 0 (.t 48)), oN 50 (.fld 0 (.t 49)), oS (.store 1 (.t 50) (.t 45))]) (.seq (.reg false 0 [oN 51 (oV 1), oN 52 (.bin .add (.t 51) (cI 1)), oN 1 (oV 52)]) (.seq (.reg false 0 [oN 53 (oV 0), oN 54 (oV 5), oN 55 (.idx 12 (.t 53) (.t 54)), oN 56 (.fld 3 (.t 55)), oN 57 (.fld 1 (.t 56)), oN 58 (.fld 0 (.t 57)), oN 59 (.fld 1 (.t 58)), oN 60 (.load 1 false (.t 59)), oN 61 (oV 1), oN 62 (.call 57 [(.t 60), (.t 61)]), oN 1 (oV 62)]) (.seq (.reg false 0 [oN 63 (oV 0), oN 64 (oV 5), oN 65 (.idx 12 (.t 63) (.t 64)), oN 66 (.fld 3 (.t 65)), oN 67 (.fld 1 (.t 66)), oN 68 (.fld 2 (.t 67)), oN 69 (.load 1 false (.t 68)), oN 70 (oV 1), oN 71 (.call 57 [(.t 69), (.t 70)]), oN 1 (oV 71)]) (.seq (.reg false 0 [oN 72 (oV 0), oN 73 (oV 5), oN 74 (.idx 12 (.t 72) (.t 73)), oN 75 (.fld 3 (.t 74)), oN 76 (.fld 4 (.t 75)), oN 77 (.load 1 false (.t 76)), oN 78 (oV 1), oN 79 (.call 119 [(.t 77), (.t 78)]), oN 1 (oV 79)]) (.seq (.reg false 0 [oN 80 (oV 0), oN 81 (oV 5), oN 82 (.idx 12 (.t 80) (.t 81)), oN 83 (.fld 8 (.t 82)), oN 84 (.load 1 false (.t 83)), oN 85 (oV 1), oN 86 (.call 118 [(.t 84), (.t 85)]), oN 1 (oV 86)]) (.seq (.reg false 0 [oN 87 (oV 0), oN 88 (oV 5), oN 89 (oV 1), oN 90 (.bin .rem (.t 89) (cI 3)), oN 91 (.bin .eql (.t 90) (cI 0)), oN 92 (.idx 12 (.t 87) (.t 88)), oN 93 (.fld 9 (.t 92)), oN 94 (.fld 0 (.t 93)), oN 95 (.fld 0 (.t 94)), oS (.store 1 (.t 95) (.t 91))]) (.seq (.reg false 0 [oN 96 (oV 1), oN 97 (.bin .add (.t 96) (cI 1)), oN 1 (oV 97)]) (.seq (.reg false 0 [oN 98 (oV 0), oN 99 (oV 5), oN 100 (.idx 12 (.t 98) (.t 99)), oN 101 (.fld 9 (.t 100)), oN 102 (.fld 0 (.t 101)), oN 103 (.fld 1 (.t 102)), oN 104 (.load 1 false (.t 103)), oN 105 (oV 1), oN 106 (.call 57 [(.t 104), (.t 105)]), oN 1 (oV 106)]) (.reg false 0 [oN 107 (oV 0), oN 108 (oV 5), oN 109 (.idx 12 (.t 107) (.t 108)), oN 110 (.fld 9 (.t 109)), oN 111 (.fld 2 (.t 110)), oN 112 (.load 1 false (.t 111)), oN 113 (oV 1), oN 114 (.call 57 [(.t 112), (.t 113)]), oN 1 (oV 114)])))))))))))))))))) (.reg false 0 [oN 10 (oV 5), oN 11 (.bin .add (.t 10) (cI 1)), oN 5 (oV 11)])))))) (.seq (.reg false 0 [oN 115 (oV 1), oN 4 (oV 115)]) .ret)))⟩
structure D_laws_markTreeNodeS (T : Nat → Option Fn) : Prop where
  hT : T 98 = some F_laws_markTreeNodeS
  d_laws_markIntS : D_laws_markIntS T
  d_laws_markLinkS : D_laws_markLinkS T
  d_laws_markParentS : D_laws_markParentS T
def F_laws_markRatSS : Fn := ⟨2, 19, [.tmp 4], (.seq (.reg false 0 [oN 4 (.mov (cI 0))]) (.seq (.seq (.reg false 0 [oN 5 (.mov (cI 0))]) (.block 0 (.loop (.seq (.seq (.reg false 0 [oN 6 (oV 5), oN 7 (oV 0), oN 8 (.len (.t 7)), oN 9 (.bin .lss (.t 6) (.t 8))]) (.cond (.t 9) .skip (.exit 0))) (.seq (.block 1 (.reg false 0 [oN 12 (oV 0), oN 13 (oV 5), oN 14 (.idx 1 (.t 12) (.t 13)), oN 15 (.load 1 false (.t 14)), oN 16 (oV 1), oN 17 (.call 312 [(.t 15), (.t 16)]), oN 1 (oV 17)])) (.reg false 0 [oN 10 (oV 5), oN 11 (.bin .add (.t 10) (cI 1)), oN 5 (oV 11)])))))) (.seq (.reg false 0 [oN 18 (oV 1), oN 4 (oV 18)]) .ret)))⟩
structure D_laws_markRatSS (T : Nat → Option Fn) : Prop where
  hT : T 302 = some F_laws_markRatSS
  d_laws_markRatS : D_laws_markRatS T
def R.ct (x : R) : Nat := 1 + x.mag.length + x.den.length
def R.mk3 (k : Int) (x : R) : R := ⟨decide ((k).tmod 3 = 0), cnt x.mag.length (k + 1), cnt x.den.length (k + 1 + x.mag.length)⟩
def Pt.ct (x : Pt) : Nat := 1 + x.x.mag.length + x.x.den.length + 1 + x.y.mag.length + x.y.den.length
def Pt.mk3 (k : Int) (x : Pt) : Pt := ⟨⟨decide ((k).tmod 3 = 0), cnt x.x.mag.length (k + 1), cnt x.x.den.length (k + 1 + x.x.mag.length)⟩, ⟨decide ((k + 1 + x.x.mag.length + x.x.den.length).tmod 3 = 0), cnt x.y.mag.length (k + 1 + x.x.mag.length + x.x.den.length + 1), cnt x.y.den.length (k + 1 + x.x.mag.length + x.x.den.length + 1 + x.y.mag.length)⟩⟩
def Lk.ct (x : Lk) : Nat := 1 + 1 + 1 + x.w.mag.length + x.w.den.length + 1 + x.dx.mag.length + x.dx.den.length + 1 + x.dy.mag.length + x.dy.den.length
def Lk.mk3 (k : Int) (x : Lk) : Lk := ⟨k, k + 1, ⟨decide ((k + 1 + 1).tmod 3 = 0), cnt x.w.mag.length (k + 1 + 1 + 1), cnt x.w.den.length (k + 1 + 1 + 1 + x.w.mag.length)⟩, ⟨decide ((k + 1 + 1 + 1 + x.w.mag.length + x.w.den.length).tmod 3 = 0), cnt x.dx.mag.length (k + 1 + 1 + 1 + x.w.mag.length + x.w.den.length + 1), cnt x.dx.den.length (k + 1 + 1 + 1 + x.w.mag.length + x.w.den.length + 1 + x.dx.mag.length)⟩, ⟨decide ((k + 1 + 1 + 1 + x.w.mag.length + x.w.den.length + 1 + x.dx.mag.length + x.dx.den.length).tmod 3 = 0), cnt x.dy.mag.length (k + 1 + 1 + 1 + x.w.mag.length + x.w.den.length + 1 + x.dx.mag.length + x.dx.den.length + 1), cnt x.dy.den.length (k + 1 + 1 + 1 + x.w.mag.length + x.w.den.length + 1 + x.dx.mag.length + x.dx.den.length + 1 + x.dy.mag.length)⟩⟩
def Pa.ct (x : Pa) : Nat := 1 + 1 + x.share.mag.length + x.share.den.length + 1 + x.dx.mag.length + x.dx.den.length + 1 + x.dy.mag.length + x.dy.den.length
def Pa.mk3 (k : Int) (x : Pa) : Pa := ⟨k, ⟨decide ((k + 1).tmod 3 = 0), cnt x.share.mag.length (k + 1 + 1), cnt x.share.den.length (k + 1 + 1 + x.share.mag.length)⟩, ⟨decide ((k + 1 + 1 + x.share.mag.length + x.share.den.length).tmod 3 = 0), cnt x.dx.mag.length (k + 1 + 1 + x.share.mag.length + x.share.den.length + 1), cnt x.dx.den.length (k + 1 + 1 + x.share.mag.length + x.share.den.length + 1 + x.dx.mag.length)⟩, ⟨decide ((k + 1 + 1 + x.share.mag.length + x.share.den.length + 1 + x.dx.mag.length + x.dx.den.length).tmod 3 = 0), cnt x.dy.mag.length (k + 1 + 1 + x.share.mag.length + x.share.den.length + 1 + x.dx.mag.length + x.dx.den.length + 1), cnt x.dy.den.length (k + 1 + 1 + x.share.mag.length + x.share.den.length + 1 + x.dx.mag.length + x.dx.den.length + 1 + x.dy.mag.length)⟩⟩
def Cd.ct (x : Cd) : Nat := 1 + 1 + x.total.mag.length + x.total.den.length + cnL Pa.ct x.ps x.ps.length
def Cd.mk3 (k : Int) (x : Cd) : Cd := ⟨k, ⟨decide ((k + 1).tmod 3 = 0), cnt x.total.mag.length (k + 1 + 1), cnt x.total.den.length (k + 1 + 1 + x.total.mag.length)⟩, mkL Pa.mk3 Pa.ct (k + 1 + 1 + x.total.mag.length + x.total.den.length) x.ps⟩
def Tn.ct (x : Tn) : Nat := 1 + 1 + cnL Lk.ct x.own x.own.length + 1 + 1 + x.cond.total.mag.length + x.cond.total.den.length + cnL Pa.ct x.cond.ps x.cond.ps.length + cnL Lk.ct x.msgs x.msgs.length + 1 + x.energy.mag.length + x.energy.den.length
def Tn.mk3 (k : Int) (x : Tn) : Tn := ⟨k, k + 1, mkL Lk.mk3 Lk.ct (k + 1 + 1) x.own, ⟨k + 1 + 1 + cnL Lk.ct x.own x.own.length, ⟨decide ((k + 1 + 1 + cnL Lk.ct x.own x.own.length + 1).tmod 3 = 0), cnt x.cond.total.mag.length (k + 1 + 1 + cnL Lk.ct x.own x.own.length + 1 + 1), cnt x.cond.total.den.length (k + 1 + 1 + cnL Lk.ct x.own x.own.length + 1 + 1 + x.cond.total.mag.length)⟩, mkL Pa.mk3 Pa.ct (k + 1 + 1 + cnL Lk.ct x.own x.own.length + 1 + 1 + x.cond.total.mag.length + x.cond.total.den.length) x.cond.ps⟩, mkL Lk.mk3 Lk.ct (k + 1 + 1 + cnL Lk.ct x.own x.own.length + 1 + 1 + x.cond.total.mag.length + x.cond.total.den.length + cnL Pa.ct x.cond.ps x.cond.ps.length) x.msgs, ⟨decide ((k + 1 + 1 + cnL Lk.ct x.own x.own.length + 1 + 1 + x.cond.total.mag.length + x.cond.total.den.length + cnL Pa.ct x.cond.ps x.cond.ps.length + cnL Lk.ct x.msgs x.msgs.length).tmod 3 = 0), cnt x.energy.mag.length (k + 1 + 1 + cnL Lk.ct x.own x.own.length + 1 + 1 + x.cond.total.mag.length + x.cond.total.den.length + cnL Pa.ct x.cond.ps x.cond.ps.length + cnL Lk.ct x.msgs x.msgs.length + 1), cnt x.energy.den.length (k + 1 + 1 + cnL Lk.ct x.own x.own.length + 1 + 1 + x.cond.total.mag.length + x.cond.total.den.length + cnL Pa.ct x.cond.ps x.cond.ps.length + cnL Lk.ct x.msgs x.msgs.length + 1 + x.energy.mag.length)⟩⟩
end Go.Ml
end
section
set_option linter.unusedSimpArgs false
set_option linter.unusedVariables false
set_option maxRecDepth 100000
set_option maxHeartbeats 4000000
namespace Go.Ml
def F_laws_markBigInt : Fn := ⟨2, 10, [.tmp 4], (.seq (.reg false 1 [oN 2 (.box (.t 0)), oK 4 1 (.mov (cI 0))]) (.seq (.reg false 0 [oN 5 (.fld 1 (.t 2)), oN 6 (.load 1 false (.t 5)), oN 7 (oV 1), oN 8 (.call 57 [(.t 6), (.t 7)]), oN 1 (oV 8)]) (.seq (.reg false 0 [oN 9 (oV 1), oN 4 (oV 9)]) .ret)))⟩
structure D_laws_markBigInt (T : Nat → Option Fn) : Prop where
  hT : T 56 = some F_laws_markBigInt
  d_laws_markIntS : D_laws_markIntS T
def F_laws_markRat : Fn := ⟨2, 14, [.tmp 4], (.seq (.reg false 1 [oN 2 (.box (.t 0)), oK 4 1 (.mov (cI 0))]) (.seq (.reg false 0 [oN 5 (.fld 0 (.t 2)), oN 6 (.load 2 true (.t 5)), oN 7 (oV 1), oN 8 (.call 56 [(.t 6), (.t 7)]), oN 1 (oV 8)]) (.seq (.reg false 0 [oN 9 (.fld 2 (.t 2)), oN 10 (.load 1 false (.t 9)), oN 11 (oV 1), oN 12 (.call 57 [(.t 10), (.t 11)]), oN 1 (oV 12)]) (.seq (.reg false 0 [oN 13 (oV 1), oN 4 (oV 13)]) .ret))))⟩
structure D_laws_markRat (T : Nat → Option Fn) : Prop where
  hT : T 41 = some F_laws_markRat
  d_laws_markBigInt : D_laws_markBigInt T
  d_laws_markIntS : D_laws_markIntS T
def F_laws_markPoint : Fn := ⟨2, 14, [.tmp 4], (.seq (.reg false 1 [oN 2 (.box (.t 0)), oK 4 1 (.mov (cI 0))]) (.seq (.reg false 0 [oN 5 (.fld 0 (.t 2)), oN 6 (.load 3 true (.t 5)), oN 7 (oV 1), oN 8 (.call 41 [(.t 6), (.t 7)]), oN 1 (oV 8)]) (.seq (.reg false 0 [oN 9 (.fld 3 (.t 2)), oN 10 (.load 3 true (.t 9)), oN 11 (oV 1), oN 12 (.call 41 [(.t 10), (.t 11)]), oN 1 (oV 12)]) (.seq (.reg false 0 [oN 13 (oV 1), oN 4 (oV 13)]) .ret))))⟩
structure D_laws_markPoint (T : Nat → Option Fn) : Prop where
  hT : T 296 = some F_laws_markPoint
  d_laws_markRat : D_laws_markRat T
def F_laws_markLink : Fn := ⟨2, 18, [.tmp 4], (.seq (.reg false 1 [oN 2 (.box (.t 0)), oK 4 1 (.mov (cI 0))]) (.seq (.reg false 0 [oN 5 (.fld 2 (.t 2)), oN 6 (.load 3 true (.t 5)), oN 7 (oV 1), oN 8 (.call 41 [(.t 6), (.t 7)]), oN 1 (oV 8)]) (.seq (.reg false 0 [oN 9 (.fld 5 (.t 2)), oN 10 (.load 3 true (.t 9)), oN 11 (oV 1), oN 12 (.call 41 [(.t 10), (.t 11)]), oN 1 (oV 12)]) (.seq (.reg false 0 [oN 13 (.fld 8 (.t 2)), oN 14 (.load 3 true (.t 13)), oN 15 (oV 1), oN 16 (.call 41 [(.t 14), (.t 15)]), oN 1 (oV 16)]) (.seq (.reg false 0 [oN 17 (oV 1), oN 4 (oV 17)]) .ret)))))⟩
structure D_laws_markLink (T : Nat → Option Fn) : Prop where
  hT : T 17 = some F_laws_markLink
  d_laws_markRat : D_laws_markRat T
def F_laws_markConditional : Fn := ⟨2, 14, [.tmp 4], (.seq (.reg false 1 [oN 2 (.box (.t 0)), oK 4 1 (.mov (cI 0))]) (.seq (.reg false 0 [oN 5 (.fld 1 (.t 2)), oN 6 (.load 3 true (.t 5)), oN 7 (oV 1), oN 8 (.call 41 [(.t 6), (.t 7)]), oN 1 (oV 8)]) (.seq (.reg false 0 [oN 9 (.fld 4 (.t 2)), oN 10 (.load 1 false (.t 9)), oN 11 (oV 1), oN 12 (.call 119 [(.t 10), (.t 11)]), oN 1 (oV 12)]) (.seq (.reg false 0 [oN 13 (oV 1), oN 4 (oV 13)]) .ret))))⟩
structure D_laws_markConditional (T : Nat → Option Fn) : Prop where
  hT : T 367 = some F_laws_markConditional
  d_laws_markRat : D_laws_markRat T
  d_laws_markParentS : D_laws_markParentS T
def F_laws_markTree : Fn := ⟨2, 10, [.tmp 4], (.seq (.reg false 1 [oN 2 (.box (.t 0)), oK 4 1 (.mov (cI 0))]) (.seq (.reg false 0 [oN 5 (.fld 0 (.t 2)), oN 6 (.load 1 false (.t 5)), oN 7 (oV 1), oN 8 (.call 98 [(.t 6), (.t 7)]), oN 1 (oV 8)]) (.seq (.reg false 0 [oN 9 (oV 1), oN 4 (oV 9)]) .ret)))⟩
structure D_laws_markTree (T : Nat → Option Fn) : Prop where
  hT : T 82 = some F_laws_markTree
  d_laws_markTreeNodeS : D_laws_markTreeNodeS T
theorem ivc {a b : Int} (h : a = b) : iv a = iv b := by rw [h]
def V.els : V → List V
  | .agg l => l
  | _ => []
def Bi.ct2 (x : Bi) : Nat := x.mag.length
def Bi.mk2 (k : Int) (x : Bi) : Bi := ⟨x.neg, cnt x.mag.length k⟩
theorem mk_markBigInt {T : Nat → Option Fn} (h : D_laws_markBigInt T) {x : Bi} {k : Int} (hl : x.mag.length ≤ 1048576 := by first | omega | assumption | (simp; omega)) (hk : 0 ≤ k ∧ k + Bi.ct2 x ≤ 1000000000000 := by first | omega | assumption | (simp; omega)) :
    Mk T 56 (biV x) k (biV (Bi.mk2 k x)) (k + Bi.ct2 x) := by
  refine mk_iff fun σ v os ho hn => ?_
  have hk' := hk
  simp only [Bi.ct2] at hk'
  obtain ⟨cs, rfl, hcs⟩ := ho.agg_inv
  replace hcs : Cs _ _ _ _ := ⟨hcs, hn⟩
  obtain ⟨c0, c1, rfl⟩ : ∃ c0 c1, cs = [c0, c1] := by
    have := hcs.ow.len
    match cs, this with
    | [a0, a1], _ => exact ⟨a0, a1, rfl⟩
  have hlf := hcs.ow.leaf rfl
  have hce := cells_agg hlf
  have lfs : c0.leaf = true ∧ c1.leaf = true := by simpa using hlf
  have key : ∃ r σ', Run T (.fn 56 [.agg [c0, c1], iv k] σ) (.fn r σ') ∧ (r = iv (k + Bi.ct2 x) ∧ Cs σ' [c0, c1] ((biV (Bi.mk2 k x) : V).els) os ∧ Fr os σ σ') := by
    refine run_end (fun x d => x == 57) h.hT rfl rfl ?_
    dsimp only [F_laws_markBigInt, oN, oS, oG, oK, oA, oH, oV, cI, St.enter, List.length_cons, List.length_nil, Nat.zero_add]
    (refine ew ?_; try with_reducible exact True.intro)
    have F0 : Fr os σ (σ ++ [some ⟨2, [[c0, c1]]⟩]) := fr_snoc
    replace hcs := hcs.snoc (x := some ⟨2, [[c0, c1]]⟩)
    have hno : σ.length ∉ os := fun hm => absurd (ho.lt _ hm) (by omega)
    (refine ew2 @hce @lfs ?_; try with_reducible exact True.intro)
    obtain ⟨s1, hr, hcs, hf1⟩ := hcs.call 1 (mk_markIntS h.d_laws_markIntS (l := x.mag) (k := k) (by first | omega | (simp only [Bi.ct2, R.ct2, Bi.ct2]; omega)) (by first | omega | (simp only [Bi.ct2, R.ct2, Bi.ct2]; omega))) rfl rfl
    refine RefK_mk hr rfl hf1.len (by simp) ?_
    have hb1 := (hf1.old σ.length (by simp) hno).trans (objAt_snoc _ _)
    have F1 := F0.trans hf1
    have hlq1 := objAt_lt hb1
    (refine ew2 @hb1 @lfs ?_; try with_reducible exact True.intro)
    exact ⟨ivc (by simp only [Bi.ct2]; first | done | omega), hcs, F1⟩
  obtain ⟨r, σ', h2, rfl, h3, h4⟩ := key
  exact ⟨σ', h2, owV_agg h3.ow, h4⟩
def R.ct2 (x : R) : Nat := Bi.ct2 x.num + x.den.length
def R.mk2 (k : Int) (x : R) : R := ⟨x.neg, cnt x.mag.length k, cnt x.den.length (k + x.mag.length)⟩
theorem mk_markRat {T : Nat → Option Fn} (h : D_laws_markRat T) {x : R} {k : Int} (hl : x.sz ≤ 1048576 := by first | omega | assumption | (simp; omega)) (hk : 0 ≤ k ∧ k + R.ct2 x ≤ 1000000000000 := by first | omega | assumption | (simp; omega)) :
    Mk T 41 (ratV x) k (ratV (R.mk2 k x)) (k + R.ct2 x) := by
  refine mk_iff fun σ v os ho hn => ?_
  have hl' := hl
  simp only [R.sz] at hl'
  have hk' := hk
  simp only [R.ct2, Bi.ct2] at hk'
  obtain ⟨cs, rfl, hcs⟩ := ho.agg_inv
  replace hcs : Cs _ _ _ _ := ⟨hcs, hn⟩
  obtain ⟨c0, c1, c2, rfl⟩ : ∃ c0 c1 c2, cs = [c0, c1, c2] := by
    have := hcs.ow.len
    match cs, this with
    | [a0, a1, a2], _ => exact ⟨a0, a1, a2, rfl⟩
  have hlf := hcs.ow.leaf rfl
  have hce := cells_agg hlf
  have lfs : c0.leaf = true ∧ c1.leaf = true ∧ c2.leaf = true := by simpa using hlf
  have key : ∃ r σ', Run T (.fn 41 [.agg [c0, c1, c2], iv k] σ) (.fn r σ') ∧ (r = iv (k + R.ct2 x) ∧ Cs σ' [c0, c1, c2] ((ratV (R.mk2 k x) : V).els) os ∧ Fr os σ σ') := by
    refine run_end (fun x d => x == 56 || x == 57) h.hT rfl rfl ?_
    dsimp only [F_laws_markRat, oN, oS, oG, oK, oA, oH, oV, cI, St.enter, List.length_cons, List.length_nil, Nat.zero_add]
    (refine ew ?_; try with_reducible exact True.intro)
    have F0 : Fr os σ (σ ++ [some ⟨3, [[c0, c1, c2]]⟩]) := fr_snoc
    replace hcs := hcs.snoc (x := some ⟨3, [[c0, c1, c2]]⟩)
    have hno : σ.length ∉ os := fun hm => absurd (ho.lt _ hm) (by omega)
    (refine ew2 @hce @lfs ?_; try with_reducible exact True.intro)
    obtain ⟨s1, hr, hcs, hf1⟩ := hcs.part 0 2 (mk_markBigInt h.d_laws_markBigInt (x := x.num) (k := k) (by first | omega | (simp only [R.sz, R.ct2, Bi.ct2]; omega)) (by first | omega | (simp only [R.sz, R.ct2, Bi.ct2]; omega))) rfl (by simp)
    refine RefK_mk hr rfl hf1.len (by simp) ?_
    have hb1 := (hf1.old σ.length (by simp) hno).trans (objAt_snoc _ _)
    have F1 := F0.trans hf1
    have hlq1 := objAt_lt hb1
    (refine ew2 @hb1 @lfs ?_; try with_reducible exact True.intro)
    obtain ⟨s2, hr, hcs, hf2⟩ := hcs.call 2 (mk_markIntS h.d_laws_markIntS (l := x.den) (k := k + Bi.ct2 x.num) (by first | omega | (simp only [R.sz, R.ct2, Bi.ct2]; omega)) (by first | omega | (simp only [R.sz, R.ct2, Bi.ct2]; omega))) rfl rfl
    refine RefK_mk hr rfl hf2.len (by simp) ?_
    have hb2 := (hf2.old σ.length (objAt_lt hb1) hno).trans (hb1)
    have F2 := F1.trans hf2
    have hlq2 := objAt_lt hb2
    (refine ew2 @hb2 @lfs ?_; try with_reducible exact True.intro)
    exact ⟨ivc (by simp only [R.ct2, Bi.ct2]; first | done | omega), hcs, F2⟩
  obtain ⟨r, σ', h2, rfl, h3, h4⟩ := key
  exact ⟨σ', h2, owV_agg h3.ow, h4⟩
def Pt.ct2 (x : Pt) : Nat := x.x.ct2 + x.y.ct2
def Pt.mk2 (k : Int) (x : Pt) : Pt := ⟨R.mk2 (k) x.x, R.mk2 (k + x.x.ct2) x.y⟩
def Lk.ct2 (x : Lk) : Nat := x.w.ct2 + x.dx.ct2 + x.dy.ct2
def Lk.mk2 (k : Int) (x : Lk) : Lk := ⟨x.a, x.b, R.mk2 (k) x.w, R.mk2 (k + x.w.ct2) x.dx, R.mk2 (k + x.w.ct2 + x.dx.ct2) x.dy⟩
theorem mk_markLink {T : Nat → Option Fn} (h : D_laws_markLink T) {x : Lk} {k : Int} (hl : x.sz ≤ 1048576 := by first | omega | assumption | (simp; omega)) (hk : 0 ≤ k ∧ k + Lk.ct2 x ≤ 1000000000000 := by first | omega | assumption | (simp; omega)) :
    Mk T 17 (lkV x) k (lkV (Lk.mk2 k x)) (k + Lk.ct2 x) := by
  refine mk_iff fun σ v os ho hn => ?_
  have hl' := hl
  simp only [Lk.sz, R.sz] at hl'
  have hk' := hk
  simp only [Lk.ct2, R.ct2, Bi.ct2] at hk'
  obtain ⟨cs, rfl, hcs⟩ := ho.agg_inv
  replace hcs : Cs _ _ _ _ := ⟨hcs, hn⟩
  obtain ⟨c0, c1, c2, c3, c4, c5, c6, c7, c8, c9, c10, rfl⟩ : ∃ c0 c1 c2 c3 c4 c5 c6 c7 c8 c9 c10, cs = [c0, c1, c2, c3, c4, c5, c6, c7, c8, c9, c10] := by
    have := hcs.ow.len
    match cs, this with
    | [a0, a1, a2, a3, a4, a5, a6, a7, a8, a9, a10], _ => exact ⟨a0, a1, a2, a3, a4, a5, a6, a7, a8, a9, a10, rfl⟩
  have hlf := hcs.ow.leaf rfl
  have hce := cells_agg hlf
  have lfs : c0.leaf = true ∧ c1.leaf = true ∧ c2.leaf = true ∧ c3.leaf = true ∧ c4.leaf = true ∧ c5.leaf = true ∧ c6.leaf = true ∧ c7.leaf = true ∧ c8.leaf = true ∧ c9.leaf = true ∧ c10.leaf = true := by simpa using hlf
  have key : ∃ r σ', Run T (.fn 17 [.agg [c0, c1, c2, c3, c4, c5, c6, c7, c8, c9, c10], iv k] σ) (.fn r σ') ∧ (r = iv (k + Lk.ct2 x) ∧ Cs σ' [c0, c1, c2, c3, c4, c5, c6, c7, c8, c9, c10] ((lkV (Lk.mk2 k x) : V).els) os ∧ Fr os σ σ') := by
    refine run_end (fun x d => x == 41) h.hT rfl rfl ?_
    dsimp only [F_laws_markLink, oN, oS, oG, oK, oA, oH, oV, cI, St.enter, List.length_cons, List.length_nil, Nat.zero_add]
    (refine ew ?_; try with_reducible exact True.intro)
    have F0 : Fr os σ (σ ++ [some ⟨11, [[c0, c1, c2, c3, c4, c5, c6, c7, c8, c9, c10]]⟩]) := fr_snoc
    replace hcs := hcs.snoc (x := some ⟨11, [[c0, c1, c2, c3, c4, c5, c6, c7, c8, c9, c10]]⟩)
    have hno : σ.length ∉ os := fun hm => absurd (ho.lt _ hm) (by omega)
    (refine ew2 @hce @lfs ?_; try with_reducible exact True.intro)
    obtain ⟨s1, hr, hcs, hf1⟩ := hcs.part 2 3 (mk_markRat h.d_laws_markRat (x := x.w) (k := k) (by first | omega | (simp only [Lk.sz, R.sz, R.ct2, Bi.ct2]; omega)) (by first | omega | (simp only [Lk.sz, R.sz, R.ct2, Bi.ct2]; omega))) rfl (by simp)
    refine RefK_mk hr rfl hf1.len (by simp) ?_
    have hb1 := (hf1.old σ.length (by simp) hno).trans (objAt_snoc _ _)
    have F1 := F0.trans hf1
    have hlq1 := objAt_lt hb1
    (refine ew2 @hb1 @lfs ?_; try with_reducible exact True.intro)
    obtain ⟨s2, hr, hcs, hf2⟩ := hcs.part 5 3 (mk_markRat h.d_laws_markRat (x := x.dx) (k := k + x.w.ct2) (by first | omega | (simp only [Lk.sz, R.sz, R.ct2, Bi.ct2]; omega)) (by first | omega | (simp only [Lk.sz, R.sz, R.ct2, Bi.ct2]; omega))) rfl (by simp)
    refine RefK_mk hr rfl hf2.len (by simp) ?_
    have hb2 := (hf2.old σ.length (objAt_lt hb1) hno).trans (hb1)
    have F2 := F1.trans hf2
    have hlq2 := objAt_lt hb2
    (refine ew2 @hb2 @lfs ?_; try with_reducible exact True.intro)
    obtain ⟨s3, hr, hcs, hf3⟩ := hcs.part 8 3 (mk_markRat h.d_laws_markRat (x := x.dy) (k := k + x.w.ct2 + x.dx.ct2) (by first | omega | (simp only [Lk.sz, R.sz, R.ct2, Bi.ct2]; omega)) (by first | omega | (simp only [Lk.sz, R.sz, R.ct2, Bi.ct2]; omega))) rfl (by simp)
    refine RefK_mk hr rfl hf3.len (by simp) ?_
    have hb3 := (hf3.old σ.length (objAt_lt hb2) hno).trans (hb2)
    have F3 := F2.trans hf3
    have hlq3 := objAt_lt hb3
    (refine ew2 @hb3 @lfs ?_; try with_reducible exact True.intro)
    exact ⟨ivc (by simp only [Lk.ct2, R.ct2, Bi.ct2]; first | done | omega), hcs, F3⟩
  obtain ⟨r, σ', h2, rfl, h3, h4⟩ := key
  exact ⟨σ', h2, owV_agg h3.ow, h4⟩
def Cd.ct2 (x : Cd) : Nat := x.total.ct2 + cnL Pa.ct x.ps x.ps.length
def Cd.mk2 (k : Int) (x : Cd) : Cd := ⟨x.node, R.mk2 (k) x.total, mkL Pa.mk3 Pa.ct (k + x.total.ct2) x.ps⟩
end Go.Ml
end
section
set_option linter.unusedSimpArgs false
set_option linter.unusedVariables false
set_option maxRecDepth 100000
set_option maxHeartbeats 4000000
namespace Go.Ml
def F_impl_copyRat : Fn := ⟨1, 15, [.cell 2 3 true], (.seq (.reg false 2 [oN 1 (.box (.t 0)), oK 2 1 (.alloc [.bool false, .nils, .nils])]) (.seq (.reg true 0 [oN 3 (.fld 0 (.t 1)), oA 4 0 (.fld 0 (.t 3)) [0], oA 5 0 (.load 1 false (.t 4)) [1], oN 6 (.fld 0 (.t 1)), oA 7 0 (.fld 1 (.t 6)) [3], oA 8 0 (.load 1 false (.t 7)) [4], oA 9 0 (.call 139 [(.t 8)]) [5], oA 10 0 (.build [.bool false, .nils] [(0, 1, (.t 5)), (1, 1, (.t 9))]) [2, 6], oN 11 (.fld 2 (.t 1)), oA 12 0 (.load 1 false (.t 11)) [8], oA 13 0 (.call 139 [(.t 12)]) [9, 6], oA 14 0 (.build [.bool false, .nils, .nils] [(0, 2, (.t 10)), (2, 1, (.t 13))]) [7, 10], ⟨none, none, 0, .store 3 (.t 2) (.t 14), [11, 10, 0, 1, 2, 3, 4, 5, 6, 7, 8, 9, 10, 11]⟩]) .ret))⟩
structure D_impl_copyRat (T : Nat → Option Fn) : Prop where
  hT : T 145 = some F_impl_copyRat
  d_impl_copyInts : D_impl_copyInts T
def F_impl_copyLink : Fn := ⟨1, 17, [.cell 2 11 true], (.seq (.reg false 2 [oN 1 (.box (.t 0)), oK 2 1 (.alloc [.int .i64 0, .int .i64 0, .bool false, .nils, .nils, .bool false, .nils, .nils, .bool false, .nils, .nils])]) (.seq (.reg true 0 [oN 3 (.fld 0 (.t 1)), oA 4 0 (.load 1 false (.t 3)) [0], oN 5 (.fld 1 (.t 1)), oA 6 0 (.load 1 false (.t 5)) [2], oN 7 (.fld 2 (.t 1)), oA 8 0 (.load 3 true (.t 7)) [4], oA 9 0 (.call 145 [(.t 8)]) [5], oN 10 (.fld 5 (.t 1)), oA 11 0 (.load 3 true (.t 10)) [7], oA 12 0 (.call 145 [(.t 11)]) [8, 6], oN 13 (.fld 8 (.t 1)), oA 14 0 (.load 3 true (.t 13)) [10], oA 15 0 (.call 145 [(.t 14)]) [11, 9], oA 16 0 (.build [.int .i64 0, .int .i64 0, .bool false, .nils, .nils, .bool false, .nils, .nils, .bool false, .nils, .nils] [(0, 1, (.t 4)), (1, 1, (.t 6)), (2, 3, (.t 9)), (5, 3, (.t 12)), (8, 3, (.t 15))]) [1, 3, 6, 9, 12], ⟨none, none, 0, .store 11 (.t 2) (.t 16), [13, 12, 0, 1, 2, 3, 4, 5, 6, 7, 8, 9, 10, 11, 12, 13]⟩]) .ret))⟩
structure D_impl_copyLink (T : Nat → Option Fn) : Prop where
  hT : T 133 = some F_impl_copyLink
  d_impl_copyRat : D_impl_copyRat T
def F_impl_copyLinks : Fn := ⟨1, 20, [.tmp 2], (.seq (.reg false 0 [oN 2 (.mov (.c (.nils)))]) (.seq (.reg false 1 [oN 6 (.mkSl 11 [.int .i64 0, .int .i64 0, .bool false, .nils, .nils, .bool false, .nils, .nils, .bool false, .nils, .nils] 0 []), oK 3 1 (oV 6)]) (.seq (.seq (.reg false 0 [oN 7 (oV 0), oN 8 (.len (.t 7)), oN 9 (.mov (cI 0))]) (.block 0 (.loop (.seq (.reg false 0 [oN 10 (.bin .lss (.t 9) (.t 8))]) (.seq (.cond (.t 10) .skip (.exit 0)) (.seq (.block 1 (.seq (.reg false 1 [oK 11 1 (.idx 11 (.t 7) (.t 9)), oK 12 1 (.load 11 true (.t 11)), oN 5 (.alloc [.int .i64 0, .int .i64 0, .bool false, .nils, .nils, .bool false, .nils, .nils, .bool false, .nils, .nils]), ⟨none, none, 1, .store 11 (.t 5) (.t 12), []⟩]) (.reg false 2 [oK 13 2 (oV 3), oK 14 2 (.load 11 true (.t 5)), oK 15 2 (.call 133 [(.t 14)]), oN 16 (.mkSl 11 [.int .i64 0, .int .i64 0, .bool false, .nils, .nils, .bool false, .nils, .nils, .bool false, .nils, .nils] 1 [(0, (.t 15))]), oK 17 1 (.app 11 184 (.t 13) (.t 16)), oK 3 2 (oV 17)]))) (.reg false 0 [oN 18 (.bin .add (.t 9) (cI 1)), oN 9 (oV 18)]))))))) (.seq (.reg false 0 [oN 19 (oV 3), oN 2 (oV 19)]) .ret))))⟩
structure D_impl_copyLinks (T : Nat → Option Fn) : Prop where
  hT : T 110 = some F_impl_copyLinks
  d_impl_copyLink : D_impl_copyLink T
def F_impl_copyConditional : Fn := ⟨1, 40, [.cell 2 5 true], (.seq (.reg false 2 [oN 1 (.box (.t 0)), oK 2 1 (.alloc [.int .i64 0, .bool false, .nils, .nils, .nils])]) (.seq (.reg true 1 [oK 7 1 (.fld 0 (.t 1)), oA 8 1 (.load 1 false (.t 7)) [0], oK 9 1 (.fld 1 (.t 1)), oA 10 1 (.load 3 true (.t 9)) [2], oA 11 1 (.call 145 [(.t 10)]) [3], oA 12 1 (.build [.int .i64 0, .bool false, .nils, .nils, .nils] [(0, 1, (.t 8)), (1, 3, (.t 11))]) [1, 4], oN 3 (.alloc [.int .i64 0, .bool false, .nils, .nils, .nils]), ⟨none, none, 1, .store 5 (.t 3) (.t 12), [6, 5, 4, 0, 1, 2, 3, 4, 5, 6]⟩]) (.seq (.seq (.reg false 0 [oN 13 (.fld 4 (.t 1)), oN 14 (.load 1 false (.t 13)), oN 15 (.len (.t 14)), oN 16 (.mov (cI 0))]) (.block 0 (.loop (.seq (.reg false 0 [oN 17 (.bin .lss (.t 16) (.t 15))]) (.seq (.cond (.t 17) .skip (.exit 0)) (.seq (.block 1 (.seq (.reg false 1 [oK 18 1 (.idx 10 (.t 14) (.t 16)), oK 19 1 (.load 10 true (.t 18)), oN 5 (.alloc [.int .i64 0, .bool false, .nils, .nils, .bool false, .nils, .nils, .bool false, .nils, .nils]), ⟨none, none, 1, .store 10 (.t 5) (.t 19), []⟩]) (.seq (.reg true 1 [oK 20 1 (.fld 0 (.t 5)), oA 21 1 (.load 1 false (.t 20)) [0], oK 22 1 (.fld 1 (.t 5)), oA 23 1 (.load 3 true (.t 22)) [2], oA 24 1 (.call 145 [(.t 23)]) [3], oK 25 1 (.fld 4 (.t 5)), oA 26 1 (.load 3 true (.t 25)) [5], oA 27 1 (.call 145 [(.t 26)]) [6, 4], oK 28 1 (.fld 7 (.t 5)), oA 29 1 (.load 3 true (.t 28)) [8], oA 30 1 (.call 145 [(.t 29)]) [9, 7], oA 31 1 (.build [.int .i64 0, .bool false, .nils, .nils, .bool false, .nils, .nils, .bool false, .nils, .nils] [(0, 1, (.t 21)), (1, 3, (.t 24)), (4, 3, (.t 27)), (7, 3, (.t 30))]) [1, 4, 7, 10], oN 6 (.alloc [.int .i64 0, .bool false, .nils, .nils, .bool false, .nils, .nils, .bool false, .nils, .nils]), ⟨none, none, 1, .store 10 (.t 6) (.t 31), [12, 11, 10, 0, 1, 2, 3, 4, 5, 6, 7, 8, 9, 10, 11, 12]⟩]) (.reg false 2 [oK 32 2 (.fld 4 (.t 3)), oK 33 2 (.load 1 false (.t 32)), oK 34 2 (.load 10 true (.t 6)), oN 35 (.mkSl 10 [.int .i64 0, .bool false, .nils, .nils, .bool false, .nils, .nils, .bool false, .nils, .nils] 1 [(0, (.t 34))]), oK 36 1 (.app 10 176 (.t 33) (.t 35)), oK 37 2 (.fld 4 (.t 3)), ⟨none, none, 2, .store 1 (.t 37) (.t 36), []⟩])))) (.reg false 0 [oN 38 (.bin .add (.t 16) (cI 1)), oN 16 (oV 38)]))))))) (.seq (.reg false 0 [oN 39 (.load 5 true (.t 3)), oS (.store 5 (.t 2) (.t 39))]) .ret))))⟩
structure D_impl_copyConditional (T : Nat → Option Fn) : Prop where
  hT : T 183 = some F_impl_copyConditional
  d_impl_copyRat : D_impl_copyRat T
end Go.Ml
end
section
set_option linter.unusedSimpArgs false
set_option linter.unusedVariables false
set_option maxRecDepth 100000
set_option maxHeartbeats 8000000
namespace Go.Ml
def F_impl_OrderOf : Fn := ⟨1, 21, [.tmp 2], (.seq (.reg false 1 [oN 1 (.box (.t 0)), oK 2 1 (.mov (.c (.nils)))]) (.seq (.reg false 1 [oN 6 (.mkSl 1 [.int .i64 0] 0 []), oK 3 1 (oV 6)]) (.seq (.seq (.reg false 0 [oN 7 (.fld 0 (.t 1)), oN 8 (.load 1 false (.t 7)), oN 9 (.len (.t 8)), oN 10 (.mov (cI 0))]) (.block 0 (.loop (.seq (.reg false 0 [oN 11 (.bin .lss (.t 10) (.t 9))]) (.seq (.cond (.t 11) .skip (.exit 0)) (.seq (.block 1 (.seq (.reg false 1 [oK 12 1 (.idx 12 (.t 8) (.t 10)), oK 13 1 (.load 12 true (.t 12)), oN 5 (.alloc [.int .i64 0, .int .i64 0, .nils, .int .i64 0, .bool false, .nils, .nils, .nils, .nils, .bool false, .nils, .nils]), ⟨none, none, 1, .store 12 (.t 5) (.t 13), []⟩]) (.reg false 2 [oK 14 2 (oV 3), oK 15 2 (.fld 0 (.t 5)), oK 16 2 (.load 1 false (.t 15)), oN 17 (.mkSl 1 [.int .i64 0] 1 [(0, (.t 16))]), oK 18 1 (.app 1 8 (.t 14) (.t 17)), oK 3 2 (oV 18)]))) (.reg false 0 [oN 19 (.bin .add (.t 10) (cI 1)), oN 10 (oV 19)]))))))) (.seq (.reg false 0 [oN 20 (oV 3), oN 2 (oV 20)]) .ret))))⟩
structure D_impl_OrderOf (T : Nat → Option Fn) : Prop where
  hT : T 80 = some F_impl_OrderOf
def F_spec_OrderOf : Fn := ⟨1, 21, [.tmp 2], (.seq (.reg false 1 [oN 1 (.box (.t 0)), oK 2 1 (.mov (.c (.nils)))]) (.seq (.reg false 1 [oN 6 (.mkSl 1 [.int .i64 0] 0 []), oK 3 1 (oV 6)]) (.seq (.seq (.reg false 0 [oN 7 (.fld 0 (.t 1)), oN 8 (.load 1 false (.t 7)), oN 9 (.len (.t 8)), oN 10 (.mov (cI 0))]) (.block 0 (.loop (.seq (.reg false 0 [oN 11 (.bin .lss (.t 10) (.t 9))]) (.seq (.cond (.t 11) .skip (.exit 0)) (.seq (.block 1 (.seq (.reg false 1 [oK 12 1 (.idx 12 (.t 8) (.t 10)), oK 13 1 (.load 12 true (.t 12)), oN 5 (.alloc [.int .i64 0, .int .i64 0, .nils, .int .i64 0, .bool false, .nils, .nils, .nils, .nils, .bool false, .nils, .nils]), ⟨none, none, 1, .store 12 (.t 5) (.t 13), []⟩]) (.reg false 2 [oK 14 2 (oV 3), oK 15 2 (.fld 0 (.t 5)), oK 16 2 (.load 1 false (.t 15)), oN 17 (.mkSl 1 [.int .i64 0] 1 [(0, (.t 16))]), oK 18 1 (.app 1 8 (.t 14) (.t 17)), oK 3 2 (oV 18)]))) (.reg false 0 [oN 19 (.bin .add (.t 10) (cI 1)), oN 10 (oV 19)]))))))) (.seq (.reg false 0 [oN 20 (oV 3), oN 2 (oV 20)]) .ret))))⟩
structure D_spec_OrderOf (T : Nat → Option Fn) : Prop where
  hT : T 78 = some F_spec_OrderOf
def F_spec_l06Squares : Fn := ⟨2, 12, [.cell 4 3 true], (.seq (.reg false 3 [oN 2 (.box (.t 0)), oK 3 1 (.box (.t 1)), oK 4 2 (.alloc [.bool false, .nils, .nils])]) (.seq (.reg true 0 [oN 5 (.load 3 true (.t 2)), oN 6 (.load 3 true (.t 2)), oA 7 0 (.call 201 [(.t 5), (.t 6)]) [0, 1], oN 8 (.load 3 true (.t 3)), oN 9 (.load 3 true (.t 3)), oA 10 0 (.call 201 [(.t 8), (.t 9)]) [3, 4, 2], oA 11 0 (.call 189 [(.t 7), (.t 10)]) [2, 5, 5], ⟨none, none, 0, .store 3 (.t 4) (.t 11), [6, 6, 0, 1, 2, 3, 4, 5, 6]⟩]) .ret))⟩
structure D_spec_l06Squares (T : Nat → Option Fn) : Prop where
  hT : T 202 = some F_spec_l06Squares
  d_spec_RatAdd : D_spec_RatAdd T
  d_spec_RatMul : D_spec_RatMul T
def F_spec_LinkEnergy : Fn := ⟨3, 31, [.cell 6 3 true], (.seq (.reg false 4 [oN 3 (.box (.t 0)), oK 4 1 (.box (.t 1)), oK 5 2 (.box (.t 2)), oK 6 3 (.alloc [.bool false, .nils, .nils])]) (.seq (.seq (.reg false 0 [oN 7 (.load 11 true (.t 3)), oN 8 (.call 83 [(.t 7)]), oN 9 (.un .not (.t 8))]) (.cond (.t 9) (.seq (.reg false 0 [oN 10 (.build [.bool false, .nils, .nils] []), oS (.store 3 (.t 6) (.t 10))]) .ret) .skip)) (.seq (.reg true 0 [oN 11 (.fld 2 (.t 3)), oA 12 0 (.load 3 true (.t 11)) [0], oN 13 (.fld 0 (.t 5)), oA 14 0 (.load 3 true (.t 13)) [2], oN 15 (.fld 0 (.t 4)), oA 16 0 (.load 3 true (.t 15)) [4], oA 17 0 (.call 203 [(.t 14), (.t 16)]) [3, 5], oN 18 (.fld 5 (.t 3)), oA 19 0 (.load 3 true (.t 18)) [7], oA 20 0 (.call 203 [(.t 17), (.t 19)]) [6, 8, 6], oN 21 (.fld 3 (.t 5)), oA 22 0 (.load 3 true (.t 21)) [10], oN 23 (.fld 3 (.t 4)), oA 24 0 (.load 3 true (.t 23)) [12], oA 25 0 (.call 203 [(.t 22), (.t 24)]) [11, 13, 9], oN 26 (.fld 8 (.t 3)), oA 27 0 (.load 3 true (.t 26)) [15], oA 28 0 (.call 203 [(.t 25), (.t 27)]) [14, 16, 14], oA 29 0 (.call 202 [(.t 20), (.t 28)]) [9, 17, 17], oA 30 0 (.call 201 [(.t 12), (.t 29)]) [1, 18, 18], ⟨none, none, 0, .store 3 (.t 6) (.t 30), [19, 19, 0, 1, 2, 3, 4, 5, 6, 7, 8, 9, 10, 11, 12, 13, 14, 15, 16, 17, 18, 19]⟩]) .ret)))⟩
structure D_spec_LinkEnergy (T : Nat → Option Fn) : Prop where
  hT : T 295 = some F_spec_LinkEnergy
  d_spec_IsValidLink : D_spec_IsValidLink T
  d_spec_RatMul : D_spec_RatMul T
  d_spec_l06Squares : D_spec_l06Squares T
  d_spec_RatSub : D_spec_RatSub T
def F_impl_sumOfSquares : Fn := ⟨2, 12, [.cell 4 3 true], (.seq (.reg false 3 [oN 2 (.box (.t 0)), oK 3 1 (.box (.t 1)), oK 4 2 (.alloc [.bool false, .nils, .nils])]) (.seq (.reg true 0 [oN 5 (.load 3 true (.t 2)), oN 6 (.load 3 true (.t 2)), oA 7 0 (.call 157 [(.t 5), (.t 6)]) [0, 1], oN 8 (.load 3 true (.t 3)), oN 9 (.load 3 true (.t 3)), oA 10 0 (.call 157 [(.t 8), (.t 9)]) [3, 4, 2], oA 11 0 (.call 131 [(.t 7), (.t 10)]) [2, 5, 5], ⟨none, none, 0, .store 3 (.t 4) (.t 11), [6, 6, 0, 1, 2, 3, 4, 5, 6]⟩]) .ret))⟩
structure D_impl_sumOfSquares (T : Nat → Option Fn) : Prop where
  hT : T 158 = some F_impl_sumOfSquares
  d_impl_ratAdd : D_impl_ratAdd T
  d_impl_ratMul : D_impl_ratMul T
def F_impl_validPoint : Fn := ⟨1, 11, [.tmp 2], (.seq (.reg false 1 [oN 1 (.box (.t 0)), oK 2 1 (.mov (.c (.bool false)))]) (.seq (.reg false 0 [oN 3 (.fld 0 (.t 1)), oN 4 (.load 3 true (.t 3)), oN 5 (.call 102 [(.t 4)]), oN 6 (oV 5), oG 6 true 7 (.fld 3 (.t 1)), oG 6 true 8 (.load 3 true (.t 7)), oG 6 true 9 (.call 102 [(.t 8)]), oN 10 (.pick (.t 6) (.t 9) (.c (.bool false))), oN 2 (oV 10)]) .ret))⟩
structure D_impl_validPoint (T : Nat → Option Fn) : Prop where
  hT : T 192 = some F_impl_validPoint
  d_impl_RatOk : D_impl_RatOk T
def F_impl_LinkEnergy : Fn := ⟨3, 45, [.cell 6 3 true], (.seq (.reg false 4 [oN 3 (.box (.t 0)), oK 4 1 (.box (.t 1)), oK 5 2 (.box (.t 2)), oK 6 3 (.alloc [.bool false, .nils, .nils])]) (.seq (.seq (.reg false 0 [oN 9 (.load 11 true (.t 3)), oN 10 (.call 84 [(.t 9)]), oN 11 (.un .not (.t 10)), oN 12 (oV 11), oG 12 false 13 (.load 6 true (.t 4)), oG 12 false 14 (.call 192 [(.t 13)]), oG 12 false 15 (.un .not (.t 14)), oN 16 (.pick (.t 12) (.c (.bool true)) (.t 15)), oN 17 (oV 16), oG 17 false 18 (.load 6 true (.t 5)), oG 17 false 19 (.call 192 [(.t 18)]), oG 17 false 20 (.un .not (.t 19)), oN 21 (.pick (.t 17) (.c (.bool true)) (.t 20))]) (.cond (.t 21) (.seq (.reg false 0 [oN 22 (.build [.bool false, .nils, .nils] []), oS (.store 3 (.t 6) (.t 22))]) .ret) .skip)) (.seq (.reg true 1 [oK 23 1 (.fld 0 (.t 5)), oA 24 1 (.load 3 true (.t 23)) [0], oK 25 1 (.fld 0 (.t 4)), oA 26 1 (.load 3 true (.t 25)) [2], oA 27 1 (.call 159 [(.t 24), (.t 26)]) [1, 3], oK 28 1 (.fld 5 (.t 3)), oA 29 1 (.load 3 true (.t 28)) [5], oA 30 1 (.call 159 [(.t 27), (.t 29)]) [4, 6, 4], oN 7 (.alloc [.bool false, .nils, .nils]), ⟨none, none, 1, .store 3 (.t 7) (.t 30), [8, 7, 7, 0, 1, 2, 3, 4, 5, 6, 7, 8]⟩]) (.seq (.reg true 1 [oK 31 1 (.fld 3 (.t 5)), oA 32 1 (.load 3 true (.t 31)) [0], oK 33 1 (.fld 3 (.t 4)), oA 34 1 (.load 3 true (.t 33)) [2], oA 35 1 (.call 159 [(.t 32), (.t 34)]) [1, 3], oK 36 1 (.fld 8 (.t 3)), oA 37 1 (.load 3 true (.t 36)) [5], oA 38 1 (.call 159 [(.t 35), (.t 37)]) [4, 6, 4], oN 8 (.alloc [.bool false, .nils, .nils]), ⟨none, none, 1, .store 3 (.t 8) (.t 38), [8, 7, 7, 0, 1, 2, 3, 4, 5, 6, 7, 8]⟩]) (.seq (.reg true 0 [oN 39 (.fld 2 (.t 3)), oA 40 0 (.load 3 true (.t 39)) [0], oN 41 (.load 3 true (.t 7)), oN 42 (.load 3 true (.t 8)), oA 43 0 (.call 158 [(.t 41), (.t 42)]) [2, 3], oA 44 0 (.call 157 [(.t 40), (.t 43)]) [1, 4, 4], ⟨none, none, 0, .store 3 (.t 6) (.t 44), [5, 5, 0, 1, 2, 3, 4, 5]⟩]) .ret)))))⟩
structure D_impl_LinkEnergy (T : Nat → Option Fn) : Prop where
  hT : T 187 = some F_impl_LinkEnergy
  d_impl_IsValidLink : D_impl_IsValidLink T
  d_impl_ratMul : D_impl_ratMul T
  d_impl_sumOfSquares : D_impl_sumOfSquares T
  d_impl_ratSub : D_impl_ratSub T
  d_impl_validPoint : D_impl_validPoint T
def F_impl_inRange : Fn := ⟨1, 9, [.tmp 2], (.seq (.reg false 0 [oN 2 (.mov (.c (.bool false)))]) (.seq (.reg false 0 [oN 3 (oV 0), oN 4 (.bin .geq (.t 3) (cI (-1000000))), oN 5 (oV 4), oG 5 true 6 (oV 0), oG 5 true 7 (.bin .leq (.t 6) (cI 1000000)), oN 8 (.pick (.t 5) (.t 7) (.c (.bool false))), oN 2 (oV 8)]) .ret))⟩
structure D_impl_inRange (T : Nat → Option Fn) : Prop where
  hT : T 38 = some F_impl_inRange
def F_impl_NewLink : Fn := ⟨5, 61, [.cell 10 11 true, .tmp 11], (.seq (.reg false 1 [oN 10 (.alloc [.int .i64 0, .int .i64 0, .bool false, .nils, .nils, .bool false, .nils, .nils, .bool false, .nils, .nils]), oK 11 1 (.mov (.c (.bool false)))]) (.seq (.seq (.reg false 0 [oN 12 (oV 0), oN 13 (.call 37 [(.t 12)]), oN 14 (.un .not (.t 13)), oN 15 (oV 14), oG 15 false 16 (oV 1), oG 15 false 17 (.call 37 [(.t 16)]), oG 15 false 18 (.un .not (.t 17)), oN 19 (.pick (.t 15) (.c (.bool true)) (.t 18)), oN 20 (oV 19), oG 20 false 21 (oV 0), oG 20 false 22 (oV 1), oG 20 false 23 (.bin .eql (.t 21) (.t 22)), oN 24 (.pick (.t 20) (.c (.bool true)) (.t 23)), oN 25 (oV 24), oG 25 false 26 (oV 2), oG 25 false 27 (.bin .lss (.t 26) (cI 1)), oN 28 (.pick (.t 25) (.c (.bool true)) (.t 27)), oN 29 (oV 28), oG 29 false 30 (oV 2), oG 29 false 31 (.bin .gtr (.t 30) (cI 9999)), oN 32 (.pick (.t 29) (.c (.bool true)) (.t 31))]) (.cond (.t 32) (.seq (.reg false 0 [oN 33 (.build [.int .i64 0, .int .i64 0, .bool false, .nils, .nils, .bool false, .nils, .nils, .bool false, .nils, .nils] []), oS (.store 11 (.t 10) (.t 33)), oN 11 (.mov (.c (.bool false)))]) .ret) .skip)) (.seq (.seq (.reg false 0 [oN 34 (oV 3), oN 35 (.call 38 [(.t 34)]), oN 36 (.un .not (.t 35)), oN 37 (oV 36), oG 37 false 38 (oV 4), oG 37 false 39 (.call 38 [(.t 38)]), oG 37 false 40 (.un .not (.t 39)), oN 41 (.pick (.t 37) (.c (.bool true)) (.t 40))]) (.cond (.t 41) (.seq (.reg false 0 [oN 42 (.build [.int .i64 0, .int .i64 0, .bool false, .nils, .nils, .bool false, .nils, .nils, .bool false, .nils, .nils] []), oS (.store 11 (.t 10) (.t 42)), oN 11 (.mov (.c (.bool false)))]) .ret) .skip)) (.seq (.seq (.reg false 0 [oN 43 (oV 0), oN 44 (oV 1), oN 45 (.bin .gtr (.t 43) (.t 44))]) (.cond (.t 45) (.reg false 0 [oN 46 (oV 1), oN 47 (oV 0), oN 48 (oV 3), oN 49 (.un .neg (.t 48)), oN 50 (oV 4), oN 51 (.un .neg (.t 50)), oN 0 (oV 46), oN 1 (oV 47), oN 3 (oV 49), oN 4 (oV 51)]) .skip)) (.seq (.reg false 0 [oN 52 (oV 0), oN 53 (oV 1), oN 54 (oV 2), oN 55 (.call 39 [(.t 54)]), oN 56 (oV 3), oN 57 (.call 39 [(.t 56)]), oN 58 (oV 4), oN 59 (.call 39 [(.t 58)]), oN 60 (.build [.int .i64 0, .int .i64 0, .bool false, .nils, .nils, .bool false, .nils, .nils, .bool false, .nils, .nils] [(0, 1, (.t 52)), (1, 1, (.t 53)), (2, 3, (.t 55)), (5, 3, (.t 57)), (8, 3, (.t 59))]), oS (.store 11 (.t 10) (.t 60)), oN 11 (.mov (.c (.bool true)))]) .ret)))))⟩
structure D_impl_NewLink (T : Nat → Option Fn) : Prop where
  hT : T 15 = some F_impl_NewLink
  d_impl_isNode : D_impl_isNode T
  d_impl_inRange : D_impl_inRange T
  d_impl_RatFromInt : D_impl_RatFromInt T
def F_spec_NewLink : Fn := ⟨5, 59, [.cell 10 11 true, .tmp 11], (.seq (.reg false 1 [oN 10 (.alloc [.int .i64 0, .int .i64 0, .bool false, .nils, .nils, .bool false, .nils, .nils, .bool false, .nils, .nils]), oK 11 1 (.mov (.c (.bool false)))]) (.seq (.seq (.reg false 0 [oN 12 (oV 0), oN 13 (.call 34 [(.t 12)]), oN 14 (.un .not (.t 13)), oN 15 (oV 14), oG 15 false 16 (oV 1), oG 15 false 17 (.call 34 [(.t 16)]), oG 15 false 18 (.un .not (.t 17)), oN 19 (.pick (.t 15) (.c (.bool true)) (.t 18)), oN 20 (oV 19), oG 20 false 21 (oV 0), oG 20 false 22 (oV 1), oG 20 false 23 (.bin .eql (.t 21) (.t 22)), oN 24 (.pick (.t 20) (.c (.bool true)) (.t 23)), oN 25 (oV 24), oG 25 false 26 (oV 2), oG 25 false 27 (.call 35 [(.t 26), (cI 1), (cI 9999)]), oG 25 false 28 (.un .not (.t 27)), oN 29 (.pick (.t 25) (.c (.bool true)) (.t 28)), oN 30 (oV 29), oG 30 false 31 (oV 3), oG 30 false 32 (.call 35 [(.t 31), (cI (-1000000)), (cI 1000000)]), oG 30 false 33 (.un .not (.t 32)), oN 34 (.pick (.t 30) (.c (.bool true)) (.t 33)), oN 35 (oV 34), oG 35 false 36 (oV 4), oG 35 false 37 (.call 35 [(.t 36), (cI (-1000000)), (cI 1000000)]), oG 35 false 38 (.un .not (.t 37)), oN 39 (.pick (.t 35) (.c (.bool true)) (.t 38))]) (.cond (.t 39) (.seq (.reg false 0 [oN 40 (.build [.int .i64 0, .int .i64 0, .bool false, .nils, .nils, .bool false, .nils, .nils, .bool false, .nils, .nils] []), oS (.store 11 (.t 10) (.t 40)), oN 11 (.mov (.c (.bool false)))]) .ret) .skip)) (.seq (.seq (.reg false 0 [oN 41 (oV 0), oN 42 (oV 1), oN 43 (.bin .gtr (.t 41) (.t 42))]) (.cond (.t 43) (.reg false 0 [oN 44 (oV 1), oN 45 (oV 0), oN 46 (oV 3), oN 47 (.un .neg (.t 46)), oN 48 (oV 4), oN 49 (.un .neg (.t 48)), oN 0 (oV 44), oN 1 (oV 45), oN 3 (oV 47), oN 4 (oV 49)]) .skip)) (.seq (.reg false 0 [oN 50 (oV 0), oN 51 (oV 1), oN 52 (oV 2), oN 53 (.call 36 [(.t 52)]), oN 54 (oV 3), oN 55 (.call 36 [(.t 54)]), oN 56 (oV 4), oN 57 (.call 36 [(.t 56)]), oN 58 (.build [.int .i64 0, .int .i64 0, .bool false, .nils, .nils, .bool false, .nils, .nils, .bool false, .nils, .nils] [(0, 1, (.t 50)), (1, 1, (.t 51)), (2, 3, (.t 53)), (5, 3, (.t 55)), (8, 3, (.t 57))]), oS (.store 11 (.t 10) (.t 58)), oN 11 (.mov (.c (.bool true)))]) .ret))))⟩
structure D_spec_NewLink (T : Nat → Option Fn) : Prop where
  hT : T 14 = some F_spec_NewLink
  d_spec_l06Node : D_spec_l06Node T
  d_spec_l01In : D_spec_l01In T
  d_spec_RatFromInt : D_spec_RatFromInt T
end Go.Ml
end
section
set_option linter.unusedSimpArgs false
set_option linter.unusedVariables false
set_option maxRecDepth 100000
set_option maxHeartbeats 4000000
namespace Go.Ml
def F_impl_comesBefore : Fn := ⟨2, 24, [.tmp 4], (.seq (.reg false 2 [oN 2 (.box (.t 0)), oK 3 1 (.box (.t 1)), oK 4 2 (.mov (.c (.bool false)))]) (.seq (.reg false 0 [oN 5 (.fld 0 (.t 2)), oN 6 (.load 1 false (.t 5)), oN 7 (.fld 0 (.t 3)), oN 8 (.load 1 false (.t 7)), oN 9 (.bin .lss (.t 6) (.t 8)), oN 10 (oV 9), oG 10 false 11 (.fld 0 (.t 2)), oG 10 false 12 (.load 1 false (.t 11)), oG 10 false 13 (.fld 0 (.t 3)), oG 10 false 14 (.load 1 false (.t 13)), oG 10 false 15 (.bin .eql (.t 12) (.t 14)), oG 10 false 16 (oV 15), oG 16 true 17 (.fld 1 (.t 2)), oG 16 true 18 (.load 1 false (.t 17)), oG 16 true 19 (.fld 1 (.t 3)), oG 16 true 20 (.load 1 false (.t 19)), oG 16 true 21 (.bin .lss (.t 18) (.t 20)), oG 10 false 22 (.pick (.t 16) (.t 21) (.c (.bool false))), oN 23 (.pick (.t 10) (.c (.bool true)) (.t 22)), oN 4 (oV 23)]) .ret))⟩
structure D_impl_comesBefore (T : Nat → Option Fn) : Prop where
  hT : T 111 = some F_impl_comesBefore
def F_impl_IsLinkSet : Fn := ⟨1, 30, [.tmp 2], (.seq (.reg false 0 [oN 2 (.mov (.c (.bool false)))]) (.seq (.seq (.reg false 0 [oN 5 (oV 0), oN 6 (.len (.t 5)), oN 7 (.mov (cI 0))]) (.block 0 (.loop (.seq (.reg false 0 [oN 8 (.bin .lss (.t 7) (.t 6))]) (.seq (.cond (.t 8) .skip (.exit 0)) (.seq (.block 1 (.seq (.reg false 1 [oK 9 1 (oV 7), oK 10 1 (.idx 11 (.t 5) (.t 7)), oK 11 1 (.load 11 true (.t 10)), oN 4 (.alloc [.int .i64 0, .int .i64 0, .bool false, .nils, .nils, .bool false, .nils, .nils, .bool false, .nils, .nils]), oK 3 1 (oV 9), ⟨none, none, 1, .store 11 (.t 4) (.t 11), []⟩]) (.seq (.reg true 0 [oN 12 (.load 11 true (.t 4)), oA 13 0 (.call 84 [(.t 12)]) [0], oA 14 0 (.un .not (.t 13)) [1], oA 15 0 (oV 14) [2, 1], oH 15 false 16 0 (oV 3) [3], oH 15 false 17 0 (.bin .gtr (.t 16) (cI 0)) [4, 3], oH 15 false 18 0 (oV 17) [5, 3, 3], oH 18 true 19 0 (oV 0) [6], oH 18 true 20 0 (oV 3) [6], oH 18 true 21 0 (.bin .sub (.t 20) (cI 1)) [8, 6], oH 18 true 22 0 (.idx 11 (.t 19) (.t 21)) [7, 9, 6], oH 18 true 23 0 (.load 11 true (.t 22)) [10, 6], oH 18 true 24 0 (.load 11 true (.t 4)) [6], oH 18 true 25 0 (.call 111 [(.t 23), (.t 24)]) [11, 12, 6, 6], oH 18 true 26 0 (.un .not (.t 25)) [13, 6], oH 15 false 27 0 (.pick (.t 18) (.t 26) (.c (.bool false))) [6, 14, 3], oA 28 0 (.pick (.t 15) (.c (.bool true)) (.t 27)) [3, 15]]) (.cond (.t 28) (.seq (.reg false 0 [oN 2 (.mov (.c (.bool false)))]) .ret) .skip)))) (.reg false 0 [oN 29 (.bin .add (.t 7) (cI 1)), oN 7 (oV 29)]))))))) (.seq (.reg false 0 [oN 2 (.mov (.c (.bool true)))]) .ret)))⟩
structure D_impl_IsLinkSet (T : Nat → Option Fn) : Prop where
  hT : T 89 = some F_impl_IsLinkSet
  d_impl_IsValidLink : D_impl_IsValidLink T
  d_impl_comesBefore : D_impl_comesBefore T
def F_spec_l06Less : Fn := ⟨2, 24, [.tmp 4], (.seq (.reg false 2 [oN 2 (.box (.t 0)), oK 3 1 (.box (.t 1)), oK 4 2 (.mov (.c (.bool false)))]) (.seq (.reg false 0 [oN 5 (.fld 0 (.t 2)), oN 6 (.load 1 false (.t 5)), oN 7 (.fld 0 (.t 3)), oN 8 (.load 1 false (.t 7)), oN 9 (.bin .lss (.t 6) (.t 8)), oN 10 (oV 9), oG 10 false 11 (.fld 0 (.t 2)), oG 10 false 12 (.load 1 false (.t 11)), oG 10 false 13 (.fld 0 (.t 3)), oG 10 false 14 (.load 1 false (.t 13)), oG 10 false 15 (.bin .eql (.t 12) (.t 14)), oG 10 false 16 (oV 15), oG 16 true 17 (.fld 1 (.t 2)), oG 16 true 18 (.load 1 false (.t 17)), oG 16 true 19 (.fld 1 (.t 3)), oG 16 true 20 (.load 1 false (.t 19)), oG 16 true 21 (.bin .lss (.t 18) (.t 20)), oG 10 false 22 (.pick (.t 16) (.t 21) (.c (.bool false))), oN 23 (.pick (.t 10) (.c (.bool true)) (.t 22)), oN 4 (oV 23)]) .ret))⟩
structure D_spec_l06Less (T : Nat → Option Fn) : Prop where
  hT : T 195 = some F_spec_l06Less
def F_spec_IsLinkSet : Fn := ⟨1, 30, [.tmp 2], (.seq (.reg false 0 [oN 2 (.mov (.c (.bool false)))]) (.seq (.seq (.reg false 0 [oN 5 (oV 0), oN 6 (.len (.t 5)), oN 7 (.mov (cI 0))]) (.block 0 (.loop (.seq (.reg false 0 [oN 8 (.bin .lss (.t 7) (.t 6))]) (.seq (.cond (.t 8) .skip (.exit 0)) (.seq (.block 1 (.seq (.reg false 1 [oK 9 1 (oV 7), oK 10 1 (.idx 11 (.t 5) (.t 7)), oK 11 1 (.load 11 true (.t 10)), oN 4 (.alloc [.int .i64 0, .int .i64 0, .bool false, .nils, .nils, .bool false, .nils, .nils, .bool false, .nils, .nils]), oK 3 1 (oV 9), ⟨none, none, 1, .store 11 (.t 4) (.t 11), []⟩]) (.seq (.reg true 0 [oN 12 (.load 11 true (.t 4)), oA 13 0 (.call 83 [(.t 12)]) [0], oA 14 0 (.un .not (.t 13)) [1], oA 15 0 (oV 14) [2, 1], oH 15 false 16 0 (oV 3) [3], oH 15 false 17 0 (.bin .gtr (.t 16) (cI 0)) [4, 3], oH 15 false 18 0 (oV 17) [5, 3, 3], oH 18 true 19 0 (oV 0) [6], oH 18 true 20 0 (oV 3) [6], oH 18 true 21 0 (.bin .sub (.t 20) (cI 1)) [8, 6], oH 18 true 22 0 (.idx 11 (.t 19) (.t 21)) [7, 9, 6], oH 18 true 23 0 (.load 11 true (.t 22)) [10, 6], oH 18 true 24 0 (.load 11 true (.t 4)) [6], oH 18 true 25 0 (.call 195 [(.t 23), (.t 24)]) [11, 12, 6, 6], oH 18 true 26 0 (.un .not (.t 25)) [13, 6], oH 15 false 27 0 (.pick (.t 18) (.t 26) (.c (.bool false))) [6, 14, 3], oA 28 0 (.pick (.t 15) (.c (.bool true)) (.t 27)) [3, 15]]) (.cond (.t 28) (.seq (.reg false 0 [oN 2 (.mov (.c (.bool false)))]) .ret) .skip)))) (.reg false 0 [oN 29 (.bin .add (.t 7) (cI 1)), oN 7 (oV 29)]))))))) (.seq (.reg false 0 [oN 2 (.mov (.c (.bool true)))]) .ret)))⟩
structure D_spec_IsLinkSet (T : Nat → Option Fn) : Prop where
  hT : T 193 = some F_spec_IsLinkSet
  d_spec_IsValidLink : D_spec_IsValidLink T
  d_spec_l06Less : D_spec_l06Less T
def F_impl_IsMatrix : Fn := ⟨2, 33, [.tmp 4], (.seq (.reg false 0 [oN 4 (.mov (.c (.bool false)))]) (.seq (.seq (.reg false 0 [oN 9 (oV 0), oN 10 (.len (.t 9)), oN 11 (.bin .gtr (.t 10) (cI 10))]) (.cond (.t 11) (.seq (.reg false 0 [oN 4 (.mov (.c (.bool false)))]) .ret) .skip)) (.seq (.seq (.reg false 0 [oN 12 (oV 0), oN 13 (.len (.t 12)), oN 14 (.mov (cI 0))]) (.block 0 (.loop (.seq (.reg false 0 [oN 15 (.bin .lss (.t 14) (.t 13))]) (.seq (.cond (.t 15) .skip (.exit 0)) (.seq (.block 1 (.seq (.reg false 0 [oN 16 (.idx 1 (.t 12) (.t 14)), oN 17 (.load 1 false (.t 16)), oN 6 (oV 17)]) (.seq (.seq (.reg false 0 [oN 18 (oV 6), oN 19 (.len (.t 18)), oN 20 (oV 1), oN 21 (.bin .neq (.t 19) (.t 20))]) (.cond (.t 21) (.seq (.reg false 0 [oN 4 (.mov (.c (.bool false)))]) .ret) .skip)) (.seq (.reg false 0 [oN 22 (oV 6), oN 23 (.len (.t 22)), oN 24 (.mov (cI 0))]) (.block 2 (.loop (.seq (.reg false 0 [oN 25 (.bin .lss (.t 24) (.t 23))]) (.seq (.cond (.t 25) .skip (.exit 2)) (.seq (.block 3 (.seq (.reg false 1 [oK 26 1 (.idx 3 (.t 22) (.t 24)), oK 27 1 (.load 3 true (.t 26)), oN 8 (.alloc [.bool false, .nils, .nils]), ⟨none, none, 1, .store 3 (.t 8) (.t 27), []⟩]) (.seq (.reg false 0 [oN 28 (.load 3 true (.t 8)), oN 29 (.call 102 [(.t 28)]), oN 30 (.un .not (.t 29))]) (.cond (.t 30) (.seq (.reg false 0 [oN 4 (.mov (.c (.bool false)))]) .ret) .skip)))) (.reg false 0 [oN 31 (.bin .add (.t 24) (cI 1)), oN 24 (oV 31)])))))))))) (.reg false 0 [oN 32 (.bin .add (.t 14) (cI 1)), oN 14 (oV 32)]))))))) (.seq (.reg false 0 [oN 4 (.mov (.c (.bool true)))]) .ret))))⟩
structure D_impl_IsMatrix (T : Nat → Option Fn) : Prop where
  hT : T 93 = some F_impl_IsMatrix
  d_impl_RatOk : D_impl_RatOk T
def F_spec_IsMatrix : Fn := ⟨2, 33, [.tmp 4], (.seq (.reg false 0 [oN 4 (.mov (.c (.bool false)))]) (.seq (.seq (.reg false 0 [oN 9 (oV 0), oN 10 (.len (.t 9)), oN 11 (.mov (cI 0))]) (.block 0 (.loop (.seq (.reg false 0 [oN 12 (.bin .lss (.t 11) (.t 10))]) (.seq (.cond (.t 12) .skip (.exit 0)) (.seq (.block 1 (.seq (.reg false 0 [oN 13 (.idx 1 (.t 9) (.t 11)), oN 14 (.load 1 false (.t 13)), oN 6 (oV 14)]) (.seq (.seq (.reg false 0 [oN 15 (oV 6), oN 16 (.len (.t 15)), oN 17 (oV 1), oN 18 (.bin .neq (.t 16) (.t 17))]) (.cond (.t 18) (.seq (.reg false 0 [oN 4 (.mov (.c (.bool false)))]) .ret) .skip)) (.seq (.reg false 0 [oN 19 (oV 6), oN 20 (.len (.t 19)), oN 21 (.mov (cI 0))]) (.block 2 (.loop (.seq (.reg false 0 [oN 22 (.bin .lss (.t 21) (.t 20))]) (.seq (.cond (.t 22) .skip (.exit 2)) (.seq (.block 3 (.seq (.reg false 1 [oK 23 1 (.idx 3 (.t 19) (.t 21)), oK 24 1 (.load 3 true (.t 23)), oN 8 (.alloc [.bool false, .nils, .nils]), ⟨none, none, 1, .store 3 (.t 8) (.t 24), []⟩]) (.seq (.reg false 0 [oN 25 (.load 3 true (.t 8)), oN 26 (.call 100 [(.t 25)]), oN 27 (.un .not (.t 26))]) (.cond (.t 27) (.seq (.reg false 0 [oN 4 (.mov (.c (.bool false)))]) .ret) .skip)))) (.reg false 0 [oN 28 (.bin .add (.t 21) (cI 1)), oN 21 (oV 28)])))))))))) (.reg false 0 [oN 29 (.bin .add (.t 11) (cI 1)), oN 11 (oV 29)]))))))) (.seq (.reg false 0 [oN 30 (oV 0), oN 31 (.len (.t 30)), oN 32 (.bin .leq (.t 31) (cI 10)), oN 4 (oV 32)]) .ret)))⟩
structure D_spec_IsMatrix (T : Nat → Option Fn) : Prop where
  hT : T 91 = some F_spec_IsMatrix
  d_spec_RatOk : D_spec_RatOk T
def lkLess (k l : Lk) : Bool := decide (k.a < l.a) || (decide (k.a = l.a) && decide (k.b < l.b))
def allB (n : Nat) (p : Nat → Bool) : Bool := decide (∀ i, i < n → p i = true)
def lksAt (l : List Lk) (i : Nat) : Bool := lkOk (l.getD i default) && (decide (i = 0) || lkLess (l.getD (i - 1) default) (l.getD i default))
def lksOk (l : List Lk) : Bool := allB l.length (lksAt l)
end Go.Ml
end
section
set_option linter.unusedSimpArgs false
set_option linter.unusedVariables false
set_option maxRecDepth 100000
set_option maxHeartbeats 4000000
namespace Go.Ml
def F_spec_l07Put : Fn := ⟨2, 48, [.tmp 4], (.seq (.reg false 0 [oN 4 (.mov (.c (.nils)))]) (.seq (.reg false 0 [oN 5 (.mov (cI 0))]) (.seq (.block 0 (.loop (.seq (.seq (.reg false 0 [oN 7 (oV 5), oN 8 (oV 0), oN 9 (.len (.t 8)), oN 10 (.bin .lss (.t 7) (.t 9)), oN 11 (oV 10), oG 11 true 12 (oV 0), oG 11 true 13 (oV 5), oG 11 true 14 (.idx 1 (.t 12) (.t 13)), oG 11 true 15 (.load 1 false (.t 14)), oG 11 true 16 (oV 1), oG 11 true 17 (.bin .lss (.t 15) (.t 16)), oN 18 (.pick (.t 11) (.t 17) (.c (.bool false)))]) (.cond (.t 18) .skip (.exit 0))) (.block 1 (.reg false 0 [oN 19 (oV 5), oN 20 (.bin .add (.t 19) (cI 1)), oN 5 (oV 20)]))))) (.seq (.seq (.reg false 0 [oN 21 (oV 5), oN 22 (oV 0), oN 23 (.len (.t 22)), oN 24 (.bin .lss (.t 21) (.t 23)), oN 25 (oV 24), oG 25 true 26 (oV 0), oG 25 true 27 (oV 5), oG 25 true 28 (.idx 1 (.t 26) (.t 27)), oG 25 true 29 (.load 1 false (.t 28)), oG 25 true 30 (oV 1), oG 25 true 31 (.bin .eql (.t 29) (.t 30)), oN 32 (.pick (.t 25) (.t 31) (.c (.bool false)))]) (.cond (.t 32) (.seq (.reg false 0 [oN 33 (oV 0), oN 4 (oV 33)]) .ret) .skip)) (.seq (.reg false 2 [oN 34 (.mkSl 1 [.int .i64 0] 0 []), oK 35 2 (oV 0), oK 36 2 (oV 5), oK 37 2 (.slice 1 (.t 35) none (some (.t 36))), oK 38 1 (.app 1 8 (.t 34) (.t 37)), oK 6 2 (oV 38)]) (.seq (.reg false 2 [oK 39 2 (oV 6), oK 40 2 (oV 1), oN 41 (.mkSl 1 [.int .i64 0] 1 [(0, (.t 40))]), oK 42 1 (.app 1 8 (.t 39) (.t 41)), oK 6 2 (oV 42)]) (.seq (.reg false 1 [oK 43 1 (oV 6), oK 44 1 (oV 0), oK 45 1 (oV 5), oK 46 1 (.slice 1 (.t 44) (some (.t 45)) none), oN 47 (.app 1 8 (.t 43) (.t 46)), oK 4 1 (oV 47)]) .ret)))))))⟩
structure D_spec_l07Put (T : Nat → Option Fn) : Prop where
  hT : T 237 = some F_spec_l07Put
def F_spec_NodesOf : Fn := ⟨1, 29, [.tmp 2], (.seq (.reg false 0 [oN 2 (.mov (.c (.nils)))]) (.seq (.reg false 1 [oN 6 (.mkSl 1 [.int .i64 0] 0 []), oK 3 1 (oV 6)]) (.seq (.seq (.reg false 0 [oN 7 (oV 0), oN 8 (.call 193 [(.t 7)]), oN 9 (.un .not (.t 8))]) (.cond (.t 9) (.seq (.reg false 0 [oN 2 (.mov (.c (.nils)))]) .ret) .skip)) (.seq (.seq (.reg false 0 [oN 10 (oV 0), oN 11 (.len (.t 10)), oN 12 (.mov (cI 0))]) (.block 0 (.loop (.seq (.reg false 0 [oN 13 (.bin .lss (.t 12) (.t 11))]) (.seq (.cond (.t 13) .skip (.exit 0)) (.seq (.block 1 (.seq (.reg false 1 [oK 14 1 (.idx 11 (.t 10) (.t 12)), oK 15 1 (.load 11 true (.t 14)), oN 5 (.alloc [.int .i64 0, .int .i64 0, .bool false, .nils, .nils, .bool false, .nils, .nils, .bool false, .nils, .nils]), ⟨none, none, 1, .store 11 (.t 5) (.t 15), []⟩]) (.seq (.seq (.reg false 0 [oN 16 (.fld 0 (.t 5)), oN 17 (.load 1 false (.t 16)), oN 18 (.bin .gtr (.t 17) (cI 0))]) (.cond (.t 18) (.reg false 0 [oN 19 (oV 3), oN 20 (.fld 0 (.t 5)), oN 21 (.load 1 false (.t 20)), oN 22 (.call 237 [(.t 19), (.t 21)]), oN 3 (oV 22)]) .skip)) (.reg false 0 [oN 23 (oV 3), oN 24 (.fld 1 (.t 5)), oN 25 (.load 1 false (.t 24)), oN 26 (.call 237 [(.t 23), (.t 25)]), oN 3 (oV 26)])))) (.reg false 0 [oN 27 (.bin .add (.t 12) (cI 1)), oN 12 (oV 27)]))))))) (.seq (.reg false 0 [oN 28 (oV 3), oN 2 (oV 28)]) .ret)))))⟩
structure D_spec_NodesOf (T : Nat → Option Fn) : Prop where
  hT : T 222 = some F_spec_NodesOf
  d_spec_IsLinkSet : D_spec_IsLinkSet T
  d_spec_l07Put : D_spec_l07Put T
def F_impl_nodesOf : Fn := ⟨1, 34, [.tmp 2], (.seq (.reg false 0 [oN 2 (.mov (.c (.nils)))]) (.seq (.reg false 1 [oN 7 (.mkSl 1 [.int .i64 0] 0 []), oK 3 1 (oV 7)]) (.seq (.seq (.reg false 0 [oN 4 (.mov (cI 1))]) (.block 0 (.loop (.seq (.seq (.reg false 0 [oN 8 (oV 4), oN 9 (.bin .lss (.t 8) (cI 10))]) (.cond (.t 9) .skip (.exit 0))) (.seq (.block 1 (.seq (.reg false 0 [oN 12 (oV 0), oN 13 (.len (.t 12)), oN 14 (.mov (cI 0))]) (.block 2 (.loop (.seq (.reg false 0 [oN 15 (.bin .lss (.t 14) (.t 13))]) (.seq (.cond (.t 15) .skip (.exit 2)) (.seq (.block 3 (.seq (.reg false 1 [oK 16 1 (.idx 11 (.t 12) (.t 14)), oK 17 1 (.load 11 true (.t 16)), oN 6 (.alloc [.int .i64 0, .int .i64 0, .bool false, .nils, .nils, .bool false, .nils, .nils, .bool false, .nils, .nils]), ⟨none, none, 1, .store 11 (.t 6) (.t 17), []⟩]) (.seq (.reg false 0 [oN 18 (.fld 0 (.t 6)), oN 19 (.load 1 false (.t 18)), oN 20 (oV 4), oN 21 (.bin .eql (.t 19) (.t 20)), oN 22 (oV 21), oG 22 false 23 (.fld 1 (.t 6)), oG 22 false 24 (.load 1 false (.t 23)), oG 22 false 25 (oV 4), oG 22 false 26 (.bin .eql (.t 24) (.t 25)), oN 27 (.pick (.t 22) (.c (.bool true)) (.t 26))]) (.cond (.t 27) (.seq (.reg false 2 [oK 28 2 (oV 3), oK 29 2 (oV 4), oN 30 (.mkSl 1 [.int .i64 0] 1 [(0, (.t 29))]), oK 31 1 (.app 1 8 (.t 28) (.t 30)), oK 3 2 (oV 31)]) (.exit 2)) .skip)))) (.reg false 0 [oN 32 (.bin .add (.t 14) (cI 1)), oN 14 (oV 32)])))))))) (.reg false 0 [oN 10 (oV 4), oN 11 (.bin .add (.t 10) (cI 1)), oN 4 (oV 11)])))))) (.seq (.reg false 0 [oN 33 (oV 3), oN 2 (oV 33)]) .ret))))⟩
structure D_impl_nodesOf (T : Nat → Option Fn) : Prop where
  hT : T 180 = some F_impl_nodesOf
def F_impl_NodesOf : Fn := ⟨1, 8, [.tmp 2], (.seq (.reg false 0 [oN 2 (.mov (.c (.nils)))]) (.seq (.seq (.reg false 0 [oN 3 (oV 0), oN 4 (.call 89 [(.t 3)]), oN 5 (.un .not (.t 4))]) (.cond (.t 5) (.seq (.reg false 0 [oN 2 (.mov (.c (.nils)))]) .ret) .skip)) (.seq (.reg false 0 [oN 6 (oV 0), oN 7 (.call 180 [(.t 6)]), oN 2 (oV 7)]) .ret)))⟩
structure D_impl_NodesOf (T : Nat → Option Fn) : Prop where
  hT : T 172 = some F_impl_NodesOf
  d_impl_IsLinkSet : D_impl_IsLinkSet T
  d_impl_nodesOf : D_impl_nodesOf T
def ends (l : List Lk) (v : Int) : Bool := l.any fun x => decide (x.a = v) || decide (x.b = v)
def nodesI (l : List Lk) (v : Nat) : List Int := ((List.range v).filter fun (u : Nat) => decide (1 ≤ u) && ends l u).map fun u => ((u : Nat) : Int)
end Go.Ml
end
section
set_option linter.unusedSimpArgs false
namespace Go.Ml
def inB (a lo hi : Int) : Bool := decide (lo ≤ a) && decide (a ≤ hi)
def paAt (c : Cd) (i : Nat) : Bool :=
  inB (c.ps.getD i default).node 0 9 && !decide ((c.ps.getD i default).node = c.node) && (decide (i = 0) || decide ((c.ps.getD (i - 1) default).node < (c.ps.getD i default).node)) &&
    decide (0 < sgnR (c.ps.getD i default).share) && (c.ps.getD i default).dx.ok && (c.ps.getD i default).dy.ok
def sumS (l : List Pa) (n : Nat) : R := (l.take n).foldl (fun s p => addR s p.share) (intR 0)
def paOk (c : Cd) : Prop := ∀ i, i < c.ps.length → paAt c i = true
instance (c : Cd) : Decidable (paOk c) := inferInstanceAs (Decidable (∀ i, i < c.ps.length → paAt c i = true))
def cdOk (c : Cd) : Bool := decide (paOk c) && inB c.node 1 9 && decide (0 < sgnR c.total) && !c.ps.isEmpty && decide (sumS c.ps c.ps.length = intR 1)
end Go.Ml
end
section
set_option linter.unusedSimpArgs false
set_option linter.unusedVariables false
set_option maxRecDepth 100000
set_option maxHeartbeats 4000000
namespace Go.Ml
def F_impl_IsValidConditional : Fn := ⟨1, 86, [.tmp 2], (.seq (.reg false 1 [oN 1 (.box (.t 0)), oK 2 1 (.mov (.c (.bool false)))]) (.seq (.seq (.reg false 0 [oN 6 (.fld 0 (.t 1)), oN 7 (.load 1 false (.t 6)), oN 8 (.bin .lss (.t 7) (cI 1)), oN 9 (oV 8), oG 9 false 10 (.fld 0 (.t 1)), oG 9 false 11 (.load 1 false (.t 10)), oG 9 false 12 (.bin .geq (.t 11) (cI 10)), oN 13 (.pick (.t 9) (.c (.bool true)) (.t 12)), oN 14 (oV 13), oG 14 false 15 (.fld 1 (.t 1)), oG 14 false 16 (.load 3 true (.t 15)), oG 14 false 17 (.call 101 [(.t 16)]), oG 14 false 18 (.bin .leq (.t 17) (cI 0)), oN 19 (.pick (.t 14) (.c (.bool true)) (.t 18)), oN 20 (oV 19), oG 20 false 21 (.fld 4 (.t 1)), oG 20 false 22 (.load 1 false (.t 21)), oG 20 false 23 (.len (.t 22)), oG 20 false 24 (.bin .eql (.t 23) (cI 0)), oN 25 (.pick (.t 20) (.c (.bool true)) (.t 24))]) (.cond (.t 25) (.seq (.reg false 0 [oN 2 (.mov (.c (.bool false)))]) .ret) .skip)) (.seq (.reg false 1 [oK 26 1 (.call 39 [(cI 0)]), oN 3 (.alloc [.bool false, .nils, .nils]), ⟨none, none, 1, .store 3 (.t 3) (.t 26), []⟩]) (.seq (.seq (.reg false 0 [oN 27 (.fld 4 (.t 1)), oN 28 (.load 1 false (.t 27)), oN 29 (.len (.t 28)), oN 30 (.mov (cI 0))]) (.block 0 (.loop (.seq (.reg false 0 [oN 31 (.bin .lss (.t 30) (.t 29))]) (.seq (.cond (.t 31) .skip (.exit 0)) (.seq (.block 1 (.seq (.reg false 1 [oK 32 1 (oV 30), oK 33 1 (.idx 10 (.t 28) (.t 30)), oK 34 1 (.load 10 true (.t 33)), oN 5 (.alloc [.int .i64 0, .bool false, .nils, .nils, .bool false, .nils, .nils, .bool false, .nils, .nils]), oK 4 1 (oV 32), ⟨none, none, 1, .store 10 (.t 5) (.t 34), []⟩]) (.seq (.seq (.reg true 0 [oN 35 (.fld 0 (.t 5)), oA 36 0 (.load 1 false (.t 35)) [0], oA 37 0 (.call 37 [(.t 36)]) [1], oA 38 0 (.un .not (.t 37)) [2], oA 39 0 (oV 38) [3, 2], oH 39 false 40 0 (.fld 0 (.t 5)) [4], oH 39 false 41 0 (.load 1 false (.t 40)) [5, 4], oH 39 false 42 0 (.fld 0 (.t 1)) [4], oH 39 false 43 0 (.load 1 false (.t 42)) [7, 4], oH 39 false 44 0 (.bin .eql (.t 41) (.t 43)) [6, 8, 4], oA 45 0 (.pick (.t 39) (.c (.bool true)) (.t 44)) [4, 9], oA 46 0 (oV 45) [10, 4], oH 46 false 47 0 (oV 4) [11], oH 46 false 48 0 (.bin .gtr (.t 47) (cI 0)) [12, 11], oH 46 false 49 0 (oV 48) [13, 11, 11], oH 49 true 50 0 (.fld 4 (.t 1)) [14], oH 49 true 51 0 (.load 1 false (.t 50)) [15, 14], oH 49 true 52 0 (oV 4) [14], oH 49 true 53 0 (.bin .sub (.t 52) (cI 1)) [17, 14], oH 49 true 54 0 (.idx 10 (.t 51) (.t 53)) [16, 18, 14], oH 49 true 55 0 (.fld 0 (.t 54)) [19, 14], oH 49 true 56 0 (.load 1 false (.t 55)) [20, 14], oH 49 true 57 0 (.fld 0 (.t 5)) [14], oH 49 true 58 0 (.load 1 false (.t 57)) [22, 14], oH 49 true 59 0 (.bin .geq (.t 56) (.t 58)) [21, 23, 14], oH 46 false 60 0 (.pick (.t 49) (.t 59) (.c (.bool false))) [14, 24, 11], oA 61 0 (.pick (.t 46) (.c (.bool true)) (.t 60)) [11, 25]]) (.cond (.t 61) (.seq (.reg false 0 [oN 2 (.mov (.c (.bool false)))]) .ret) .skip)) (.seq (.seq (.reg false 0 [oN 62 (.fld 1 (.t 5)), oN 63 (.load 3 true (.t 62)), oN 64 (.call 101 [(.t 63)]), oN 65 (.bin .leq (.t 64) (cI 0)), oN 66 (oV 65), oG 66 false 67 (.fld 4 (.t 5)), oG 66 false 68 (.load 3 true (.t 67)), oG 66 false 69 (.call 102 [(.t 68)]), oG 66 false 70 (.un .not (.t 69)), oN 71 (.pick (.t 66) (.c (.bool true)) (.t 70)), oN 72 (oV 71), oG 72 false 73 (.fld 7 (.t 5)), oG 72 false 74 (.load 3 true (.t 73)), oG 72 false 75 (.call 102 [(.t 74)]), oG 72 false 76 (.un .not (.t 75)), oN 77 (.pick (.t 72) (.c (.bool true)) (.t 76))]) (.cond (.t 77) (.seq (.reg false 0 [oN 2 (.mov (.c (.bool false)))]) .ret) .skip)) (.reg false 0 [oN 78 (.load 3 true (.t 3)), oN 79 (.fld 1 (.t 5)), oN 80 (.load 3 true (.t 79)), oN 81 (.call 131 [(.t 78), (.t 80)]), oS (.store 3 (.t 3) (.t 81))]))))) (.reg false 0 [oN 82 (.bin .add (.t 30) (cI 1)), oN 30 (oV 82)]))))))) (.seq (.reg true 0 [oN 83 (.load 3 true (.t 3)), oN 84 (.call 39 [(cI 1)]), oA 85 0 (.call 32 [(.t 83), (.t 84)]) [0, 1, 1], oA 2 0 (oV 85) [2, 2, 0, 1, 2]]) .ret)))))⟩
structure D_impl_IsValidConditional (T : Nat → Option Fn) : Prop where
  hT : T 185 = some F_impl_IsValidConditional
  d_impl_RatEqual : D_impl_RatEqual T
  d_impl_isNode : D_impl_isNode T
  d_impl_RatFromInt : D_impl_RatFromInt T
  d_impl_RatSign : D_impl_RatSign T
  d_impl_RatOk : D_impl_RatOk T
  d_impl_ratAdd : D_impl_ratAdd T
def F_spec_IsValidConditional : Fn := ⟨1, 85, [.tmp 2], (.seq (.reg false 1 [oN 1 (.box (.t 0)), oK 2 1 (.mov (.c (.bool false)))]) (.seq (.reg false 1 [oK 6 1 (.call 36 [(cI 0)]), oN 3 (.alloc [.bool false, .nils, .nils]), ⟨none, none, 1, .store 3 (.t 3) (.t 6), []⟩]) (.seq (.seq (.reg false 0 [oN 7 (.fld 4 (.t 1)), oN 8 (.load 1 false (.t 7)), oN 9 (.len (.t 8)), oN 10 (.mov (cI 0))]) (.block 0 (.loop (.seq (.reg false 0 [oN 11 (.bin .lss (.t 10) (.t 9))]) (.seq (.cond (.t 11) .skip (.exit 0)) (.seq (.block 1 (.seq (.reg false 1 [oK 12 1 (oV 10), oK 13 1 (.idx 10 (.t 8) (.t 10)), oK 14 1 (.load 10 true (.t 13)), oN 5 (.alloc [.int .i64 0, .bool false, .nils, .nils, .bool false, .nils, .nils, .bool false, .nils, .nils]), oK 4 1 (oV 12), ⟨none, none, 1, .store 10 (.t 5) (.t 14), []⟩]) (.seq (.seq (.reg true 0 [oN 15 (.fld 0 (.t 5)), oA 16 0 (.load 1 false (.t 15)) [0], oA 17 0 (.call 34 [(.t 16)]) [1], oA 18 0 (.un .not (.t 17)) [2], oA 19 0 (oV 18) [3, 2], oH 19 false 20 0 (.fld 0 (.t 5)) [4], oH 19 false 21 0 (.load 1 false (.t 20)) [5, 4], oH 19 false 22 0 (.fld 0 (.t 1)) [4], oH 19 false 23 0 (.load 1 false (.t 22)) [7, 4], oH 19 false 24 0 (.bin .eql (.t 21) (.t 23)) [6, 8, 4], oA 25 0 (.pick (.t 19) (.c (.bool true)) (.t 24)) [4, 9], oA 26 0 (oV 25) [10, 4], oH 26 false 27 0 (oV 4) [11], oH 26 false 28 0 (.bin .gtr (.t 27) (cI 0)) [12, 11], oH 26 false 29 0 (oV 28) [13, 11, 11], oH 29 true 30 0 (.fld 4 (.t 1)) [14], oH 29 true 31 0 (.load 1 false (.t 30)) [15, 14], oH 29 true 32 0 (oV 4) [14], oH 29 true 33 0 (.bin .sub (.t 32) (cI 1)) [17, 14], oH 29 true 34 0 (.idx 10 (.t 31) (.t 33)) [16, 18, 14], oH 29 true 35 0 (.fld 0 (.t 34)) [19, 14], oH 29 true 36 0 (.load 1 false (.t 35)) [20, 14], oH 29 true 37 0 (.fld 0 (.t 5)) [14], oH 29 true 38 0 (.load 1 false (.t 37)) [22, 14], oH 29 true 39 0 (.bin .geq (.t 36) (.t 38)) [21, 23, 14], oH 26 false 40 0 (.pick (.t 29) (.t 39) (.c (.bool false))) [14, 24, 11], oA 41 0 (.pick (.t 26) (.c (.bool true)) (.t 40)) [11, 25], oA 42 0 (oV 41) [26, 14], oH 42 false 43 0 (.fld 1 (.t 5)) [27], oH 42 false 44 0 (.load 3 true (.t 43)) [28, 27], oH 42 false 45 0 (.call 99 [(.t 44)]) [29, 27, 27], oH 42 false 46 0 (.bin .leq (.t 45) (cI 0)) [30, 27], oA 47 0 (.pick (.t 42) (.c (.bool true)) (.t 46)) [27, 31], oA 48 0 (oV 47) [32, 30], oH 48 false 49 0 (.fld 4 (.t 5)) [33], oH 48 false 50 0 (.load 3 true (.t 49)) [34, 33], oH 48 false 51 0 (.call 100 [(.t 50)]) [35, 33, 33], oH 48 false 52 0 (.un .not (.t 51)) [36, 33], oA 53 0 (.pick (.t 48) (.c (.bool true)) (.t 52)) [33, 37], oA 54 0 (oV 53) [38, 36], oH 54 false 55 0 (.fld 7 (.t 5)) [39], oH 54 false 56 0 (.load 3 true (.t 55)) [40, 39], oH 54 false 57 0 (.call 100 [(.t 56)]) [41, 39, 39], oH 54 false 58 0 (.un .not (.t 57)) [42, 39], oA 59 0 (.pick (.t 54) (.c (.bool true)) (.t 58)) [39, 43]]) (.cond (.t 59) (.seq (.reg false 0 [oN 2 (.mov (.c (.bool false)))]) .ret) .skip)) (.reg false 0 [oN 60 (.load 3 true (.t 3)), oN 61 (.fld 1 (.t 5)), oN 62 (.load 3 true (.t 61)), oN 63 (.call 189 [(.t 60), (.t 62)]), oS (.store 3 (.t 3) (.t 63))])))) (.reg false 0 [oN 64 (.bin .add (.t 10) (cI 1)), oN 10 (oV 64)]))))))) (.seq (.reg true 0 [oN 65 (.fld 0 (.t 1)), oA 66 0 (.load 1 false (.t 65)) [0], oA 67 0 (.call 35 [(.t 66), (cI 1), (cI 9)]) [1], oA 68 0 (oV 67) [2, 2], oH 68 true 69 0 (.fld 1 (.t 1)) [3], oH 68 true 70 0 (.load 3 true (.t 69)) [4, 3], oH 68 true 71 0 (.call 99 [(.t 70)]) [5, 3, 3], oH 68 true 72 0 (.bin .gtr (.t 71) (cI 0)) [6, 3], oA 73 0 (.pick (.t 68) (.t 72) (.c (.bool false))) [3, 7], oA 74 0 (oV 73) [8, 6], oH 74 true 75 0 (.fld 4 (.t 1)) [9], oH 74 true 76 0 (.load 1 false (.t 75)) [10, 9], oH 74 true 77 0 (.len (.t 76)) [11, 9], oH 74 true 78 0 (.bin .gtr (.t 77) (cI 0)) [12, 9], oA 79 0 (.pick (.t 74) (.t 78) (.c (.bool false))) [9, 13], oA 80 0 (oV 79) [14, 9], oH 80 true 81 0 (.load 3 true (.t 3)) [15], oH 80 true 82 0 (.call 36 [(cI 1)]) [15, 15], oH 80 true 83 0 (.call 30 [(.t 81), (.t 82)]) [16, 17, 17, 15], oA 84 0 (.pick (.t 80) (.t 83) (.c (.bool false))) [15, 18], oA 2 0 (oV 84) [19, 18, 0, 1, 2, 3, 4, 5, 6, 7, 8, 9, 10, 11, 12, 13, 14, 15, 16, 17, 18, 19]]) .ret))))⟩
structure D_spec_IsValidConditional (T : Nat → Option Fn) : Prop where
  hT : T 294 = some F_spec_IsValidConditional
  d_spec_RatEqual : D_spec_RatEqual T
  d_spec_l06Node : D_spec_l06Node T
  d_spec_l01In : D_spec_l01In T
  d_spec_RatFromInt : D_spec_RatFromInt T
  d_spec_RatSign : D_spec_RatSign T
  d_spec_RatOk : D_spec_RatOk T
  d_spec_RatAdd : D_spec_RatAdd T
end Go.Ml
end
section
set_option linter.unusedSimpArgs false
namespace Go.Ml
def netAt (l : List Cd) (i : Nat) : Prop :=
  cdOk (l.getD i default) = true ∧ (∀ k, k < (l.getD i default).ps.length → ((l.getD i default).ps.getD k default).node = 0 ∨ ∃ j, i < j ∧ j < l.length ∧ (l.getD j default).node = ((l.getD i default).ps.getD k default).node) ∧
    ∀ j, i < j → j < l.length → (l.getD j default).node ≠ (l.getD i default).node
noncomputable instance (l : List Cd) : Decidable (∀ i, i < l.length → netAt l i) := Classical.propDecidable _
end Go.Ml
end
section
set_option linter.unusedSimpArgs false
set_option linter.unusedVariables false
set_option maxRecDepth 100000
set_option maxHeartbeats 4000000
namespace Go.Ml
def F_impl_hasInt : Fn := ⟨2, 17, [.tmp 4], (.seq (.reg false 0 [oN 4 (.mov (.c (.bool false)))]) (.seq (.seq (.reg false 0 [oN 7 (oV 0), oN 8 (.len (.t 7)), oN 9 (.mov (cI 0))]) (.block 0 (.loop (.seq (.reg false 0 [oN 10 (.bin .lss (.t 9) (.t 8))]) (.seq (.cond (.t 10) .skip (.exit 0)) (.seq (.block 1 (.seq (.reg false 0 [oN 11 (.idx 1 (.t 7) (.t 9)), oN 12 (.load 1 false (.t 11)), oN 6 (oV 12)]) (.seq (.reg false 0 [oN 13 (oV 6), oN 14 (oV 1), oN 15 (.bin .eql (.t 13) (.t 14))]) (.cond (.t 15) (.seq (.reg false 0 [oN 4 (.mov (.c (.bool true)))]) .ret) .skip)))) (.reg false 0 [oN 16 (.bin .add (.t 9) (cI 1)), oN 9 (oV 16)]))))))) (.seq (.reg false 0 [oN 4 (.mov (.c (.bool false)))]) .ret)))⟩
structure D_impl_hasInt (T : Nat → Option Fn) : Prop where
  hT : T 236 = some F_impl_hasInt
def F_spec_l07Has : Fn := ⟨2, 17, [.tmp 4], (.seq (.reg false 0 [oN 4 (.mov (.c (.bool false)))]) (.seq (.seq (.reg false 0 [oN 7 (oV 0), oN 8 (.len (.t 7)), oN 9 (.mov (cI 0))]) (.block 0 (.loop (.seq (.reg false 0 [oN 10 (.bin .lss (.t 9) (.t 8))]) (.seq (.cond (.t 10) .skip (.exit 0)) (.seq (.block 1 (.seq (.reg false 0 [oN 11 (.idx 1 (.t 7) (.t 9)), oN 12 (.load 1 false (.t 11)), oN 6 (oV 12)]) (.seq (.reg false 0 [oN 13 (oV 6), oN 14 (oV 1), oN 15 (.bin .eql (.t 13) (.t 14))]) (.cond (.t 15) (.seq (.reg false 0 [oN 4 (.mov (.c (.bool true)))]) .ret) .skip)))) (.reg false 0 [oN 16 (.bin .add (.t 9) (cI 1)), oN 9 (oV 16)]))))))) (.seq (.reg false 0 [oN 4 (.mov (.c (.bool false)))]) .ret)))⟩
structure D_spec_l07Has (T : Nat → Option Fn) : Prop where
  hT : T 235 = some F_spec_l07Has
end Go.Ml
end
section
set_option linter.unusedSimpArgs false
set_option linter.unusedVariables false
set_option maxRecDepth 100000
set_option maxHeartbeats 4000000
namespace Go.Ml
def F_spec_IsOrder : Fn := ⟨2, 41, [.tmp 4], (.seq (.reg false 0 [oN 4 (.mov (.c (.bool false)))]) (.seq (.reg false 0 [oN 9 (oV 0), oN 10 (.call 222 [(.t 9)]), oN 5 (oV 10)]) (.seq (.reg false 1 [oN 11 (.mkSl 1 [.int .i64 0] 0 []), oK 6 1 (oV 11)]) (.seq (.seq (.reg false 0 [oN 12 (oV 1), oN 13 (.len (.t 12)), oN 14 (.mov (cI 0))]) (.block 0 (.loop (.seq (.reg false 0 [oN 15 (.bin .lss (.t 14) (.t 13))]) (.seq (.cond (.t 15) .skip (.exit 0)) (.seq (.block 1 (.seq (.reg false 0 [oN 16 (.idx 1 (.t 12) (.t 14)), oN 17 (.load 1 false (.t 16)), oN 8 (oV 17)]) (.seq (.seq (.reg false 0 [oN 18 (oV 5), oN 19 (oV 8), oN 20 (.call 235 [(.t 18), (.t 19)]), oN 21 (.un .not (.t 20)), oN 22 (oV 21), oG 22 false 23 (oV 6), oG 22 false 24 (oV 8), oG 22 false 25 (.call 235 [(.t 23), (.t 24)]), oN 26 (.pick (.t 22) (.c (.bool true)) (.t 25))]) (.cond (.t 26) (.seq (.reg false 0 [oN 4 (.mov (.c (.bool false)))]) .ret) .skip)) (.reg false 2 [oK 27 2 (oV 6), oK 28 2 (oV 8), oN 29 (.mkSl 1 [.int .i64 0] 1 [(0, (.t 28))]), oK 30 1 (.app 1 8 (.t 27) (.t 29)), oK 6 2 (oV 30)])))) (.reg false 0 [oN 31 (.bin .add (.t 14) (cI 1)), oN 14 (oV 31)]))))))) (.seq (.reg false 0 [oN 32 (oV 0), oN 33 (.call 193 [(.t 32)]), oN 34 (oV 33), oG 34 true 35 (oV 1), oG 34 true 36 (.len (.t 35)), oG 34 true 37 (oV 5), oG 34 true 38 (.len (.t 37)), oG 34 true 39 (.bin .eql (.t 36) (.t 38)), oN 40 (.pick (.t 34) (.t 39) (.c (.bool false))), oN 4 (oV 40)]) .ret)))))⟩
structure D_spec_IsOrder (T : Nat → Option Fn) : Prop where
  hT : T 220 = some F_spec_IsOrder
  d_spec_IsLinkSet : D_spec_IsLinkSet T
  d_spec_NodesOf : D_spec_NodesOf T
  d_spec_l07Has : D_spec_l07Has T
def F_impl_IsOrder : Fn := ⟨2, 29, [.tmp 4], (.seq (.reg false 0 [oN 4 (.mov (.c (.bool false)))]) (.seq (.seq (.reg false 0 [oN 8 (oV 0), oN 9 (.call 89 [(.t 8)]), oN 10 (.un .not (.t 9))]) (.cond (.t 10) (.seq (.reg false 0 [oN 4 (.mov (.c (.bool false)))]) .ret) .skip)) (.seq (.reg false 0 [oN 11 (oV 0), oN 12 (.call 180 [(.t 11)]), oN 5 (oV 12)]) (.seq (.seq (.reg false 0 [oN 13 (oV 5), oN 14 (.len (.t 13)), oN 15 (.mov (cI 0))]) (.block 0 (.loop (.seq (.reg false 0 [oN 16 (.bin .lss (.t 15) (.t 14))]) (.seq (.cond (.t 16) .skip (.exit 0)) (.seq (.block 1 (.seq (.reg false 0 [oN 17 (.idx 1 (.t 13) (.t 15)), oN 18 (.load 1 false (.t 17)), oN 7 (oV 18)]) (.seq (.reg false 0 [oN 19 (oV 1), oN 20 (oV 7), oN 21 (.call 236 [(.t 19), (.t 20)]), oN 22 (.un .not (.t 21))]) (.cond (.t 22) (.seq (.reg false 0 [oN 4 (.mov (.c (.bool false)))]) .ret) .skip)))) (.reg false 0 [oN 23 (.bin .add (.t 15) (cI 1)), oN 15 (oV 23)]))))))) (.seq (.reg false 0 [oN 24 (oV 1), oN 25 (.len (.t 24)), oN 26 (oV 5), oN 27 (.len (.t 26)), oN 28 (.bin .eql (.t 25) (.t 27)), oN 4 (oV 28)]) .ret)))))⟩
structure D_impl_IsOrder (T : Nat → Option Fn) : Prop where
  hT : T 221 = some F_impl_IsOrder
  d_impl_IsLinkSet : D_impl_IsLinkSet T
  d_impl_nodesOf : D_impl_nodesOf T
  d_impl_hasInt : D_impl_hasInt T
def nodesM (l : List Lk) : List Int := if lksOk l = true then nodesI l 10 else []
def ordP (l : List Lk) (o : List Int) : Prop := lksOk l = true ∧ o.length = (nodesM l).length ∧ ∀ x ∈ nodesM l, x ∈ o
instance (l : List Lk) (o : List Int) : Decidable (ordP l o) := inferInstanceAs (Decidable (_ ∧ _ ∧ _))
end Go.Ml
end
section
set_option linter.unusedSimpArgs false
set_option linter.unusedVariables false
set_option maxRecDepth 100000
set_option maxHeartbeats 4000000
namespace Go.Ml
def F_impl_neighborsOf : Fn := ⟨2, 35, [.tmp 4], (.seq (.reg false 0 [oN 4 (.mov (.c (.nils)))]) (.seq (.reg false 1 [oN 8 (.mkSl 1 [.int .i64 0] 0 []), oK 5 1 (oV 8)]) (.seq (.seq (.reg false 0 [oN 9 (oV 0), oN 10 (.len (.t 9)), oN 11 (.mov (cI 0))]) (.block 0 (.loop (.seq (.reg false 0 [oN 12 (.bin .lss (.t 11) (.t 10))]) (.seq (.cond (.t 12) .skip (.exit 0)) (.seq (.block 1 (.seq (.reg false 1 [oK 13 1 (.idx 11 (.t 9) (.t 11)), oK 14 1 (.load 11 true (.t 13)), oN 7 (.alloc [.int .i64 0, .int .i64 0, .bool false, .nils, .nils, .bool false, .nils, .nils, .bool false, .nils, .nils]), ⟨none, none, 1, .store 11 (.t 7) (.t 14), []⟩]) (.seq (.reg false 0 [oN 15 (.fld 0 (.t 7)), oN 16 (.load 1 false (.t 15)), oN 17 (oV 1), oN 18 (.bin .eql (.t 16) (.t 17))]) (.cond (.t 18) (.reg false 2 [oK 19 2 (oV 5), oK 20 2 (.fld 1 (.t 7)), oK 21 2 (.load 1 false (.t 20)), oN 22 (.mkSl 1 [.int .i64 0] 1 [(0, (.t 21))]), oK 23 1 (.app 1 8 (.t 19) (.t 22)), oK 5 2 (oV 23)]) (.seq (.reg false 0 [oN 24 (.fld 1 (.t 7)), oN 25 (.load 1 false (.t 24)), oN 26 (oV 1), oN 27 (.bin .eql (.t 25) (.t 26))]) (.cond (.t 27) (.reg false 2 [oK 28 2 (oV 5), oK 29 2 (.fld 0 (.t 7)), oK 30 2 (.load 1 false (.t 29)), oN 31 (.mkSl 1 [.int .i64 0] 1 [(0, (.t 30))]), oK 32 1 (.app 1 8 (.t 28) (.t 31)), oK 5 2 (oV 32)]) .skip)))))) (.reg false 0 [oN 33 (.bin .add (.t 11) (cI 1)), oN 11 (oV 33)]))))))) (.seq (.reg false 0 [oN 34 (oV 5), oN 4 (oV 34)]) .ret))))⟩
structure D_impl_neighborsOf (T : Nat → Option Fn) : Prop where
  hT : T 239 = some F_impl_neighborsOf
def F_impl_NeighborsOf : Fn := ⟨2, 11, [.tmp 4], (.seq (.reg false 0 [oN 4 (.mov (.c (.nils)))]) (.seq (.seq (.reg false 0 [oN 5 (oV 0), oN 6 (.call 89 [(.t 5)]), oN 7 (.un .not (.t 6))]) (.cond (.t 7) (.seq (.reg false 0 [oN 4 (.mov (.c (.nils)))]) .ret) .skip)) (.seq (.reg false 0 [oN 8 (oV 0), oN 9 (oV 1), oN 10 (.call 239 [(.t 8), (.t 9)]), oN 4 (oV 10)]) .ret)))⟩
structure D_impl_NeighborsOf (T : Nat → Option Fn) : Prop where
  hT : T 224 = some F_impl_NeighborsOf
  d_impl_IsLinkSet : D_impl_IsLinkSet T
  d_impl_neighborsOf : D_impl_neighborsOf T
def F_spec_l07Near : Fn := ⟨2, 33, [.tmp 4], (.seq (.reg false 0 [oN 4 (.mov (.c (.nils)))]) (.seq (.reg false 1 [oN 8 (.mkSl 1 [.int .i64 0] 0 []), oK 5 1 (oV 8)]) (.seq (.seq (.reg false 0 [oN 9 (oV 0), oN 10 (.len (.t 9)), oN 11 (.mov (cI 0))]) (.block 0 (.loop (.seq (.reg false 0 [oN 12 (.bin .lss (.t 11) (.t 10))]) (.seq (.cond (.t 12) .skip (.exit 0)) (.seq (.block 1 (.seq (.reg false 1 [oK 13 1 (.idx 11 (.t 9) (.t 11)), oK 14 1 (.load 11 true (.t 13)), oN 7 (.alloc [.int .i64 0, .int .i64 0, .bool false, .nils, .nils, .bool false, .nils, .nils, .bool false, .nils, .nils]), ⟨none, none, 1, .store 11 (.t 7) (.t 14), []⟩]) (.seq (.seq (.reg false 0 [oN 15 (.fld 0 (.t 7)), oN 16 (.load 1 false (.t 15)), oN 17 (oV 1), oN 18 (.bin .eql (.t 16) (.t 17))]) (.cond (.t 18) (.reg false 0 [oN 19 (oV 5), oN 20 (.fld 1 (.t 7)), oN 21 (.load 1 false (.t 20)), oN 22 (.call 237 [(.t 19), (.t 21)]), oN 5 (oV 22)]) .skip)) (.seq (.reg false 0 [oN 23 (.fld 1 (.t 7)), oN 24 (.load 1 false (.t 23)), oN 25 (oV 1), oN 26 (.bin .eql (.t 24) (.t 25))]) (.cond (.t 26) (.reg false 0 [oN 27 (oV 5), oN 28 (.fld 0 (.t 7)), oN 29 (.load 1 false (.t 28)), oN 30 (.call 237 [(.t 27), (.t 29)]), oN 5 (oV 30)]) .skip))))) (.reg false 0 [oN 31 (.bin .add (.t 11) (cI 1)), oN 11 (oV 31)]))))))) (.seq (.reg false 0 [oN 32 (oV 5), oN 4 (oV 32)]) .ret))))⟩
structure D_spec_l07Near (T : Nat → Option Fn) : Prop where
  hT : T 238 = some F_spec_l07Near
  d_spec_l07Put : D_spec_l07Put T
def F_spec_NeighborsOf : Fn := ⟨2, 11, [.tmp 4], (.seq (.reg false 0 [oN 4 (.mov (.c (.nils)))]) (.seq (.seq (.reg false 0 [oN 5 (oV 0), oN 6 (.call 193 [(.t 5)]), oN 7 (.un .not (.t 6))]) (.cond (.t 7) (.seq (.reg false 0 [oN 4 (.mov (.c (.nils)))]) .ret) .skip)) (.seq (.reg false 0 [oN 8 (oV 0), oN 9 (oV 1), oN 10 (.call 238 [(.t 8), (.t 9)]), oN 4 (oV 10)]) .ret)))⟩
structure D_spec_NeighborsOf (T : Nat → Option Fn) : Prop where
  hT : T 223 = some F_spec_NeighborsOf
  d_spec_IsLinkSet : D_spec_IsLinkSet T
  d_spec_l07Near : D_spec_l07Near T
end Go.Ml
end
section
set_option linter.unusedSimpArgs false
set_option linter.unusedVariables false
set_option maxRecDepth 100000
set_option maxHeartbeats 4000000
namespace Go.Ml
def F_spec_l04Copy : Fn := ⟨1, 17, [.cell 2 3 true], (.seq (.reg false 2 [oN 1 (.box (.t 0)), oK 2 1 (.alloc [.bool false, .nils, .nils])]) (.seq (.reg true 4 [oK 3 4 (.fld 0 (.t 1)), oA 4 4 (.fld 0 (.t 3)) [0], oA 5 4 (.load 1 false (.t 4)) [1], oN 6 (.mkSl 1 [.int .i64 0] 0 []), oK 7 4 (.fld 0 (.t 1)), oA 8 4 (.fld 1 (.t 7)) [4], oA 9 4 (.load 1 false (.t 8)) [5], oA 10 1 (.app 1 8 (.t 6) (.t 9)) [3, 6], oA 11 4 (.build [.bool false, .nils] [(0, 1, (.t 5)), (1, 1, (.t 10))]) [2, 7], oK 12 2 (.mkSl 1 [.int .i64 0] 0 []), oK 13 4 (.fld 2 (.t 1)), oA 14 4 (.load 1 false (.t 13)) [10], oA 15 3 (.app 1 8 (.t 12) (.t 14)) [9, 11, 7], oA 16 4 (.build [.bool false, .nils, .nils] [(0, 2, (.t 11)), (2, 1, (.t 15))]) [8, 12], ⟨none, none, 4, .store 3 (.t 2) (.t 16), [13, 12, 0, 1, 2, 3, 4, 5, 6, 7, 8, 9, 10, 11, 12, 13]⟩]) .ret))⟩
structure D_spec_l04Copy (T : Nat → Option Fn) : Prop where
  hT : T 204 = some F_spec_l04Copy
def F_spec_l06Copy : Fn := ⟨1, 17, [.cell 2 11 true], (.seq (.reg false 2 [oN 1 (.box (.t 0)), oK 2 1 (.alloc [.int .i64 0, .int .i64 0, .bool false, .nils, .nils, .bool false, .nils, .nils, .bool false, .nils, .nils])]) (.seq (.reg true 0 [oN 3 (.fld 0 (.t 1)), oA 4 0 (.load 1 false (.t 3)) [0], oN 5 (.fld 1 (.t 1)), oA 6 0 (.load 1 false (.t 5)) [2], oN 7 (.fld 2 (.t 1)), oA 8 0 (.load 3 true (.t 7)) [4], oA 9 0 (.call 204 [(.t 8)]) [5], oN 10 (.fld 5 (.t 1)), oA 11 0 (.load 3 true (.t 10)) [7], oA 12 0 (.call 204 [(.t 11)]) [8, 6], oN 13 (.fld 8 (.t 1)), oA 14 0 (.load 3 true (.t 13)) [10], oA 15 0 (.call 204 [(.t 14)]) [11, 9], oA 16 0 (.build [.int .i64 0, .int .i64 0, .bool false, .nils, .nils, .bool false, .nils, .nils, .bool false, .nils, .nils] [(0, 1, (.t 4)), (1, 1, (.t 6)), (2, 3, (.t 9)), (5, 3, (.t 12)), (8, 3, (.t 15))]) [1, 3, 6, 9, 12], ⟨none, none, 0, .store 11 (.t 2) (.t 16), [13, 12, 0, 1, 2, 3, 4, 5, 6, 7, 8, 9, 10, 11, 12, 13]⟩]) .ret))⟩
structure D_spec_l06Copy (T : Nat → Option Fn) : Prop where
  hT : T 197 = some F_spec_l06Copy
  d_spec_l04Copy : D_spec_l04Copy T
def F_spec_WithoutNode : Fn := ⟨2, 35, [.tmp 4], (.seq (.reg false 0 [oN 4 (.mov (.c (.nils)))]) (.seq (.reg false 1 [oN 8 (.mkSl 11 [.int .i64 0, .int .i64 0, .bool false, .nils, .nils, .bool false, .nils, .nils, .bool false, .nils, .nils] 0 []), oK 5 1 (oV 8)]) (.seq (.seq (.reg false 0 [oN 9 (oV 0), oN 10 (.call 193 [(.t 9)]), oN 11 (.un .not (.t 10))]) (.cond (.t 11) (.seq (.reg false 0 [oN 4 (.mov (.c (.nils)))]) .ret) .skip)) (.seq (.seq (.reg false 0 [oN 12 (oV 0), oN 13 (.len (.t 12)), oN 14 (.mov (cI 0))]) (.block 0 (.loop (.seq (.reg false 0 [oN 15 (.bin .lss (.t 14) (.t 13))]) (.seq (.cond (.t 15) .skip (.exit 0)) (.seq (.block 1 (.seq (.reg false 1 [oK 16 1 (.idx 11 (.t 12) (.t 14)), oK 17 1 (.load 11 true (.t 16)), oN 7 (.alloc [.int .i64 0, .int .i64 0, .bool false, .nils, .nils, .bool false, .nils, .nils, .bool false, .nils, .nils]), ⟨none, none, 1, .store 11 (.t 7) (.t 17), []⟩]) (.seq (.reg false 0 [oN 18 (.fld 0 (.t 7)), oN 19 (.load 1 false (.t 18)), oN 20 (oV 1), oN 21 (.bin .neq (.t 19) (.t 20)), oN 22 (oV 21), oG 22 true 23 (.fld 1 (.t 7)), oG 22 true 24 (.load 1 false (.t 23)), oG 22 true 25 (oV 1), oG 22 true 26 (.bin .neq (.t 24) (.t 25)), oN 27 (.pick (.t 22) (.t 26) (.c (.bool false)))]) (.cond (.t 27) (.reg false 2 [oK 28 2 (oV 5), oK 29 2 (.load 11 true (.t 7)), oK 30 2 (.call 197 [(.t 29)]), oN 31 (.mkSl 11 [.int .i64 0, .int .i64 0, .bool false, .nils, .nils, .bool false, .nils, .nils, .bool false, .nils, .nils] 1 [(0, (.t 30))]), oK 32 1 (.app 11 184 (.t 28) (.t 31)), oK 5 2 (oV 32)]) .skip)))) (.reg false 0 [oN 33 (.bin .add (.t 14) (cI 1)), oN 14 (oV 33)]))))))) (.seq (.reg false 0 [oN 34 (oV 5), oN 4 (oV 34)]) .ret)))))⟩
structure D_spec_WithoutNode (T : Nat → Option Fn) : Prop where
  hT : T 227 = some F_spec_WithoutNode
  d_spec_IsLinkSet : D_spec_IsLinkSet T
  d_spec_l06Copy : D_spec_l06Copy T
def F_impl_withoutNode : Fn := ⟨2, 31, [.tmp 4], (.seq (.reg false 0 [oN 4 (.mov (.c (.nils)))]) (.seq (.reg false 1 [oN 8 (.mkSl 11 [.int .i64 0, .int .i64 0, .bool false, .nils, .nils, .bool false, .nils, .nils, .bool false, .nils, .nils] 0 []), oK 5 1 (oV 8)]) (.seq (.seq (.reg false 0 [oN 9 (oV 0), oN 10 (.len (.t 9)), oN 11 (.mov (cI 0))]) (.block 0 (.loop (.seq (.reg false 0 [oN 12 (.bin .lss (.t 11) (.t 10))]) (.seq (.cond (.t 12) .skip (.exit 0)) (.seq (.block 1 (.seq (.reg false 1 [oK 13 1 (.idx 11 (.t 9) (.t 11)), oK 14 1 (.load 11 true (.t 13)), oN 7 (.alloc [.int .i64 0, .int .i64 0, .bool false, .nils, .nils, .bool false, .nils, .nils, .bool false, .nils, .nils]), ⟨none, none, 1, .store 11 (.t 7) (.t 14), []⟩]) (.seq (.reg false 0 [oN 15 (.fld 0 (.t 7)), oN 16 (.load 1 false (.t 15)), oN 17 (oV 1), oN 18 (.bin .neq (.t 16) (.t 17)), oN 19 (oV 18), oG 19 true 20 (.fld 1 (.t 7)), oG 19 true 21 (.load 1 false (.t 20)), oG 19 true 22 (oV 1), oG 19 true 23 (.bin .neq (.t 21) (.t 22)), oN 24 (.pick (.t 19) (.t 23) (.c (.bool false)))]) (.cond (.t 24) (.reg false 2 [oK 25 2 (oV 5), oK 26 2 (.load 11 true (.t 7)), oN 27 (.mkSl 11 [.int .i64 0, .int .i64 0, .bool false, .nils, .nils, .bool false, .nils, .nils, .bool false, .nils, .nils] 1 [(0, (.t 26))]), oK 28 1 (.app 11 184 (.t 25) (.t 27)), oK 5 2 (oV 28)]) .skip)))) (.reg false 0 [oN 29 (.bin .add (.t 11) (cI 1)), oN 11 (oV 29)]))))))) (.seq (.reg false 0 [oN 30 (oV 5), oN 4 (oV 30)]) .ret))))⟩
structure D_impl_withoutNode (T : Nat → Option Fn) : Prop where
  hT : T 241 = some F_impl_withoutNode
def F_impl_WithoutNode : Fn := ⟨2, 12, [.tmp 4], (.seq (.reg false 0 [oN 4 (.mov (.c (.nils)))]) (.seq (.seq (.reg false 0 [oN 5 (oV 0), oN 6 (.call 89 [(.t 5)]), oN 7 (.un .not (.t 6))]) (.cond (.t 7) (.seq (.reg false 0 [oN 4 (.mov (.c (.nils)))]) .ret) .skip)) (.seq (.reg false 0 [oN 8 (oV 0), oN 9 (oV 1), oN 10 (.call 241 [(.t 8), (.t 9)]), oN 11 (.call 110 [(.t 10)]), oN 4 (oV 11)]) .ret)))⟩
structure D_impl_WithoutNode (T : Nat → Option Fn) : Prop where
  hT : T 228 = some F_impl_WithoutNode
  d_impl_IsLinkSet : D_impl_IsLinkSet T
  d_impl_copyLinks : D_impl_copyLinks T
  d_impl_withoutNode : D_impl_withoutNode T
def F_spec_LinkOf : Fn := ⟨3, 46, [.cell 6 11 true, .tmp 7], (.seq (.reg false 1 [oN 6 (.alloc [.int .i64 0, .int .i64 0, .bool false, .nils, .nils, .bool false, .nils, .nils, .bool false, .nils, .nils]), oK 7 1 (.mov (.c (.bool false)))]) (.seq (.seq (.reg false 0 [oN 10 (oV 0), oN 11 (.call 193 [(.t 10)]), oN 12 (.un .not (.t 11))]) (.cond (.t 12) (.seq (.reg false 0 [oN 13 (.build [.int .i64 0, .int .i64 0, .bool false, .nils, .nils, .bool false, .nils, .nils, .bool false, .nils, .nils] []), oS (.store 11 (.t 6) (.t 13)), oN 7 (.mov (.c (.bool false)))]) .ret) .skip)) (.seq (.seq (.reg false 0 [oN 14 (oV 0), oN 15 (.len (.t 14)), oN 16 (.mov (cI 0))]) (.block 0 (.loop (.seq (.reg false 0 [oN 17 (.bin .lss (.t 16) (.t 15))]) (.seq (.cond (.t 17) .skip (.exit 0)) (.seq (.block 1 (.seq (.reg false 1 [oK 18 1 (.idx 11 (.t 14) (.t 16)), oK 19 1 (.load 11 true (.t 18)), oN 9 (.alloc [.int .i64 0, .int .i64 0, .bool false, .nils, .nils, .bool false, .nils, .nils, .bool false, .nils, .nils]), ⟨none, none, 1, .store 11 (.t 9) (.t 19), []⟩]) (.seq (.reg false 0 [oN 20 (.fld 0 (.t 9)), oN 21 (.load 1 false (.t 20)), oN 22 (oV 1), oN 23 (.bin .eql (.t 21) (.t 22)), oN 24 (oV 23), oG 24 true 25 (.fld 1 (.t 9)), oG 24 true 26 (.load 1 false (.t 25)), oG 24 true 27 (oV 2), oG 24 true 28 (.bin .eql (.t 26) (.t 27)), oN 29 (.pick (.t 24) (.t 28) (.c (.bool false))), oN 30 (oV 29), oG 30 false 31 (.fld 0 (.t 9)), oG 30 false 32 (.load 1 false (.t 31)), oG 30 false 33 (oV 2), oG 30 false 34 (.bin .eql (.t 32) (.t 33)), oG 30 false 35 (oV 34), oG 35 true 36 (.fld 1 (.t 9)), oG 35 true 37 (.load 1 false (.t 36)), oG 35 true 38 (oV 1), oG 35 true 39 (.bin .eql (.t 37) (.t 38)), oG 30 false 40 (.pick (.t 35) (.t 39) (.c (.bool false))), oN 41 (.pick (.t 30) (.c (.bool true)) (.t 40))]) (.cond (.t 41) (.seq (.reg false 0 [oN 42 (.load 11 true (.t 9)), oN 43 (.call 197 [(.t 42)]), oS (.store 11 (.t 6) (.t 43)), oN 7 (.mov (.c (.bool true)))]) .ret) .skip)))) (.reg false 0 [oN 44 (.bin .add (.t 16) (cI 1)), oN 16 (oV 44)]))))))) (.seq (.reg false 0 [oN 45 (.build [.int .i64 0, .int .i64 0, .bool false, .nils, .nils, .bool false, .nils, .nils, .bool false, .nils, .nils] []), oS (.store 11 (.t 6) (.t 45)), oN 7 (.mov (.c (.bool false)))]) .ret))))⟩
structure D_spec_LinkOf (T : Nat → Option Fn) : Prop where
  hT : T 225 = some F_spec_LinkOf
  d_spec_IsLinkSet : D_spec_IsLinkSet T
  d_spec_l06Copy : D_spec_l06Copy T
def F_impl_findLink : Fn := ⟨3, 41, [.cell 6 11 true, .tmp 7], (.seq (.reg false 1 [oN 6 (.alloc [.int .i64 0, .int .i64 0, .bool false, .nils, .nils, .bool false, .nils, .nils, .bool false, .nils, .nils]), oK 7 1 (.mov (.c (.bool false)))]) (.seq (.seq (.reg false 0 [oN 10 (oV 0), oN 11 (.len (.t 10)), oN 12 (.mov (cI 0))]) (.block 0 (.loop (.seq (.reg false 0 [oN 13 (.bin .lss (.t 12) (.t 11))]) (.seq (.cond (.t 13) .skip (.exit 0)) (.seq (.block 1 (.seq (.reg false 1 [oK 14 1 (.idx 11 (.t 10) (.t 12)), oK 15 1 (.load 11 true (.t 14)), oN 9 (.alloc [.int .i64 0, .int .i64 0, .bool false, .nils, .nils, .bool false, .nils, .nils, .bool false, .nils, .nils]), ⟨none, none, 1, .store 11 (.t 9) (.t 15), []⟩]) (.seq (.reg false 0 [oN 16 (.fld 0 (.t 9)), oN 17 (.load 1 false (.t 16)), oN 18 (oV 1), oN 19 (.bin .eql (.t 17) (.t 18)), oN 20 (oV 19), oG 20 true 21 (.fld 1 (.t 9)), oG 20 true 22 (.load 1 false (.t 21)), oG 20 true 23 (oV 2), oG 20 true 24 (.bin .eql (.t 22) (.t 23)), oN 25 (.pick (.t 20) (.t 24) (.c (.bool false))), oN 26 (oV 25), oG 26 false 27 (.fld 0 (.t 9)), oG 26 false 28 (.load 1 false (.t 27)), oG 26 false 29 (oV 2), oG 26 false 30 (.bin .eql (.t 28) (.t 29)), oG 26 false 31 (oV 30), oG 31 true 32 (.fld 1 (.t 9)), oG 31 true 33 (.load 1 false (.t 32)), oG 31 true 34 (oV 1), oG 31 true 35 (.bin .eql (.t 33) (.t 34)), oG 26 false 36 (.pick (.t 31) (.t 35) (.c (.bool false))), oN 37 (.pick (.t 26) (.c (.bool true)) (.t 36))]) (.cond (.t 37) (.seq (.reg false 0 [oN 38 (.load 11 true (.t 9)), oS (.store 11 (.t 6) (.t 38)), oN 7 (.mov (.c (.bool true)))]) .ret) .skip)))) (.reg false 0 [oN 39 (.bin .add (.t 12) (cI 1)), oN 12 (oV 39)]))))))) (.seq (.reg false 0 [oN 40 (.build [.int .i64 0, .int .i64 0, .bool false, .nils, .nils, .bool false, .nils, .nils, .bool false, .nils, .nils] []), oS (.store 11 (.t 6) (.t 40)), oN 7 (.mov (.c (.bool false)))]) .ret)))⟩
structure D_impl_findLink (T : Nat → Option Fn) : Prop where
  hT : T 240 = some F_impl_findLink
def F_impl_LinkOf : Fn := ⟨3, 26, [.cell 6 11 true, .tmp 7], (.seq (.reg false 1 [oN 6 (.alloc [.int .i64 0, .int .i64 0, .bool false, .nils, .nils, .bool false, .nils, .nils, .bool false, .nils, .nils]), oK 7 1 (.mov (.c (.bool false)))]) (.seq (.seq (.reg false 0 [oN 10 (oV 0), oN 11 (.call 89 [(.t 10)]), oN 12 (.un .not (.t 11))]) (.cond (.t 12) (.seq (.reg false 0 [oN 13 (.build [.int .i64 0, .int .i64 0, .bool false, .nils, .nils, .bool false, .nils, .nils, .bool false, .nils, .nils] []), oS (.store 11 (.t 6) (.t 13)), oN 7 (.mov (.c (.bool false)))]) .ret) .skip)) (.seq (.reg false 1 [oK 15 1 (oV 0), oK 16 1 (oV 1), oK 17 1 (oV 2), oK 18 1 (.call 240 [(.t 15), (.t 16), (.t 17)]), oK 14 1 (oV 18), oK 19 1 (.extr 0 (.t 14)), oK 20 1 (.extr 1 (.t 14)), oN 8 (.alloc [.int .i64 0, .int .i64 0, .bool false, .nils, .nils, .bool false, .nils, .nils, .bool false, .nils, .nils]), ⟨none, none, 1, .store 11 (.t 8) (.t 19), []⟩, oK 9 1 (oV 20)]) (.seq (.seq (.reg false 0 [oN 21 (oV 9), oN 22 (.un .not (.t 21))]) (.cond (.t 22) (.seq (.reg false 0 [oN 23 (.build [.int .i64 0, .int .i64 0, .bool false, .nils, .nils, .bool false, .nils, .nils, .bool false, .nils, .nils] []), oS (.store 11 (.t 6) (.t 23)), oN 7 (.mov (.c (.bool false)))]) .ret) .skip)) (.seq (.reg false 0 [oN 24 (.load 11 true (.t 8)), oN 25 (.call 133 [(.t 24)]), oS (.store 11 (.t 6) (.t 25)), oN 7 (.mov (.c (.bool true)))]) .ret)))))⟩
structure D_impl_LinkOf (T : Nat → Option Fn) : Prop where
  hT : T 226 = some F_impl_LinkOf
  d_impl_IsLinkSet : D_impl_IsLinkSet T
  d_impl_copyLink : D_impl_copyLink T
  d_impl_findLink : D_impl_findLink T
abbrev Lk0 : Lk := ⟨0, 0, R0, R0, R0⟩
theorem laxLk0 : LaxV (lkV Lk0) (.agg [iv 0, iv 0, .bool false, .nils, .nils, .bool false, .nils, .nils, .bool false, .nils, .nils]) := by
  show LaxV (.agg [iv 0, iv 0, .bool false, .sl 1 [], .sl 1 [], .bool false, .sl 1 [], .sl 1 [], .bool false, .sl 1 [], .sl 1 []]) _
  simp only [LaxV_agg, LaxL_c, LaxL_n, LaxV_bool, LaxV_int, LaxV_nil, and_true]
theorem lax_tup1 {v w : V} {b : Bool} (h : LaxV v w) : LaxV (.tup [v, .bool b]) (.tup [w, .bool b]) := by
  simp only [LaxV, LaxL]
  exact ⟨_, rfl, _, _, rfl, h, _, _, rfl, rfl, rfl⟩
theorem owV_Lk0 {σ : Store} : OwV σ (lkV Lk0) (lkV Lk0) [] := by
  refine owV_agg (owL_int (owL_int (owL_bool ?_)))
  have e : ∀ {vs ts : List V}, OwL σ vs ts [] → OwL σ (ints [] :: vs) (ints [] :: ts) [] := fun h => owL_v (o1 := []) owV_ints0 h
  exact e (e (owL_bool (e (e (owL_bool (e (e owL_nil)))))))
theorem fin_Lk0 {σ : Store} : Fin σ (.agg [iv 0, iv 0, .bool false, .nils, .nils, .bool false, .nils, .nils, .bool false, .nils, .nils]) (lkV Lk0) := ⟨_, [], laxLk0, owV_Lk0, .nil⟩
end Go.Ml
end
