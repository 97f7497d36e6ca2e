/- append: what it does to the abstract state. -/
import Derived.Test.YteiefahbhljlgaaZzApp2
set_option linter.unusedSimpArgs false
namespace Go.Ml

section
variable {P : Program} {w : World} {D : DM} {M : Nat → Prop} {σ : Store}

theorem push_drew {w : World} {cs : Array Value} {e : TypeId} : Push w (w.drew.alloc (.cells cs e)) cs := ⟨⟨e, rfl⟩, rfl, rfl, rfl⟩

theorem cap_ge (need sCap : Nat) (e : TypeId) (t : Nat) : need ≤ (Question.appendCap need sCap e).cut t := by simp [Question.cut]

theorem zeroCells_size (z : Array Value) (n : Nat) : (Builtin.zeroCells z n).size = n * z.size := by simp [Builtin.zeroCells]

/-- The new block of an append that found no room. -/
theorem app_new (hS : SRel w D M σ) {id : Nat} (hid : id < σ.length ∧ D id = .unborn) {sz : Nat} {old new : List (List V)} {co cn : List Value} (hsz : 0 < sz) (ho : rdL w D (XS M D) old.flatten co) (hn : rdL w D (XS M D) new.flatten cn)
    (hlo : ∀ r ∈ old, r.length = sz) (hln : ∀ r ∈ new, r.length = sz) (lf : ∀ x ∈ (old ++ new).flatten, x.leaf = true) {z : Array Value} (hz : z.size = sz) {cap : Nat} (hcap : old.length + new.length ≤ cap) {e : TypeId} :
    Done w D M id (σ.set id (some ⟨sz, old ++ new⟩)) (.msl id 0 (old.length + new.length)) (.slice (some ⟨w.heap.size, 0, none⟩) (old.length + new.length) cap)
      (w.drew.alloc (.cells (co.toArray ++ cn.toArray ++ Builtin.zeroCells z (cap - (old.length + new.length))) e)) := by
  have h1 := rdL_length _ _ ho
  have h2 := rdL_length _ _ hn
  rw [flat_len hlo] at h1
  rw [flat_len hln] at h2
  have := done_newS hS hid (push_drew (w := w) (cs := co.toArray ++ cn.toArray ++ Builtin.zeroCells z (cap - (old.length + new.length))) (e := e)) (sz := sz) (rows := old ++ new) (cap := cap) hsz
    (by intro r hr; rcases List.mem_append.1 hr with h | h; exact hlo r h; exact hln r h) (by simpa using hcap)
    (by
      simp only [Array.size_append, List.size_toArray, zeroCells_size, hz, ← h1, ← h2]
      have e1 : cap * sz = (old.length + new.length) * sz + (cap - (old.length + new.length)) * sz := by rw [← Nat.add_mul]; congr 1; omega
      rw [e1, Nat.add_mul]; omega)
    (fun i x hi => by
      refine ⟨lf x (List.mem_of_getElem? hi), ?_⟩
      rw [List.flatten_append] at hi
      obtain ⟨y, k1, k2⟩ := rdL_get _ _ (rdL_append _ _ _ _ ho hn) i x hi
      refine ⟨y, ?_, k2⟩
      have : i < (co ++ cn).length := (List.getElem?_eq_some_iff.1 k1).1
      rw [Array.getElem?_append_left (by simpa using this)]
      simpa using k1)
  simpa using this

theorem app_ok (hS : SRel w D M σ) {id : Nat} (hid : id < σ.length ∧ D id = .unborn) {t u e e' : TypeId} {sz by_ ty : Nat} (ht : trElem P t = some (e, sz, by_)) (hz : (trZ P e).isSome = true) (hu : P.underlying u = some (.slice e'))
    {x y : V} {vx vy : Value} (hx : rd w D (XS M D) x vx) (hy : rd w D (XS M D) y vy) {env : Nat → V} {sx sy : Src} (ex : sx.ev env = x) (ey : sy.ev env = y) {ef : Eff}
    (hef : (I.app sz by_ sx sy).eff env σ = some ef) :
    ∃ v w', (Builtin.append_ #[t, u] ty #[vx, vy]).run P w = .ok v w' ∧ Done w D M id (ef.store σ id) (ef.dv id) v w' := by
  obtain ⟨i, hut, hi, rfl, rfl, hsz, hby⟩ := trElem_spec ht
  obtain ⟨z, hz⟩ := Option.isSome_iff_exists.1 hz
  obtain ⟨i', zv, z1, z2, z3, z4, z5, z6⟩ := trZ_spec (w := w) (D := D) (X := XS M D) hz
  rw [hi] at z1; cases z1
  simp only [I.eff, ex, ey] at hef
  cases hrx : rowsOf σ x with
  | none => simp [hrx] at hef
  | some px =>
    obtain ⟨szx, old⟩ := px
    cases hry : rowsOf σ y with
    | none => simp [hrx, hry] at hef
    | some py =>
      obtain ⟨sz', new⟩ := py
      simp only [hrx, hry] at hef
      obtain ⟨ax, cx, rfl, hlex, hrdx⟩ := rowsOf_rd hS hrx hx
      obtain ⟨ay, cy, rfl, hley, hrdy⟩ := rowsOf_rd hS hry hy
      obtain ⟨cn, ln1, ln2, ln3, ln4⟩ := load_rows (P := P) (sz := sz') (cap := cy) hrdy
      have zrun : ∀ w', (zeroValue e).run P w' = .ok zv w' := fun w' => run_zeroValue' hi z2 w'
      by_cases hnew : new = []
      · -- nothing to append
        subst hnew
        simp only [if_true, Option.some.injEq] at hef
        subst hef
        have hn0 := ln4 rfl
        subst hn0
        have hl0 : (Builtin.firstCells i.size 0 (.slice ay 0 cy)).run P w = .ok ([] : List Value).toArray w := by
          cases ay with
          | none => simp [Builtin.firstCells]
          | some a =>
            have := run_loadCells_list (P := P) w a [] (by simp)
            simpa [Builtin.firstCells] using this
        have := app_room (w := w) (ty := ty) (base := ax) (sLen := old.length) (sCap := cx) hut hi hu hl0 hlex
        refine ⟨_, w, ?_, done_val hS hx⟩
        simp only [List.length_nil] at *
        rw [this]
        cases ax with
        | none => rfl
        | some a => simp [storeCells]
      · simp only [hnew, if_false] at hef
        split at hef
        · rename_i hc
          obtain ⟨rfl, hc1, hc2⟩ := hc
          have hnl : ∀ r ∈ new, r.length = i.size := by
            rcases hrdy with h | ⟨_, _, _, h, _⟩
            · exact absurd h hnew
            · exact h
          have hnpos : 0 < new.length := List.length_pos_iff.2 hnew
          have hnleaf : ∀ x ∈ new.flatten, x.leaf = true := by
            intro x hx
            obtain ⟨k, hk⟩ := List.mem_iff_getElem?.1 hx
            rcases hrdy with h | ⟨_, _, _, _, h⟩
            · exact absurd h hnew
            · exact (h k x hk).1
          have holeaf : ∀ x ∈ old.flatten, x.leaf = true := by
            intro x hx
            obtain ⟨k, hk⟩ := List.mem_iff_getElem?.1 hx
            rcases hrdx with h | ⟨_, _, _, _, h⟩
            · rw [h] at hk; simp at hk
            · exact (h k x hk).1
          have hst := app_start (w := w) (ty := ty) (base := ax) (sLen := old.length) (sCap := cx) hut hi hu (ln1 w fun _ => rfl) hc1 hc2 hby
          have hlol : ∀ (sz0 : Nat), rowsOf σ x = some (sz0, old) → (old = [] ∨ sz0 = i.size) → ∃ co : List Value, (∀ w', (∀ a, w'.cell? a = w.cell? a) → (Builtin.firstCells i.size old.length (.slice ax old.length cx)).run P w' = .ok co.toArray w') ∧
              rdL w D (XS M D) old.flatten co ∧ ∀ r ∈ old, r.length = i.size := by
            intro sz0 h0 hsz0
            rw [hrx] at h0
            simp only [Option.some.injEq, Prod.mk.injEq] at h0
            obtain ⟨rfl, _⟩ := h0
            rcases hsz0 with h | rfl
            · obtain ⟨co, l1, l2, _, _⟩ := load_rows (P := P) (sz := i.size) (a := ax) (cap := cx) (X := XS M D) (D := D) (w := w) (rows := old) (.inl h)
              exact ⟨co, l1, l2, by rw [h]; simp⟩
            · obtain ⟨co, l1, l2, _, _⟩ := load_rows (P := P) (cap := cx) hrdx
              refine ⟨co, l1, l2, ?_⟩
              rcases hrdx with h | ⟨_, _, _, h, _⟩
              · rw [h]; simp
              · exact h
          cases x with
          | nils =>
            simp only [rowsOf, Option.some.injEq, Prod.mk.injEq] at hrx
            obtain ⟨rfl, rfl⟩ := hrx
            simp only [Option.some.injEq] at hef; subst hef
            simp only [rd] at hx
            obtain ⟨a0, hx⟩ := hx
            cases hx
            obtain ⟨co, l1, l2, l3⟩ := hlol 0 rfl (.inl rfl)
            rw [hst, if_neg (by simp; omega), l1 w.drew fun _ => rfl]
            simp only [Result.andThen_ok, ln1 w.drew fun _ => rfl, zrun]
            exact ⟨_, _, rfl, by simpa [Eff.store, Eff.dv] using app_new hS hid (old := []) (co := co) (z := zv.cells) hsz l2 ln2 l3 hnl (by simpa using hnleaf) z3 (cap_ge _ _ _ _)⟩
          | msl o s l =>
            simp only [] at hef
            cases hob : objAt σ o with
            | none => simp [hob] at hef
            | some ob =>
              simp only [hob] at hef
              split at hef
              · rename_i hosz
                simp only [Option.some.injEq] at hef; subst hef
                simp only [rowsOf, hob] at hrx
                split at hrx
                · rename_i hsl
                  simp only [Option.some.injEq, Prod.mk.injEq] at hrx
                  obtain ⟨rfl, rfl⟩ := hrx
                  obtain ⟨d, hd⟩ := hS.alive o ob hob
                  obtain ⟨ob', c, e0, g1, g2, g3, g4, g5, g6, g7, g8, g9, g10, g11⟩ := hS.live o d hd
                  rw [hob] at g1; cases g1
                  obtain ⟨co, l1, l2, l3⟩ := hlol ob.sz (by simp [rowsOf, hob, hsl]) (.inr hosz)
                  have hll : ((ob.rows.drop s).take l).length = l := by simp; omega
                  simp only [rd, hd] at hx
                  obtain ⟨hn, a0, cap0, hx, hcap, hwhere⟩ := hx
                  simp only [Value.slice.injEq] at hx
                  obtain ⟨rfl, _, rfl⟩ := hx
                  by_cases hroom : ((ob.rows.drop s).take l).length + new.length ≤ cx
                  · -- in place
                    rcases hwhere with ⟨rfl, hfit⟩ | ⟨rfl, rfl⟩
                    · have hcl := rdL_length _ _ ln2
                      rw [flat_len hnl] at hcl
                      have hdsz : d.sz = i.size := by rw [g2]; exact hosz
                      have hone : ∀ y ∈ cn, y.oneCell' = true := rdL_leaf (List.all_eq_true.2 hnleaf) ln2
                      have hcxsz : (s + cx) * d.sz = s * d.sz + cx * d.sz := Nat.add_mul ..
                      have hneed : (((ob.rows.drop s).take l).length + new.length) * d.sz ≤ cx * d.sz := Nat.mul_le_mul_right _ hroom
                      rw [Nat.add_mul] at hneed
                      have hfit2 : d.bas + s * d.sz + l * i.size + cn.length ≤ c.size := by
                        rw [← hcl, g8, ← hdsz]; rw [hll] at hneed; omega
                      have hsto := run_storeCells_at P d.blk (d.bas + s * d.sz + l * i.size) e0 cn 0 c w g7 (by simpa using hfit2) hone
                      simp only [Nat.add_zero] at hsto
                      have hlt : d.blk < w.heap.size := g6
                      have p1 : Set1 w (w.setRow d.blk (c.toList.take (d.bas + s * d.sz + l * i.size) ++ cn ++ c.toList.drop (d.bas + s * d.sz + l * i.size + cn.length)).toArray) d.blk
                          (c.toList.take (d.bas + s * d.sz + l * i.size) ++ cn ++ c.toList.drop (d.bas + s * d.sz + l * i.size + cn.length)).toArray := by
                        refine ⟨⟨c, e0, g7, ?_, setRow_heap w d.blk c _ e0 _ g7⟩, fun k hk => ?_, ?_, rfl, rfl, rfl⟩
                        · simp; omega
                        · simp only [World.setRow, Array.getElem?_modify]
                          rw [if_neg (by omega)]
                        · simp [World.setRow]
                      have hm := hS.mov hd hid p1 (ob := ⟨i.size, (ob.rows.drop s).take l ++ new⟩) (bas := d.bas + s * d.sz) hsz
                        (by intro r hr; rcases List.mem_append.1 hr with h | h; exact l3 r h; exact hnl r h)
                        (by simp only [List.length_append]; rw [← hdsz, Nat.add_mul]; omega)
                        (fun k x hk => by
                          refine ⟨?_, ?_⟩
                          · have := List.mem_of_getElem? hk
                            rw [List.flatten_append] at this
                            rcases List.mem_append.1 this with h | h
                            · exact holeaf x h
                            · exact hnleaf x h
                          · have hofl := flat_len l3
                            rw [hll] at hofl
                            simp only [List.flatten_append] at hk
                            by_cases hkl : k < l * i.size
                            · rw [List.getElem?_append_left (by omega)] at hk
                              rcases hrdx with h | ⟨b1, off1, hb1, _, h⟩
                              · rw [h] at hk; simp at hk
                              · cases hb1
                                obtain ⟨_, y, h1, h2⟩ := h k x hk
                                refine ⟨y, ?_, h2⟩
                                simp only [World.cell?, g7] at h1
                                simp only [Option.isSome_none, Bool.false_eq_true, if_false] at h1
                                have hlt2 : d.bas + s * d.sz + k < (c.toList.take (d.bas + s * d.sz + l * i.size)).length := by simp; omega
                                rw [List.getElem?_toArray, List.append_assoc, List.getElem?_append_left hlt2, List.getElem?_take_of_lt (by omega)]
                                simpa using h1
                            · rw [List.getElem?_append_right (by omega), hofl] at hk
                              obtain ⟨y, h1, h2⟩ := rdL_get _ _ ln2 _ x hk
                              refine ⟨y, ?_, h2⟩
                              have hlen3 : (c.toList.take (d.bas + s * d.sz + l * i.size)).length = d.bas + s * d.sz + l * i.size := by simp; omega
                              have hlt3 := (List.getElem?_eq_some_iff.1 h1).1
                              rw [List.getElem?_toArray, List.append_assoc, List.getElem?_append_right (by omega), hlen3, List.getElem?_append_left (by omega)]
                              rw [← h1]; congr 1; omega)
                      rw [hst, if_pos hroom]
                      simp only [addr_add, hll, hsto, Result.andThen_ok]
                      refine ⟨_, _, rfl, _, hm.1, hm.2, ⟨by rw [p1.size]; exact Nat.le_refl _, rfl, rfl, rfl, fun b _ hb => p1.old b (fun k => hb (k ▸ ⟨o, d, hd, rfl⟩))⟩, ?_, fun q hq hne => put_unborn q (put_unborn q hq (by rintro rfl; rw [hd] at hq; cases hq)) hne, ?_⟩
                      · intro q d' hq
                        simp only [DM.put] at hq
                        split at hq
                        · cases hq; exact .inl ⟨o, d, hd, rfl⟩
                        · split at hq
                          · cases hq
                          · exact .inl ⟨q, d', hq, rfl⟩
                      · simp only [Eff.dv, rd, DM.put, if_true]
                        rw [hll] at hroom
                        refine ⟨by simp [hll], _, cx, rfl, hroom, .inl ⟨by simp, ?_⟩⟩
                        simp only [Nat.zero_add]; rw [← hdsz]; omega
                    · omega
                  · -- a new block
                    have hlen : o < σ.length := by
                      rcases Nat.lt_or_ge o σ.length with k | k
                      · exact k
                      · rw [hS.far o k] at hd; cases hd
                    have hne : id ≠ o := by rintro rfl; rw [hd] at hid; cases hid.2
                    have hk := hS.kill o hlen (by rw [hd]; simp)
                    have mono : ∀ {l : List V} {vs : List Value}, rdL w D (XS M D) l vs → rdL w (D.put o .dead) (XS M (D.put o .dead)) l vs := fun h => rdL_mono _ _ hk.2 h
                    rw [hst, if_neg hroom, l1 w.drew fun _ => rfl]
                    simp only [Result.andThen_ok, ln1 w.drew fun _ => rfl, zrun]
                    refine ⟨_, _, rfl, ?_⟩
                    obtain ⟨D', q1, q2, q3, q4, q6, q5⟩ := app_new hk.1 (id := id) ⟨by simpa using hid.1, by simp only [DM.put, if_neg hne]; exact hid.2⟩ hsz (mono l2) (mono ln2) l3 hnl
                      (by rw [List.flatten_append]; intro x hx; rcases List.mem_append.1 hx with h | h; exact holeaf x h; exact hnleaf x h) z3
                      (cap_ge (((ob.rows.drop s).take l).length + new.length) cx e (w.tape w.drawn (.appendCap (((ob.rows.drop s).take l).length + new.length) cx e))) (e := e)
                    have own : ∀ b, Own (D.put o .dead) b → Own D b := by
                      rintro b ⟨q, d', hq, rfl⟩
                      simp only [DM.put] at hq
                      split at hq
                      · cases hq
                      · exact ⟨q, d', hq, rfl⟩
                    exact ⟨D', q1, hk.2.trans q2, q3.mono fun b _ h => own b h, fun q d' h => (q4 q d' h).imp (own _) (fun k => k), fun q hq hne' => q6 q (put_unborn q hq (by rintro rfl; rw [hd] at hq; cases hq)) hne', q5⟩
                · cases hrx
              · cases hef
          | _ => cases hef
        · cases hef
end
end Go.Ml
