/- Each operation of the model does to memory what its effect does to the abstract state. -/
import Derived.Test.YteiefahbhljlgaaZzTr
import Derived.Laws.Entries
namespace Go.Ml

def Own (D : DM) : Nat → Prop := fun b => ∃ o d, D o = .live d ∧ d.blk = b

def Done (w : World) (D : DM) (M : Nat → Prop) (id : Nat) (σ' : Store) (x : V) (v : Value) (w' : World) : Prop :=
  ∃ D', SRel w' D' M σ' ∧ Ext w D (XS M D) w' D' (XS M D') ∧ Gr (Own D) w w' ∧ (∀ o d', D' o = .live d' → Own D d'.blk ∨ w.heap.size ≤ d'.blk) ∧
    (∀ o, D o = .unborn → o ≠ id → D' o = .unborn) ∧ rd w' D' (XS M D') x v

@[simp] theorem addr_add (b o k : Nat) : (⟨b, o, none⟩ : Addr).add k = ⟨b, o + k, none⟩ := by unfold Addr.add; split <;> simp_all

section
variable {w : World} {D : DM} {M : Nat → Prop} {σ : Store}

theorem done_val (hS : SRel w D M σ) {x : V} {v : Value} {id : Nat} (h : rd w D (XS M D) x v) : Done w D M id σ x v w :=
  ⟨D, hS, Ext.refl _ _ _, Gr.refl _ _, fun o d h => .inl ⟨o, d, h, rfl⟩, fun _ h _ => h, h⟩

theorem put_unborn {id : Nat} {x : DS} : ∀ o, D o = .unborn → o ≠ id → D.put id x o = .unborn := fun o h hne => by simp only [DM.put]; rw [if_neg hne]; exact h

theorem put_fresh {id : Nat} {d0 : Desc} (h0 : w.heap.size ≤ d0.blk) : ∀ o d', D.put id (.live d0) o = .live d' → Own D d'.blk ∨ w.heap.size ≤ d'.blk := by
  intro o d' h
  simp only [DM.put] at h
  split at h
  · cases h; exact .inr h0
  · exact .inl ⟨o, d', h, rfl⟩

theorem done_newP (hS : SRel w D M σ) {id : Nat} (hid : id < σ.length ∧ D id = .unborn) {w' : World} {cs : Array Value} (p : Push w w' cs) {row : List V}
    (h0 : 0 < row.length) (hlf : row.all V.leaf = true) (hrd : rdL w D (XS M D) row cs.toList) :
    Done w D M id (σ.set id (some ⟨row.length, [row]⟩)) (.ptr id 0 0) (.pointer (some ⟨w.heap.size, 0, none⟩)) w' := by
  have hl := rdL_length _ _ hrd
  have hh := hS.new p hid.1 hid.2 (ob := ⟨row.length, [row]⟩) h0 (by simp) (by simp at hl ⊢; omega)
    (fun i x hi => by
      obtain ⟨y, h1, h2⟩ := rdL_get _ _ hrd i x (by simpa using hi)
      exact ⟨List.all_eq_true.1 hlf x (List.mem_of_getElem? (by simpa using hi)), y, by simpa using h1, h2⟩)
  refine ⟨_, hh.1, hh.2, p.gr _, put_fresh (by simp), put_unborn, ?_⟩
  simp [rd, DM.put]

theorem done_newS (hS : SRel w D M σ) {id : Nat} (hid : id < σ.length ∧ D id = .unborn) {w' : World} {cs : Array Value} (p : Push w w' cs) {sz : Nat} {rows : List (List V)} {cap : Nat}
    (h0 : 0 < sz) (hr : ∀ r ∈ rows, r.length = sz) (hc : rows.length ≤ cap) (hcs : cap * sz ≤ cs.size)
    (hrd : ∀ (i : Nat) (x : V), rows.flatten[i]? = some x → x.leaf = true ∧ ∃ y, cs[i]? = some y ∧ rd w D (XS M D) x y) :
    Done w D M id (σ.set id (some ⟨sz, rows⟩)) (.msl id 0 rows.length) (.slice (some ⟨w.heap.size, 0, none⟩) rows.length cap) w' := by
  have hfit : rows.length * sz ≤ cs.size := Nat.le_trans (Nat.mul_le_mul_right _ hc) hcs
  have hh := hS.new p hid.1 hid.2 (ob := ⟨sz, rows⟩) h0 hr hfit hrd
  refine ⟨_, hh.1, hh.2, p.gr _, put_fresh (by simp), put_unborn, ?_⟩
  simp only [rd, DM.put, if_true]
  exact ⟨by simp, _, cap, rfl, hc, .inl ⟨by simp, by simpa using hcs⟩⟩

theorem rd_none_le {x : V} {v : Value} {X : Nat → Prop} (h : rd w DM.none X x v) : rd w D X x v :=
  rd_mono x v ⟨Nat.le_refl _, fun _ _ _ => rfl, fun _ _ h => h, fun _ => by simp [DM.none, DSle]⟩ h

theorem flatten_get {rows : List (List V)} {sz : Nat} (hr : ∀ r ∈ rows, r.length = sz) : ∀ {i : Nat} {r : List V} {j : Nat} {x : V}, rows[i]? = some r → r[j]? = some x → rows.flatten[i * sz + j]? = some x := by
  induction rows with
  | nil => intro i r j x h; simp at h
  | cons a rows ih =>
    intro i r j x h hj
    have ha : a.length = sz := hr a (by simp)
    cases i with
    | zero =>
      simp at h; subst h
      have : j < a.length := (List.getElem?_eq_some_iff.1 hj).1
      simp only [List.flatten_cons, Nat.zero_mul, Nat.zero_add]
      rw [List.getElem?_append_left this]; exact hj
    | succ i =>
      simp only [List.flatten_cons]
      rw [List.getElem?_append_right (by rw [ha, Nat.succ_mul]; omega)]
      have := ih (fun r hr' => hr r (by simp [hr'])) (i := i) (r := r) (j := j) (x := x) (by simpa using h) hj
      rwa [show (i + 1) * sz + j - a.length = i * sz + j by rw [ha, Nat.succ_mul]; omega]

/-- A row behind a pointer. -/
theorem rowAt_rd (hS : SRel w D M σ) {x : V} {v : Value} {row : List V} {off : Nat} (h : rowAt σ x = some (row, off)) (hr : rd w D (XS M D) x v) :
    ∃ b o, v = .pointer (some ⟨b, o + off, none⟩) ∧ ∀ (i : Nat) (y : V), row[i]? = some y → ∃ c, w.cell? ⟨b, o + i, none⟩ = some c ∧ rd w D (XS M D) y c := by
  cases x <;> simp only [rowAt] at h <;> first | cases h; done | skip
  case ptr o r off' =>
    cases ho : objAt σ o with
    | none => simp [ho] at h
    | some ob =>
      simp only [ho] at h
      cases hrow : ob.rows[r]? with
      | none => simp [hrow] at h
      | some row' =>
        simp only [hrow, Option.map_some, Option.some.injEq, Prod.mk.injEq] at h
        obtain ⟨rfl, rfl⟩ := h
        obtain ⟨d, hd⟩ := hS.alive o ob ho
        obtain ⟨ob', c, e, h1, h2, h3, h4, h5, h6, h7, h8, h9, h10, h11⟩ := hS.live o d hd
        rw [ho] at h1; cases h1
        simp only [rd, hd] at hr
        subst hr
        refine ⟨d.blk, d.bas + r * d.sz, rfl, fun i y hi => ?_⟩
        obtain ⟨_, c', k1, k2⟩ := h11 (r * d.sz + i) y (flatten_get (by rw [h2]; exact h10) hrow hi)
        exact ⟨c', by simp [World.cell?, h7, Nat.add_assoc, k1], k2⟩
  case fptr row' off' =>
    simp only [Option.some.injEq, Prod.mk.injEq] at h
    obtain ⟨rfl, rfl⟩ := h
    simp only [rd] at hr
    obtain ⟨b, o, rfl, _, _, hc⟩ := hr
    refine ⟨b, o, rfl, fun i y hi => ?_⟩
    obtain ⟨_, c, k1, k2⟩ := rdCells_get o _ hc i y hi
    exact ⟨c, k1, rd_none_le k2⟩

/-- The rows of a slice. -/
theorem rowsOf_rd (hS : SRel w D M σ) {x : V} {v : Value} {sz : Nat} {rows : List (List V)} (h : rowsOf σ x = some (sz, rows)) (hr : rd w D (XS M D) x v) :
    ∃ a cap, v = .slice a rows.length cap ∧ rows.length ≤ cap ∧ (rows = [] ∨ ∃ b off, a = some ⟨b, off, none⟩ ∧ (∀ r ∈ rows, r.length = sz) ∧
      ∀ (i : Nat) (y : V), rows.flatten[i]? = some y → y.leaf = true ∧ ∃ c, w.cell? ⟨b, off + i, none⟩ = some c ∧ rd w D (XS M D) y c) := by
  cases x <;> simp only [rowsOf] at h <;> first | cases h; done | skip
  case nils =>
    simp only [Option.some.injEq, Prod.mk.injEq] at h
    obtain ⟨rfl, rfl⟩ := h
    simp only [rd] at hr
    obtain ⟨a, rfl⟩ := hr
    exact ⟨a, 0, rfl, Nat.le_refl _, .inl rfl⟩
  case sl sz' rows' =>
    simp only [Option.some.injEq, Prod.mk.injEq] at h
    obtain ⟨rfl, rfl⟩ := h
    simp only [rd] at hr
    obtain ⟨a, cap, rfl, hle, hr⟩ := hr
    refine ⟨a, cap, rfl, hle, hr.imp id ?_⟩
    rintro ⟨b, off, rfl, _, _, hc⟩
    rw [rdRows_iff] at hc
    refine ⟨b, off, rfl, hc.1, fun i y hi => ?_⟩
    obtain ⟨kl, c, k1, k2⟩ := rdCells_get off _ hc.2 i y hi
    exact ⟨kl, c, k1, rd_none_le k2⟩
  case msl o s l =>
    cases ho : objAt σ o with
    | none => simp [ho] at h
    | some ob =>
      simp only [ho] at h
      split at h
      · rename_i hle
        simp only [Option.some.injEq, Prod.mk.injEq] at h
        obtain ⟨rfl, rfl⟩ := h
        obtain ⟨d, hd⟩ := hS.alive o ob ho
        obtain ⟨ob', c, e, h1, h2, h3, h4, h5, h6, h7, h8, h9, h10, h11⟩ := hS.live o d hd
        rw [ho] at h1; cases h1
        simp only [rd, hd] at hr
        obtain ⟨hn, a, cap, rfl, hcap, hr⟩ := hr
        have hlen : ((ob.rows.drop s).take l).length = l := by simp; omega
        refine ⟨a, cap, by rw [hlen], by rw [hlen]; exact hcap, ?_⟩
        rcases hr with ⟨rfl, hfit⟩ | ⟨rfl, rfl⟩
        · refine .inr ⟨d.blk, d.bas + s * d.sz, rfl, fun r hr => h10 r (List.mem_of_mem_drop (List.mem_of_mem_take hr)), fun i y hi => ?_⟩
          -- the flattened part lies in the flattened whole
          have hsplit : ob.rows.flatten = (ob.rows.take s).flatten ++ (((ob.rows.drop s).take l).flatten ++ ((ob.rows.drop s).drop l).flatten) := by
            rw [← List.flatten_append, ← List.flatten_append, List.take_append_drop, List.take_append_drop]
          have hpre : (ob.rows.take s).flatten.length = s * d.sz := by
            have : ∀ (l : List (List V)), (∀ r ∈ l, r.length = d.sz) → l.flatten.length = l.length * d.sz := by
              intro l hl
              induction l with
              | nil => simp
              | cons a l ih => simp only [List.flatten_cons, List.length_append, List.length_cons, hl a (by simp), ih (fun r hr => hl r (by simp [hr])), Nat.succ_mul]; omega
            rw [this _ (fun r hr => by rw [h2]; exact h10 r (List.mem_of_mem_take hr))]
            congr 1
            simp; omega
          have hi' : ob.rows.flatten[s * d.sz + i]? = some y := by
            rw [hsplit, List.getElem?_append_right (by omega), hpre, Nat.add_sub_cancel_left]
            rw [List.getElem?_append_left (List.getElem?_eq_some_iff.1 hi).1]
            exact hi
          obtain ⟨kl, c', k1, k2⟩ := h11 _ y hi'
          exact ⟨kl, c', by simp [World.cell?, h7, Nat.add_assoc, k1], k2⟩
        · exact .inl (by simp)
      · cases h

theorem lenOf_rd (hS : SRel w D M σ) {x : V} {v : Value} {n : Nat} (h : lenOf σ x = some n) (hr : rd w D (XS M D) x v) : ∃ a cap, v = .slice a n cap ∧ n ≤ cap := by
  cases x <;> simp only [lenOf] at h <;> first | cases h; done | skip
  case nils => simp at h; subst h; simp only [rd] at hr; obtain ⟨a, rfl⟩ := hr; exact ⟨a, 0, rfl, by simp⟩
  case sl sz rows => simp at h; subst h; simp only [rd] at hr; obtain ⟨a, cap, rfl, hc, _⟩ := hr; exact ⟨a, cap, rfl, hc⟩
  case msl o s l =>
    cases ho : objAt σ o with
    | none => simp [ho] at h
    | some ob =>
      simp [ho] at h; subst h
      obtain ⟨d, hd⟩ := hS.alive o ob ho
      simp only [rd, hd] at hr
      obtain ⟨hn, a, cap, rfl, hcap, _⟩ := hr
      exact ⟨a, cap, rfl, hcap⟩
end
end Go.Ml
