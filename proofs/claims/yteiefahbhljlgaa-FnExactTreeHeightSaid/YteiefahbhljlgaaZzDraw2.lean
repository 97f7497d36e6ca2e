/- What an operation looks at. -/
import Derived.Test.YteiefahbhljlgaaZzDraw
set_option linter.unusedSimpArgs false
namespace Go.Ml

def refs1 : V → List Nat
  | .msl o _ _ => [o]
  | .ptr o _ _ => [o]
  | _ => []

def I.reads (env : Nat → V) (i : I) : List Nat := i.srcs.flatMap fun s => refs1 (s.ev env)

theorem src_congr {env env2 : Nat → V} {s : Src} (h : ∀ t, t ∈ s.tmps → env2 t = env t) : s.ev env2 = s.ev env := by
  cases s with
  | t n => exact h n (by simp [Src.tmps])
  | c v => rfl

section
variable {σ σ2 : Store} {env env2 : Nat → V}

theorem rowAt_congr {x : V} (h : ∀ o, o ∈ refs1 x → objAt σ2 o = objAt σ o) : rowAt σ2 x = rowAt σ x := by
  cases x <;> first | rfl | skip
  simp only [rowAt]
  rw [h _ (by simp [refs1])]

theorem rowsOf_congr {x : V} (h : ∀ o, o ∈ refs1 x → objAt σ2 o = objAt σ o) : rowsOf σ2 x = rowsOf σ x := by
  cases x <;> first | rfl | skip
  simp only [rowsOf]
  rw [h _ (by simp [refs1])]

theorem lenOf_congr {x : V} (h : ∀ o, o ∈ refs1 x → objAt σ2 o = objAt σ o) : lenOf σ2 x = lenOf σ x := by
  cases x <;> first | rfl | skip
  simp only [lenOf]
  rw [h _ (by simp [refs1])]

theorem fillRow_congr : ∀ (ps : List (Nat × Nat × Src)) (row : List V), (∀ s, s ∈ ps.map (·.2.2) → s.ev env2 = s.ev env) → fillRow env2 row ps = fillRow env row ps
  | [], _, _ => rfl
  | (off, n, s) :: ps, row, h => by
    simp only [fillRow]
    rw [h s (by simp)]
    split
    · split
      · exact fillRow_congr ps _ fun s hs => h s (by simp [hs])
      · rfl
    · rfl

theorem fillRows_congr {sz : Nat} : ∀ (ps : List (Nat × Src)) (rows : List (List V)), (∀ s, s ∈ ps.map (·.2) → s.ev env2 = s.ev env) → fillRows env2 sz rows ps = fillRows env sz rows ps
  | [], _, _ => rfl
  | (i, s) :: ps, rows, h => by
    simp only [fillRows]
    rw [h s (by simp)]
    split
    · split
      · exact fillRows_congr ps _ fun s hs => h s (by simp [hs])
      · rfl
    · rfl

theorem eff_congr (i : I) (hs : ∀ s, s ∈ i.srcs → s.ev env2 = s.ev env) (ho : ∀ o, o ∈ i.reads env → objAt σ2 o = objAt σ o) : i.eff env2 σ2 = i.eff env σ := by
  have hr : ∀ s, s ∈ i.srcs → ∀ o, o ∈ refs1 (s.ev env) → objAt σ2 o = objAt σ o := fun s hs' o ho' => ho o (List.mem_flatMap.2 ⟨s, hs', ho'⟩)
  cases i with
  | mov x => simp only [I.eff]; rw [hs x (by simp [I.srcs])]
  | pick c a b => simp only [I.eff]; rw [hs c (by simp [I.srcs]), hs a (by simp [I.srcs]), hs b (by simp [I.srcs])]
  | alloc z => rfl
  | box x => simp only [I.eff]; rw [hs x (by simp [I.srcs])]
  | build z ps => simp only [I.eff]; rw [fillRow_congr ps z (fun s h => hs s (by simpa [I.srcs] using h))]
  | mkSl sz z ln ps => simp only [I.eff]; rw [fillRows_congr ps _ (fun s h => hs s (by simpa [I.srcs] using h))]
  | make z b x => simp only [I.eff]; rw [hs x (by simp [I.srcs])]
  | load n g a => simp only [I.eff]; rw [hs a (by simp [I.srcs]), rowAt_congr (hr a (by simp [I.srcs]))]
  | store n a x =>
    simp only [I.eff]
    rw [hs a (by simp [I.srcs]), hs x (by simp [I.srcs])]
    have := hr a (by simp [I.srcs])
    split
    · rename_i o r off cs e1 e2
      rw [this o (by rw [e1]; simp [refs1])]
    · rfl
  | fld d a =>
    simp only [I.eff]
    rw [hs a (by simp [I.srcs])]
    have := hr a (by simp [I.srcs])
    split
    · rename_i o r off e1
      rw [this o (by rw [e1]; simp [refs1])]
    · rfl
    · rfl
  | idx sz x i =>
    simp only [I.eff]
    rw [hs x (by simp [I.srcs]), hs i (by simp [I.srcs])]
    have := hr x (by simp [I.srcs])
    split
    · rename_i o s l e1
      rw [this o (by rw [e1]; simp [refs1])]
    · rfl
    · rfl
  | idxA c sz x i =>
    simp only [I.eff]
    rw [hs x (by simp [I.srcs]), hs i (by simp [I.srcs])]
    have := hr x (by simp [I.srcs])
    split
    · rename_i o r off j e1 e2
      rw [this o (by rw [e1]; simp [refs1])]
    · rfl
    · rfl
  | idxS x i => simp only [I.eff]; rw [hs x (by simp [I.srcs]), hs i (by simp [I.srcs])]
  | len x => simp only [I.eff]; rw [hs x (by simp [I.srcs]), lenOf_congr (hr x (by simp [I.srcs]))]
  | lenS x => simp only [I.eff]; rw [hs x (by simp [I.srcs])]
  | bin op x y => simp only [I.eff]; rw [hs x (by simp [I.srcs]), hs y (by simp [I.srcs])]
  | beq ne x y => simp only [I.eff]; rw [hs x (by simp [I.srcs]), hs y (by simp [I.srcs])]
  | un op x => simp only [I.eff]; rw [hs x (by simp [I.srcs])]
  | conv k x => simp only [I.eff]; rw [hs x (by simp [I.srcs])]
  | bstr x => simp only [I.eff]; rw [hs x (by simp [I.srcs]), rowsOf_congr (hr x (by simp [I.srcs]))]
  | slice sz x lo hi =>
    have hl : ∀ n, loB env2 n lo = loB env n lo := by
      intro n
      cases lo with
      | none => rfl
      | some l => simp only [loB]; rw [hs l (by simp [I.srcs])]
    have hh : ∀ n, hiB env2 n hi = hiB env n hi := by
      intro n
      cases hi with
      | none => rfl
      | some l => simp only [hiB]; rw [hs l (by simp [I.srcs])]
    have := hr x (by simp [I.srcs])
    simp only [I.eff]
    rw [hs x (by simp [I.srcs]), lenOf_congr this]
    simp only [hl, hh]
    split
    · split
      · split
        · split
          · rfl
          · rfl
          · rename_i o s l e1
            rw [this o (by rw [e1]; simp [refs1])]
          · rfl
        · rfl
      · rfl
    · rfl
  | sliceS x lo hi =>
    have hl : ∀ n, loB env2 n lo = loB env n lo := by
      intro n
      cases lo with
      | none => rfl
      | some l => simp only [loB]; rw [hs l (by simp [I.srcs])]
    have hh : ∀ n, hiB env2 n hi = hiB env n hi := by
      intro n
      cases hi with
      | none => rfl
      | some l => simp only [hiB]; rw [hs l (by simp [I.srcs])]
    simp only [I.eff]
    rw [hs x (by simp [I.srcs])]
    simp only [hl, hh]
  | app sz b x y =>
    have h1 := hr x (by simp [I.srcs])
    have h2 := hr y (by simp [I.srcs])
    simp only [I.eff]
    rw [hs x (by simp [I.srcs]), hs y (by simp [I.srcs]), rowsOf_congr h1, rowsOf_congr h2]
    split
    · split
      · rfl
      · split
        · split
          · rfl
          · rename_i o s l e1
            rw [h1 o (by rw [e1]; simp [refs1])]
          · rfl
        · rfl
    · rfl
  | max x y => simp only [I.eff]; rw [hs x (by simp [I.srcs]), hs y (by simp [I.srcs])]
  | extr i x => simp only [I.eff]; rw [hs x (by simp [I.srcs])]
  | chk x =>
    simp only [I.eff]
    rw [hs x (by simp [I.srcs])]
    have := hr x (by simp [I.srcs])
    split
    · rename_i o r off e1
      rw [this o (by rw [e1]; simp [refs1])]
    · rfl
    · rfl
  | call f as => rfl

theorem reach_congr : ∀ (n : Nat) (x : V), (∀ o, o ∈ reach σ n x → objAt σ2 o = objAt σ o) → resolve σ2 n x = resolve σ n x ∧ reach σ2 n x = reach σ n x
  | 0, x, _ => ⟨rfl, rfl⟩
  | n + 1, x, h => by
    have hl : ∀ (cs : List V), (∀ o, o ∈ cs.flatMap (reach σ n) → objAt σ2 o = objAt σ o) → cs.mapM (resolve σ2 n) = cs.mapM (resolve σ n) ∧ cs.flatMap (reach σ2 n) = cs.flatMap (reach σ n) := by
      intro cs
      induction cs with
      | nil => intro _; exact ⟨rfl, rfl⟩
      | cons c cs ih =>
        intro h
        simp only [List.flatMap_cons, List.mem_append] at h
        obtain ⟨a1, a2⟩ := reach_congr n c fun o ho => h o (.inl ho)
        obtain ⟨b1, b2⟩ := ih fun o ho => h o (.inr ho)
        simp only [List.mapM_cons, List.flatMap_cons, a1, a2, b1, b2, and_self]
    have hll : ∀ (rows : List (List V)), (∀ o, o ∈ (rows.flatMap fun r => r.flatMap (reach σ n)) → objAt σ2 o = objAt σ o) →
        (rows.mapM fun (r : List V) => r.mapM (resolve σ2 n)) = (rows.mapM fun (r : List V) => r.mapM (resolve σ n)) ∧ (rows.flatMap fun (r : List V) => r.flatMap (reach σ2 n)) = (rows.flatMap fun (r : List V) => r.flatMap (reach σ n)) := by
      intro rows
      induction rows with
      | nil => intro _; exact ⟨rfl, rfl⟩
      | cons c cs ih =>
        intro h
        simp only [List.flatMap_cons, List.mem_append] at h
        obtain ⟨a1, a2⟩ := hl c fun o ho => h o (.inl ho)
        obtain ⟨b1, b2⟩ := ih fun o ho => h o (.inr ho)
        simp only [List.mapM_cons, List.flatMap_cons, a1, a2, b1, b2, and_self]
    cases x <;> first | exact ⟨rfl, rfl⟩ | skip
    case agg cs =>
      simp only [reach] at h
      obtain ⟨a1, a2⟩ := hl cs h
      simp only [resolve, reach, a1, a2, and_self]
    case tup cs =>
      simp only [reach] at h
      obtain ⟨a1, a2⟩ := hl cs h
      simp only [resolve, reach, a1, a2, and_self]
    case msl o s l =>
      have ho : objAt σ2 o = objAt σ o := h o (by simp [reach])
      simp only [reach] at h
      simp only [resolve, reach, ho]
      cases hob : objAt σ o with
      | none => exact ⟨rfl, rfl⟩
      | some ob =>
        simp only [hob, List.mem_cons] at h
        obtain ⟨b1, b2⟩ := hll ob.rows fun q hq => h q (.inr hq)
        obtain ⟨c1, _⟩ := hll ((ob.rows.drop s).take l) fun q hq => h q (.inr (by
          obtain ⟨r, hr, hq⟩ := List.mem_flatMap.1 hq
          exact List.mem_flatMap.2 ⟨r, List.mem_of_mem_drop (List.mem_of_mem_take hr), hq⟩))
        simp only [b2, c1, and_self]
    case ptr o s l =>
      have ho : objAt σ2 o = objAt σ o := h o (by simp [reach])
      simp only [reach] at h
      simp only [resolve, reach, ho]
      cases hob : objAt σ o with
      | none => exact ⟨rfl, rfl⟩
      | some ob =>
        simp only [hob, List.mem_cons] at h
        obtain ⟨b1, b2⟩ := hll ob.rows fun q hq => h q (.inr hq)
        refine ⟨?_, by simp only [b2]⟩
        simp only []
        cases hrow : ob.rows[s]? with
        | none => rfl
        | some row =>
          simp only []
          obtain ⟨c1, _⟩ := hl row fun q hq => h q (.inr (List.mem_flatMap.2 ⟨row, List.mem_of_getElem? hrow, hq⟩))
          rw [c1]
end

/-- The objects that an effect writes. -/
def Eff.writes (id : Nat) : Eff → List (Nat × Option Obj)
  | .val _ => []
  | .newP ob => [(id, some ob)]
  | .newS ob _ => [(id, some ob)]
  | .upd o ob => [(o, some ob)]
  | .mov o ob _ => [(o, none), (id, some ob)]

theorem putW_eff (ef : Eff) (σ : Store) (id : Nat) : putW σ (ef.writes id) = ef.store σ id := by cases ef <;> rfl

theorem looks_src {x : OpI} {s : Src} (h : s ∈ x.i.srcs) {t : Nat} (ht : t ∈ s.tmps) : t ∈ x.looks := by
  simp only [OpI.looks, List.mem_append, List.mem_flatMap]; exact .inl ⟨s, h, ht⟩

theorem looks_g {x : OpI} {g : Nat} {want : Bool} (h : x.g = some (g, want)) : g ∈ x.looks := by
  simp [OpI.looks, h]

theorem fp_eff {T : Nat → Option Fn} {x : OpI} {st : St} {ef : Eff} (hg : ∀ g want, x.g = some (g, want) → st.env g = .bool want) (h : x.i.eff st.env st.objs = some ef) :
    Fp T ⟨x, x.i.reads st.env, ef.dv (st.base + x.k), ef.writes (st.base + x.k)⟩ st := by
  intro st2 hag
  have h2 : x.i.eff st2.env st2.objs = some ef := by
    rw [← h]
    exact eff_congr x.i (fun s hs => src_congr fun t ht => hag.env t (looks_src hs ht)) (fun o ho => hag.objs o ho)
  have := Run.op (T := T) (st := st2) (fun g want hgw => (hag.env g (looks_g hgw)).trans (hg g want hgw)) h2
  have e : (⟨x, x.i.reads st.env, ef.dv (st.base + x.k), ef.writes (st.base + x.k)⟩ : Dat).go st2 = ef.go st2 x.dst (st2.base + x.k) := by
    simp only [Dat.go, Eff.go, putW_eff, hag.base]
  rw [e]; exact this

theorem fp_off {T : Nat → Option Fn} {x : OpI} {st : St} {g : Nat} {want b : Bool} (hg : x.g = some (g, want)) (he : st.env g = .bool b) (hb : b ≠ want) : Fp T ⟨x, [], .any, []⟩ st := by
  intro st2 hag
  exact Run.off hg ((hag.env g (looks_g hg)).trans he) hb

end Go.Ml
