/- A piece of code reckoned with. -/
import Derived.Test.YteiefahbhljlgaaZzW
set_option linter.unusedSimpArgs false
namespace Go.Ml

def valK (ef : Eff) (k : V → Prop) : Prop := match ef with
  | .val v => k v
  | _ => False

theorem valK_spec {ef : Eff} {k : V → Prop} (h : valK ef k) : ∃ v, ef = .val v ∧ k v := by
  cases ef <;> first | exact h.elim | exact ⟨_, rfl, h⟩

/-- A region that draws its order and writes nothing. -/
def any0K (T : Nat → Option Fn) : List OpI → St → (St → Prop) → Prop
  | [], st, k => k st
  | o :: l, st, k => gK o.g st.env (match o.i with
    | .call f as => resK st.env st.objs as fun as' => PFK T f as' fun r => numK (reachAll st.env st.objs as) fun R =>
        (R = [] ∨ scalar SD r = true) ∧ any0K T l { st with env := updO st.env o.dst r } k
    | x => x.effK st.env st.objs fun ef => valK ef fun v => any0K T l { st with env := updO st.env o.dst v } k)
    (any0K T l { st with env := updO st.env o.dst .any } k)

theorem any0K_spec {T : Nat → Option Fn} {ops : List OpI} {st0 : St} : ∀ {l : List OpI} {i : Nat} {acc : List Acc} {st : St} {k : St → Prop} (ds : List (Nat × Dat)), any0K T l st k →
    i ≤ ops.length → ops.drop i = l → ds.length = i → ds.map (·.1) = List.range i → AllFit ops ds acc.reverse → (∀ a ∈ acc, a.W = []) → Chain T (ds.map (·.2)) st0 → goAll (ds.map (·.2)) st0 = st →
    ∃ ds', ds'.map (·.1) = List.range ops.length ∧ (∃ acc', AllFit ops ds' acc' ∧ ∀ a ∈ acc', a.W = []) ∧ Chain T (ds'.map (·.2)) st0 ∧ k (goAll (ds'.map (·.2)) st0)
  | [], i, acc, st, k, ds, h, hil, hd, hi, hr, hf, hw, hc, hg => by
    have hl : ops.length = i := by
      have := congrArg List.length hd
      simp at this; omega
    exact ⟨ds, by rw [hr, hl], ⟨_, hf, by simpa using hw⟩, hc, by rw [hg]; exact h⟩
  | o :: l, i, acc, st, k, ds, h, _, hd, hi, hr, hf, hw, hc, hg => by
    have hio : ops[i]? = some o := by
      have := congrArg (·[0]?) hd
      simpa using this
    have hd' : ops.drop (i + 1) = l := by
      rw [← List.drop_drop, hd]; rfl
    have hgo : getO ops i = o := by simp [getO, List.getD_eq_getElem?_getD, hio]
    have step : ∀ (R : List Nat) (v : V), Fp T ⟨o, R, v, []⟩ st → any0K T l { st with env := updO st.env o.dst v } k → _ := fun R v hfp hk =>
      any0K_spec (acc := ⟨i, R, []⟩ :: acc) (ds ++ [(i, ⟨o, R, v, []⟩)]) hk (List.getElem?_eq_some_iff.1 hio).1 hd' (by simp [hi]) (by simp [hr, List.range_succ]) (by
        rw [List.reverse_cons]
        exact hf.append (.cons ⟨rfl, hgo, rfl, rfl⟩ .nil)) (by
        intro a ha
        rcases List.mem_cons.1 ha with rfl | ha
        · rfl
        · exact hw a ha) (by
        rw [List.map_append]; exact chain_snoc _ _ hc (by rw [hg]; exact hfp)) (by rw [List.map_append, List.map_cons, List.map_nil, goAll_snoc, hg]; rfl)
    rcases gK_spec h with ⟨hgd, h⟩ | ⟨t, want, b, hgd, he, hb, h⟩
    · split at h
      · rename_i f as hi2
        obtain ⟨vs, e, h⟩ := resK_spec h
        obtain ⟨r, h1, h⟩ := h
        obtain ⟨hR, h⟩ := h
        exact step _ r (fp_callP hgd hi2 e h1 hR.symm) h
      · obtain ⟨ef, e, h⟩ := effK_spec h
        obtain ⟨v, rfl, h⟩ := valK_spec h
        exact step _ v (fp_eff hgd e) h
    · exact step [] .any (fp_off hgd he hb) h

def okA0 (ops : List OpI) : Bool := okA (befF ops) ops ((List.range ops.length).map fun i => ⟨i, [], []⟩)

theorem okA_strip {B : Nat → List Nat} {ops : List OpI} : ∀ {l : List Acc}, (∀ a ∈ l, a.W = []) → okA B ops (l.map fun a => ⟨a.i, [], []⟩) = okA B ops l
  | [], _ => rfl
  | a :: l, h => by
    simp only [List.map_cons, okA]
    rw [okA_strip fun b hb => h b (by simp [hb])]
    congr 1
    rw [List.all_map]
    have hall : ∀ (m : List Acc), (∀ b ∈ m, b.W = []) → (m.all ((fun b : Acc => (B b.i).contains a.i || apartA (getO ops a.i) (getO ops b.i) ⟨a.i, [], []⟩ b) ∘ fun b => ⟨b.i, [], []⟩)) =
        m.all fun b => (B b.i).contains a.i || apartA (getO ops a.i) (getO ops b.i) a b := by
      intro m
      induction m with
      | nil => intro _; rfl
      | cons b m ih =>
        intro hm
        simp only [List.all_cons]
        rw [ih fun c hc => hm c (by simp [hc])]
        congr 1
        simp only [Function.comp, apartA, h a (by simp), hm b (by simp), List.all_nil]
    exact hall l fun b hb => h b (by simp [hb])

theorem any0K_any {T : Nat → Option Fn} {ops : List OpI} {st : St} {k : St → Prop} (h0 : okA0 ops = true) (h : any0K T ops st k) :
    ∃ ds : List (Nat × Dat), ds.map (·.1) = List.range ops.length ∧ (∃ acc', AllFit ops ds acc' ∧ okA (befF ops) ops acc' = true) ∧ Chain T (ds.map (·.2)) st ∧ k (goAll (ds.map (·.2)) st) := by
  obtain ⟨ds, h1, ⟨acc, h2, h3⟩, h4, h5⟩ := any0K_spec (ops := ops) (acc := []) (st0 := st) [] h (Nat.zero_le _) rfl rfl rfl .nil (by simp) trivial rfl
  refine ⟨ds, h1, ⟨acc, h2, ?_⟩, h4, h5⟩
  rw [← okA_strip h3]
  have : (acc.map fun a => (⟨a.i, [], []⟩ : Acc)) = (List.range ops.length).map fun i => ⟨i, [], []⟩ := by
    rw [← h1, List.map_map]
    clear h1 h3 h4 h5 h h0
    induction h2 with
    | nil => rfl
    | cons h t ih => simp only [List.map_cons, Function.comp, h.1, ih]
  rw [this]; exact h0

theorem run_ds {T : Nat → Option Fn} {ops : List OpI} {st : St} (hb : okB (befF ops) ops 0 = true) {ds : List (Nat × Dat)} (h1 : ds.map (·.1) = List.range ops.length)
    {acc : List Acc} (h2 : AllFit ops ds acc) (h3 : okA (befF ops) ops acc = true) (h4 : Chain T (ds.map (·.2)) st) : Run T (.any ops [] st) (.code .normal (goAll (ds.map (·.2)) st)) := by
  have hB := okB_spec hb
  simp only [Nat.zero_add] at hB
  have hfit : ∀ {l m}, AllFit ops l m → ∀ p ∈ l, getO ops p.1 = p.2.x := by
    intro l m hf
    induction hf with
    | nil => intro p hp; cases hp
    | cons h t ih =>
      intro p hp
      rcases List.mem_cons.1 hp with rfl | hp
      · rw [← h.1]; exact h.2.1
      · exact ih p hp
  have hlt : ∀ p ∈ ds, p.1 < ops.length := by
    intro p hp
    have : p.1 ∈ ds.map (·.1) := List.mem_map_of_mem hp
    rw [h1] at this; exact List.mem_range.1 this
  refine run_any (B := befF ops) (fun i o j ho hj => (hB i o ho).1 j hj) ds.length ds [] st rfl (okD_of h2 h3) (fun e he => by cases he) h4 ?_ ?_ ?_
  · rw [h1]; exact List.pairwise_lt_range
  · intro p hp
    have hp2 : ops[p.1]? = some p.2.x := by
      have := hfit h2 p hp
      unfold getO at this
      rw [List.getD_eq_getElem?_getD] at this
      rw [List.getElem?_eq_getElem (hlt p hp)] at this ⊢
      exact congrArg some this
    exact ⟨hp2, by simp, (hB p.1 p.2.x hp2).2⟩
  · intro i hi _
    have : i ∈ ds.map (·.1) := by rw [h1]; exact List.mem_range.2 hi
    obtain ⟨p, hp, e⟩ := List.mem_map.1 this
    exact ⟨p.2, by rw [← e]; exact hp⟩

def noWr (l : List OpI) : Bool := l.all fun o => match o.i with
  | .store .. | .alloc _ | .box _ | .mkSl .. | .make .. | .app .. => false
  | _ => true

/-! ### Code -/

/-- What must hold of the text alone. -/
def C.okC : C → Bool
  | .reg d m l => okK m l && (!d || (okB (befF l) l 0 && (!noWr l || okA0 l)))
  | .seq a b => a.okC && b.okC
  | .cond _ a b => a.okC && b.okC
  | .block _ c => c.okC
  | .loop c => c.okC
  | _ => true

def padS (σ : Store) (m : Nat) : Store := σ ++ List.replicate m none

def St.in (st : St) (m : Nat) : St := { st with objs := padS st.objs m, base := st.objs.length, rds := [], muts := [] }

def seqK (e : Ex) (k q : Prop) : Prop := match e with
  | .normal => k
  | _ => q

def LoopK (T : Nat → Option Fn) (c : C) (Q : Ex → St → Prop) (st : St) : Prop := ∃ e st', Run T (.code (.loop c) st) (.code e st') ∧ Q e st'

def wp (T : Nat → Option Fn) (rf : Nat → Bool) : C → (Ex → St → Prop) → St → Prop
  | .skip, Q, st => Q .normal st
  | .reg d m l, Q, st => if d then (if noWr l then any0K T l (st.in m) (Q .normal) else anyK T l l 0 [] (st.in m) (Q .normal)) else opsK T rf l (st.in m) (Q .normal)
  | .seq a b, Q, st => wp T rf a (fun e st => seqK e (wp T rf b Q st) (Q e st)) st
  | .cond x a b, Q, st => boolK (x.ev st.env) fun t => if t = true then wp T rf a Q st else wp T rf b Q st
  | .block id c, Q, st => wp T rf c (fun e st => Q (exIn id e) st) st
  | .loop c, Q, st => LoopK T c Q st
  | .exit id, Q, st => Q (.exit id) st
  | .ret, Q, st => Q .ret st

theorem wp_sound {T : Nat → Option Fn} {rf : Nat → Bool} : ∀ {c : C} {Q : Ex → St → Prop} {st : St}, c.okC = true → wp T rf c Q st → ∃ e st', Run T (.code c st) (.code e st') ∧ Q e st'
  | .skip, Q, st, _, h => ⟨_, _, .skip st, h⟩
  | .reg d m l, Q, st, hk, h => by
    simp only [C.okC, Bool.and_eq_true, Bool.or_eq_true, Bool.not_eq_true'] at hk
    obtain ⟨hk, hk2⟩ := hk
    unfold wp at h
    cases d with
    | false =>
      obtain ⟨st', h1, h2⟩ := opsK_spec (by simpa using h)
      exact ⟨_, _, .reg hk h1, h2⟩
    | true =>
      simp only [Bool.true_eq_false, false_or] at hk2
      simp only [if_true] at h
      split at h
      · rename_i hw
        rcases hk2.2 with h' | h'
        · rw [h'] at hw; cases hw
        obtain ⟨ds, h1, ⟨acc, h2, h3⟩, h4, h5⟩ := any0K_any h' h
        exact ⟨_, _, .regD hk (run_ds hk2.1 h1 h2 h3 h4), h5⟩
      · obtain ⟨st', h1, h2⟩ := anyK_run hk2.1 h
        exact ⟨_, _, .regD hk h1, h2⟩
  | .seq a b, Q, st, hk, h => by
    simp only [C.okC, Bool.and_eq_true] at hk
    obtain ⟨e, st1, h1, h2⟩ := wp_sound hk.1 (Q := fun e st => seqK e (wp T rf b Q st) (Q e st)) h
    cases e with
    | normal =>
      obtain ⟨e, st2, h3, h4⟩ := wp_sound hk.2 (Q := Q) h2
      exact ⟨e, st2, .seqN h1 h3, h4⟩
    | exit id => exact ⟨_, _, .seqE (by simp) h1, h2⟩
    | ret => exact ⟨_, _, .seqE (by simp) h1, h2⟩
  | .cond x a b, Q, st, hk, h => by
    simp only [C.okC, Bool.and_eq_true] at hk
    obtain ⟨t, e, h⟩ := boolK_spec h
    cases t with
    | true =>
      obtain ⟨e2, st2, h1, h2⟩ := wp_sound hk.1 (Q := Q) (by simpa using h)
      exact ⟨e2, st2, .cond e h1, h2⟩
    | false =>
      obtain ⟨e2, st2, h1, h2⟩ := wp_sound hk.2 (Q := Q) (by simpa using h)
      exact ⟨e2, st2, .cond e h1, h2⟩
  | .block id c, Q, st, hk, h => by
    obtain ⟨e, st1, h1, h2⟩ := wp_sound (c := c) (Q := fun e st => Q (exIn id e) st) hk h
    exact ⟨_, _, .block h1, h2⟩
  | .loop c, Q, st, _, h => h
  | .exit id, Q, st, _, h => ⟨_, _, .exit id st, h⟩
  | .ret, Q, st, _, h => ⟨_, _, .ret st, h⟩

/-- A loop: what holds ahead of each round, and what falls. `ρ`: the objects that stay. -/
theorem loop_rule {T : Nat → Option Fn} {rf : Nat → Bool} {c : C} {Q : Ex → St → Prop} {α : Type} (I : α → St → Prop) (m : α → Nat) (hk : c.okC = true)
    (step : ∀ a st, I a st → wp T rf c (fun e st' => seqK e (∃ a', m a' < m a ∧ (I a' st' ∨ ∃ ρ : List Nat, ρ.Nodup ∧ (∀ i, i < st'.keep → ρ[i]? = some i) ∧ I a' (st'.gc ρ))) (Q e st')) st) :
    ∀ (n : Nat) (a : α) (st : St), m a < n → I a st → LoopK T c Q st
  | 0, _, _, hn, _ => absurd hn (Nat.not_lt_zero _)
  | n + 1, a, st, hn, h => by
    obtain ⟨e, st1, h1, h2⟩ := wp_sound hk (step a st h)
    cases e with
    | normal =>
      obtain ⟨a', hlt, h3⟩ := h2
      rcases h3 with h3 | ⟨ρ, hnd, hρ, h3⟩
      · obtain ⟨e, st2, h4, h5⟩ := loop_rule I m hk step n a' _ (by omega) h3
        exact ⟨e, st2, .loopN h1 h4, h5⟩
      · obtain ⟨e, st2, h4, h5⟩ := loop_rule I m hk step n a' _ (by omega) h3
        exact ⟨e, st2, .loopN h1 (.gc ρ hnd hρ h4), h5⟩
    | exit id => exact ⟨_, _, .loopE (by simp) h1, h2⟩
    | ret => exact ⟨_, _, .loopE (by simp) h1, h2⟩

theorem loop_inv {T : Nat → Option Fn} (rf : Nat → Bool) {c : C} {Q : Ex → St → Prop} {α : Type} (I : α → St → Prop) (m : α → Nat) (hk : c.okC = true) (a : α) {st : St} (h0 : I a st)
    (step : ∀ a st, I a st → wp T rf c (fun e st' => seqK e (∃ a', m a' < m a ∧ (I a' st' ∨ ∃ ρ : List Nat, ρ.Nodup ∧ (∀ i, i < st'.keep → ρ[i]? = some i) ∧ I a' (st'.gc ρ))) (Q e st')) st) :
    LoopK T c Q st := loop_rule I m hk step (m a + 1) a st (by omega) h0

theorem loop_rule0 {T : Nat → Option Fn} {rf : Nat → Bool} {c : C} {Q : Ex → St → Prop} {α : Type} (I : α → St → Prop) (m : α → Nat) (hk : c.okC = true)
    (step : ∀ a st, I a st → wp T rf c (fun e st' => seqK e (∃ a', m a' < m a ∧ I a' st') (Q e st')) st) :
    ∀ (n : Nat) (a : α) (st : St), m a < n → I a st → LoopK T c Q st
  | 0, _, _, hn, _ => absurd hn (Nat.not_lt_zero _)
  | n + 1, a, st, hn, h => by
    obtain ⟨e, st1, h1, h2⟩ := wp_sound hk (step a st h)
    cases e with
    | normal =>
      obtain ⟨a', hlt, h3⟩ := h2
      obtain ⟨e, st2, h4, h5⟩ := loop_rule0 I m hk step n a' _ (by omega) h3
      exact ⟨e, st2, .loopN h1 h4, h5⟩
    | exit id => exact ⟨_, _, .loopE (by simp) h1, h2⟩
    | ret => exact ⟨_, _, .loopE (by simp) h1, h2⟩

/-- A simple loop: nothing is left behind. -/
theorem loop_sim {T : Nat → Option Fn} (rf : Nat → Bool) {c : C} {Q : Ex → St → Prop} {α : Type} (I : α → St → Prop) (m : α → Nat) (hk : c.okC = true) (a : α) {st : St} (h0 : I a st)
    (step : ∀ a st, I a st → wp T rf c (fun e st' => seqK e (∃ a', m a' < m a ∧ I a' st') (Q e st')) st) :
    LoopK T c Q st := loop_rule0 I m hk step (m a + 1) a st (by omega) h0

/-! ### Functions -/

def finK (F : Fn) (k : V → Prop) (st : St) : Prop := optK (F.res.mapM (Res.get st)) fun rs => optK (resolve st.objs FD (packRes rs)) k

def FnK (F : Fn) (e : Ex) (k : V → Prop) (st : St) : Prop := match e with
  | .normal => finK F k st
  | .ret => finK F k st
  | .exit _ => False

/-- A function that is handed frozen values. -/
theorem pf_of {T : Nat → Option Fn} {f : Nat} {F : Fn} {args : List V} {r : V} (rf : Nat → Bool) (hT : T f = some F) (hl : args.length = F.nargs) (hk : F.body.okC = true)
    (h : wp T rf F.body (fun e st => FnK F e (· = r) st) (St.enter args [])) : PF T f args r := by
  obtain ⟨e, st', h1, h2⟩ := wp_sound hk h
  have : (e = .normal ∨ e = .ret) ∧ finK F (· = r) st' := by
    cases e with
    | normal => exact ⟨.inl rfl, h2⟩
    | ret => exact ⟨.inr rfl, h2⟩
    | exit id => exact h2.elim
  obtain ⟨he, h2⟩ := this
  obtain ⟨rs, e1, h2⟩ := optK_spec h2
  obtain ⟨r', e2, h2⟩ := optK_spec h2
  subst h2
  exact .frz (.fn hT hl h1 he e1) e2

end Go.Ml
