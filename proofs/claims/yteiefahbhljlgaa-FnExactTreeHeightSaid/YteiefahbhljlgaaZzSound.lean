/- The theorem: what the small language runs, the model runs. -/
import Derived.Test.YteiefahbhljlgaaZzCall
import Derived.Tactics
set_option linter.unusedSimpArgs false
namespace Go.Ml

def Post (M : Nat → Prop) (D : DM) (w : World) (k : Nat) (r : V) (σ' : Store) : Ending → World → Prop := fun e w' =>
  ∃ v D', e = .returned v ∧ rd w' D' (XS M D') r v ∧ SRel w' D' M σ' ∧ Gr (Own D) w w' ∧ (∀ o d, D' o = .live d → Own D d.blk ∨ w.heap.size ≤ d.blk) ∧ ∀ o, o < k → DSle (D o) (D' o)

section
variable (P : Program) (ν : Nat → Option Nat)

def FnOk (f : Nat) (args : List V) (σ : Store) (r : V) (σ' : Store) : Prop :=
  ∀ fid, ν fid = some f → ∀ w M D (vals : Array Value), rdL w D (XS M D) args vals.toList → SRel w D M σ → Calls P fid vals w (Post M D w σ.length r σ')

def OpOk (x : OpI) (st st' : St) : Prop :=
  st'.base = st.base ∧ st'.keep = st.keep ∧ st.objs.length ≤ st'.objs.length ∧
  ∀ (ops : Array Oper) (dr : Bool) (nt m k : Nat) (o : Oper), trOp P ν ops dr nt m k o = some x → ∀ M w0 D0 D a w, SR nt M w0 D0 st D a w →
    (x.i.makes = true → st.base + x.k < st.objs.length ∧ D (st.base + x.k) = .unborn) → ∀ (K : Act → World → Prop) (Q : Exit → Act → World → Prop),
    (∀ D' a' w', SR nt M w0 D0 st' D' a' w' → (∀ o, o < st.objs.length → D o = .unborn → o ≠ st.base + x.k → D' o = .unborn) → K a' w') →
    if Region.wanted o (yielded ops a.tmps) then o.wp P a w K Q else K (a.put o.dst undef) w

def OpsOk (l : List OpI) (st st' : St) : Prop :=
  st'.base = st.base ∧ st'.keep = st.keep ∧ st.objs.length ≤ st'.objs.length ∧
  ∀ (ops : Array Oper) (dr : Bool) (nt m k : Nat) (rest : List Oper), trOps P ν ops dr nt m k rest = some l → okK m l = true → ∀ M w0 D0 D a w, SR nt M w0 D0 st D a w →
    (∀ x ∈ l, x.i.makes = true → st.base + x.k < st.objs.length ∧ D (st.base + x.k) = .unborn) → ∀ (Q : Exit → Act → World → Prop),
    (∀ D' a' w', SR nt M w0 D0 st' D' a' w' → Q .normal a' w') → wpList P ops Q rest a w

/-- Whatever order is picked from here on. -/
def AnyOk (l : List OpI) (done : List Nat) (st st' : St) : Prop :=
  st'.base = st.base ∧ st'.keep = st.keep ∧ st.objs.length ≤ st'.objs.length ∧
  ∀ (ops : Array Oper) (nt m : Nat), trOps P ν ops true nt m 0 ops.toList = some l → okK m l = true → ∀ M w0 D0 D a w, SR nt M w0 D0 st D a w →
    (∀ i x, l[i]? = some x → i ∉ done → x.i.makes = true → st.base + x.k < st.objs.length ∧ D (st.base + x.k) = .unborn) → ∀ (Q : Exit → Act → World → Prop),
    (∀ D' a' w', SR nt M w0 D0 st' D' a' w' → Q .normal a' w') → ∀ (fuel : Nat) (listed : Array Bool), listed.size = ops.size → (∀ i, listed.getD i false = true ↔ i ∈ done) → listed.toList.count false ≤ fuel → wpAny P .any ops Q fuel listed a w

def CodeOk (c : C) (e : Ex) (st st' : St) : Prop :=
  st'.keep = st.keep ∧
  ∀ (nt : Nat) (cc : Code), trC P ν nt cc = some c → ∀ M w0 D0 D a w, SR nt M w0 D0 st D a w → ∀ (Q : Exit → Act → World → Prop),
    (∀ D' a' w', SR nt M w0 D0 st' D' a' w' → Q (exOf e) a' w') → cc.wp P Q a w

/-- Of a loop: from where its body is about to be run. -/
def LoopOk (c : C) (e : Ex) (st st' : St) : Prop :=
  ∀ (nt : Nat) (cc : Code), trC P ν nt cc = some c → ∀ M w0 D0 D a w, SR nt M w0 D0 st D a w → ∀ (Q : Exit → Act → World → Prop),
    (∀ D' a' w', SR nt M w0 D0 st' D' a' w' → Q (exOf e) a' w') → ∀ b k cs, ∃ x a' w', Q x a' w' ∧ Arrives P (lone (b.at a (.code cc :: .inLoop cc :: k)) cs w) b k cs x a' w'

def Sound : Job → Out → Prop
  | .code c st, .code e st' => CodeOk P ν c e st st' ∧ ∀ x, c = .loop x → LoopOk P ν x e st st'
  | .ops l st, .code e st' => e = .normal ∧ OpsOk P ν l st st'
  | .op o st, .code e st' => e = .normal ∧ OpOk P ν o st st'
  | .any l done st, .code e st' => e = .normal ∧ AnyOk P ν l done st st'
  | .fn f args σ, .fn r σ' => FnOk P ν f args σ r σ'
  | _, _ => True
end

section
variable {P : Program} {ν : Nat → Option Nat} {nt : Nat} {M : Nat → Prop} {w0 : World} {D0 : DM} {st : St} {D : DM} {a : Act} {w : World}

theorem trOp_spec {ops : Array Oper} {dr : Bool} {m k : Nat} {o : Oper} {x : OpI} (h : trOp P ν ops dr nt m k o = some x) :
    trI P ν o = some x.i ∧ o.dst = x.dst ∧ (∀ d, o.dst = some d → d < nt) ∧
      ((o.guard = none ∧ x.g = none) ∨ ∃ j want t, o.guard = some (j, want) ∧ (ops[j]?).bind (·.dst) = some t ∧ x.g = some (t, want)) := by
  unfold trOp at h
  split at h <;> first | (cases h; done) | skip
  rename_i i g hi hg
  split at h <;> first | (cases h; done) | skip
  rename_i hd
  simp only [Option.some.injEq] at h; subst h
  refine ⟨hi, rfl, fun d hd' => by simp [hd', okDst] at hd; exact hd, ?_⟩
  unfold trG at hg
  split at hg
  · rename_i h1
    simp only [Option.some.injEq] at hg
    exact .inl ⟨h1, hg.symm⟩
  · rename_i j want h1
    split at hg <;> first | (cases hg; done) | skip
    rename_i t ht
    simp only [Option.some.injEq] at hg
    exact .inr ⟨j, want, t, h1, ht, hg.symm⟩

theorem tmps_bool {t : Nat} {b : Bool} (h : a.tmps.getD t undef = .bool b) : a.tmps[t]? = some (.bool b) := by
  rw [Array.getD_eq_getD_getElem?] at h
  cases ht : a.tmps[t]? with
  | none => rw [ht] at h; simp [undef] at h
  | some v => rw [ht] at h; simp at h; rw [h]

/-- The guard's word. -/
theorem wanted_iff {ops : Array Oper} {o : Oper} {x : OpI} (hs : SR nt M w0 D0 st D a w)
    (hg : (o.guard = none ∧ x.g = none) ∨ ∃ j want t, o.guard = some (j, want) ∧ (ops[j]?).bind (·.dst) = some t ∧ x.g = some (t, want)) :
    ((∀ g want, x.g = some (g, want) → st.env g = .bool want) → Region.wanted o (yielded ops a.tmps) = true) ∧
      (∀ g want b, x.g = some (g, want) → st.env g = .bool b → b ≠ want → Region.wanted o (yielded ops a.tmps) = false) := by
  rcases hg with ⟨h1, h2⟩ | ⟨j, want, t, h1, h2, h3⟩
  · exact ⟨fun _ => by simp [Region.wanted, h1], fun g want b h => by rw [h2] at h; cases h⟩
  · have key : ∀ b, st.env t = .bool b → yielded ops a.tmps j = some b := by
      intro b hb
      have := hs.env t
      rw [hb] at this
      simp only [rd] at this
      simp only [yielded, h2, Option.bind_some, tmps_bool this]
    refine ⟨fun h => ?_, fun g want' b h hb hne => ?_⟩
    · simp only [Region.wanted, h1, key _ (h t want h3)]; simp
    · rw [h3] at h; cases h
      simp only [Region.wanted, h1, key _ hb]
      simpa using hne

theorem op_wp {o : Oper} {K : Act → World → Prop} {Q : Exit → Act → World → Prop} {r : Next} {v : Value} {w' : World} (h : (execOp a.eval o).run P w = .ok r w') (hg : Gives r v) (hK : K (a.put o.dst v) w') : o.wp P a w K Q := by
  unfold Oper.wp
  rw [h]
  rcases hg with rfl | ⟨rfl, rfl⟩ <;> exact hK

theorem storeLen (σ : Store) (id : Nat) (ef : Eff) : (ef.store σ id).length = σ.length := by cases ef <;> simp [Eff.store]

theorem opOk_op {x : OpI} {ef : Eff} (hg : ∀ g want, x.g = some (g, want) → st.env g = .bool want) (h : x.i.eff st.env st.objs = some ef) : OpOk P ν x st (ef.go st x.dst (st.base + x.k)) := by
  refine ⟨rfl, rfl, by simp [Eff.go, storeLen], ?_⟩
  intro ops dr nt m k o htr M w0 D0 D a w hs hid K Q hK
  obtain ⟨t1, t2, t3, t4⟩ := trOp_spec htr
  rw [if_pos ((wanted_iff hs t4).1 hg)]
  obtain ⟨r, v, w', e1, e2, e3⟩ := eff_ok o t1 h hs.store hs.env hid
  obtain ⟨D', s1, s2⟩ := hs.step e3 (dst := x.dst) (fun d hd => t3 d (t2.trans hd))
  refine op_wp e1 e2 ?_
  rw [t2]
  exact hK D' _ w' s1 fun o _ => s2 o

theorem opOk_off {x : OpI} {g : Nat} {want b : Bool} (hg : x.g = some (g, want)) (he : st.env g = .bool b) (hb : b ≠ want) : OpOk P ν x st { st with env := updO st.env x.dst .any } := by
  refine ⟨rfl, rfl, Nat.le_refl _, ?_⟩
  intro ops dr nt m k o htr M w0 D0 D a w hs hid K Q hK
  obtain ⟨t1, t2, t3, t4⟩ := trOp_spec htr
  rw [if_neg (by rw [(wanted_iff hs t4).2 g want b hg he hb]; simp)]
  obtain ⟨D', s1, s2⟩ := hs.step (done_val (id := 0) hs.store (x := .any) (v := undef) (by simp only [rd])) (dst := x.dst) (fun d hd => t3 d (t2.trans hd))
  have : D' = D' := rfl
  rw [t2]
  refine hK D _ w ⟨rd_put hs.env (fun d hd => by rw [hs.tm]; exact t3 d (t2.trans hd)) (by simp only [rd]), ?_, ?_, hs.store, hs.gr, hs.fr, hs.kp⟩ fun _ _ h _ => h
  · rw [← hs.tm]; cases x.dst <;> simp [Act.put]
  · rw [← hs.df]; cases x.dst <;> rfl

end
end Go.Ml
