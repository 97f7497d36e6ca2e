/- A region that draws its order: one order serves all. -/
import Derived.Test.YteiefahbhljlgaaZzCall
set_option linter.unusedSimpArgs false
namespace Go.Ml

/-- What an operation did: the objects that it looked at, what it left, the objects that it wrote. -/
structure Dat where
  x : OpI
  R : List Nat
  v : V
  W : List (Nat × Option Obj)

def I.srcs : I → List Src
  | .mov x | .box x | .fld _ x | .len x | .lenS x | .un _ x | .conv _ x | .bstr x | .extr _ x | .chk x => [x]
  | .pick c a b => [c, a, b]
  | .alloc _ => []
  | .build _ ps => ps.map (·.2.2)
  | .mkSl _ _ _ ps => ps.map (·.2)
  | .make _ _ x => [x]
  | .load _ _ a => [a]
  | .store _ a x => [a, x]
  | .idx _ x i | .idxA _ _ x i | .idxS x i => [x, i]
  | .bin _ x y | .beq _ x y | .app _ _ x y | .max x y => [x, y]
  | .slice _ x lo hi | .sliceS x lo hi => x :: (lo.toList ++ hi.toList)
  | .call _ as => as

def Src.tmps : Src → List Nat
  | .t n => [n]
  | .c _ => []

def OpI.looks (o : OpI) : List Nat := o.i.srcs.flatMap Src.tmps ++ (match o.g with | some (g, _) => [g] | none => [])

def putW (σ : Store) (W : List (Nat × Option Obj)) : Store := W.foldl (fun s p => s.set p.1 p.2) σ

def Dat.go (d : Dat) (st : St) : St := { st with env := updO st.env d.x.dst d.v, objs := putW st.objs d.W }

structure Agree (looks R : List Nat) (st st2 : St) : Prop where
  env : ∀ t, t ∈ looks → st2.env t = st.env t
  objs : ∀ o, o ∈ R → objAt st2.objs o = objAt st.objs o
  len : st2.objs.length = st.objs.length
  base : st2.base = st.base

/-- The operation does just this wherever what it looks at is the same. -/
def Fp (T : Nat → Option Fn) (d : Dat) (st : St) : Prop := ∀ st2, Agree d.x.looks d.R st st2 → Run T (.op d.x st2) (.code .normal (d.go st2))

def dstIn (d : Option Nat) (l : List Nat) : Bool := match d with | some t => l.contains t | none => false

/-- Two operations that do not touch: whichever comes first. -/
def apart (d e : Dat) : Bool :=
  !dstIn d.x.dst e.x.looks && !dstIn e.x.dst d.x.looks && !(d.x.dst.isSome && d.x.dst == e.x.dst) &&
    d.W.all (fun p => !e.R.contains p.1 && e.W.all fun q => q.1 != p.1) && e.W.all (fun q => !d.R.contains q.1)

def Chain (T : Nat → Option Fn) : List Dat → St → Prop
  | [], _ => True
  | d :: l, st => Fp T d st ∧ Chain T l (d.go st)

def goAll : List Dat → St → St
  | [], st => st
  | d :: l, st => goAll l (d.go st)

theorem updO_env {env : Nat → V} {d : Option Nat} {v : V} {t : Nat} (h : dstIn d [t] = false) : updO env d v t = env t := by
  cases d with
  | none => rfl
  | some k =>
    simp only [dstIn, List.contains_cons, List.contains_nil, Bool.or_false, beq_eq_false_iff_ne, ne_eq] at h
    simp only [updO, upd]; rw [if_neg (fun e => h e.symm)]

theorem dstIn_mem {d : Option Nat} {l : List Nat} (h : dstIn d l = false) {t : Nat} (ht : t ∈ l) : dstIn d [t] = false := by
  cases d with
  | none => rfl
  | some k =>
    simp only [dstIn] at h ⊢
    simp only [List.contains_cons, List.contains_nil, Bool.or_false, beq_eq_false_iff_ne, ne_eq]
    rintro rfl
    simp [ht] at h

theorem putW_length : ∀ (W : List (Nat × Option Obj)) (σ : Store), (putW σ W).length = σ.length
  | [], _ => rfl
  | p :: W, σ => by simp only [putW, List.foldl_cons]; exact (putW_length W (σ.set p.1 p.2)).trans (by simp)

theorem putW_at : ∀ (W : List (Nat × Option Obj)) (σ : Store) (o : Nat), (∀ p ∈ W, p.1 ≠ o) → objAt (putW σ W) o = objAt σ o
  | [], _, _, _ => rfl
  | p :: W, σ, o, h => by
    simp only [putW, List.foldl_cons]
    have := putW_at W (σ.set p.1 p.2) o fun q hq => h q (by simp [hq])
    simp only [putW] at this
    rw [this]
    unfold objAt
    rw [List.getElem?_set, if_neg (h p (by simp))]

theorem putW_comm : ∀ (W1 W2 : List (Nat × Option Obj)) (σ : Store), (∀ p ∈ W1, ∀ q ∈ W2, q.1 ≠ p.1) → putW (putW σ W1) W2 = putW (putW σ W2) W1
  | [], _, _, _ => rfl
  | p :: W1, W2, σ, h => by
    have step : ∀ (W : List (Nat × Option Obj)) (σ : Store), (∀ q ∈ W, q.1 ≠ p.1) → putW (σ.set p.1 p.2) W = (putW σ W).set p.1 p.2 := by
      intro W
      induction W with
      | nil => intro σ _; rfl
      | cons q W ih =>
        intro σ hq
        simp only [putW, List.foldl_cons]
        rw [List.set_comm _ _ (hq q (by simp)).symm]
        exact ih (σ.set q.1 q.2) fun r hr => hq r (by simp [hr])
    have e1 : ∀ σ, putW σ (p :: W1) = putW (σ.set p.1 p.2) W1 := fun _ => rfl
    rw [e1, e1, putW_comm W1 W2 _ fun a ha => h a (by simp [ha]), step W2 σ fun q hq => h p (by simp) q hq]

theorem apart_spec {d e : Dat} (h : apart d e = true) : dstIn d.x.dst e.x.looks = false ∧ dstIn e.x.dst d.x.looks = false ∧ (∀ t, d.x.dst = some t → e.x.dst ≠ some t) ∧
    (∀ p ∈ d.W, p.1 ∉ e.R) ∧ (∀ p ∈ d.W, ∀ q ∈ e.W, q.1 ≠ p.1) ∧ ∀ q ∈ e.W, q.1 ∉ d.R := by
  simp only [apart, Bool.and_eq_true, Bool.not_eq_true', List.all_eq_true, bne_iff_ne] at h
  obtain ⟨⟨⟨⟨h1, h2⟩, h3⟩, h4⟩, h5⟩ := h
  refine ⟨h1, h2, fun t ht he => ?_, fun p hp => ?_, fun p hp q hq => (h4 p hp).2 q hq, fun q hq => ?_⟩
  · rw [ht, he] at h3; simp at h3
  · simpa using (h4 p hp).1
  · simpa using h5 q hq

theorem go_comm {d e : Dat} (h : apart d e = true) (st : St) : e.go (d.go st) = d.go (e.go st) := by
  obtain ⟨_, _, h3, _, h5, _⟩ := apart_spec h
  unfold Dat.go
  simp only []
  rw [putW_comm d.W e.W st.objs h5]
  have : updO (updO st.env d.x.dst d.v) e.x.dst e.v = updO (updO st.env e.x.dst e.v) d.x.dst d.v := by
    cases hd : d.x.dst with
    | none => rfl
    | some a =>
      cases he : e.x.dst with
      | none => rfl
      | some b =>
        have hne : b ≠ a := fun k => h3 a hd (by rw [he, k])
        funext t
        simp only [updO, upd]
        by_cases h1 : t = b
        · subst h1; simp [hne]
        · simp [h1]
  rw [this]

/-- Behind an operation that does not touch it, one finds what it looks at as it was. -/
theorem agree_go {d e : Dat} (h1 : dstIn d.x.dst e.x.looks = false) (h2 : ∀ p ∈ d.W, p.1 ∉ e.R) (st : St) : Agree e.x.looks e.R st (d.go st) := by
  refine ⟨fun t ht => updO_env (dstIn_mem h1 ht), fun o ho => putW_at _ _ _ fun p hp he => h2 p hp (he ▸ ho), putW_length _ _, rfl⟩

theorem Agree.symm {l R : List Nat} {a b : St} (h : Agree l R a b) : Agree l R b a := ⟨fun t ht => (h.env t ht).symm, fun o ho => (h.objs o ho).symm, h.len.symm, h.base.symm⟩
theorem Agree.trans {l R : List Nat} {a b c : St} (h : Agree l R a b) (k : Agree l R b c) : Agree l R a c :=
  ⟨fun t ht => (k.env t ht).trans (h.env t ht), fun o ho => (k.objs o ho).trans (h.objs o ho), k.len.trans h.len, k.base.trans h.base⟩

theorem Fp.of {T} {d : Dat} {st st2 : St} (h : Fp T d st) (k : Agree d.x.looks d.R st st2) : Fp T d st2 := fun st3 k3 => h st3 (k.trans k3)

/-- One out of the middle may come first, if it touches nothing ahead of it. -/
theorem chain_pull {T} {d : Dat} : ∀ (pre post : List Dat) (st : St), Chain T (pre ++ d :: post) st → (∀ e ∈ pre, apart e d = true) →
    Fp T d st ∧ Chain T (pre ++ post) (d.go st) ∧ goAll (pre ++ d :: post) st = goAll (pre ++ post) (d.go st)
  | [], post, st, h, _ => ⟨h.1, h.2, rfl⟩
  | e :: pre, post, st, h, ha => by
    obtain ⟨h1, h2⟩ := h
    obtain ⟨k1, k2, k3⟩ := chain_pull pre post (e.go st) h2 fun q hq => ha q (by simp [hq])
    obtain ⟨a1, a2, a3, a4, a5, a6⟩ := apart_spec (ha e (by simp))
    have hd : Fp T d st := k1.of (agree_go a1 a4 st).symm
    refine ⟨hd, ⟨h1.of (agree_go a2 a6 st), ?_⟩, ?_⟩
    · rw [← go_comm (ha e (by simp))]; exact k2
    · simp only [List.cons_append, goAll]
      rw [k3, go_comm (ha e (by simp))]

/-- All that must hold of a region's operations, in the text's order: each pair waits or does not touch. -/
def okD (B : Nat → List Nat) (l : List (Nat × Dat)) : Bool :=
  match l with
  | [] => true
  | (i, d) :: l => l.all (fun p => (B p.1).contains i || apart d p.2) && okD B l

theorem okD_split {B : Nat → List Nat} {i : Nat} {d : Dat} : ∀ (pre post : List (Nat × Dat)), okD B (pre ++ (i, d) :: post) = true → (∀ q ∈ pre, (B i).contains q.1 = true ∨ apart q.2 d = true) ∧ okD B (pre ++ post) = true
  | [], post, h => by
    simp only [List.nil_append, okD, Bool.and_eq_true] at h
    exact ⟨by simp, h.2⟩
  | q :: pre, post, h => by
    obtain ⟨j, e⟩ := q
    simp only [List.cons_append, okD, Bool.and_eq_true, List.all_eq_true] at h
    obtain ⟨k1, k2⟩ := okD_split pre post h.2
    refine ⟨?_, ?_⟩
    · intro q hq
      rcases List.mem_cons.1 hq with rfl | hq
      · have := h.1 (i, d) (by simp)
        simpa [Bool.or_eq_true] using this
      · exact k1 q hq
    · simp only [List.cons_append, okD, Bool.and_eq_true, List.all_eq_true]
      refine ⟨fun p hp => h.1 p ?_, k2⟩
      rcases List.mem_append.1 hp with h | h
      · simp [h]
      · simp [h]

/-- Whatever order is picked, the end is the same. -/
theorem run_any {T} {l : List OpI} {B : Nat → List Nat} (hB : ∀ i o j, l[i]? = some o → j ∈ B i → j ∈ o.aft ∨ ∃ e ∈ o.aft, j ∈ B e) :
    ∀ (n : Nat) (rem : List (Nat × Dat)) (done : List Nat) (st : St), rem.length = n → okD B rem = true → (∀ e ∈ done, ∀ j ∈ B e, j ∈ done) → Chain T (rem.map (·.2)) st →
    (rem.map (·.1)).Pairwise (· < ·) → (∀ p ∈ rem, l[p.1]? = some p.2.x ∧ p.1 ∉ done ∧ ∀ e ∈ p.2.x.aft, e < p.1) → (∀ i, i < l.length → i ∉ done → ∃ d, (i, d) ∈ rem) →
    Run T (.any l done st) (.code .normal (goAll (rem.map (·.2)) st))
  | 0, rem, done, st, hn, _, _, _, _, _, hall => by
    have : rem = [] := List.eq_nil_of_length_eq_zero hn
    subst this
    refine .anyN fun i => ?_
    cases h : readyB l done i with
    | false => rfl
    | true =>
      unfold readyB at h
      split at h <;> first | (cases h; done) | skip
      rename_i o ho
      simp only [Bool.and_eq_true, Bool.not_eq_true', List.all_eq_true] at h
      obtain ⟨d, hd⟩ := hall i (List.getElem?_eq_some_iff.1 ho).1 (by simpa using h.1)
      cases hd
  | n + 1, rem, done, st, hn, hok, hcl, hch, hnd, hl, hall => by
    -- each that is ready, pulled to the front
    have pull : ∀ i, readyB l done i = true → ∃ d pre post, rem = pre ++ (i, d) :: post ∧ Fp T d st ∧ Run T (.any l (i :: done) (d.go st)) (.code .normal (goAll (rem.map (·.2)) st)) := by
      intro i hi
      unfold readyB at hi
      split at hi <;> first | (cases hi; done) | skip
      rename_i o ho
      simp only [Bool.and_eq_true, Bool.not_eq_true', List.all_eq_true] at hi
      have hnd' : i ∉ done := by simpa using hi.1
      obtain ⟨d, hd⟩ := hall i (List.getElem?_eq_some_iff.1 ho).1 hnd'
      obtain ⟨pre, post, rfl⟩ := List.append_of_mem hd
      obtain ⟨k1, k2⟩ := okD_split pre post hok
      have hdo : o = d.x := by
        have := (hl (i, d) hd).1
        rw [ho] at this; exact Option.some.inj this
      have hbd : ∀ j ∈ B i, j ∈ done := by
        intro j hj
        rcases hB i o j ho hj with h | ⟨e, he, h⟩
        · simpa using hi.2 j h
        · exact hcl e (by simpa using hi.2 e he) j h
      have hap : ∀ e ∈ pre.map (·.2), apart e d = true := by
        intro e he
        obtain ⟨q, hq, rfl⟩ := List.mem_map.1 he
        rcases k1 q hq with h | h
        · exfalso
          exact (hl q (by simp [hq])).2.1 (hbd q.1 (by simpa using h))
        · exact h
      have hch' : Chain T (pre.map (·.2) ++ d :: post.map (·.2)) st := by simpa using hch
      obtain ⟨c1, c2, c3⟩ := chain_pull (pre.map (·.2)) (post.map (·.2)) st hch' hap
      refine ⟨d, pre, post, rfl, c1, ?_⟩
      have hnd2 : ((pre ++ post).map (·.1)).Pairwise (· < ·) ∧ ∀ p ∈ pre ++ post, p.1 ≠ i := by
        simp only [List.map_append, List.map_cons] at hnd ⊢
        rw [List.pairwise_append] at hnd ⊢
        obtain ⟨a1, a2, a3⟩ := hnd
        rw [List.pairwise_cons] at a2
        refine ⟨⟨a1, a2.2, fun x hx y hy => a3 x hx y (by simp [hy])⟩, fun p hp => ?_⟩
        rcases List.mem_append.1 hp with h | h
        · have := a3 p.1 (List.mem_map_of_mem h) i (by simp); omega
        · have := a2.1 p.1 (List.mem_map_of_mem h); omega
      have ih := run_any hB n (pre ++ post) (i :: done) (d.go st) (by simp at hn ⊢; omega) k2 (fun e he j hj => by
          rcases List.mem_cons.1 he with rfl | he
          · exact List.mem_cons_of_mem _ (hbd j hj)
          · exact List.mem_cons_of_mem _ (hcl e he j hj)) (by simpa using c2) hnd2.1
        (fun p hp => by
          have hp' : p ∈ pre ++ (i, d) :: post := by rcases List.mem_append.1 hp with h | h <;> simp [h]
          refine ⟨(hl p hp').1, ?_, (hl p hp').2.2⟩
          simp only [List.mem_cons, not_or]
          exact ⟨hnd2.2 p hp, (hl p hp').2.1⟩)
        (fun j hj hjd => by
          simp only [List.mem_cons, not_or] at hjd
          obtain ⟨e, he⟩ := hall j hj hjd.2
          refine ⟨e, ?_⟩
          rcases List.mem_append.1 he with h | h
          · exact List.mem_append.2 (.inl h)
          · rcases List.mem_cons.1 h with h | h
            · cases h; exact absurd rfl hjd.1
            · exact List.mem_append.2 (.inr h))
      have e1 : goAll ((pre ++ (i, d) :: post).map (·.2)) st = goAll ((pre ++ post).map (·.2)) (d.go st) := by simpa using c3
      rw [e1]; exact ih
    -- the first one left is ready
    obtain ⟨⟨i0, d0⟩, rem', hrem⟩ : ∃ p r, rem = p :: r := by
      cases rem with
      | nil => simp at hn
      | cons p r => exact ⟨p, r, rfl⟩
    have h0 : readyB l done i0 = true := by
      obtain ⟨g1, g2, g3⟩ := hl (i0, d0) (by rw [hrem]; simp)
      unfold readyB
      simp only [] at g1
      rw [g1]
      simp only [Bool.and_eq_true, Bool.not_eq_true', List.all_eq_true]
      refine ⟨by simpa using g2, fun e he => ?_⟩
      have hlt := g3 e he
      simp only [] at hlt
      have hil := (List.getElem?_eq_some_iff.1 g1).1
      by_cases hed : e ∈ done
      · simpa using hed
      · exfalso
        obtain ⟨d, hd⟩ := hall e (by omega) hed
        rw [hrem] at hd hnd
        simp only [List.map_cons, List.pairwise_cons] at hnd
        rcases List.mem_cons.1 hd with h | h
        · cases h; omega
        · have := hnd.1 e (List.mem_map_of_mem (f := (·.1)) h); omega
    have hex : ∀ i, ∃ d : Dat, readyB l done i = true → l[i]? = some d.x ∧ Fp T d st ∧ Run T (.any l (i :: done) (d.go st)) (.code .normal (goAll (rem.map (·.2)) st)) := by
      intro i
      by_cases hi : readyB l done i = true
      · obtain ⟨d, pre, post, e, h1, h2⟩ := pull i hi
        exact ⟨d, fun _ => ⟨(hl (i, d) (by rw [e]; simp)).1, h1, h2⟩⟩
      · exact ⟨⟨⟨none, none, 0, .alloc [], []⟩, [], .any, []⟩, fun h => absurd h hi⟩
    obtain ⟨f, hf⟩ := Classical.axiomOfChoice hex
    refine .anyC i0 h0 (fun i => (f i).go st) (fun i o ho hi => ?_) (fun i hi => (hf i hi).2.2)
    obtain ⟨g1, g2, _⟩ := hf i hi
    rw [ho] at g1; cases g1
    exact g2 st ⟨fun _ _ => rfl, fun _ _ => rfl, rfl, rfl⟩

end Go.Ml
