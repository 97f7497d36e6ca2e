/- What a pure call looks at. -/
import Derived.Test.YteiefahbhljlgaaZzDraw2
namespace Go.Ml

theorem mapM_congr_mem {α β : Type} {f g : α → Option β} : ∀ (l : List α), (∀ s, s ∈ l → f s = g s) → l.mapM f = l.mapM g
  | [], _ => rfl
  | a :: l, h => by
    simp only [List.mapM_cons]
    rw [h a (by simp), mapM_congr_mem l fun s hs => h s (by simp [hs])]

theorem flatMap_congr_mem {α β : Type} {f g : α → List β} : ∀ (l : List α), (∀ s, s ∈ l → f s = g s) → l.flatMap f = l.flatMap g
  | [], _ => rfl
  | a :: l, h => by
    simp only [List.flatMap_cons]
    rw [h a (by simp), flatMap_congr_mem l fun s hs => h s (by simp [hs])]

theorem fp_callP {T : Nat → Option Fn} {x : OpI} {st : St} {f : Nat} {as : List Src} {as' : List V} {r : V} (hg : ∀ g want, x.g = some (g, want) → st.env g = .bool want) (hi : x.i = .call f as)
    (ha : as.mapM (fun s => resolve st.objs FD (s.ev st.env)) = some as') (h : Run T (.fn f as' []) (.fn r [])) (hR : scalar SD r = true ∨ (as.flatMap fun s => reach st.objs FD (s.ev st.env)) = []) :
    Fp T ⟨x, as.flatMap fun s => reach st.objs FD (s.ev st.env), r, []⟩ st := by
  intro st2 hag
  have hsrc : ∀ s, s ∈ as → s.ev st2.env = s.ev st.env := fun s hs => src_congr fun t ht => hag.env t (looks_src (by rw [hi]; exact hs) ht)
  have hcong : ∀ s, s ∈ as → resolve st2.objs FD (s.ev st.env) = resolve st.objs FD (s.ev st.env) ∧ reach st2.objs FD (s.ev st.env) = reach st.objs FD (s.ev st.env) := fun s hs =>
    reach_congr FD _ fun o ho => hag.objs o (List.mem_flatMap.2 ⟨s, hs, ho⟩)
  have e1 : as.mapM (fun s => resolve st2.objs FD (s.ev st2.env)) = some as' := by
    rw [← ha]
    exact mapM_congr_mem as fun s hs => by rw [hsrc s hs]; exact (hcong s hs).1
  have e2 : (as.flatMap fun s => reach st2.objs FD (s.ev st2.env)) = as.flatMap fun s => reach st.objs FD (s.ev st.env) :=
    flatMap_congr_mem as fun s hs => by rw [hsrc s hs]; exact (hcong s hs).2
  have hR' : ([] : List Nat) = if scalar SD r then [] else (as.flatMap fun s => reach st2.objs FD (s.ev st2.env)) := by
    rw [e2]
    rcases hR with h | h
    · rw [if_pos h]
    · rw [h, ite_self]
  have hg2 : ∀ g want, x.g = some (g, want) → st2.env g = .bool want := fun g want hgw => (hag.env g (looks_g hgw)).trans (hg g want hgw)
  exact Run.callP hg2 hi e1 h hR'

end Go.Ml
