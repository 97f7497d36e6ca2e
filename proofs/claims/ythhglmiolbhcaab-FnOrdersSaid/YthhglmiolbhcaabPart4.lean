/- A small language for the functions of this claim, its soundness, contracts. -/
import Derived.Test.YthhglmiolbhcaabPart3
section
set_option linter.unusedSimpArgs false
set_option linter.unusedVariables false
set_option maxRecDepth 100000
set_option maxHeartbeats 8000000
namespace Go.Ml
structure DrawL (n : Nat) (L : List Lk) : Prop where
  rn : 1 ≤ n ∧ n ≤ 4
  len : n ≤ L.length ∧ L.length ≤ n + 3
  sm : ∀ l ∈ L, SmN ((n : Int) + 1) l
  base : ∀ k, k < n → (L.getD k default).b = (k : Int) + 1
theorem getD_snoc {xs : List Lk} {l : Lk} {k : Nat} : (xs ++ [l]).getD k default = if k < xs.length then xs.getD k default else if k = xs.length then l else default := by
  rw [List.getD_eq_getElem?_getD, List.getD_eq_getElem?_getD]
  split
  · rename_i h
    rw [List.getElem?_append_left h]
  · rename_i h
    split
    · rename_i e; subst e; simp
    · rw [List.getElem?_eq_none (by simp <;> omega)]; rfl
def LsAt (s : Store) (v : V) (xs : List Lk) : Prop := (xs = [] ∧ v = .nils) ∨ ∃ p, v = .msl p 0 xs.length ∧ objAt s p = some ⟨11, xs.map Lk.cells⟩ ∧ p ≠ 0
theorem LsAt.fr {s s2 : Store} {v : V} {xs : List Lk} (h : LsAt s v xs) (hf : ∀ p, p ≠ 0 → p < s.length → objAt s2 p = objAt s p) : LsAt s2 v xs := by
  rcases h with h | ⟨p, h1, h2, h3⟩
  · exact .inl h
  · exact .inr ⟨p, h1, (hf p h3 (objAt_lt h2)).trans h2, h3⟩
theorem CurP.fr {s s2 : Store} {x : List UInt8} (h : CurP s 0 x) (hf : objAt s2 0 = objAt s 0) : CurP s2 0 x := by
  obtain ⟨i, hh, h1, h2⟩ := h
  exact ⟨i, hh, hf.trans h1, h2⟩
theorem CurP.lt {s : Store} {x : List UInt8} (h : CurP s 0 x) : 0 < s.length := by obtain ⟨i, hh, h1, h2⟩ := h; exact objAt_lt h1
theorem r_l06List {T : Nat → Option Fn} (h : D_spec_l06List T) {x : List UInt8} (hx : x.length ≤ 1048576) {n : Nat} (hn : 1 ≤ n ∧ n ≤ 4) {i hh : Int} (hi : 0 ≤ i ∧ i ≤ x.length) :
    ∃ r σ', Run T (.fn 106 [.ptr 0 0 0, iv n] (cur x i hh)) (.fn r σ') ∧ (∃ L, DrawL n L ∧ resolve σ' FD r = some (lksV L)) ∧ 1 ≤ σ'.length := by
  have hP : CurP (cur x i hh) 0 x := ⟨i, hh, rfl, hi⟩
  generalize cur x i hh = s0 at hP ⊢
  have hP0 := hP.lt
  refine run_end (fun x d => x == 107 || x == 128) h.hT rfl rfl ?_
  dsimp only [F_spec_l06List, oN, oS, oG, oK, oA, oH, oV, cI, St.enter, List.length_cons, List.length_nil, Nat.zero_add]
  (refine ew ?_; try with_reducible exact True.intro)
  refine loop_at (fun x d => x == 107 || x == 128) (α := Nat × Store × V × List Lk) (fun q => ⟨argE [.ptr 0 0 0, iv n, .any, .any, .any, q.2.2.1, iv ((q.1 : Nat) + 1)], q.2.1, s0.length, 0, [], []⟩) (fun q => (q.1 ≤ n ∧ CurP q.2.1 0 x) ∧ LsAt q.2.1 q.2.2.1 q.2.2.2 ∧ q.2.2.2.length = q.1 ∧ (∀ l ∈ q.2.2.2, SmN ((n : Int) + 1) l) ∧ ∀ j, j < q.1 → (q.2.2.2.getD j default).b = (j : Int) + 1) (fun q => n - q.1) rfl (0, s0 ++ [none], .nils, []) ?_ ?_ ?_
  · exact ⟨⟨by omega, hP.fr (objAt_snoc_lt hP0)⟩, .inl ⟨rfl, rfl⟩, rfl, by simp, by intro q hq; omega⟩
  · (refine Fg_env ?_) <;> (try (refine ew ?_; try with_reducible exact True.intro)) <;> (repeat' (first | refine ⟨?_, ?_⟩ | exact EvV_int (by omega) | exact EvV_of (by simp) | exact EvV_nil _))
  · generalize s0.length = kp
    clear hP hP0
    rintro ⟨k, s, v, xs⟩ ⟨⟨hk, hP⟩, hLs, hxl, hsm, hb⟩
    dsimp only at hk hP hLs hxl hsm hb
    by_cases hc : (k : Int) + 1 ≤ (n : Int)
    · (refine ew1 @hc ?_; try with_reducible exact True.intro)
      refine RefK_curF (b := 0) (rest := [iv (k + 1)]) (hP.fr (objAt_snoc_lt hP.lt)) (f_l01Below h.d_spec_l01Below (n := (k : Int) + 1) (by omega) hx) rfl (fun _ => rfl) ?_
      rintro _ i1 h1 ⟨a, rfl, ha⟩ hi1
      (refine ew ?_; try with_reducible exact True.intro)
      refine RefK_curF (b := 0) (rest := [iv 9]) ⟨_, _, objAt_seteq (by simp), hi1⟩ (f_l01Below h.d_spec_l01Below (n := 9) (by omega) hx) rfl (fun _ => rfl) ?_
      rintro _ i2 h2 ⟨w, rfl, hw⟩ hi2
      (refine ew ?_; try with_reducible exact True.intro)
      refine RefK_curF (b := 0) (rest := [iv 41]) ⟨_, _, objAt_seteq (by simp), hi2⟩ (f_l01Below h.d_spec_l01Below (n := 41) (by omega) hx) rfl (fun _ => rfl) ?_
      rintro _ i3 h3 ⟨dx, rfl, hdx⟩ hi3
      (refine ew ?_; try with_reducible exact True.intro)
      refine RefK_curF (b := 0) (rest := [iv 41]) ⟨_, _, objAt_seteq (by simp), hi3⟩ (f_l01Below h.d_spec_l01Below (n := 41) (by omega) hx) rfl (fun _ => rfl) ?_
      rintro _ i4 h4 ⟨dy, rfl, hdy⟩ hi4
      have hS := smN_of (n := (n : Int) + 1) (a := a) (b := (k : Int) + 1) (w := 1 + w) (x := dx - 20) (y := dy - 20) (by omega) (by omega) (by omega) (by omega) (by omega) (by omega) (by omega)
      have cn := c_sNewLink h.d_spec_NewLink (a := a) (b := (k : Int) + 1) (w := 1 + w) (x := dx - 20) (y := dy - 20)
      generalize nlV a ((k : Int) + 1) (1 + w) (dx - 20) (dy - 20) = l at hS cn
      generalize nlOk a ((k : Int) + 1) (1 + w) (dx - 20) (dy - 20) = ok at cn
      (refine ew ?_; try with_reducible exact True.intro)
      refine PFK_of cn ?_
      obtain ⟨S, hSe⟩ : ∃ S, ((((s ++ [none]).set 0 (some (cob x i1 h1))).set 0 (some (cob x i2 h2))).set 0 (some (cob x i3 h3))).set 0 (some (cob x i4 h4)) = S := ⟨_, rfl⟩
      rw [hSe]
      have hSl : S.length = s.length + 1 := by rw [← hSe]; simp
      have hS0 : objAt S 0 = some (cob x i4 h4) := by rw [← hSe]; exact objAt_seteq (by simp)
      have hSo : ∀ p, p ≠ 0 → p < s.length → objAt S p = objAt s p := fun p h0 hp => by
        rw [← hSe, objAt_setne h0, objAt_setne h0, objAt_setne h0, objAt_setne h0, objAt_snoc_lt hp]
      have hSm : objAt S s.length = none := by
        rw [← hSe]
        have h0 := hP.lt
        rw [objAt_setne (by omega), objAt_setne (by omega), objAt_setne (by omega), objAt_setne (by omega), objAt_snoc]
      have hm0 := hP.lt
      have hLs := hLs.fr hSo
      clear hSe hSo hP
      have hs0 : s.length < S.length := by omega
      generalize s.length = m at *
      have hxs : xs.length ≤ 1048576 := by omega
      have hsm2 : ∀ l' ∈ xs ++ [l], SmN ((n : Int) + 1) l' := fun l' hl' => by
        rcases List.mem_append.1 hl' with hl' | hl'
        · exact hsm l' hl'
        · rw [List.mem_singleton.1 hl']; exact hS.1
      have hb2 : ∀ j, j < k + 1 → ((xs ++ [l]).getD j default).b = (j : Int) + 1 := fun j hj => by
        rw [getD_snoc]
        split
        · exact hb j (by omega)
        · rw [if_pos (by omega), hS.2 (by omega)]; omega
      rcases hLs with ⟨rfl, rfl⟩ | ⟨p, rfl, hp, hp0⟩
      · (refine ew2 @hS0 @hSl ?_; try with_reducible exact True.intro)
        refine ⟨by omega, ?_⟩
        generalize hB : List.set (_ ++ [none]) (m + 1 + 1) (some (⟨11, [l.cells]⟩ : Obj)) = B
        have hB0 : objAt B 0 = some (cob x i4 h4) := by
          rw [← hB, objAt_setne (by omega), objAt_snoc_lt (by simp [hSl] <;> omega), objAt_setne (by omega), objAt_snoc_lt (by simp [hSl] <;> omega), objAt_setne (by omega), objAt_setne (by omega), hS0]
        have hBp : objAt B (m + 1 + 1) = some ⟨11, [l.cells]⟩ := by rw [← hB]; exact objAt_seteq (by simp [hSl] <;> omega)
        refine ⟨(k + 1, B, .msl (m + 1 + 1) 0 1, [] ++ [l]), by dsimp only; omega, ⟨⟨by dsimp only; omega, i4, h4, hB0, hi4⟩, .inr ⟨m + 1 + 1, rfl, (by dsimp only [List.nil_append, List.map_cons, List.map_nil]; exact hBp), by omega⟩, by dsimp only; simp; simp at hxl; omega, hsm2, hb2⟩, ?_⟩
        dsimp only
        (refine Fg_env ?_) <;> (try (refine ew ?_; try with_reducible exact True.intro)) <;> (repeat' (first | refine ⟨?_, ?_⟩ | exact EvV_int (by omega) | exact EvV_of (by simp) | exact EvV_nil _))
      · have hpl := objAt_lt hp
        have hpm : p ≠ m := fun e => by rw [e, hSm] at hp; cases hp
        (refine ew3 @hS0 @hp @hSl ?_; try with_reducible exact True.intro)
        refine ⟨by omega, ?_⟩
        generalize hB : List.set _ (m + 1 + 1) (some (⟨11, List.map Lk.cells xs ++ [l.cells]⟩ : Obj)) = B
        have hB0 : objAt B 0 = some (cob x i4 h4) := by
          rw [← hB, objAt_setne (by omega), objAt_snoc_lt (by simp <;> omega), objAt_setne (by omega), objAt_setne (by omega), objAt_snoc_lt (by simp [hSl] <;> omega), objAt_setne (by omega), objAt_setne (by omega), hS0]
        have hBp : objAt B (m + 1 + 1) = some ⟨11, List.map Lk.cells xs ++ [l.cells]⟩ := by rw [← hB]; exact objAt_seteq (by simp [hSl] <;> omega)
        refine ⟨(k + 1, B, .msl (m + 1 + 1) 0 (xs.length + 1), xs ++ [l]), by dsimp only; omega, ⟨⟨by dsimp only; omega, i4, h4, hB0, hi4⟩, .inr ⟨m + 1 + 1, by dsimp only; simp, (by dsimp only; rw [List.map_append]; exact hBp), by omega⟩, by dsimp only; simp; omega, hsm2, hb2⟩, ?_⟩
        dsimp only
        (refine Fg_env ?_) <;> (try (refine ew ?_; try with_reducible exact True.intro)) <;> (repeat' (first | refine ⟨?_, ?_⟩ | exact EvV_int (by omega) | exact EvV_of (by simp) | exact EvV_nil _))
    · have hkn : k = n := by omega
      subst hkn
      have hP0 := hP.lt
      (refine ew1 @hc ?_; try with_reducible exact True.intro)
      refine RefK_curF (b := 0) (rest := [iv 4]) hP (f_l01Below h.d_spec_l01Below (n := 4) (by omega) hx) rfl (fun _ => rfl) ?_
      rintro _ i1 h1 ⟨mm, rfl, hmm⟩ hi1
      obtain ⟨S, hSe⟩ : ∃ S, s.set 0 (some (cob x i1 h1)) = S := ⟨_, rfl⟩
      have hPS : CurP S 0 x := ⟨i1, h1, by rw [← hSe]; exact objAt_seteq hP0, hi1⟩
      have hLS : LsAt S v xs := hLs.fr fun p h0 hp => by rw [← hSe]; exact objAt_setne h0
      rw [hSe]
      clear hSe hP hLs hP0
      have hlen : xs.length + mm.toNat ≤ k + 3 := by omega
      (refine ew ?_; try with_reducible exact True.intro)
      refine loop_at (fun x d => x == 107 || x == 128) (α := Nat × Store × V × List Lk) (fun q => ⟨argE [.ptr 0 0 0, iv k, .any, .any, .any, q.2.2.1, .any, .any, .any, iv (q.1 : Nat)], q.2.1, kp, 0, [], []⟩) (fun q => CurP q.2.1 0 x ∧ LsAt q.2.1 q.2.2.1 q.2.2.2 ∧ (k ≤ q.2.2.2.length ∧ q.2.2.2.length + q.1 ≤ k + 3) ∧ (∀ l ∈ q.2.2.2, SmN ((k : Int) + 1) l) ∧ ∀ j, j < k → (q.2.2.2.getD j default).b = (j : Int) + 1) (fun q => q.1) rfl (mm.toNat, S, v, xs) ?_ ?_ ?_
      · exact ⟨hPS, hLS, ⟨by dsimp only; omega, hlen⟩, hsm, hb⟩
      · (refine Fg_env ?_) <;> (try (refine ew ?_; try with_reducible exact True.intro)) <;> (repeat' (first | refine ⟨?_, ?_⟩ | exact EvV_int (by omega) | exact EvV_of (by simp) | exact EvV_nil _))
      · clear hPS hLS hsm hb hlen hxl
        rintro ⟨r, s, v, xs⟩ ⟨hP, hLs, ⟨hxl, hxr⟩, hsm, hb⟩
        dsimp only at hP hLs hxl hxr hsm hb
        by_cases hc2 : (r : Int) > 0
        · (refine ew1 @hc2 ?_; try with_reducible exact True.intro)
          refine RefK_curF (b := 0) (rest := [iv ((k : Int) + 1)]) (hP.fr (by have := hP.lt; rw [List.append_assoc, objAt_app_lt this])) (f_l06DrawN h.d_spec_l06Draw (n := (k : Int) + 1) (by omega) hx) rfl (fun _ => rfl) ?_
          rintro _ i4 h4 ⟨l, rfl, hS⟩ hi4
          obtain ⟨S, hSe⟩ : ∃ S, List.set (s ++ [none] ++ [none]) 0 (some (cob x i4 h4)) = S := ⟨_, rfl⟩
          rw [hSe]
          have hm0 := hP.lt
          have hSl : S.length = s.length + 2 := by rw [← hSe]; simp
          have hS0 : objAt S 0 = some (cob x i4 h4) := by rw [← hSe]; exact objAt_seteq (by simp)
          have hSo : ∀ p, p ≠ 0 → p < s.length → objAt S p = objAt s p := fun p h0 hp => by
            rw [← hSe, objAt_setne h0, List.append_assoc, objAt_app_lt hp]
          have hpl : ∀ p, p ≠ 0 → objAt s p ≠ none → p < s.length := fun p _ h => by
            rcases Nat.lt_or_ge p s.length with k | k
            · exact k
            · exact absurd (by unfold objAt; rw [List.getElem?_eq_none k]; rfl) h
          have hLs : (xs = [] ∧ v = .nils) ∨ ∃ p, v = .msl p 0 xs.length ∧ objAt S p = some ⟨11, xs.map Lk.cells⟩ ∧ p ≠ 0 ∧ p < s.length := by
            rcases hLs with h | ⟨p, h1, h2, h3⟩
            · exact .inl h
            · exact .inr ⟨p, h1, (hSo p h3 (objAt_lt h2)).trans h2, h3, objAt_lt h2⟩
          clear hSe hSo hP hpl
          generalize s.length = m at *
          have hsm2 : ∀ l' ∈ xs ++ [l], SmN ((k : Int) + 1) l' := fun l' hl' => by
            rcases List.mem_append.1 hl' with hl' | hl'
            · exact hsm l' hl'
            · rw [List.mem_singleton.1 hl']; exact hS
          have hb2 : ∀ j, j < k → ((xs ++ [l]).getD j default).b = (j : Int) + 1 := fun j hj => by
            rw [getD_snoc, if_pos (by omega)]
            exact hb j hj
          rcases hLs with ⟨rfl, rfl⟩ | ⟨p, rfl, hp, hp0, hpm⟩
          · simp at hxl; omega
          · (refine ew3 @hS0 @hp @hSl ?_; try with_reducible exact True.intro)
            refine ⟨by omega, ?_⟩
            generalize hB : List.set _ (m + 1) (some (⟨11, List.map Lk.cells xs ++ [l.cells]⟩ : Obj)) = B
            have hB0 : objAt B 0 = some (cob x i4 h4) := by
              rw [← hB, objAt_setne (by omega), objAt_setne (by omega), objAt_setne (by omega), hS0]
            have hBp : objAt B (m + 1) = some ⟨11, List.map Lk.cells xs ++ [l.cells]⟩ := by rw [← hB]; exact objAt_seteq (by simp [hSl])
            refine ⟨(r - 1, B, .msl (m + 1) 0 (xs.length + 1), xs ++ [l]), by dsimp only; omega, ⟨⟨i4, h4, hB0, hi4⟩, .inr ⟨m + 1, by dsimp only; simp, (by dsimp only; rw [List.map_append]; exact hBp), by omega⟩, by dsimp only; simp; omega, hsm2, hb2⟩, ?_⟩
            dsimp only
            (refine Fg_env ?_) <;> (try (refine ew ?_; try with_reducible exact True.intro)) <;> (repeat' (first | refine ⟨?_, ?_⟩ | exact EvV_int (by omega) | exact EvV_of (by simp) | exact EvV_nil _))
        · (refine ew1 @hc2 ?_; try with_reducible exact True.intro)
          rcases hLs with ⟨rfl, rfl⟩ | ⟨p, rfl, hp, hp0⟩
          · simp at hxl; omega
          · exact ⟨⟨xs, ⟨hn, ⟨hxl, by omega⟩, hsm, hb⟩, mp_res (fun x hx => st_Lk xs _ (List.mem_map_of_mem hx)) hp⟩, hP.lt⟩
end Go.Ml
end
section
set_option linter.unusedSimpArgs false
set_option linter.unusedVariables false
set_option maxRecDepth 100000
set_option maxHeartbeats 8000000
namespace Go.Ml
theorem addS_cur (x : List UInt8) (i h : Int) : addS [] (cur x i h) = cur x i h := by
  show [] ++ [some (mapO (shiftN 0) (cob x i h))] = _
  rw [mapO_cob]; rfl
theorem c_MakeLinks {T : Nat → Option Fn} (h : D_spec_MakeLinks T) {x : List UInt8} (hx : x.length ≤ 1048576) : ∃ n L, DrawL n L ∧ PF T 87 [bytesV x] (lksV L) := by
  obtain ⟨h0, rn⟩ := r_l01New h.d_spec_l01New hx
  have : ∃ r σ', Run T (.fn 87 [bytesV x] []) (.fn r σ') ∧ ∃ n L, DrawL n L ∧ resolve σ' FD r = some (lksV L) := by
    refine run_end (fun x d => x == 105 || x == 107 || x == 106) h.hT rfl rfl ?_
    dsimp only [F_spec_MakeLinks, oN, oS, oG, oK, oA, oH, oV, cI, St.enter, List.length_cons, List.length_nil, Nat.zero_add]
    (refine ew ?_; try with_reducible exact True.intro)
    refine RefK_run0 rn (by (refine ew ?_; try with_reducible exact True.intro)) (by (refine ew ?_; try with_reducible exact True.intro)) ?_
    rw [show mapV (shiftN ([] : Store).length) (.ptr 0 0 0) = .ptr 0 0 0 from rfl, addS_cur]
    (refine ew ?_; try with_reducible exact True.intro)
    refine RefK_curF (b := 0) (rest := [iv 4]) ⟨0, h0, rfl, by omega⟩ (f_l01Below h.d_spec_l01Below (n := 4) (by omega) hx) rfl (fun _ => rfl) ?_
    rintro _ i1 h1 ⟨m, rfl, hm⟩ hi1
    rw [show (cur x 0 h0).set 0 (some (cob x i1 h1)) = cur x i1 h1 from rfl]
    obtain ⟨r, σ', h2, ⟨L, h3, h4⟩, h5⟩ := r_l06List h.d_spec_l06List hx (n := (1 + m).toNat) (by omega) (hh := h1) hi1
    rw [show (((1 + m).toNat : Nat) : Int) = 1 + m by omega] at h2
    (refine ew ?_; try with_reducible exact True.intro)
    refine RefK_mk h2 rfl h5 (Nat.le_refl _) ?_
    (refine ew ?_; try with_reducible exact True.intro)
    exact ⟨_, L, h3, h4⟩
  obtain ⟨r, σ', h1, n, L, h2, h3⟩ := this
  exact ⟨n, L, h2, .frz h1 h3⟩
end Go.Ml
end
section
set_option linter.unusedSimpArgs false
set_option linter.unusedVariables false
namespace Go.Ml
def Ht (a : Rat) (N : Nat) : Prop := a.num.natAbs ≤ N ∧ a.den ≤ N
theorem ht_normalize {n : Int} {d N : Nat} (h : d ≠ 0) (h1 : n.natAbs ≤ N) (h2 : d ≤ N) : Ht (Rat.normalize n d h) N := by
  rw [Rat.normalize_eq]
  refine ⟨?_, Nat.le_trans (Nat.div_le_self _ _) h2⟩
  show (n / (n.natAbs.gcd d : Nat)).natAbs ≤ N
  refine Nat.le_trans ?_ h1
  have hd : ((n.natAbs.gcd d : Nat) : Int) ∣ n := Int.ofNat_dvd_left.2 (Nat.gcd_dvd_left _ _)
  rw [Int.natAbs_ediv_of_dvd hd]
  exact Nat.div_le_self _ _
theorem ht_pos {a : Rat} {N : Nat} (h : Ht a N) : 1 ≤ N := by
  have := a.den_pos
  have := h.2
  omega
theorem ht_mul {a b : Rat} {M N : Nat} (ha : Ht a M) (hb : Ht b N) : Ht (a * b) (M * N) := by
  rw [Rat.mul_def]
  refine ht_normalize _ ?_ (Nat.mul_le_mul ha.2 hb.2)
  rw [Int.natAbs_mul]
  exact Nat.mul_le_mul ha.1 hb.1
theorem ht_add {a b : Rat} {M N : Nat} (ha : Ht a M) (hb : Ht b N) : Ht (a + b) (2 * (M * N)) := by
  rw [Rat.add_def]
  have h1 : (a.num * (b.den : Int)).natAbs ≤ M * N := by
    rw [Int.natAbs_mul, Int.natAbs_natCast]; exact Nat.mul_le_mul ha.1 hb.2
  have h2 : (b.num * (a.den : Int)).natAbs ≤ M * N := by
    rw [Int.natAbs_mul, Int.natAbs_natCast, Nat.mul_comm]; exact Nat.mul_le_mul ha.2 hb.1
  have h3 := Nat.mul_le_mul ha.2 hb.2
  refine ht_normalize _ ?_ (by omega)
  have := Int.natAbs_add_le (a.num * (b.den : Int)) (b.num * (a.den : Int))
  omega
theorem ht_neg {a : Rat} {N : Nat} (h : Ht a N) : Ht (-a) N := by
  unfold Ht
  rw [Rat.neg_num, Rat.neg_den, Int.natAbs_neg]
  exact h
theorem ht_sub {a b : Rat} {M N : Nat} (ha : Ht a M) (hb : Ht b N) : Ht (a - b) (2 * (M * N)) := by
  rw [Rat.sub_eq_add_neg]; exact ht_add ha (ht_neg hb)
theorem ht_inv {a : Rat} {N : Nat} (h : Ht a N) : Ht a⁻¹ N := by
  unfold Ht
  rw [Rat.num_inv, Rat.den_inv]
  refine ⟨?_, ?_⟩
  · rw [Int.natAbs_mul, Int.natAbs_natCast]
    have hs : a.num.sign.natAbs ≤ 1 := by
      rcases Int.lt_trichotomy a.num 0 with h | h | h
      · rw [Int.sign_eq_neg_one_of_neg h]; decide
      · rw [h]; decide
      · rw [Int.sign_eq_one_of_pos h]; decide
    have := Nat.mul_le_mul hs (Nat.le_refl a.den)
    have := h.2
    omega
  · split
    · exact ht_pos h
    · exact h.1
theorem ht_div {a b : Rat} {M N : Nat} (ha : Ht a M) (hb : Ht b N) : Ht (a / b) (M * N) := by
  rw [Rat.div_def]; exact ht_mul ha (ht_inv hb)
theorem ht_int {n : Int} {N : Nat} (h : n.natAbs ≤ N) (h1 : 1 ≤ N) : Ht (n : Rat) N := by
  unfold Ht
  rw [Rat.num_intCast, Rat.den_intCast]
  exact ⟨h, h1⟩
theorem ht_fits {a : Rat} {N : Nat} (h : Ht a N) (hN : N < 1000000000 ^ 24) : fits a = true := by
  unfold fits
  rw [decide_eq_true (Nat.lt_of_le_of_lt h.1 hN), decide_eq_true (Nat.lt_of_le_of_lt h.2 hN)]
  rfl
theorem Ht.mono {a : Rat} {M N : Nat} (h : Ht a M) (hl : M ≤ N) : Ht a N := ⟨Nat.le_trans h.1 hl, Nat.le_trans h.2 hl⟩
structure Rv (r : R) (a : Rat) (N : Nat) : Prop where
  q : r.q = some a
  h : Ht a N
theorem Rv.add {r s : R} {a b : Rat} {M N : Nat} (h1 : Rv r a M) (h2 : Rv s b N) (hN : 2 * (M * N) < 1000000000 ^ 24 := by decide) : Rv (addR r s) (a + b) (2 * (M * N)) := by
  have h := ht_add h1.h h2.h
  refine ⟨?_, h⟩
  rw [addR_q, h1.q, h2.q]
  show norm (a + b) = _
  exact norm_fits (ht_fits h hN)
theorem Rv.sub {r s : R} {a b : Rat} {M N : Nat} (h1 : Rv r a M) (h2 : Rv s b N) (hN : 2 * (M * N) < 1000000000 ^ 24 := by decide) : Rv (subR r s) (a - b) (2 * (M * N)) := by
  have h := ht_sub h1.h h2.h
  refine ⟨?_, h⟩
  rw [subR_q, h1.q, h2.q]
  show norm (a + -b) = _
  rw [← Rat.sub_eq_add_neg]
  exact norm_fits (ht_fits h hN)
theorem Rv.mul {r s : R} {a b : Rat} {M N : Nat} (h1 : Rv r a M) (h2 : Rv s b N) (hN : M * N < 1000000000 ^ 24 := by decide) : Rv (mulR r s) (a * b) (M * N) := by
  have h := ht_mul h1.h h2.h
  refine ⟨?_, h⟩
  rw [mulR_q, h1.q, h2.q]
  show norm (a * b) = _
  exact norm_fits (ht_fits h hN)
theorem Rv.div {r s : R} {a b : Rat} {M N : Nat} (h1 : Rv r a M) (h2 : Rv s b N) (hb : b ≠ 0) (hN : M * N < 1000000000 ^ 24 := by decide) : Rv (divR r s) (a / b) (M * N) := by
  have h := ht_div h1.h h2.h
  refine ⟨?_, h⟩
  rw [divR_q, h1.q, h2.q]
  show (if b = 0 then none else norm (a / b)) = _
  rw [if_neg hb]
  exact norm_fits (ht_fits h hN)
theorem rv_int {n : Int} {N : Nat} (h : n.natAbs ≤ N) (h1 : 1 ≤ N) (hN : N < 1000000000 ^ 24 := by decide) : Rv (intR n) (n : Rat) N :=
  ⟨intR_q (Nat.lt_of_le_of_lt h hN), ht_int h h1⟩
theorem Rv.ok {r : R} {a : Rat} {N : Nat} (h : Rv r a N) : r.ok = true := by
  rw [ok_iff, h.q]; simp
theorem Rv.eq {r s : R} {a b : Rat} {M N : Nat} (h1 : Rv r a M) (h2 : Rv s b N) (hr : r.cn) (hs : s.cn) (e : a = b) : r = s := by
  rw [← hr, ← hs, h1.q, h2.q, e]
end Go.Ml
end
section
set_option linter.unusedSimpArgs false
set_option linter.unusedVariables false
set_option maxRecDepth 100000
set_option maxHeartbeats 8000000
namespace Go.Ml
theorem Rv.of_eq {r s : R} {a : Rat} {N : Nat} (h : Rv s a N) (e : r = s) : Rv r a N := e ▸ h
theorem lkOk_of {l : Lk} {w : Rat} {N : Nat} (h : 0 ≤ l.a ∧ l.a < l.b ∧ l.b ≤ 9) (hw : Rv l.w w N) (hp : 0 < w) (hx : l.dx.ok = true) (hy : l.dy.ok = true) : lkOk l = true := by
  have hs : 0 < sgnR l.w := by
    unfold sgnR
    rw [hw.q]
    show 0 < sgn w.num
    have : 0 < w.num := by
      rw [Rat.lt_iff, show (0 : Rat).num = 0 from rfl, show (0 : Rat).den = 1 from rfl, Int.zero_mul, Int.natCast_one, Int.mul_one] at hp
      exact hp
    unfold sgn
    rw [if_neg (by omega), if_neg (by omega)]
    decide
  unfold sgnR at hs
  unfold lkOk nd
  rw [decide_eq_true hs, hx, hy, decide_eq_true h.2.1, decide_eq_true h.1, decide_eq_true h.2.2, decide_eq_true (show 0 ≤ l.b by omega), decide_eq_true (show l.a ≤ 9 by omega)]
  rfl
end Go.Ml
end
section
set_option linter.unusedSimpArgs false
set_option linter.unusedVariables false
set_option maxRecDepth 100000
set_option maxHeartbeats 8000000
namespace Go.Ml
theorem norm_ex {a b : Rat} (h : norm a = some b) : a = b := by
  unfold norm at h; split at h
  · cases h; rfl
  · cases h
theorem ok_some {r : R} (h : r.ok = true) : ∃ a, r.q = some a := by
  cases hq : r.q with
  | none => exact absurd hq (ok_iff.1 h)
  | some a => exact ⟨a, rfl⟩
theorem add_ex {r s : R} {a b : Rat} (hr : r.q = some a) (hs : s.q = some b) (ho : (addR r s).ok = true) : (addR r s).q = some (a + b) := by
  obtain ⟨c, hc⟩ := ok_some ho
  rw [hc]
  rw [addR_q, hr, hs] at hc
  rw [norm_ex hc]
theorem sub_ex {r s : R} {a b : Rat} (hr : r.q = some a) (hs : s.q = some b) (ho : (subR r s).ok = true) : (subR r s).q = some (a - b) := by
  obtain ⟨c, hc⟩ := ok_some ho
  rw [hc]
  rw [subR_q, hr, hs] at hc
  have : norm (a + -b) = some c := hc
  rw [Rat.sub_eq_add_neg, norm_ex this]
theorem mul_ex {r s : R} {a b : Rat} (hr : r.q = some a) (hs : s.q = some b) (ho : (mulR r s).ok = true) : (mulR r s).q = some (a * b) := by
  obtain ⟨c, hc⟩ := ok_some ho
  rw [hc]
  rw [mulR_q, hr, hs] at hc
  rw [norm_ex hc]
theorem div_ex {r s : R} {a b : Rat} (hr : r.q = some a) (hs : s.q = some b) (ho : (divR r s).ok = true) : (divR r s).q = some (a / b) ∧ b ≠ 0 := by
  obtain ⟨c, hc⟩ := ok_some ho
  rw [hc]
  rw [divR_q, hr, hs] at hc
  have : (if b = 0 then none else norm (a / b)) = some c := hc
  split at this
  · cases this
  · rename_i h0
    rw [norm_ex this]; exact ⟨rfl, h0⟩
theorem addR_okL {r s : R} (h : (addR r s).ok = true) : r.ok = true ∧ s.ok = true := by
  constructor
  · cases hr : r.ok
    · rw [addR_bad hr] at h; cases h
    · rfl
  · cases hr : s.ok
    · rw [addR_comm, addR_bad hr] at h; cases h
    · rfl
theorem mulR_okL {r s : R} (h : (mulR r s).ok = true) : r.ok = true ∧ s.ok = true := by
  rw [ok_iff, mulR_q] at h
  constructor
  · rw [ok_iff]; intro e; rw [e] at h; exact h rfl
  · rw [ok_iff]; intro e; rw [e, mulQ_none_r] at h; exact h rfl
theorem divR_okL {r s : R} (h : (divR r s).ok = true) : r.ok = true ∧ s.ok = true := by
  rw [ok_iff, divR_q] at h
  constructor
  · rw [ok_iff]; intro e; rw [e] at h; exact h rfl
  · rw [ok_iff]; intro e; rw [e, divQ_none_r] at h; exact h rfl
def R.v (r : R) : Rat := r.q.getD 0
theorem R.v_of {r : R} {a : Rat} (h : r.q = some a) : r.v = a := by unfold R.v; rw [h]; rfl
theorem R.q_of {r : R} (h : r.ok = true) : r.q = some r.v := by obtain ⟨a, ha⟩ := ok_some h; rw [ha, R.v_of ha]
def mW (l : Lk) : Rat := l.w.v
def mX (l : Lk) : Rat := l.w.v * l.dx.v
def mY (l : Lk) : Rat := l.w.v * l.dy.v
def mZ (l : Lk) : Rat := l.w.v * (l.dx.v * l.dx.v + l.dy.v * l.dy.v)
theorem sgn_pos {n : Int} (h : 0 < sgn n) : 0 < n := by
  unfold sgn at h
  split at h
  · omega
  · split at h <;> omega
theorem lkOk_pos {l : Lk} (h : lkOk l = true) : 0 < l.w.v := by
  have hk := lkOk_ok h
  have hs := hk.2.2.2
  unfold sgnR at hs
  rw [R.q_of hk.1] at hs
  have : 0 < sgn l.w.v.num := hs
  rw [Rat.lt_iff, show (0 : Rat).num = 0 from rfl, show (0 : Rat).den = 1 from rfl, Int.zero_mul, Int.natCast_one, Int.mul_one]
  exact sgn_pos this
theorem mg_id2 (v w a b c d : Rat) (h : v + w ≠ 0) : (v + w) * ((v * a + w * b) / (v + w) * ((v * a + w * b) / (v + w)) + (v * c + w * d) / (v + w) * ((v * c + w * d) / (v + w))) + v * w / (v + w) * ((a - b) * (a - b) + (c - d) * (c - d)) = v * (a * a + c * c) + w * (b * b + d * d) := by
  grind
theorem mg_id3 (s t : Rat) (h : t ≠ 0) : t * (s / t) = s := by grind
theorem mg_mom {k l : Lk} (h1 : lkOk k = true) (h2 : lkOk l = true) (hg : mgG k l = true) :
    mW (mgL k l) = mW k + mW l ∧ mX (mgL k l) = mX k + mX l ∧ mY (mgL k l) = mY k + mY l ∧ mZ (mgL k l) + (mgE k l).v = mZ k + mZ l := by
  have k1 := lkOk_ok h1
  have k2 := lkOk_ok h2
  have kw := R.q_of k1.1
  have kx := R.q_of k1.2.1
  have ky := R.q_of k1.2.2.1
  have lw := R.q_of k2.1
  have lx := R.q_of k2.2.1
  have ly := R.q_of k2.2.2.1
  unfold mgG at hg
  simp only [Bool.and_eq_true] at hg
  obtain ⟨⟨⟨gW, gX⟩, gY⟩, gE⟩ := hg
  have eW := add_ex kw lw gW
  obtain ⟨gX1, _⟩ := divR_okL gX
  obtain ⟨gX2, gX3⟩ := addR_okL gX1
  obtain ⟨eX, hne⟩ := div_ex (add_ex (mul_ex kw kx gX2) (mul_ex lw lx gX3) gX1) eW gX
  obtain ⟨gY1, _⟩ := divR_okL gY
  obtain ⟨gY2, gY3⟩ := addR_okL gY1
  obtain ⟨eY, _⟩ := div_ex (add_ex (mul_ex kw ky gY2) (mul_ex lw ly gY3) gY1) eW gY
  obtain ⟨gE1, gE2⟩ := mulR_okL gE
  obtain ⟨gE3, _⟩ := divR_okL gE1
  obtain ⟨gE4, gE5⟩ := addR_okL gE2
  obtain ⟨gE6, _⟩ := mulR_okL gE4
  obtain ⟨gE7, _⟩ := mulR_okL gE5
  have sx := sub_ex kx lx gE6
  have sy := sub_ex ky ly gE7
  have eE := mul_ex (div_ex (mul_ex kw lw gE3) eW gE1).1 (add_ex (mul_ex sx sx gE4) (mul_ex sy sy gE5) gE2) gE
  have vW : (mgL k l).w.v = k.w.v + l.w.v := R.v_of eW
  have vX : (mgL k l).dx.v = (k.w.v * k.dx.v + l.w.v * l.dx.v) / (k.w.v + l.w.v) := R.v_of eX
  have vY : (mgL k l).dy.v = (k.w.v * k.dy.v + l.w.v * l.dy.v) / (k.w.v + l.w.v) := R.v_of eY
  have vE : (mgE k l).v = k.w.v * l.w.v / (k.w.v + l.w.v) * ((k.dx.v - l.dx.v) * (k.dx.v - l.dx.v) + (k.dy.v - l.dy.v) * (k.dy.v - l.dy.v)) := R.v_of eE
  unfold mW mX mY mZ
  rw [vW, vX, vY, vE]
  exact ⟨rfl, mg_id3 _ _ hne, mg_id3 _ _ hne, mg_id2 _ _ _ _ _ _ hne⟩
def mom (f : Lk → Rat) (i j : Int) : List Lk → Rat
  | [] => 0
  | x :: L => (if x.a = i ∧ x.b = j then f x else 0) + mom f i j L
def tot (f : Lk → Rat) : List Lk → Rat
  | [] => 0
  | x :: L => f x + tot f L
theorem mom_app (f : Lk → Rat) (i j : Int) : ∀ A B : List Lk, mom f i j (A ++ B) = mom f i j A + mom f i j B
  | [], B => by simp [mom, Rat.zero_add]
  | x :: A, B => by simp only [List.cons_append, mom, mom_app f i j A B, Rat.add_assoc]
theorem tot_app (f : Lk → Rat) : ∀ A B : List Lk, tot f (A ++ B) = tot f A + tot f B
  | [], B => by simp [tot, Rat.zero_add]
  | x :: A, B => by simp only [List.cons_append, tot, tot_app f A B, Rat.add_assoc]
theorem mom_rev (f : Lk → Rat) (i j : Int) : ∀ A : List Lk, mom f i j A.reverse = mom f i j A
  | [] => rfl
  | x :: A => by rw [List.reverse_cons, mom_app, mom_rev f i j A]; simp only [mom, Rat.add_zero]; rw [Rat.add_comm]
theorem tot_rev (f : Lk → Rat) : ∀ A : List Lk, tot f A.reverse = tot f A
  | [] => rfl
  | x :: A => by rw [List.reverse_cons, tot_app, tot_rev f A]; simp only [tot, Rat.add_zero]; rw [Rat.add_comm]
theorem adR_mom {s : List Lk} {l : Lk} {t : List Lk} {e : R} (h : adR s l = some (t, e)) (h1 : lksOk s = true) (h2 : lkOk l = true) :
    (∀ f, (f = mW ∨ f = mX ∨ f = mY) → ∀ i j, mom f i j t = mom f i j s + mom f i j [l]) ∧ tot mZ t + e.v = tot mZ s + mZ l := by
  obtain ⟨hv, hp⟩ := lksOk_iff.1 h1
  have hpost := posL_post (l := l) hp
  have hpl := posL_le l s
  unfold adR at h
  dsimp only at h
  generalize posL l s = i at *
  have hsp : s.take i ++ s.drop i = s := List.take_append_drop i s
  split at h
  · cases h
    have e0 : (intR 0).v = 0 := R.v_of (a := ((0 : Int) : Rat)) (intR_q (by decide))
    refine ⟨fun f _ a b => ?_, ?_⟩
    · conv => rhs; rw [← hsp]
      simp only [mom_app, mom, Rat.add_zero]
      grind
    · rw [e0]
      conv => rhs; rw [← hsp]
      simp only [tot_app, tot]
      grind
  · rename_i hc
    split at h
    · rename_i hg
      cases h
      have hi : i < s.length := by
        rcases Nat.lt_or_ge i s.length with k | k
        · exact k
        · exact absurd (.inl (by omega)) hc
      have hd : s.drop i = s.getD i default :: s.drop (i + 1) := by
        rw [List.drop_eq_getElem_cons hi, List.getD_eq_getElem?_getD, List.getElem?_eq_getElem hi]; rfl
      have hx0 := hpost (s.getD i default) (by rw [hd]; simp)
      have hxl : lkLess l (s.getD i default) = false := by
        cases hq : lkLess l (s.getD i default)
        · rfl
        · exact absurd (.inr hq) hc
      have hsm := getD_mem (l := s) hi
      generalize s.getD i default = x at *
      obtain ⟨ea, eb⟩ := lkLess_tri hx0 hxl
      obtain ⟨m1, m2, m3, m4⟩ := mg_mom (hv x hsm) h2 hg
      have hpa : (mgL x l).a = x.a := rfl
      have hpb : (mgL x l).b = x.b := rfl
      refine ⟨fun f hf a b => ?_, ?_⟩
      · have hm : f (mgL x l) = f x + f l := by rcases hf with rfl | rfl | rfl <;> assumption
        conv => rhs; rw [← hsp, hd]
        simp only [mom_app, mom, Rat.add_zero, hpa, hpb, ← ea, ← eb]
        split
        · rw [hm]; grind
        · grind
      · conv => rhs; rw [← hsp, hd]
        simp only [tot_app, tot]
        grind
    · cases h
theorem mom_none {f : Lk → Rat} {i j : Int} : ∀ {S : List Lk}, (∀ y ∈ S, ¬ (y.a = i ∧ y.b = j)) → mom f i j S = 0
  | [], _ => rfl
  | y :: S, h => by
    simp only [mom]
    rw [if_neg (h y (by simp)), mom_none fun z hz => h z (by simp [hz]), Rat.zero_add]
theorem mom_at {f : Lk → Rat} {x : Lk} : ∀ {S : List Lk}, (S.Pairwise fun k l => lkLess k l = true) → x ∈ S → mom f x.a x.b S = f x
  | [], _, h => by cases h
  | y :: S, hp, h => by
    rw [List.pairwise_cons] at hp
    simp only [mom]
    rcases List.mem_cons.1 h with rfl | h
    · rw [if_pos ⟨rfl, rfl⟩, mom_none fun z hz hh => ?_, Rat.add_zero]
      have := hp.1 z hz
      rw [lkLess_iff] at this
      omega
    · have := hp.1 x h
      rw [lkLess_iff] at this
      rw [if_neg (by omega), mom_at hp.2 h, Rat.zero_add]
theorem pw_ext : ∀ {l m : List Lk}, (l.Pairwise fun k l => lkLess k l = true) → (m.Pairwise fun k l => lkLess k l = true) → (∀ a, a ∈ l ↔ a ∈ m) → l = m
  | [], [], _, _, _ => rfl
  | [], y :: m, _, _, h => absurd ((h y).2 (by simp)) (by simp)
  | x :: l, [], _, _, h => absurd ((h x).1 (by simp)) (by simp)
  | x :: l, y :: m, hl, hm, h => by
    rw [List.pairwise_cons] at hl hm
    have e : x = y := by
      rcases List.mem_cons.1 ((h x).1 (by simp)) with h1 | h1
      · exact h1
      · rcases List.mem_cons.1 ((h y).2 (by simp)) with h2 | h2
        · exact h2.symm
        · have a1 := hl.1 y h2
          have a2 := hm.1 x h1
          have := lkLess_trans a1 a2
          rw [lkLess_irr] at this; cases this
    subst e
    congr 1
    refine pw_ext hl.2 hm.2 fun a => ?_
    constructor
    · intro ha
      rcases List.mem_cons.1 ((h a).1 (by simp [ha])) with h1 | h1
      · have := hl.1 a ha; rw [h1, lkLess_irr] at this; cases this
      · exact h1
    · intro ha
      rcases List.mem_cons.1 ((h a).2 (by simp [ha])) with h1 | h1
      · have := hm.1 a ha; rw [h1, lkLess_irr] at this; cases this
      · exact h1
theorem R.eq_v {r s : R} (hr : r.ok = true) (hs : s.ok = true) (h : r.v = s.v) : r = s := cn_ext (cn_ok hr) (cn_ok hs) (by rw [R.q_of hr, R.q_of hs, h])
theorem mom_sub {S S' : List Lk} (h : lksOk S = true) (h' : lksOk S' = true) (hm : ∀ f, (f = mW ∨ f = mX ∨ f = mY) → ∀ i j, mom f i j S = mom f i j S') : ∀ x ∈ S, x ∈ S' := by
  obtain ⟨hv, hp⟩ := lksOk_iff.1 h
  obtain ⟨hv', hp'⟩ := lksOk_iff.1 h'
  intro x hx
  have hpos := lkOk_pos (hv x hx)
  have w1 := hm mW (.inl rfl) x.a x.b
  rw [mom_at hp hx] at w1
  have : ∃ y ∈ S', y.a = x.a ∧ y.b = x.b := by
    refine Classical.byContradiction fun hne => ?_
    rw [mom_none fun y hy hh => hne ⟨y, hy, hh⟩] at w1
    unfold mW at w1
    rw [w1] at hpos
    exact absurd hpos (Rat.lt_irrefl)
  obtain ⟨y, hy, ha, hb⟩ := this
  have hyok := hv' y hy
  have at' := fun f => mom_at (f := f) hp' hy
  rw [ha, hb] at at'
  rw [at'] at w1
  have w2 := hm mX (.inr (.inl rfl)) x.a x.b
  have w3 := hm mY (.inr (.inr rfl)) x.a x.b
  rw [mom_at hp hx, at'] at w2 w3
  unfold mW at w1
  unfold mX at w2
  unfold mY at w3
  have k1 := lkOk_ok (hv x hx)
  have k2 := lkOk_ok hyok
  rw [← w1] at w2 w3
  have hne : x.w.v ≠ 0 := fun e => by rw [e] at hpos; exact absurd hpos Rat.lt_irrefl
  have c2 : x.dx.v = y.dx.v := by grind
  have c3 : x.dy.v = y.dy.v := by grind
  have e : x = y := Lk.ext' ha.symm hb.symm (R.eq_v k1.1 k2.1 w1) (R.eq_v k1.2.1 k2.2.1 c2) (R.eq_v k1.2.2.1 k2.2.2.1 c3)
  rw [e]; exact hy
theorem mom_ext {S S' : List Lk} (h : lksOk S = true) (h' : lksOk S' = true) (hm : ∀ f, (f = mW ∨ f = mX ∨ f = mY) → ∀ i j, mom f i j S = mom f i j S') : S = S' :=
  pw_ext (lksOk_iff.1 h).2 (lksOk_iff.1 h').2 fun a => ⟨mom_sub h h' hm a, mom_sub h' h (fun f hf i j => (hm f hf i j).symm) a⟩
theorem joF_mom {l : List Lk} : ∀ {k : Nat} {S : List Lk} {e : R}, k ≤ l.length → joF l k = some (S, e) → e.ok = true →
    (∀ f, (f = mW ∨ f = mX ∨ f = mY) → ∀ i j, mom f i j S = mom f i j (l.take k)) ∧ tot mZ S + e.v = tot mZ (l.take k)
  | 0, S, e, _, h, _ => by
    cases h
    have e0 : (intR 0).v = 0 := R.v_of (a := ((0 : Int) : Rat)) (intR_q (by decide))
    rw [e0]
    exact ⟨fun f _ i j => by simp, by simp [tot, Rat.zero_add]⟩
  | k + 1, S, e, hk, h, he => by
    simp only [joF] at h
    cases hf : joF l k with
    | none => rw [hf] at h; cases h
    | some p =>
      rw [hf] at h
      dsimp only at h
      split at h
      · rename_i ho
        cases h
        obtain ⟨o1, o2⟩ := addR_okL he
        obtain ⟨m1, m2⟩ := joF_mom (k := k) (S := p.1) (e := p.2) (by omega) hf o1
        obtain ⟨a1, a2, a3⟩ := adV_ok ho
        obtain ⟨g1, g2, g3⟩ := ad_good a2 a3
        have es := take_snoc (l := l) (i := k) (by omega)
        generalize l.getD k default = x at *
        cases hr : adR p.1 x with
        | none => rw [hr] at g3; rw [g3] at ho; cases ho
        | some t =>
          rw [hr] at g1 g2
          have g1 : adV p.1 x = t.1 := g1
          have g2 : adE p.1 x = t.2 := g2
          obtain ⟨n1, n2⟩ := adR_mom (t := t.1) (e := t.2) hr a2 a3
          rw [g2] at o2 he ⊢
          rw [g1, es]
          have ev := R.v_of (add_ex (R.q_of o1) (R.q_of o2) he)
          refine ⟨fun f hf i j => ?_, ?_⟩
          · rw [n1 f hf, mom_app, m1 f hf]
          · rw [ev, tot_app, ← m2]
            simp only [tot, Rat.add_zero]
            grind
      · cases h
theorem joG_mom {l : List Lk} (h : joOk l = true) : (∀ f, (f = mW ∨ f = mX ∨ f = mY) → ∀ i j, mom f i j (joV l) = mom f i j l) ∧ tot mZ (joV l) + (joE l).v = tot mZ l ∧ (joE l).ok = true := by
  unfold joOk at h
  cases hg : joG l with
  | none => rw [hg] at h; cases h
  | some p =>
    have e1 : joV l = p.1 := by unfold joV; rw [hg]; rfl
    have e2 : joE l = p.2 := by unfold joE; rw [hg]; rfl
    rw [e1, e2]
    unfold joG at hg
    cases hf : joF l l.length with
    | none => rw [hf] at hg; cases hg
    | some q =>
      rw [hf] at hg
      dsimp only at hg
      split at hg
      · rename_i ho
        cases hg
        have := joF_mom (S := p.1) (e := p.2) (Nat.le_refl _) hf ho
        rw [List.take_length] at this
        exact ⟨this.1, this.2, ho⟩
      · cases hg
theorem jo_rev {l : List Lk} (h : joOk l = true) (h' : joOk l.reverse = true) : joV l = joV l.reverse ∧ joE l = joE l.reverse := by
  obtain ⟨a1, a2, a3⟩ := joG_mom h
  obtain ⟨b1, b2, b3⟩ := joG_mom h'
  have e := mom_ext (joG_cn (l := l)).2.2.2 (joG_cn (l := l.reverse)).2.2.2 fun f hf i j => by rw [a1 f hf, b1 f hf, mom_rev]
  refine ⟨e, R.eq_v a3 b3 ?_⟩
  rw [tot_rev, ← a2, ← e] at b2
  grind
end Go.Ml
end
section
set_option linter.unusedSimpArgs false
set_option linter.unusedVariables false
set_option maxRecDepth 100000
set_option maxHeartbeats 8000000
namespace Go.Ml
theorem adR_tot {s : List Lk} {l : Lk} (h1 : lksOk s = true) (h2 : lkOk l = true) (hm : ∀ x ∈ s, x.a = l.a → x.b = l.b → mgG x l = true) :
    ∃ t e, adR s l = some (t, e) ∧ (((∀ y ∈ t, y ∈ s ∨ y = l) ∧ e = intR 0) ∨ ∃ x ∈ s, x.a = l.a ∧ x.b = l.b ∧ (∀ y ∈ t, y ∈ s ∨ y = mgL x l) ∧ e = mgE x l) := by
  obtain ⟨hv, hp⟩ := lksOk_iff.1 h1
  have hpost := posL_post (l := l) hp
  have hpl := posL_le l s
  unfold adR
  dsimp only
  generalize posL l s = i at *
  by_cases hc : i = s.length ∨ lkLess l (s.getD i default) = true
  · rw [if_pos hc]
    refine ⟨_, _, rfl, .inl ⟨fun y hy => ?_, rfl⟩⟩
    simp only [List.mem_append, List.mem_cons] at hy
    rcases hy with hy | rfl | hy
    · exact .inl (List.mem_of_mem_take hy)
    · exact .inr rfl
    · exact .inl (List.mem_of_mem_drop hy)
  · rw [if_neg hc]
    have hi : i < s.length := by
      rcases Nat.lt_or_ge i s.length with k | k
      · exact k
      · exact absurd (.inl (by omega)) hc
    have hd : s.drop i = s.getD i default :: s.drop (i + 1) := by
      rw [List.drop_eq_getElem_cons hi, List.getD_eq_getElem?_getD, List.getElem?_eq_getElem hi]; rfl
    have hx0 := hpost (s.getD i default) (by rw [hd]; simp)
    have hxl : lkLess l (s.getD i default) = false := by
      cases hq : lkLess l (s.getD i default)
      · rfl
      · exact absurd (.inr hq) hc
    have hsm := getD_mem (l := s) hi
    generalize s.getD i default = x at *
    obtain ⟨ea, eb⟩ := lkLess_tri hx0 hxl
    rw [if_pos (hm x hsm ea eb)]
    refine ⟨_, _, rfl, .inr ⟨x, hsm, ea, eb, fun y hy => ?_, rfl⟩⟩
    simp only [List.mem_append, List.mem_cons] at hy
    rcases hy with hy | rfl | hy
    · exact .inl (List.mem_of_mem_take hy)
    · exact .inr rfl
    · exact .inl (List.mem_of_mem_drop hy)
structure Jn (B : Int) (x : Lk) : Prop where
  ex : ∃ n p q : Int, (1 ≤ n ∧ n ≤ 9 * B) ∧ (-(180 * B) ≤ p ∧ p ≤ 180 * B) ∧ (-(180 * B) ≤ q ∧ q ≤ 180 * B) ∧ x.w.q = some (n : Rat) ∧ x.dx.q = some ((p : Rat) / (n : Rat)) ∧ x.dy.q = some ((q : Rat) / (n : Rat))
theorem Jn.mono {B C : Int} {x : Lk} (h : Jn B x) (hl : B ≤ C) : Jn C x := by
  obtain ⟨n, p, q, h1, h2, h3, h4⟩ := h.ex
  exact ⟨n, p, q, by omega, by omega, by omega, h4⟩
theorem ht_frac {p n : Int} {N : Nat} (hp : p.natAbs ≤ N) (hn : 1 ≤ n) (h : n ≤ N) : Ht ((p : Rat) / (n : Rat)) N := by
  obtain ⟨e, rfl⟩ : ∃ e : Nat, n = (e : Int) := ⟨n.toNat, by omega⟩
  rw [← Rat.divInt_eq_div]
  show Ht (mkRat p e) N
  unfold mkRat
  rw [dif_neg (by omega)]
  exact ht_normalize _ hp (by omega)
theorem intR_of {r : R} {n : Int} (e : r = intR n) (h : n.natAbs < 1000000000 ^ 24) : r.q = some (n : Rat) := by rw [e]; exact intR_q h
theorem Jn.of {n : Int} {l : Lk} (h : SmN n l) : Jn 1 l := by
  obtain ⟨w, hw, ew⟩ := h.w
  obtain ⟨x, hx, ex⟩ := h.dx
  obtain ⟨y, hy, ey⟩ := h.dy
  have hne : (w : Rat) ≠ 0 := fun e => by have := Rat.intCast_eq_zero_iff.1 e; omega
  have b1 : -180 ≤ w * x ∧ w * x ≤ 180 := by
    constructor
    · have : w * (-20) ≤ w * x := Int.mul_le_mul_of_nonneg_left hx.1 (by omega)
      omega
    · have : w * x ≤ w * 20 := Int.mul_le_mul_of_nonneg_left hx.2 (by omega)
      omega
  have b2 : -180 ≤ w * y ∧ w * y ≤ 180 := by
    constructor
    · have : w * (-20) ≤ w * y := Int.mul_le_mul_of_nonneg_left hy.1 (by omega)
      omega
    · have : w * y ≤ w * 20 := Int.mul_le_mul_of_nonneg_left hy.2 (by omega)
      omega
  refine ⟨w, w * x, w * y, by omega, by omega, by omega, intR_of ew (by omega), ?_, ?_⟩
  · rw [intR_of ex (by omega), Rat.intCast_mul]; congr 1; grind
  · rw [intR_of ey (by omega), Rat.intCast_mul]; congr 1; grind
theorem lkOk_sm {n : Int} {l : Lk} (hn : n ≤ 9) (h : SmN n l) : lkOk l = true := by
  obtain ⟨w, hw, ew⟩ := h.w
  obtain ⟨x, hx, ex⟩ := h.dx
  obtain ⟨y, hy, ey⟩ := h.dy
  have kw : Rv l.w (w : Rat) 9 := (rv_int (by omega) (by omega)).of_eq ew
  have kx : Rv l.dx (x : Rat) 20 := (rv_int (by omega) (by omega)).of_eq ex
  have ky : Rv l.dy (y : Rat) 20 := (rv_int (by omega) (by omega)).of_eq ey
  exact lkOk_of ⟨h.ab.1, h.ab.2.1, by have := h.ab.2.2; omega⟩ kw (Rat.intCast_pos.2 (by omega)) kx.ok ky.ok
theorem jn_alg (n p m d : Rat) (h0 : n ≠ 0) (h : n + m ≠ 0) : (n * (p / n) + m * d) / (n + m) = (p + m * d) / (n + m) := by grind
theorem jn_merge {B N : Int} {x l : Lk} (hB : B ≤ 6) (hx : Jn B x) (hl : SmN N l) : mgG x l = true ∧ Jn (B + 1) (mgL x l) ∧ ∃ a, Rv (mgE x l) a (10 ^ 26) := by
  obtain ⟨n, p, q, hn, hp, hq, en, ep, eq⟩ := hx.ex
  obtain ⟨m, hm, em⟩ := hl.w
  obtain ⟨d, hd, ed⟩ := hl.dx
  obtain ⟨c, hc, ec⟩ := hl.dy
  have kw : Rv x.w (n : Rat) 63 := ⟨en, ht_int (by omega) (by omega)⟩
  have kx : Rv x.dx ((p : Rat) / (n : Rat)) 1260 := ⟨ep, ht_frac (by omega) hn.1 (by omega)⟩
  have ky : Rv x.dy ((q : Rat) / (n : Rat)) 1260 := ⟨eq, ht_frac (by omega) hn.1 (by omega)⟩
  have lw : Rv l.w (m : Rat) 9 := (rv_int (by omega) (by omega)).of_eq em
  have lx : Rv l.dx (d : Rat) 20 := (rv_int (by omega) (by omega)).of_eq ed
  have ly : Rv l.dy (c : Rat) 20 := (rv_int (by omega) (by omega)).of_eq ec
  have hn0 : (n : Rat) ≠ 0 := fun e => by have := Rat.intCast_eq_zero_iff.1 e; omega
  have h0 : (n : Rat) + (m : Rat) ≠ 0 := by
    rw [← Rat.intCast_add]
    intro e
    have := Rat.intCast_eq_zero_iff.1 e
    omega
  have rW : Rv (mgW x l) _ _ := kw.add lw
  have rX : Rv (mgX x l) _ _ := ((kw.mul kx).add (lw.mul lx)).div rW h0
  have rY : Rv (mgY x l) _ _ := ((kw.mul ky).add (lw.mul ly)).div rW h0
  have sx := kx.sub lx
  have sy := ky.sub ly
  have rE : Rv (mgE x l) _ _ := ((kw.mul lw).div rW h0).mul ((sx.mul sx).add (sy.mul sy))
  have b1 : -180 ≤ m * d ∧ m * d ≤ 180 := by
    constructor
    · have : m * (-20) ≤ m * d := Int.mul_le_mul_of_nonneg_left hd.1 (by omega)
      omega
    · have : m * d ≤ m * 20 := Int.mul_le_mul_of_nonneg_left hd.2 (by omega)
      omega
  have b2 : -180 ≤ m * c ∧ m * c ≤ 180 := by
    constructor
    · have : m * (-20) ≤ m * c := Int.mul_le_mul_of_nonneg_left hc.1 (by omega)
      omega
    · have : m * c ≤ m * 20 := Int.mul_le_mul_of_nonneg_left hc.2 (by omega)
      omega
  refine ⟨by unfold mgG; rw [rW.ok, rX.ok, rY.ok, rE.ok]; rfl, ⟨n + m, p + m * d, q + m * c, by omega, by omega, by omega, ?_, ?_, ?_⟩, _, rE.q, rE.h.mono (by decide)⟩
  · show (mgW x l).q = _
    rw [rW.q, Rat.intCast_add]
  · show (mgX x l).q = _
    rw [rX.q, Rat.intCast_add, Rat.intCast_add, Rat.intCast_mul, jn_alg _ _ _ _ hn0 h0]
  · show (mgY x l).q = _
    rw [rY.q, Rat.intCast_add, Rat.intCast_add, Rat.intCast_mul, jn_alg _ _ _ _ hn0 h0]
def Eb : Nat → Nat
  | 0 => 1
  | k + 1 => 2 * (Eb k * 10 ^ 26)
theorem Eb_lt : ∀ k, k ≤ 7 → Eb k < 1000000000 ^ 24 := by decide +kernel
theorem joF_draw {N : Int} {L : List Lk} (hN : N ≤ 9) (hl : L.length ≤ 7) (hs : ∀ l ∈ L, SmN N l) : ∀ k, k ≤ L.length → ∃ S e a, joF L k = some (S, e) ∧ (∀ x ∈ S, Jn k x) ∧ Rv e a (Eb k)
  | 0, _ => ⟨[], intR 0, ((0 : Int) : Rat), rfl, by simp, rv_int (by decide) (by decide)⟩
  | k + 1, hk => by
    obtain ⟨S, e, a, hf, hj, he⟩ := joF_draw hN hl hs k (by omega)
    have hx := hs _ (getD_mem (l := L) (i := k) (by omega))
    have i1 := (joF_inv hf).1
    dsimp only at i1
    generalize hxe : L.getD k default = x at hx
    have hxo := lkOk_sm hN hx
    have hmg := fun y (hy : y ∈ S) => jn_merge (by omega : (k : Int) ≤ 6) (hj y hy) hx
    obtain ⟨t, e', hr, hc⟩ := adR_tot i1 hxo fun y hy _ _ => (hmg y hy).1
    obtain ⟨g1, g2, g3⟩ := ad_good i1 hxo
    rw [hr] at g1 g2 g3
    have g1 : adV S x = t := g1
    have g2 : adE S x = e' := g2
    have g3 : adOk S x = true := g3
    have hE := Eb_lt (k + 1) (by omega)
    refine ⟨t, addR e e', ?_⟩
    have hb : ∃ b, Rv e' b (10 ^ 26) := by
      rcases hc with ⟨_, rfl⟩ | ⟨y, hy, _, _, _, rfl⟩
      · exact ⟨((0 : Int) : Rat), rv_int (by decide) (by decide)⟩
      · exact (hmg y hy).2.2
    obtain ⟨b, hb⟩ := hb
    refine ⟨a + b, by simp only [joF, hf, hxe, g3, if_true, g1, g2], fun y hy => ?_, he.add hb hE⟩
    have ec : ((k + 1 : Nat) : Int) = (k : Int) + 1 := by omega
    rw [ec]
    rcases hc with ⟨h, _⟩ | ⟨z, hz, _, _, h, _⟩
    · rcases h y hy with h | rfl
      · exact (hj y h).mono (by omega)
      · exact (Jn.of hx).mono (by omega)
    · rcases h y hy with h | rfl
      · exact (hj y h).mono (by omega)
      · exact (hmg z hz).2.1
theorem joOk_draw {N : Int} {L : List Lk} (hN : N ≤ 9) (hl : L.length ≤ 7) (hs : ∀ l ∈ L, SmN N l) : joOk L = true := by
  obtain ⟨S, e, a, hf, _, he⟩ := joF_draw hN hl hs L.length (Nat.le_refl _)
  unfold joOk joG
  rw [hf]
  dsimp only
  rw [if_pos he.ok]; rfl
theorem join_plain {n : Nat} {L : List Lk} (h : DrawL n L) : joOk L = true ∧ joOk L.reverse = true ∧ joV L = joV L.reverse ∧ joE L = joE L.reverse := by
  have h1 := h.rn
  have h2 := h.len
  have o1 := joOk_draw (N := (n : Int) + 1) (by omega) (by omega) h.sm
  have o2 := joOk_draw (N := (n : Int) + 1) (L := L.reverse) (by omega) (by simp; omega) fun l hl => h.sm l (List.mem_reverse.1 hl)
  exact ⟨o1, o2, jo_rev o1 o2⟩
end Go.Ml
end
section
set_option linter.unusedSimpArgs false
set_option linter.unusedVariables false
set_option maxRecDepth 100000
set_option maxHeartbeats 4000000
namespace Go.Ml
abbrev nbA (s : List Lk) (x : Int) : List Int := nbI s x s.length
inductive Rch (s : List Lk) (v : Int) : Int → Prop
  | base : Rch s v v
  | step {a b : Int} : Rch s v a → b ∈ nbA s a → Rch s v b
theorem nbA_mem {s : List Lk} {x b : Int} : b ∈ nbA s x ↔ ∃ l ∈ s, nbOf x l = some b := by
  unfold nbA nbI
  rw [List.take_length, List.mem_filterMap]
theorem nbA_bd {s : List Lk} (h : lksOk s = true) {x b : Int} (hb : b ∈ nbA s x) : 0 ≤ b ∧ b < 10 ∧ 0 ≤ x ∧ x < 10 := by
  obtain ⟨l, hl, e⟩ := nbA_mem.1 hb
  have := lkOk_nd (lksOk_mem h hl)
  unfold nbOf at e
  split at e
  · cases e; omega
  · split at e
    · cases e; omega
    · cases e
theorem rch_bd {s : List Lk} (h : lksOk s = true) {v b : Int} (hr : Rch s v b) : b = v ∨ (0 ≤ b ∧ b < 10 ∧ 0 ≤ v ∧ v < 10) := by
  induction hr with
  | base => exact .inl rfl
  | step ha hb ih =>
    have := nbA_bd h hb
    rcases ih with rfl | ih
    · exact .inr ⟨this.1, this.2.1, this.2.2⟩
    · exact .inr ⟨this.1, this.2.1, ih.2.2⟩
theorem rch_len {s : List Lk} (h : lksOk s = true) {v : Int} {l : List Int} (hn : l.Nodup) (hl : ∀ a ∈ l, Rch s v a) : l.length ≤ 10 := by
  by_cases hv : 0 ≤ v ∧ v < 10
  · have := nodup_le (a := l) (b := [0, 1, 2, 3, 4, 5, 6, 7, 8, 9]) hn fun a ha => by
      have hb : 0 ≤ a ∧ a < 10 := by
        rcases rch_bd h (hl a ha) with rfl | k
        · exact hv
        · exact ⟨k.1, k.2.1⟩
      simp only [List.mem_cons, List.not_mem_nil, or_false]
      omega
    simpa using this
  · have := nodup_le (a := l) (b := [v]) hn fun a ha => by
      rcases rch_bd h (hl a ha) with rfl | k
      · simp
      · exact absurd k.2.2 hv
    simp at this
    omega
def cpRow (s : List Lk) (out : List Int) (x : Int) : List Int := (nbA s x).foldl putI out
def cpRound (s : List Lk) (out : List Int) : List Int := out.foldl (cpRow s) out
def cpS (s : List Lk) (v : Int) : Nat → List Int
  | 0 => [v]
  | n + 1 => cpRound s (cpS s v n)
theorem putF_mem : ∀ (l out : List Int) (a : Int), a ∈ l.foldl putI out ↔ a ∈ out ∨ a ∈ l
  | [], out, a => by simp
  | x :: l, out, a => by
    rw [List.foldl_cons, putF_mem l, putI_mem, List.mem_cons]
    constructor
    · rintro ((h | h) | h)
      · exact .inr (.inl h)
      · exact .inl h
      · exact .inr (.inr h)
    · rintro (h | h | h)
      · exact .inl (.inr h)
      · exact .inl (.inl h)
      · exact .inr h
theorem putF_asc : ∀ (l out : List Int), Asc out → Asc (l.foldl putI out)
  | [], out, h => h
  | x :: l, out, h => putF_asc l _ (putI_asc h)
theorem cpF_mem {s : List Lk} : ∀ (l out : List Int) (a : Int), a ∈ l.foldl (cpRow s) out ↔ a ∈ out ∨ ∃ x ∈ l, a ∈ nbA s x
  | [], out, a => by simp
  | x :: l, out, a => by
    rw [List.foldl_cons, cpF_mem l]
    unfold cpRow
    rw [putF_mem, or_assoc]
    simp only [List.mem_cons, exists_eq_or_imp]
theorem cpF_asc {s : List Lk} : ∀ (l out : List Int), Asc out → Asc (l.foldl (cpRow s) out)
  | [], out, h => h
  | x :: l, out, h => cpF_asc l _ (putF_asc _ _ h)
theorem cpS_asc (s : List Lk) (v : Int) : ∀ n, Asc (cpS s v n)
  | 0 => by unfold Asc cpS; simp
  | n + 1 => cpF_asc _ _ (cpS_asc s v n)
theorem cpS_rch (s : List Lk) (v : Int) : ∀ n, ∀ a ∈ cpS s v n, Rch s v a
  | 0, a, h => by simp [cpS] at h; subst h; exact .base
  | n + 1, a, h => by
    rcases (cpF_mem _ _ _).1 h with h | ⟨x, hx, h⟩
    · exact cpS_rch s v n a h
    · exact .step (cpS_rch s v n x hx) h
theorem cpS_base (s : List Lk) (v : Int) : ∀ n, v ∈ cpS s v n
  | 0 => by simp [cpS]
  | n + 1 => (cpF_mem _ _ _).2 (.inl (cpS_base s v n))
theorem cpS_len {s : List Lk} (h : lksOk s = true) (v : Int) (n : Nat) : (cpS s v n).length ≤ 10 := rch_len h (asc_nodup (cpS_asc s v n)) (cpS_rch s v n)
def Closed (s : List Lk) (l : List Int) : Prop := ∀ a ∈ l, ∀ b ∈ nbA s a, b ∈ l
theorem cpS_grow {s : List Lk} (v : Int) : ∀ n, Closed s (cpS s v n) ∨ n + 1 ≤ (cpS s v n).length
  | 0 => .inr (by simp [cpS])
  | n + 1 => by
    have hsub : ∀ a ∈ cpS s v n, a ∈ cpS s v (n + 1) := fun a ha => (cpF_mem _ _ _).2 (.inl ha)
    rcases Classical.em (Closed s (cpS s v n)) with hc | hc
    · left
      intro a ha b hb
      have ha' : a ∈ cpS s v n := by
        rcases (cpF_mem _ _ _).1 ha with h | ⟨x, hx, h⟩
        · exact h
        · exact hc x hx a h
      exact hsub b (hc a ha' b hb)
    · right
      have hl := (cpS_grow v n).resolve_left hc
      have : ∃ a ∈ cpS s v n, ∃ b ∈ nbA s a, b ∉ cpS s v n := by
        refine Classical.byContradiction fun hne => hc fun a ha b hb => Classical.byContradiction fun hnb => hne ⟨a, ha, b, hb, hnb⟩
      obtain ⟨a, ha, b, hb, hnb⟩ := this
      have := nodup_le (a := b :: cpS s v n) (b := cpS s v (n + 1)) (List.nodup_cons.2 ⟨hnb, asc_nodup (cpS_asc s v n)⟩) fun x hx => by
        rcases List.mem_cons.1 hx with rfl | hx
        · exact (cpF_mem _ _ _).2 (.inr ⟨a, ha, hb⟩)
        · exact hsub x hx
      simp only [List.length_cons] at this
      omega
theorem cpS_closed {s : List Lk} (h : lksOk s = true) (v : Int) : Closed s (cpS s v 10) := by
  rcases cpS_grow (s := s) v 10 with hc | hc
  · exact hc
  · have := cpS_len h v 10; omega
def cpV (s : List Lk) (v : Int) : List Int := cpS s v 10
theorem cpV_mem {s : List Lk} (h : lksOk s = true) {v a : Int} : a ∈ cpV s v ↔ Rch s v a := by
  constructor
  · exact cpS_rch s v 10 a
  · intro hr
    induction hr with
    | base => exact cpS_base s v 10
    | step _ hb ih => exact cpS_closed h v _ ih _ hb
theorem sortI_asc {l : List Int} (hn : l.Nodup) : Asc (sortI l) := by
  have h1 : (sortI l).Pairwise fun a b => (decide (a ≤ b)) = true := by
    unfold sortI
    exact List.pairwise_mergeSort (fun a b c h1 h2 => by simp at *; omega) (fun a b => by simp; omega) l
  have h2 : (sortI l).Nodup := (List.mergeSort_perm l _).nodup_iff.2 hn
  unfold Asc
  refine (h1.and h2).imp fun ⟨h, hne⟩ => ?_
  have : _ ≤ _ := of_decide_eq_true h
  omega
theorem sortI_mem {l : List Int} {a : Int} : a ∈ sortI l ↔ a ∈ l := (List.mergeSort_perm l _).mem_iff
theorem sort_cp {s : List Lk} (h : lksOk s = true) {v : Int} {l : List Int} (hn : l.Nodup) (hv : v ∈ l) (hr : ∀ a ∈ l, Rch s v a) (hc : Closed s l) : sortI l = cpV s v := by
  refine asc_ext (sortI_asc hn) (cpS_asc s v 10) fun a => ?_
  rw [sortI_mem, cpV_mem h]
  constructor
  · exact hr a
  · intro hra
    induction hra with
    | base => exact hv
    | step _ hb ih => exact hc _ ih _ hb
def addN (l : List Int) (u : Int) : List Int := if u ∈ l then l else l ++ [u]
theorem addN_mem {l : List Int} {u a : Int} : a ∈ addN l u ↔ a ∈ l ∨ a = u := by
  unfold addN
  split
  · rename_i h
    constructor
    · exact .inl
    · rintro (k | rfl)
      · exact k
      · exact h
  · simp
theorem addN_nd {l : List Int} {u : Int} (h : l.Nodup) : (addN l u).Nodup := by
  unfold addN
  split
  · exact h
  · rename_i hu
    rw [List.nodup_append]
    exact ⟨h, by simp, fun a ha b hb e => by simp at hb; subst hb; exact hu (e ▸ ha)⟩
theorem addG_mem : ∀ (us l : List Int) (a : Int), a ∈ us.foldl addN l ↔ a ∈ l ∨ a ∈ us
  | [], l, a => by simp
  | u :: us, l, a => by
    rw [List.foldl_cons, addG_mem us, addN_mem, List.mem_cons, or_assoc]
theorem addG_nd : ∀ (us l : List Int), l.Nodup → (us.foldl addN l).Nodup
  | [], l, h => h
  | u :: us, l, h => addG_nd us _ (addN_nd h)
theorem addG_pre : ∀ (us l : List Int), ∃ r, us.foldl addN l = l ++ r
  | [], l => ⟨[], by simp⟩
  | u :: us, l => by
    obtain ⟨r, e⟩ := addG_pre us (addN l u)
    rw [List.foldl_cons, e]
    unfold addN
    split
    · exact ⟨r, rfl⟩
    · exact ⟨u :: r, by simp⟩
structure Bfs (s : List Lk) (v : Int) (i : Nat) (l : List Int) : Prop where
  nd : l.Nodup
  mem : v ∈ l
  rch : ∀ a ∈ l, Rch s v a
  le : i ≤ l.length
  cl : ∀ j, j < i → ∀ b ∈ nbA s (l.getD j 0), b ∈ l
theorem Bfs.start (s : List Lk) (v : Int) : Bfs s v 0 [v] := ⟨by simp, by simp, fun a h => by simp at h; subst h; exact .base, by simp, fun j h => absurd h (Nat.not_lt_zero _)⟩
theorem Bfs.next {s : List Lk} {v : Int} {i : Nat} {l : List Int} (h : Bfs s v i l) (hi : i < l.length) : Bfs s v (i + 1) ((nbA s (l.getD i 0)).foldl addN l) := by
  obtain ⟨r, e⟩ := addG_pre (nbA s (l.getD i 0)) l
  have hm := addG_mem (nbA s (l.getD i 0)) l
  have hli : l.getD i 0 ∈ l := by rw [List.getD_eq_getElem?_getD, List.getElem?_eq_getElem hi]; exact List.getElem_mem hi
  refine ⟨addG_nd _ _ h.nd, (hm v).2 (.inl h.mem), fun a ha => ?_, by rw [e, List.length_append]; omega, fun j hj b hb => ?_⟩
  · rcases (hm a).1 ha with ha | ha
    · exact h.rch a ha
    · exact .step (h.rch _ hli) ha
  · have hjl : j < l.length := by omega
    have ej : ((nbA s (l.getD i 0)).foldl addN l).getD j 0 = l.getD j 0 := by
      rw [e, List.getD_eq_getElem?_getD, List.getD_eq_getElem?_getD, List.getElem?_append_left hjl]
    rw [ej] at hb
    by_cases hji : j = i
    · subst hji; exact (hm b).2 (.inr hb)
    · exact (hm b).2 (.inl (h.cl j (by omega) b hb))
theorem Bfs.len {s : List Lk} (hk : lksOk s = true) {v : Int} {i : Nat} {l : List Int} (h : Bfs s v i l) : l.length ≤ 10 := rch_len hk h.nd h.rch
theorem Bfs.fin {s : List Lk} (hk : lksOk s = true) {v : Int} {l : List Int} (h : Bfs s v l.length l) : sortI l = cpV s v :=
  sort_cp hk h.nd h.mem h.rch fun a ha b hb => by
    obtain ⟨j, hj⟩ := List.mem_iff_getElem?.1 ha
    have hjl := (List.getElem?_eq_some_iff.1 hj).1
    exact h.cl j hjl b (by rw [List.getD_eq_getElem?_getD, hj]; exact hb)
end Go.Ml
end
section
set_option linter.unusedSimpArgs false
set_option linter.unusedVariables false
set_option maxRecDepth 100000
set_option maxHeartbeats 8000000
namespace Go.Ml
def F_spec_MakeSet : Fn := ⟨1, 14, [.tmp 2], (.seq (.reg false 0 [oN 2 (.mov (.c (.nils)))]) (.seq (.reg false 1 [oK 7 1 (oV 0), oK 8 1 (.call 87 [(.t 7)]), oK 9 1 (.call 179 [(.t 8)]), oK 6 1 (oV 9), oK 10 1 (.extr 0 (.t 6)), oK 11 1 (.extr 1 (.t 6)), oK 12 1 (.extr 2 (.t 6)), oN 4 (.alloc [.bool false, .nils, .nils]), oK 3 1 (oV 10), ⟨none, none, 1, .store 3 (.t 4) (.t 11), []⟩, oK 5 1 (oV 12)]) (.seq (.reg false 0 [oN 13 (oV 3), oN 2 (oV 13)]) .ret)))⟩
structure D_spec_MakeSet (T : Nat → Option Fn) : Prop where
  hT : T 171 = some F_spec_MakeSet
  d_spec_MakeLinks : D_spec_MakeLinks T
  d_spec_JoinLinks : D_spec_JoinLinks T
theorem mom_nn {i j : Int} : ∀ {L : List Lk}, (∀ x ∈ L, lkOk x = true) → 0 ≤ mom mW i j L ∧ ((∃ x ∈ L, x.a = i ∧ x.b = j) → 0 < mom mW i j L)
  | [], _ => ⟨by simp [mom], fun ⟨x, hx, _⟩ => by cases hx⟩
  | y :: L, h => by
    have ih := mom_nn (i := i) (j := j) (L := L) fun x hx => h x (by simp [hx])
    have hy : 0 < mW y := lkOk_pos (h y (by simp))
    simp only [mom]
    by_cases e : y.a = i ∧ y.b = j
    · rw [if_pos e]
      have h1 := ih.1
      have : 0 < mW y + mom mW i j L := by grind
      exact ⟨by grind, fun _ => this⟩
    · rw [if_neg e, Rat.zero_add]
      refine ⟨ih.1, fun ⟨x, hx, hh⟩ => ih.2 ⟨x, ?_, hh⟩⟩
      rcases List.mem_cons.1 hx with rfl | hx
      · exact absurd hh e
      · exact hx
theorem jo_pair {L : List Lk} (hok : joOk L = true) (hL : ∀ x ∈ L, lkOk x = true) (i j : Int) : (∃ x ∈ joV L, x.a = i ∧ x.b = j) ↔ ∃ x ∈ L, x.a = i ∧ x.b = j := by
  have hm := (joG_mom hok).1 mW (.inl rfl) i j
  have hS := lksOk_iff.1 (joG_cn (l := L)).2.2.2
  have p1 := mom_nn (i := i) (j := j) hS.1
  have p2 := mom_nn (i := i) (j := j) hL
  constructor
  · intro h
    refine Classical.byContradiction fun hne => ?_
    have e := mom_none (f := mW) (i := i) (j := j) (S := L) fun y hy hh => hne ⟨y, hy, hh⟩
    have := p1.2 h
    rw [hm, e] at this
    exact absurd this Rat.lt_irrefl
  · intro h
    refine Classical.byContradiction fun hne => ?_
    have e := mom_none (f := mW) (i := i) (j := j) (S := joV L) fun y hy hh => hne ⟨y, hy, hh⟩
    have := p2.2 h
    rw [← hm, e] at this
    exact absurd this Rat.lt_irrefl
theorem sm_wf2 {n : Int} {l : Lk} (h : SmN n l) : (l.w.cn ∧ l.dx.cn ∧ l.dy.cn) ∧ l.wf := by
  obtain ⟨_, ⟨a, ha, e1⟩, ⟨b, hb, e2⟩, ⟨c, hc, e3⟩⟩ := h
  unfold Lk.wf
  rw [e1, e2, e3]
  have h1 := intR_cn (n := a) (by omega)
  have h2 := intR_cn (n := b) (by omega)
  have h3 := intR_cn (n := c) (by omega)
  exact ⟨⟨h1, h2, h3⟩, cn_wf h1, cn_wf h2, cn_wf h3⟩
structure DrawS (n : Nat) (S : List Lk) : Prop where
  L : ∃ L, DrawL n L ∧ S = joV L
  ok : lksOk S = true
  cn : ∀ x ∈ S, x.w.cn ∧ x.dx.cn ∧ x.dy.cn
  len : S.length ≤ 101
  ab : ∀ x ∈ S, 0 ≤ x.a ∧ x.a < x.b ∧ x.b ≤ (n : Int) + 1
  base : ∀ k, k < n → ∃ x ∈ S, x.a ≤ (k : Int) ∧ x.b = (k : Int) + 1
  rn : 1 ≤ n ∧ n ≤ 4
theorem DrawS.wf {n : Nat} {S : List Lk} (h : DrawS n S) : wfL Lk.wf S := lks_wf h.cn h.len
theorem DrawS.sz {n : Nat} {S : List Lk} (h : DrawS n S) : szL Lk.sz S ≤ 20000 := lks_sz h.cn h.len
theorem drawS {n : Nat} {L : List Lk} (h : DrawL n L) : DrawS n (joV L) := by
  obtain ⟨hok, _⟩ := join_plain h
  have hc := joG_cn (l := L)
  have hrn := h.rn
  have hLok : ∀ x ∈ L, lkOk x = true := fun x hx => lkOk_sm (n := (n : Int) + 1) (by omega) (h.sm x hx)
  refine ⟨⟨L, h, rfl⟩, hc.2.2.2, hc.1, hc.2.2.1, fun x hx => ?_, fun k hk => ?_, h.rn⟩
  · obtain ⟨y, hy, h1, h2⟩ := (jo_pair hok hLok x.a x.b).1 ⟨x, hx, rfl, rfl⟩
    have := (h.sm y hy).ab
    omega
  · have hl := h.len
    have hm := getD_mem (l := L) (i := k) (by omega)
    have hb := h.base k hk
    generalize L.getD k default = y at hm hb
    obtain ⟨x, hx, h1, h2⟩ := (jo_pair hok hLok y.a y.b).2 ⟨y, hm, rfl, rfl⟩
    have := (h.sm y hm).ab
    exact ⟨x, hx, by omega, by omega⟩
theorem c_MakeSet {T : Nat → Option Fn} (h : D_spec_MakeSet T) {x : List UInt8} (hx : x.length ≤ 1048576) : ∃ n S, DrawS n S ∧ PF T 171 [bytesV x] (lksV S) := by
  obtain ⟨n, L, hL, cm⟩ := c_MakeLinks h.d_spec_MakeLinks hx
  have hrn := hL.rn
  have hl := hL.len
  have cL : ∀ x ∈ L, x.w.cn ∧ x.dx.cn ∧ x.dy.cn := fun x hx => (sm_wf2 (hL.sm x hx)).1
  have cj := c_sJoinLinks h.d_spec_JoinLinks (l := L) (lks_wf cL (by omega)) (by have := lks_sz cL (by omega); omega)
  refine ⟨n, joV L, drawS hL, ?_⟩
  clear hL hrn hl cL
  generalize joV L = S at cj
  generalize joE L = e at cj
  generalize joOk L = b at cj
  refine pf_end (fun _ _ => false) h.hT rfl rfl ?_
  dsimp only [F_spec_MakeSet, oN, oS, oG, oK, oA, oH, oV, cI]
  (refine ev ?_; try with_reducible exact True.intro)
  refine PFK_of cm ?_
  (refine ev ?_; try with_reducible exact True.intro)
  refine PFK_of cj ?_
  (refine ev ?_; try with_reducible exact True.intro)
end Go.Ml
end
section
set_option linter.unusedSimpArgs false
set_option linter.unusedVariables false
set_option maxRecDepth 100000
set_option maxHeartbeats 8000000
namespace Go.Ml
structure MdLate (last : List Int) (g0 : Gd) (ns : List Int) (k : Nat) : Prop where
  emp : (∃ x ∈ (mdG last g0 ns k).2.2, x ∈ last) → ∀ x ∈ (mdG last g0 ns k).2.1, x ∈ last
  ord : ∀ i j, i < j → j < k → (mdG last g0 ns k).2.2.getD i 0 ∈ last → (mdG last g0 ns k).2.2.getD j 0 ∈ last
theorem getI_snoc {xs : List Int} {l : Int} {k : Nat} : (xs ++ [l]).getD k 0 = if k < xs.length then xs.getD k 0 else if k = xs.length then l else 0 := by
  rw [List.getD_eq_getElem?_getD, List.getD_eq_getElem?_getD]
  split
  · rename_i h
    rw [List.getElem?_append_left h]
  · rename_i h
    split
    · rename_i e; subst e; simp
    · rw [List.getElem?_eq_none (by simp <;> omega)]; rfl
theorem getI_mem {l : List Int} {i : Nat} (h : i < l.length) : l.getD i 0 ∈ l := by
  rw [List.getD_eq_getElem?_getD, List.getElem?_eq_getElem h]; exact List.getElem_mem h
theorem md_late {last : List Int} {g0 : Gd} {ns : List Int} (hn : ns.Nodup) (hg : Gok g0) : ∀ k, k ≤ ns.length → MdLate last g0 ns k
  | 0, _ => ⟨fun ⟨x, hx, _⟩ => by simp [mdG] at hx, fun i j _ hj => absurd hj (Nat.not_lt_zero _)⟩
  | k + 1, hk => by
    have ih := md_late (last := last) hn hg k (by omega)
    have io := md_ok (last := last) hn hg k (by omega)
    have hne : (mdG last g0 ns k).2.1 ≠ [] := fun e => by have := io.len; rw [e] at this; simp at this; omega
    have hb : ∀ b, b = bstI (mdG last g0 ns k).1 (mdG last g0 ns k).2.1 last → b ∈ (mdG last g0 ns k).2.1 ∧ (b ∈ last → ∀ x ∈ (mdG last g0 ns k).2.1, x ∈ last) := by
      rintro b rfl
      refine ⟨bstI_mem hne, fun hl x hx => ?_⟩
      by_cases hc : chI (mdG last g0 ns k).2.1 last = []
      · have := List.filter_eq_nil_iff.1 hc x hx
        simpa using this
      · exfalso
        have hm : bstI (mdG last g0 ns k).1 (mdG last g0 ns k).2.1 last ∈ ch2 (mdG last g0 ns k).2.1 last := by
          have h2 := ch2_ne (last := last) hne
          have h0 : 0 < (ch2 (mdG last g0 ns k).2.1 last).length := List.length_pos_iff.2 h2
          unfold bstI
          rcases pk_mem (mdG last g0 ns k).1 (ch2 (mdG last g0 ns k).2.1 last) ((ch2 (mdG last g0 ns k).2.1 last).getD 0 0) with e | e
          · rw [e]; exact getI_mem h0
          · exact e
        unfold ch2 at hm
        rw [if_neg hc] at hm
        have := (List.mem_filter.1 hm).2
        simp at this
        exact this hl
    have hol := io.out
    have e1 : (mdG last g0 ns (k + 1)).2.2 = (mdG last g0 ns k).2.2 ++ [bstI (mdG last g0 ns k).1 (mdG last g0 ns k).2.1 last] := rfl
    have e2 : (mdG last g0 ns (k + 1)).2.1 = woI (mdG last g0 ns k).2.1 (bstI (mdG last g0 ns k).1 (mdG last g0 ns k).2.1 last) := rfl
    refine ⟨?_, ?_⟩
    · rw [e1, e2]
      obtain ⟨b1, b2⟩ := hb _ rfl
      generalize bstI (mdG last g0 ns k).1 (mdG last g0 ns k).2.1 last = b at *
      rintro ⟨x, hx, hl⟩ y hy
      have hy := woI_sub hy
      rcases List.mem_append.1 hx with hx | hx
      · exact ih.emp ⟨x, hx, hl⟩ y hy
      · rw [List.mem_singleton.1 hx] at hl
        exact b2 hl y hy
    · rw [e1]
      obtain ⟨b1, b2⟩ := hb _ rfl
      generalize bstI (mdG last g0 ns k).1 (mdG last g0 ns k).2.1 last = b at *
      intro i j hij hj hl
      rw [getI_snoc, if_pos (by omega)] at hl
      rw [getI_snoc]
      split
      · rename_i hjk
        exact ih.ord i j hij (by omega) hl
      · rw [if_pos (by omega)]
        exact ih.emp ⟨_, getI_mem (by omega), hl⟩ b b1
theorem mdV_ord {l : List Lk} {last : List Int} (hok : lksOk l = true) : ordOk l (mdV l last) = true := by
  have io := md_ok (last := last) (asc_nodup (nodesM_asc l)) (gok_gOf hok l.length (Nat.le_refl _)) _ (Nat.le_refl _)
  unfold mdV
  rw [if_pos hok]
  refine decide_eq_true ⟨hok, io.out, fun x hx => ?_⟩
  have h0 : (mdG last (gOf l l.length) (nodesM l) (nodesM l).length).2.1 = [] := List.eq_nil_of_length_eq_zero (by have := io.len; omega)
  have hr := io.rest
  rw [h0] at hr
  have := List.filter_eq_nil_iff.1 hr.symm x hx
  simpa using this
theorem mdV_late {l : List Lk} {last : List Int} (hok : lksOk l = true) {i j : Nat} (hij : i < j) (hj : j < (mdV l last).length) (h : (mdV l last).getD i 0 ∈ last) : (mdV l last).getD j 0 ∈ last := by
  have hm := md_late (last := last) (asc_nodup (nodesM_asc l)) (gok_gOf hok l.length (Nat.le_refl _)) _ (Nat.le_refl _)
  have io := md_ok (last := last) (asc_nodup (nodesM_asc l)) (gok_gOf hok l.length (Nat.le_refl _)) _ (Nat.le_refl _)
  unfold mdV at *
  rw [if_pos hok] at *
  exact hm.ord i j hij (by rw [io.out] at hj; exact hj) h
theorem fs_cons (g : Gd) (v : Int) (o : List Int) : ∀ k, fsG g (v :: o) (k + 1) = fsG (cutG g v.toNat) o k ∧ fsN g (v :: o) (k + 1) = cutN g v.toNat + fsN (cutG g v.toNat) o k
  | 0 => ⟨rfl, by show 0 + cutN g v.toNat = cutN g v.toNat + 0; omega⟩
  | k + 1 => by
    obtain ⟨h1, h2⟩ := fs_cons g v o k
    constructor
    · show cutG (fsG g (v :: o) (k + 1)) ((v :: o).getD (k + 1) 0).toNat = cutG (fsG (cutG g v.toNat) o k) (o.getD k 0).toNat
      rw [h1]; rfl
    · show fsN g (v :: o) (k + 1) + cutN (fsG g (v :: o) (k + 1)) ((v :: o).getD (k + 1) 0).toNat = cutN g v.toNat + (fsN (cutG g v.toNat) o k + cutN (fsG (cutG g v.toNat) o k) (o.getD k 0).toNat)
      rw [h1, h2, Nat.add_assoc]; rfl
theorem bst_min {F : Int → Int} {l : List Int} (h : ∀ x ∈ l, 0 ≤ F x) : ∀ k, k ≤ l.length → ∀ j, j < k → bst F l k ≤ F (l.getD j 0)
  | 0, _, j, hj => absurd hj (Nat.not_lt_zero _)
  | k + 1, hk, j, hj => by
    have ih := bst_min h k (by omega)
    have hr := bst_ge h k (by omega)
    have h0 := h _ (getI_mem (l := l) (i := k) (by omega))
    unfold bst
    by_cases e : j = k
    · subst e
      split
      · exact Int.le_refl _
      · rename_i hc; omega
    · have := ih j (by omega)
      split
      · rename_i hc
        rcases hc with hc | hc
        · have := hr.2 (by omega); omega
        · omega
      · exact this
theorem bfn_le : ∀ (n : Nat) (g : Gd) (l o : List Int), l.length = n → l.Nodup → o.length = n → (∀ x ∈ o, x ∈ l) → o.Nodup → bfn n g l ≤ (fsN g o n : Nat)
  | 0, g, l, o, _, _, _, _, _ => by unfold bfn fsN; omega
  | n + 1, g, l, [], _, _, h, _, _ => by simp at h
  | n + 1, g, l, v :: o, hl, hn, ho, hs, hd => by
    have hv := hs v (by simp)
    have hw := woI_len hn hv
    rw [List.nodup_cons] at hd
    have ih := bfn_le n (cutG g v.toNat) (woI l v) o (by omega) (hn.filter _) (by simpa using ho) (fun x hx => by
      refine List.mem_filter.2 ⟨hs x (by simp [hx]), ?_⟩
      simp only [decide_eq_true_eq]
      rintro rfl
      exact hd.1 hx) hd.2
    obtain ⟨j, hj⟩ := List.mem_iff_getElem?.1 hv
    have hjl := (List.getElem?_eq_some_iff.1 hj).1
    have hjv : l.getD j 0 = v := by rw [List.getD_eq_getElem?_getD, hj]; rfl
    have hm := bst_min (F := fun v => (cutN g v.toNat : Nat) + bfn n (cutG g v.toNat) (woI l v)) (l := l) (fun x _ => by have := (bfn_rng n (cutG g x.toNat) (woI l x)).1; omega) _ (Nat.le_refl _) j hjl
    rw [hjv] at hm
    have hf := (fs_cons g v o n).2
    unfold bfn
    rw [hf]
    try dsimp only at hm
    omega
theorem best_le {l : List Lk} {o : List Int} (h : ordOk l o = true) : bestV l < 0 ∨ bestV l ≤ fcV l o := by
  have hp : ordP l o := of_decide_eq_true h
  obtain ⟨⟨h1, h2⟩, h3, h4⟩ := ordP_iff.1 hp
  unfold bestV
  split
  · right
    unfold fcV
    rw [if_pos h]
    have := bfn_le _ (gOf l l.length) (nodesM l) o rfl (asc_nodup (nodesM_asc l)) h2 h3 h4
    rw [h2]; exact this
  · left; decide
theorem draw_nodes {n : Nat} {S : List Lk} (h : DrawS n S) : 1 ≤ (nodesM S).length := by
  obtain ⟨x, hx, h1, h2⟩ := h.base 0 (by have := h.rn; omega)
  have hm : (1 : Int) ∈ nodesM S := by
    rw [nodesM_t h.ok, nodesI_mem]
    refine ⟨by decide, by decide, ?_⟩
    obtain ⟨k, hk⟩ := List.mem_iff_getElem?.1 hx
    have hkl := (List.getElem?_eq_some_iff.1 hk).1
    refine ends_iff.2 ⟨k, hkl, .inr ?_⟩
    rw [List.getD_eq_getElem?_getD, hk]
    exact h2
  exact List.length_pos_of_mem hm
end Go.Ml
end
section
set_option linter.unusedSimpArgs false
set_option linter.unusedVariables false
set_option maxRecDepth 100000
set_option maxHeartbeats 16000000
namespace Go.Ml
def F_spec_l01Once : Fn := ⟨2, 9, [.tmp 4], (.seq (.reg false 0 [oN 4 (.mov (.c (.bool false)))]) (.seq (.reg false 0 [oN 5 (oV 0), oN 6 (oV 1), oN 7 (.call 107 [(.t 5), (.t 6)]), oN 8 (.bin .eql (.t 7) (cI 0)), oN 4 (oV 8)]) .ret))⟩
structure D_spec_l01Once (T : Nat → Option Fn) : Prop where
  hT : T 326 = some F_spec_l01Once
  d_spec_l01Below : D_spec_l01Below T
def F_spec_l24Keep : Fn := ⟨1, 17, [.tmp 2], (.seq (.reg false 0 [oN 2 (.mov (.c (.nils)))]) (.seq (.reg false 1 [oN 5 (.mkSl 1 [.int .i64 0] 0 []), oK 3 1 (oV 5)]) (.seq (.seq (.reg false 0 [oN 4 (.mov (cI 1))]) (.block 0 (.loop (.seq (.seq (.reg false 0 [oN 6 (oV 4), oN 7 (.bin .lss (.t 6) (cI 5))]) (.cond (.t 7) .skip (.exit 0))) (.seq (.block 1 (.seq (.reg false 0 [oN 10 (oV 0), oN 11 (.call 326 [(.t 10), (cI 2)])]) (.cond (.t 11) (.reg false 2 [oK 12 2 (oV 3), oK 13 2 (oV 4), oN 14 (.mkSl 1 [.int .i64 0] 1 [(0, (.t 13))]), oK 15 1 (.app 1 8 (.t 12) (.t 14)), oK 3 2 (oV 15)]) .skip))) (.reg false 0 [oN 8 (oV 4), oN 9 (.bin .add (.t 8) (cI 1)), oN 4 (oV 9)])))))) (.seq (.reg false 0 [oN 16 (oV 3), oN 2 (oV 16)]) .ret))))⟩
structure D_spec_l24Keep (T : Nat → Option Fn) : Prop where
  hT : T 324 = some F_spec_l24Keep
  d_spec_l01Once : D_spec_l01Once T
def F_spec_MakeKeep : Fn := ⟨1, 6, [.tmp 2], (.seq (.reg false 0 [oN 2 (.mov (.c (.nils)))]) (.seq (.reg false 0 [oN 3 (oV 0), oN 4 (.call 181 [(.t 3), (cI 7)]), oN 5 (.call 324 [(.t 4)]), oN 2 (oV 5)]) .ret))⟩
structure D_spec_MakeKeep (T : Nat → Option Fn) : Prop where
  hT : T 308 = some F_spec_MakeKeep
  d_spec_l32New : D_spec_l32New T
  d_spec_l24Keep : D_spec_l24Keep T
def F_spec_MakeOrder : Fn := ⟨2, 42, [.tmp 4], (.seq (.reg false 0 [oN 4 (.mov (.c (.nils)))]) (.seq (.reg false 0 [oN 11 (oV 0), oN 12 (.call 181 [(.t 11), (cI 9)]), oN 5 (oV 12)]) (.seq (.reg false 1 [oN 13 (.mkSl 1 [.int .i64 0] 0 []), oK 6 1 (oV 13)]) (.seq (.seq (.reg false 0 [oN 14 (oV 1), oN 15 (.call 222 [(.t 14)]), oN 16 (.len (.t 15)), oN 17 (.mov (cI 0))]) (.block 0 (.loop (.seq (.reg false 0 [oN 18 (.bin .lss (.t 17) (.t 16))]) (.seq (.cond (.t 18) .skip (.exit 0)) (.seq (.block 1 (.seq (.reg false 0 [oN 19 (.idx 1 (.t 15) (.t 17)), oN 20 (.load 1 false (.t 19)), oN 8 (oV 20)]) (.seq (.reg false 0 [oN 21 (oV 5), oN 22 (oV 6), oN 23 (.len (.t 22)), oN 24 (.bin .add (.t 23) (cI 1)), oN 25 (.call 107 [(.t 21), (.t 24)]), oN 9 (oV 25)]) (.seq (.reg false 2 [oN 26 (.mkSl 1 [.int .i64 0] 0 []), oK 27 2 (oV 6), oK 28 2 (oV 9), oK 29 2 (.slice 1 (.t 27) none (some (.t 28))), oK 30 1 (.app 1 8 (.t 26) (.t 29)), oK 10 2 (oV 30)]) (.seq (.reg false 2 [oK 31 2 (oV 10), oK 32 2 (oV 8), oN 33 (.mkSl 1 [.int .i64 0] 1 [(0, (.t 32))]), oK 34 1 (.app 1 8 (.t 31) (.t 33)), oK 10 2 (oV 34)]) (.reg false 1 [oK 35 1 (oV 10), oK 36 1 (oV 6), oK 37 1 (oV 9), oK 38 1 (.slice 1 (.t 36) (some (.t 37)) none), oN 39 (.app 1 8 (.t 35) (.t 38)), oK 6 1 (oV 39)])))))) (.reg false 0 [oN 40 (.bin .add (.t 17) (cI 1)), oN 17 (oV 40)]))))))) (.seq (.reg false 0 [oN 41 (oV 6), oN 4 (oV 41)]) .ret)))))⟩
structure D_spec_MakeOrder (T : Nat → Option Fn) : Prop where
  hT : T 271 = some F_spec_MakeOrder
  d_spec_l01Below : D_spec_l01Below T
  d_spec_l32New : D_spec_l32New T
  d_spec_NodesOf : D_spec_NodesOf T
def IsA (s : Store) (v : V) (xs : List Int) : Prop := (xs = [] ∧ v = .nils) ∨ ∃ p, v = .msl p 0 xs.length ∧ objAt s p = some ⟨1, irows xs⟩ ∧ p ≠ 0 ∧ 0 < xs.length
theorem IsA.fr {s s2 : Store} {v : V} {xs : List Int} (h : IsA s v xs) (hf : ∀ p, p ≠ 0 → p < s.length → objAt s2 p = objAt s p) : IsA s2 v xs := by
  rcases h with h | ⟨p, h1, h2, h3, h4⟩
  · exact .inl h
  · exact .inr ⟨p, h1, (hf p h3 (objAt_lt h2)).trans h2, h3, h4⟩
theorem f_l01Once {T : Nat → Option Fn} (h : D_spec_l01Once T) {x : List UInt8} {n : Int} (hn : 0 < n ∧ n ≤ 256) (hx : x.length ≤ 1048576) : CurF T 326 [iv n] x fun r => ∃ b : Bool, r = .bool b := by
  refine curF_of fun i hh hi => ?_
  have hP : CurP (cur x i hh) 0 x := ⟨i, hh, rfl, hi⟩
  have hl : (cur x i hh).length = 1 := rfl
  generalize cur x i hh = s0 at hP hl ⊢
  refine run_end (fun x d => x == 107) h.hT rfl rfl ?_
  dsimp only [F_spec_l01Once, oN, oS, oG, oK, oA, oH, oV, cI, St.enter, List.length_cons, List.length_nil, Nat.zero_add]
  (refine ew ?_; try with_reducible exact True.intro)
  refine RefK_curF (b := 0) (rest := [iv n]) hP (f_l01Below h.d_spec_l01Below hn hx) rfl (fun _ => rfl) ?_
  rintro _ i2 h2 ⟨m, rfl, hm⟩ hi2
  (refine ew ?_; try with_reducible exact True.intro)
  exact ⟨⟨⟨_, rfl⟩, fun g => rfl⟩, i2, h2, objAt_seteq (by omega), hi2⟩
theorem r_l24Keep {T : Nat → Option Fn} (h : D_spec_l24Keep T) {x : List UInt8} (hx : x.length ≤ 1048576) {i hh : Int} (hi : 0 ≤ i ∧ i ≤ x.length) :
    ∃ r σ', Run T (.fn 324 [.ptr 0 0 0] (cur x i hh)) (.fn r σ') ∧ ∃ K : List Int, K.length ≤ 4 ∧ IsA σ' r K := by
  have hP : CurP (cur x i hh) 0 x := ⟨i, hh, rfl, hi⟩
  generalize cur x i hh = s0 at hP ⊢
  have hP0 := hP.lt
  refine run_end (fun x d => x == 326) h.hT rfl rfl ?_
  dsimp only [F_spec_l24Keep, oN, oS, oG, oK, oA, oH, oV, cI, St.enter, List.length_cons, List.length_nil, Nat.zero_add]
  (refine ew ?_; try with_reducible exact True.intro)
  refine loop_at (fun x d => x == 326) (α := Nat × Store × V × List Int) (fun q => ⟨argE [.ptr 0 0 0, .any, .any, q.2.2.1, iv ((q.1 : Nat) + 1)], q.2.1, s0.length, 0, [], []⟩) (fun q => (q.1 ≤ 4 ∧ CurP q.2.1 0 x) ∧ IsA q.2.1 q.2.2.1 q.2.2.2 ∧ q.2.2.2.length ≤ q.1) (fun q => 4 - q.1) rfl (0, s0 ++ [none], .nils, []) ?_ ?_ ?_
  · exact ⟨⟨by omega, hP.fr (objAt_snoc_lt hP0)⟩, .inl ⟨rfl, rfl⟩, Nat.le_refl _⟩
  · (refine Fg_env ?_) <;> (try (refine ew ?_; try with_reducible exact True.intro)) <;> (repeat' (first | refine ⟨?_, ?_⟩ | exact EvV_int (by omega) | exact EvV_of (by simp) | exact EvV_nil _))
  · generalize s0.length = kp
    clear hP hP0
    rintro ⟨k, s, v, xs⟩ ⟨⟨hk, hP⟩, hI, hl⟩
    dsimp only at hk hP hI hl
    by_cases hc : (k : Int) + 1 < 5
    · (refine ew1 @hc ?_; try with_reducible exact True.intro)
      refine RefK_curF (b := 0) (rest := [iv 2]) hP (f_l01Once h.d_spec_l01Once (n := 2) (by omega) hx) rfl (fun _ => rfl) ?_
      rintro _ i1 h1 ⟨b, rfl⟩ hi1
      have hI2 := hI.fr (s2 := s.set 0 (some (cob x i1 h1))) fun p hp _ => objAt_setne hp
      have hP2 : CurP (s.set 0 (some (cob x i1 h1))) 0 x := ⟨i1, h1, objAt_seteq hP.lt, hi1⟩
      generalize s.set 0 (some (cob x i1 h1)) = S at hI2 hP2 ⊢
      clear hI hP
      cases b
      · (refine ew ?_; try with_reducible exact True.intro)
        refine ⟨(k + 1, ?s1, v, xs), ?m1, ⟨⟨?a1, ?b1⟩, ?c1, ?d1⟩, ?e1⟩
        case e1 => dsimp only; (refine Fg_env ?_) <;> (try (refine ew ?_; try with_reducible exact True.intro)) <;> (repeat' (first | refine ⟨?_, ?_⟩ | exact EvV_int (by omega) | exact EvV_of (by simp) | exact EvV_nil _))
        case m1 => dsimp only; omega
        case a1 => dsimp only; omega
        case b1 => exact hP2
        case c1 => exact hI2
        case d1 => dsimp only; omega
      · have hS0 := hP2.lt
        rcases hI2 with ⟨rfl, rfl⟩ | ⟨p, rfl, hp, hp0, hxl⟩
        · (refine ew ?_; try with_reducible exact True.intro)
          refine ⟨by omega, (k + 1, ?s2, .msl (S.length + 1) 0 1, [((k : Nat) : Int) + 1]), ?m2, ⟨⟨?a2, hP2.fr ?b2⟩, .inr ⟨_, rfl, ?c2, by omega, by simp⟩, ?d2⟩, ?e2⟩
          case e2 => dsimp only; (refine Fg_env ?_) <;> (try (refine ew ?_; try with_reducible exact True.intro)) <;> (repeat' (first | refine ⟨?_, ?_⟩ | exact EvV_int (by omega) | exact EvV_of (by simp) | exact EvV_nil _))
          case m2 => dsimp only; omega
          case a2 => dsimp only; omega
          case b2 => dsimp only; simp (disch := first | omega | (simp only [List.length_append, List.length_set, List.length_cons, List.length_nil]; omega)) only [EVs]
          case c2 => exact objAt_seteq (by simp)
          case d2 => dsimp only; simp
        · have hpl := objAt_lt hp
          have hb : xs.length ≤ 4 := by omega
          (refine ew2 @hp @ir_len ?_; try with_reducible exact True.intro)
          refine ⟨by omega, (k + 1, ?s3, .msl (S.length + 1) 0 (xs.length + 1), xs ++ [((k : Nat) : Int) + 1]), ?m3, ⟨⟨?a3, hP2.fr ?b3⟩, .inr ⟨_, by rw [List.length_append]; rfl, ?c3, by omega, by simp⟩, ?d3⟩, ?e3⟩
          case e3 => dsimp only; (refine Fg_env ?_) <;> (try (refine ew ?_; try with_reducible exact True.intro)) <;> (repeat' (first | refine ⟨?_, ?_⟩ | exact EvV_int (by omega) | exact EvV_of (by simp) | exact EvV_nil _))
          case m3 => dsimp only; omega
          case a3 => dsimp only; omega
          case b3 => dsimp only; simp (disch := first | omega | (simp only [List.length_append, List.length_set, List.length_cons, List.length_nil]; omega)) only [EVs]
          case c3 => dsimp only; rw [← ir_app]; exact objAt_seteq (by simp)
          case d3 => dsimp only; simp; omega
    · (refine ew1 @hc ?_; try with_reducible exact True.intro)
      exact ⟨xs, by omega, hI⟩
theorem RefK_isA {T : Nat → Option Fn} {f : Nat} {as : List Src} {dst : Option Nat} {env : Nat → V} {x : List UInt8} {i h : Int} {kp bs : Nat} {rs ms : List Nat} {k : St → Prop} {r : V} {σ' : Store} {K : List Int}
    (hf : Run T (.fn f [.ptr 0 0 0] (cur x i h)) (.fn r σ')) (hr : IsA σ' r K) (ha : (as.map fun s => s.ev env) = [.ptr 0 0 0])
    (hk : ∀ σ2 : Store, IsA σ2 r K → k ⟨updO env dst r, σ2, kp, bs, rs, ms⟩) : RefK T f as dst ⟨env, cur x i h, kp, bs, rs, ms⟩ k := by
  have e : (as.map fun s => mapV (place [0]) (s.ev env)) = [.ptr 0 0 0] := by
    have : (as.map fun s => mapV (place [0]) (s.ev env)) = (as.map fun s => s.ev env).map (mapV (place [0])) := by rw [List.map_map]; rfl
    rw [this, ha]; simp [mapV, place]
  have e2 : gcS [0] (cur x i h) = cur x i h := by
    show [(some (cob x i h)).map _] = _
    rw [Option.map_some, mapO_cob]; rfl
  refine ⟨_, .ref [0] (by simp) (fun o ho => by rw [List.mem_singleton.1 ho]; rfl) (r := r) (σ' := σ') (by rw [e, e2]; exact hf), ?_⟩
  have hb : ∀ p, p ≠ 0 → back [0] (cur x i h).length p = some p := fun p hp => by
    unfold back
    rw [if_neg (by simp; omega)]
    show some (1 + (p - 1)) = some p
    rw [show 1 + (p - 1) = p by omega]
  have hm : mapV (back [0] (cur x i h).length) r = r := by
    rcases hr with ⟨rfl, rfl⟩ | ⟨p, rfl, hp, hp0, hxl⟩
    · rfl
    · unfold mapV
      rw [hb p hp0]
  show k ⟨updO env dst (mapV (back [0] (cur x i h).length) r), _, _, _, _, _⟩
  rw [hm]
  refine hk _ ?_
  rcases hr with h1 | ⟨p, h1, hp, hp0, hxl⟩
  · exact .inl h1
  · refine .inr ⟨p, h1, ?_, hp0, hxl⟩
    show objAt (putBack [0] (cur x i h) σ') p = _
    have e3 : (putBack [0] (cur x i h) σ')[p]? = ((σ'.drop 1).map (Option.map (mapO (back [0] (cur x i h).length))))[p - 1]? := by
      unfold putBack
      rw [List.getElem?_append_right (by simp [cur]; omega)]
      simp [cur]
    unfold objAt
    rw [e3, List.getElem?_map, List.getElem?_drop, show 1 + (p - 1) = p by omega]
    have hg : σ'[p]? = some (some ⟨1, irows K⟩) := by
      unfold objAt at hp
      cases hq : σ'[p]? with
      | none => rw [hq] at hp; cases hp
      | some o => rw [hq] at hp; cases hp; rfl
    rw [hg]
    show Option.map _ (some (⟨1, irows K⟩ : Obj)) = _
    rw [Option.map_some, mapO_ints]
theorem c_MakeKeep {T : Nat → Option Fn} (h : D_spec_MakeKeep T) {x : List UInt8} (hx : x.length ≤ 1048576) : ∃ K : List Int, K.length ≤ 4 ∧ PF T 308 [bytesV x] (ints K) := by
  obtain ⟨i0, h0, hi0, rn⟩ := r_l32New h.d_spec_l32New (n := 7) (by omega) hx
  have : ∃ r σ', Run T (.fn 308 [bytesV x] []) (.fn r σ') ∧ ∃ (K : List Int) (u : V), K.length ≤ 4 ∧ LaxV (ints K) u ∧ resolve σ' FD r = some u := by
    refine run_end (fun x d => x == 181 || x == 324) h.hT rfl rfl ?_
    dsimp only [F_spec_MakeKeep, oN, oS, oG, oK, oA, oH, oV, cI, St.enter, List.length_cons, List.length_nil, Nat.zero_add]
    (refine ew ?_; try with_reducible exact True.intro)
    refine RefK_run0 rn (by (refine ew ?_; try with_reducible exact True.intro)) (by (refine ew ?_; try with_reducible exact True.intro)) ?_
    rw [show mapV (shiftN ([] : Store).length) (.ptr 0 0 0) = .ptr 0 0 0 from rfl, addS_cur]
    (refine ew ?_; try with_reducible exact True.intro)
    obtain ⟨r, σ', h2, K, h3, h4⟩ := r_l24Keep h.d_spec_l24Keep hx (hh := h0) hi0
    refine RefK_isA h2 h4 rfl ?_
    intro σ2 hI
    (refine ew ?_; try with_reducible exact True.intro)
    rcases hI with ⟨rfl, rfl⟩ | ⟨p, rfl, hp, hp0, hxl⟩
    · exact ⟨[], .nils, by omega, lax_ints0 rfl, rfl⟩
    · exact ⟨K, ints K, h3, laxV_refl _, ir_res hp ⟨rfl, rfl⟩⟩
  obtain ⟨r, σ', h1, K, u, h3, h4, h5⟩ := this
  exact ⟨K, h3, .laxF (args := [bytesV x]) (r := u) (by simp only [LaxL]; exact ⟨_, _, rfl, laxV_refl _, rfl⟩) (.frz h1 h5) h4⟩
structure OrI (ns : List Int) (k : Nat) (o : List Int) : Prop where
  len : o.length = k
  sub : ∀ a ∈ o, a ∈ ns.take k
  nd : o.Nodup
theorem OrI.ins {ns : List Int} {k : Nat} {o : List Int} (h : OrI ns k o) (hk : k < ns.length) (hn : ns.Nodup) (q : Nat) : OrI ns (k + 1) (o.take q ++ [ns.getD k 0] ++ o.drop q) := by
  have e : o.take q ++ o.drop q = o := List.take_append_drop q o
  have hs : ns.take (k + 1) = ns.take k ++ [ns.getD k 0] := by
    rw [List.take_add_one, List.getElem?_eq_getElem hk, List.getD_eq_getElem?_getD, List.getElem?_eq_getElem hk]; rfl
  have hx : ns.getD k 0 ∉ ns.take k := by
    have := hn.sublist (List.take_sublist (k + 1) ns)
    rw [hs, List.nodup_append] at this
    exact fun hm => this.2.2 _ hm _ (List.mem_singleton.2 rfl) rfl
  refine ⟨?_, fun a ha => ?_, ?_⟩
  · have := congrArg List.length e
    have := h.len
    simp only [List.length_append, List.length_singleton] at *; omega
  · rw [hs]
    rcases List.mem_append.1 ha with ha | ha
    · rcases List.mem_append.1 ha with ha | ha
      · exact List.mem_append.2 (.inl (h.sub a (List.mem_of_mem_take ha)))
      · exact List.mem_append.2 (.inr ha)
    · exact List.mem_append.2 (.inl (h.sub a (List.mem_of_mem_drop ha)))
  · have hd : (o.take q ++ o.drop q).Nodup := by rw [e]; exact h.nd
    have hm : ∀ a ∈ o, a ≠ ns.getD k 0 := fun a ha e => hx (e ▸ h.sub a ha)
    rw [List.nodup_append] at hd
    rw [List.nodup_append, List.nodup_append]
    refine ⟨⟨hd.1, by simp, fun a ha b hb => ?_⟩, hd.2.1, fun a ha b hb => ?_⟩
    · rw [List.mem_singleton.1 hb]; exact hm a (List.mem_of_mem_take ha)
    · rcases List.mem_append.1 ha with ha | ha
      · exact hd.2.2 a ha b hb
      · rw [List.mem_singleton.1 ha]; exact (hm b (List.mem_of_mem_drop hb)).symm
theorem r_MakeOrder {T : Nat → Option Fn} (h : D_spec_MakeOrder T) {x : List UInt8} (hx : x.length ≤ 1048576) {S : List Lk} (hok : lksOk S = true) (hw : wfL Lk.wf S) (hl : S.length ≤ 1048576) (hne : 1 ≤ (nodesM S).length) :
    ∃ o : List Int, ordOk S o = true ∧ PF T 271 [bytesV x, lksV S] (ints o) := by
  obtain ⟨i0, h0, hi0, rn⟩ := r_l32New h.d_spec_l32New (n := 9) (by omega) hx
  have : ∃ r σ', Run T (.fn 271 [bytesV x, lksV S] []) (.fn r σ') ∧ ∃ o : List Int, ordOk S o = true ∧ resolve σ' FD r = some (ints o) := by
    refine run_end (fun x d => x == 181 || x == 107) h.hT rfl rfl ?_
    dsimp only [F_spec_MakeOrder, oN, oS, oG, oK, oA, oH, oV, cI, St.enter, List.length_cons, List.length_nil, Nat.zero_add]
    (refine ew ?_; try with_reducible exact True.intro)
    refine RefK_run0 rn (by (refine ew ?_; try with_reducible exact True.intro)) (by (refine ew ?_; try with_reducible exact True.intro)) ?_
    rw [show mapV (shiftN ([] : Store).length) (.ptr 0 0 0) = .ptr 0 0 0 from rfl, addS_cur]
    have hP : CurP (cur x i0 h0) 0 x := ⟨i0, h0, rfl, hi0⟩
    have cn := c_sNodesOfM h.d_spec_NodesOf (l := S) hw hl
    have hnd := asc_nodup (nodesM_asc S)
    have hnl := nodesM_len S
    have hfin : ∀ o, OrI (nodesM S) (nodesM S).length o → ordOk S o = true := fun o ho => ordOk_of hok ho.nd (fun a ha => by have := ho.sub a ha; rwa [List.take_length] at this) ho.len
    generalize nodesM S = ns at *
    generalize cur x i0 h0 = s0 at hP ⊢
    (refine ew ?_; try with_reducible exact True.intro)
    refine PFK_of cn ?_
    (refine ew ?_; try with_reducible exact True.intro)
    refine loop_at (fun x d => x == 181 || x == 107) (α := Nat × Store × V × List Int) (fun q => ⟨argE [.any, .any, .any, .any, .any, .ptr 0 0 0, q.2.2.1, .any, .any, .any, .any, .any, .any, .any, .any, ints ns, iv (ns.length : Nat), iv (q.1 : Nat)], q.2.1, 0, 0, [], []⟩) (fun q => (q.1 ≤ ns.length ∧ CurP q.2.1 0 x) ∧ IsA q.2.1 q.2.2.1 q.2.2.2 ∧ OrI ns q.1 q.2.2.2) (fun q => ns.length - q.1) rfl (0, s0 ++ [none], .nils, []) ?_ ?_ ?_
    · exact ⟨⟨Nat.zero_le _, hP.fr (objAt_snoc_lt hP.lt)⟩, .inl ⟨rfl, rfl⟩, rfl, (by intro a ha; cases ha), List.nodup_nil⟩
    · (refine Fg_env ?_) <;> (try (refine ew ?_; try with_reducible exact True.intro)) <;> (repeat' (first | refine ⟨?_, ?_⟩ | exact EvV_int (by omega) | exact EvV_of (by simp) | exact EvV_nil _))
    · clear hP
      rintro ⟨k, s, v, o⟩ ⟨⟨hk, hP⟩, hI, hO⟩
      dsimp only at hk hP hI hO
      have hol := hO.len
      by_cases hc : (k : Int) < (ns.length : Nat)
      · have hkl : k < ns.length := by omega
        have hln : lenOf s v = some o.length := by
          rcases hI with ⟨rfl, rfl⟩ | ⟨p, rfl, hp, hp0, hxl⟩
          · rfl
          · simp [lenOf, hp, ir_len]
        (refine ew3 @hc @hkl @hln ?_; try with_reducible exact True.intro)
        refine RefK_curF (b := 0) (rest := [iv ((o.length : Nat) + 1)]) hP (f_l01Below h.d_spec_l01Below (n := (o.length : Nat) + 1) (by omega) hx) rfl (fun _ => rfl) ?_
        rintro _ i1 h1 ⟨j, rfl, hj⟩ hi1
        have hI2 := hI.fr (s2 := s.set 0 (some (cob x i1 h1))) fun p hp _ => objAt_setne hp
        have hP2 : CurP (s.set 0 (some (cob x i1 h1))) 0 x := ⟨i1, h1, objAt_seteq hP.lt, hi1⟩
        generalize s.set 0 (some (cob x i1 h1)) = S1 at hI2 hP2 ⊢
        clear hI hP hln
        have hS0 := hP2.lt
        obtain ⟨q, rfl⟩ : ∃ q : Nat, j = (q : Int) := ⟨j.toNat, by omega⟩
        have hq : q ≤ o.length := by omega
        have hO2 := hO.ins hkl hnd q
        have hab : (o.take q).length + (o.drop q).length = k := by rw [List.length_take, List.length_drop]; omega
        have eA : (irows o).take q = irows (o.take q) := ir_take o q
        have eB : (irows o).drop q = irows (o.drop q) := ir_drop o q
        have eql : q = (o.take q).length := by rw [List.length_take]; omega
        generalize o.take q = A at *
        generalize o.drop q = B at *
        generalize ns.getD k 0 = n at *
        rcases hI2 with ⟨rfl, rfl⟩ | ⟨p, rfl, hp, hp0, hxl⟩
        · have hq0 : q = 0 := by simpa using hq
          subst hq0
          have hA : A = [] := List.eq_nil_of_length_eq_zero eql.symm
          have hB : B = [] := List.eq_nil_of_length_eq_zero (by simp at hol; omega)
          subst hA hB
          (refine ew ?_; try with_reducible exact True.intro)
          refine ⟨by omega, (k + 1, ?s1, .msl (S1.length + 1 + 1 + 1) 0 1, [n]), ?m1, ⟨⟨?a1, ?b1⟩, ?c1, hO2⟩, ?e1⟩
          case e1 => dsimp only; (refine Fg_env ?_) <;> (try (refine ew ?_; try with_reducible exact True.intro)) <;> (repeat' (first | refine ⟨?_, ?_⟩ | exact EvV_int (by omega) | exact EvV_of (by simp) | exact EvV_nil _))
          case m1 => dsimp only; omega
          case a1 => dsimp only; omega
          case b1 => dsimp only; exact hP2.fr (by simp (disch := first | omega | (simp only [List.length_append, List.length_set, List.length_cons, List.length_nil]; omega)) only [EVs])
          case c1 =>
            dsimp only
            refine .inr ⟨S1.length + 1 + 1 + 1, rfl, ?_, by omega, by simp⟩
            rw [objAt_snoc_lt (by simp), objAt_seteq (by simp)]; simp [irows]
        · have hpl := objAt_lt hp
          rcases A with _ | ⟨a0, A⟩
          · simp only [List.length_nil] at eql
            subst eql
            rw [show irows [] = [] from rfl] at eA
            rcases B with _ | ⟨b0, B⟩
            · exfalso
              simp at hab; omega
            · have hob : o.length = B.length + 1 := by simp at hab; omega
              have hTB : List.take o.length ([V.int .i64 b0] :: irows B) = [V.int .i64 b0] :: irows B := List.take_of_length_le (by simp [ir_len]; omega)
              rw [show irows (b0 :: B) = [.int .i64 b0] :: irows B from rfl] at eB
              (refine ew5 @hp @eA @eB @ir_len @hTB ?_; try with_reducible exact True.intro)
              refine ⟨by omega, by omega, (k + 1, ?s2, .msl (S1.length + 4) 0 (1 + (B.length + 1)), [n] ++ (b0 :: B)), ?m2, ⟨⟨?a2, ?b2⟩, ?c2, hO2⟩, ?e2⟩
              case e2 => dsimp only; (refine Fg_env ?_) <;> (try (refine ew ?_; try with_reducible exact True.intro)) <;> (repeat' (first | refine ⟨?_, ?_⟩ | exact EvV_int (by omega) | exact EvV_of (by simp) | exact EvV_nil _))
              case m2 => dsimp only; omega
              case a2 => dsimp only; omega
              case b2 => dsimp only; exact hP2.fr (by simp (disch := first | omega | (simp only [List.length_append, List.length_set, List.length_cons, List.length_nil]; omega)) only [EVs])
              case c2 =>
                dsimp only
                refine .inr ⟨S1.length + 4, (by simp; omega), ?_, by omega, by simp⟩
                rw [objAt_seteq (by simp)]; simp [irows]
          · rw [show irows (a0 :: A) = [.int .i64 a0] :: irows A from rfl] at eA
            have hLA : A.length + 1 ≤ (irows A ++ [[V.int .i64 n]]).length := by simp [ir_len]
            have hTA : List.take (A.length + 1) (irows A ++ [[V.int .i64 n]]) = irows A ++ [[V.int .i64 n]] := List.take_of_length_le (by simp [ir_len])
            have hAl : A.length + 1 ≤ 10 := by simp at hab; omega
            rcases B with _ | ⟨b0, B⟩
            · rw [show irows [] = [] from rfl] at eB
              (refine ew5 @hp @eA @eB @ir_len (And.intro hLA hTA) ?_; try with_reducible exact True.intro)
              refine ⟨by omega, by omega, (k + 1, ?s3, .msl (S1.length + 1 + 1 + 1) 0 (A.length + 1 + 1), a0 :: A ++ [n] ++ []), ?m3, ⟨⟨?a3, ?b3⟩, ?c3, hO2⟩, ?e3⟩
              case e3 => dsimp only; (refine Fg_env ?_) <;> (try (refine ew ?_; try with_reducible exact True.intro)) <;> (repeat' (first | refine ⟨?_, ?_⟩ | exact EvV_int (by omega) | exact EvV_of (by simp) | exact EvV_nil _))
              case m3 => dsimp only; omega
              case a3 => dsimp only; omega
              case b3 => dsimp only; exact hP2.fr (by simp (disch := first | omega | (simp only [List.length_append, List.length_set, List.length_cons, List.length_nil]; omega)) only [EVs])
              case c3 =>
                dsimp only
                refine .inr ⟨S1.length + 1 + 1 + 1, (by simp), ?_, by omega, by simp⟩
                rw [objAt_snoc_lt (by simp), objAt_seteq (by simp)]; simp [irows]
            · have hob : o.length - q = B.length + 1 := by simp at hab eql; omega
              have hTB : List.take (o.length - q) ([V.int .i64 b0] :: irows B) = [V.int .i64 b0] :: irows B := List.take_of_length_le (by simp [ir_len]; omega)
              have hBl : B.length + 1 ≤ 10 := by simp at hab; omega
              have hLn : (irows A ++ [[V.int .i64 n]]).length = A.length + 1 := by simp [ir_len]
              rw [show irows (b0 :: B) = [.int .i64 b0] :: irows B from rfl] at eB
              (refine ew6 @hp @eA @eB @ir_len (And.intro hLA (And.intro hTA hTB)) @hLn ?_; try with_reducible exact True.intro)
              refine ⟨by omega, by omega, by omega, (k + 1, ?s4, .msl (S1.length + 4) 0 (A.length + 1 + 1 + (B.length + 1)), a0 :: A ++ [n] ++ (b0 :: B)), ?m4, ⟨⟨?a4, ?b4⟩, ?c4, hO2⟩, ?e4⟩
              case e4 => dsimp only; (refine Fg_env ?_) <;> (try (refine ew ?_; try with_reducible exact True.intro)) <;> (repeat' (first | refine ⟨?_, ?_⟩ | exact EvV_int (by omega) | exact EvV_of (by simp) | exact EvV_nil _))
              case m4 => dsimp only; omega
              case a4 => dsimp only; omega
              case b4 => dsimp only; exact hP2.fr (by simp (disch := first | omega | (simp only [List.length_append, List.length_set, List.length_cons, List.length_nil]; omega)) only [EVs])
              case c4 =>
                dsimp only
                refine .inr ⟨S1.length + 4, (by simp; omega), ?_, by omega, by simp⟩
                rw [objAt_seteq (by simp)]; simp [irows]
      · have hkn : k = ns.length := by omega
        subst hkn
        (refine ew1 @hc ?_; try with_reducible exact True.intro)
        refine ⟨o, hfin o hO, ?_⟩
        rcases hI with ⟨rfl, rfl⟩ | ⟨p, rfl, hp, hp0, hxl⟩
        · exfalso; simp at hol; omega
        · exact ir_res hp ⟨rfl, rfl⟩
  obtain ⟨r, σ', h1, o, h2, h3⟩ := this
  exact ⟨o, h2, .frz h1 h3⟩
end Go.Ml
end
section
set_option linter.unusedSimpArgs false
set_option linter.unusedVariables false
set_option maxRecDepth 100000
set_option maxHeartbeats 8000000
namespace Go.Ml
def slX (n : Nat) : V := if n = 0 then .nils else .msl 2 0 n
theorem slX_0 : slX 0 = .nils := rfl
theorem slX_s (n : Nat) : slX (n + 1) = .msl 2 0 (n + 1) := rfl
theorem CanE_frzI {W : Win} {σ : Store} {q n : Nat} {L : List Int} (h : objAt σ q = some ⟨1, irows L⟩) (hq : ∀ (k s0 l0 : Nat), W[k]? ≠ some (some (q, s0, l0))) (hn : n = L.length) : CanE W σ (ints L) (.msl q 0 n) := by
  subst hn
  refine CanE_frz ?_ fun p hp k s0 l0 => ?_
  · have := res_mslS (n := 10) h (ir_still L)
    rw [ir_len] at this
    exact this
  · have := reach_ints (owV_ints h) FD p hp
    rw [List.mem_singleton.1 this]
    exact hq k s0 l0
def chJ (R last : List Int) : Nat → List Int
  | 0 => []
  | j + 1 => chJ R last j ++ if R.getD j 0 ∈ last then [] else [R.getD j 0]
theorem chJ_eq (R last : List Int) : ∀ k, k ≤ R.length → chJ R last k = chI (R.take k) last
  | 0, _ => by simp [chJ, chI]
  | k + 1, h => by
    have e : R.take (k + 1) = R.take k ++ [R.getD k 0] := by
      rw [List.take_add_one, List.getD_eq_getElem?_getD, List.getElem?_eq_getElem (by omega)]; rfl
    unfold chJ
    rw [chJ_eq R last k (by omega), e]
    unfold chI
    rw [List.filter_append]
    congr 1
    generalize R.getD k 0 = y
    by_cases hx : y ∈ last
    · rw [if_pos hx]; simp [hx]
    · rw [if_neg hx]; simp [hx]
theorem chJ_len (R last : List Int) : ∀ k, (chJ R last k).length ≤ k
  | 0 => Nat.le_refl _
  | k + 1 => by
    have := chJ_len R last k
    unfold chJ; split <;> simp <;> omega
theorem md_s (last : List Int) (g0 : Gd) (ns : List Int) (k : Nat) : mdG last g0 ns (k + 1) = (cutG (mdG last g0 ns k).1 (bstI (mdG last g0 ns k).1 (mdG last g0 ns k).2.1 last).toNat, woI (mdG last g0 ns k).2.1 (bstI (mdG last g0 ns k).1 (mdG last g0 ns k).2.1 last), (mdG last g0 ns k).2.2 ++ [bstI (mdG last g0 ns k).1 (mdG last g0 ns k).2.1 last]) := rfl
theorem po_iMinDegreeOrder {T : Nat → Option Fn} (h : D_impl_MinDegreeOrder T) {l : List Lk} {last : List Int} (hw : wfL Lk.wf l := by first | omega | assumption | (simp; omega)) (ho : last.length ≤ 1048576 := by first | omega | assumption | (simp; omega)) : PO T 300 [lksV l, ints last] (ints (mdV l last)) := by
  have ci := c_iIsLinkSet h.d_impl_IsLinkSet hw
  unfold mdV
  cases hb : lksOk l
  · rw [hb] at ci
    rw [if_neg (by simp)]
    refine po_end2 (fun _ _ => false) h.hT rfl rfl ?_
    dsimp only [F_impl_MinDegreeOrder, oN, oS, oG, oK, oA, oH, oV, cI, St.enter, List.length_cons, List.length_nil, Nat.zero_add]
    (refine ew ?_; try with_reducible exact True.intro)
    refine PFK_of ci ?_
    (refine ew ?_; try with_reducible exact True.intro)
    exact fin_nil
  rw [hb] at ci
  rw [if_pos rfl]
  have hz : gcell gz = List.replicate 100 (.bool false) := gcell_z
  simp only [List.replicate] at hz
  have cg := c_gridOf h.d_impl_gridOf hw hb
  have cn := c_inodesOf h.d_impl_nodesOf hw
  rw [← nodesM_t hb] at cn
  have hnl := nodesM_len l
  have hrg := fun a => @nodesM_rng l a
  have hmd := fun k hk => md_ok (last := last) (asc_nodup (nodesM_asc l)) (gok_gOf hb l.length (Nat.le_refl _)) k hk
  generalize nodesM l = ns at cn hnl hrg hmd ⊢
  generalize hg0 : gOf l l.length = g0 at cg hmd ⊢
  have t1 := gcell_k g0
  have t2 := gcell_k gz
  refine po_end2 (fun _ _ => false) h.hT rfl rfl ?_
  dsimp only [F_impl_MinDegreeOrder, oN, oS, oG, oK, oA, oH, oV, cI, St.enter, List.length_cons, List.length_nil, Nat.zero_add]
  (refine ew ?_; try with_reducible exact True.intro)
  rw [← hz]
  clear hz
  refine PFK_of ci ?_
  generalize hc : gcell g0 = c at t1 cg ⊢
  generalize hd : gcell gz = d at t2 ⊢
  (refine ew2 @t1 @t2 ?_; try with_reducible exact True.intro)
  refine PFK_of cg ?_
  (refine ew2 @t1 @t2 ?_; try with_reducible exact True.intro)
  refine PFK_of cn ?_
  (refine ew ?_; try with_reducible exact True.intro)
  rw [← hc]
  clear t1 hc
  refine loop_at (fun _ _ => false) (α := Nat × List Int) (fun q => ⟨argE [.any, ints last, .any, .any, .any, .ptr 0 0 0, ints (mdG last g0 ns q.1).2.1, slW q.2.length], some ⟨100, [gcell (mdG last g0 ns q.1).1]⟩ :: slS 1 (irows q.2), 0, 0, [], []⟩) (fun q => q.1 ≤ ns.length ∧ q.2 = (mdG last g0 ns q.1).2.2) (fun q => ns.length - q.1) rfl (0, []) ?_ ?_ ?_
  · exact ⟨by omega, rfl⟩
  · dsimp only
    rw [show mdG last g0 ns 0 = (g0, ns, []) from rfl]
    (refine Fg_re [(0, _)] (by simp) (by intro p hp; simp only [List.mem_cons, List.not_mem_nil, or_false] at hp; rcases hp with rfl <;> refine ⟨rfl, ?_⟩ <;> first | exact gcell_still _ | exact ir_still _ | simp [stillR, V.still]) rfl ?_) <;> (try (refine ew ?_; try with_reducible exact True.intro)) <;> (repeat' (first | exact True.intro | omega | exact CanE_ptr rfl (by simp) | refine ⟨?_, ?_⟩ | exact of_eq_true (CanE_nil _ _ _) | exact CanE_of rfl (by simp; done) | exact CanE_of rfl rfl | (refine CanE_msl rfl ?_ rfl; simp [irows]; done) | (refine CanE_msl rfl ?_ rfl; simp [irows]; omega) | (refine CanE_frz ?_ ?_; (focus ((refine ew ?_; try with_reducible exact True.intro); done)); (intro q hq k s0 l0; simp; done))))
  · rintro ⟨k, xs⟩ ⟨hk, hx0⟩
    dsimp only at hk hx0
    have hm := hmd k hk
    have hx : xs.length ≤ 10 := by rw [hx0, hm.out]; omega
    have es := md_s last g0 ns k
    rw [← hx0] at es
    have hml := hm.len
    have hmo := hm.out
    have hms := hm.sub
    have hfin : k = ns.length → mdG last g0 ns ns.length = mdG last g0 ns k := fun e => by rw [e]
    generalize hS : mdG last g0 ns k = S at es hml hms hmo hfin hx0 ⊢
    obtain ⟨G, R, X⟩ := S
    dsimp only at es hml hms hmo hx0 ⊢
    subst hx0
    clear hm
    by_cases hkc : k < ns.length
    · have hR0 : (R.length : Int) > 0 := by omega
      have hRr : ∀ x ∈ R, 1 ≤ x ∧ x ≤ 9 := fun x hx => hrg x (hms x hx)
      have hRl : R.length ≤ 10 := by omega
      have hRn : R ≠ [] := fun e => by rw [e] at hR0; simp at hR0
      have hbm := bstI_mem (g := G) (last := last) hRn
      have hcs : ∀ x ∈ ch2 R last, 1 ≤ x ∧ x ≤ 9 := fun x hx => hRr x (ch2_sub hx)
      have hC0 := ch2_ne (last := last) hRn
      have hbd : bstI G R last = pk G (ch2 R last) ((ch2 R last).getD 0 0) := rfl
      have hchl : chI R last = chJ R last R.length := by rw [chJ_eq R last _ (Nat.le_refl _), List.take_length]
      have hv := hRr _ hbm
      generalize hB : bstI G R last = B at es hbm hbd hv
      have cc := c_cut h.d__impl_grid_cut (g := G) (v := B) (by omega)
      have cw := c_withoutInt h.d_impl_withoutInt (l := R) (n := B) (by omega)
      have cdg := fun v (hv : 0 ≤ v ∧ v ≤ 9) => c_degree h.d__impl_grid_degree (g := G) (v := v) hv
      have t1 := gcell_k G
      have t3 := gcell_k (cutG G B.toNat)
      generalize hC : gcell G = C at t1 cc cdg ⊢
      generalize hE : gcell (cutG G B.toNat) = E at t3 cc
      (rcases xs with _ | ⟨x, xs⟩ <;> simp only [List.length_nil, List.length_cons, slW_0, slW_s, slI_nil, slI_cons] at hx hmo es ⊢)
      · (refine ew1 @hR0 ?_; try with_reducible exact True.intro)
        rw [← hC]
        refine loop_at (fun _ _ => false) (α := Nat × List Int) (fun q => ⟨argE [.any, ints last, .any, .any, .any, .ptr 0 0 0, ints R, .nils, slW q.2.length, .any, .any, .any, .any, .any, .any, .any, .any, .any, .any, .any, .any, .any, .any, .any, .any, .any, ints R, iv (R.length : Nat), iv (q.1 : Nat)], [some ⟨100, [gcell G]⟩] ++ slS 1 (irows q.2), 0, 0, [], []⟩) (fun q => q.1 ≤ R.length ∧ q.2 = chJ R last q.1) (fun q => R.length - q.1) rfl (0, []) ?_ ?_ ?_
        · exact ⟨by omega, rfl⟩
        · (refine Fg_re [(0, _)] (by simp) (by intro p hp; simp only [List.mem_cons, List.not_mem_nil, or_false] at hp; rcases hp with rfl <;> refine ⟨rfl, ?_⟩ <;> first | exact gcell_still _ | exact ir_still _ | simp [stillR, V.still]) rfl ?_) <;> (try (refine ew ?_; try with_reducible exact True.intro)) <;> (repeat' (first | exact True.intro | omega | exact CanE_ptr rfl (by simp) | refine ⟨?_, ?_⟩ | exact of_eq_true (CanE_nil _ _ _) | exact CanE_of rfl (by simp; done) | exact CanE_of rfl rfl | (refine CanE_msl rfl ?_ rfl; simp [irows]; done) | (refine CanE_msl rfl ?_ rfl; simp [irows]; omega) | (refine CanE_frz ?_ ?_; (focus ((refine ew ?_; try with_reducible exact True.intro); done)); (intro q hq k s0 l0; simp; done))))
        · rintro ⟨j, ys⟩ ⟨hj, hy0⟩
          dsimp only at hj hy0
          have hyl : ys.length ≤ 10 := by rw [hy0]; have := chJ_len R last j; omega
          have ej : chJ R last (j + 1) = chJ R last j ++ if R.getD j 0 ∈ last then [] else [R.getD j 0] := rfl
          rw [← hy0] at ej
          by_cases hjc : (j : Int) < (R.length : Nat)
          · have hjl : j < R.length := by omega
            generalize hvv : R.getD j 0 = v at ej
            have ch := c_hasInt h.d_impl_hasInt (l := last) (n := v) (by omega)
            by_cases hvl : v ∈ last
            · rw [decide_eq_true hvl] at ch
              rw [if_pos hvl, List.append_nil] at ej
              (rcases ys with _ | ⟨y, ys⟩ <;> simp only [List.length_nil, List.length_cons, slW_0, slW_s, slI_nil, slI_cons, List.append_nil, List.cons_append, List.nil_append] at hyl ⊢)
              · (refine ew3 @hjc @mg @hvv ?_; try with_reducible exact True.intro)
                refine PFK_of ch ?_
                (refine ew ?_; try with_reducible exact True.intro)
                refine ⟨(j + 1, []), by dsimp only; omega, ⟨by dsimp only; omega, ej.symm⟩, ?_⟩
                simp only [List.length_nil, slW_0]
                (refine Fg_env ?_) <;> (try (refine ew ?_; try with_reducible exact True.intro)) <;> (repeat' (first | refine ⟨?_, ?_⟩ | exact EvV_int (by omega) | exact EvV_of (by simp) | exact EvV_nil _))
              · (refine ew3 @hjc @mg @hvv ?_; try with_reducible exact True.intro)
                refine PFK_of ch ?_
                (refine ew ?_; try with_reducible exact True.intro)
                refine ⟨(j + 1, y :: ys), by dsimp only; omega, ⟨by dsimp only; omega, ej.symm⟩, ?_⟩
                simp only [List.length_cons, slW_s]
                (refine Fg_env ?_) <;> (try (refine ew ?_; try with_reducible exact True.intro)) <;> (repeat' (first | refine ⟨?_, ?_⟩ | exact EvV_int (by omega) | exact EvV_of (by simp) | exact EvV_nil _))
            · rw [decide_eq_false hvl] at ch
              rw [if_neg hvl] at ej
              (rcases ys with _ | ⟨y, ys⟩ <;> simp only [List.length_nil, List.length_cons, slW_0, slW_s, slI_nil, slI_cons, List.append_nil, List.cons_append, List.nil_append] at hyl ⊢)
              · (refine ew3 @hjc @mg @hvv ?_; try with_reducible exact True.intro)
                refine PFK_of ch ?_
                (refine ew ?_; try with_reducible exact True.intro)
                exact ⟨by omega, (j + 1, [v]), by dsimp only; omega, ⟨by dsimp only; omega, ej.symm⟩, by (refine Fg_re [(0, _), (2, _)] (by simp) (by intro p hp; simp only [List.mem_cons, List.not_mem_nil, or_false] at hp; rcases hp with rfl | rfl <;> refine ⟨rfl, ?_⟩ <;> first | exact gcell_still _ | exact ir_still _ | simp [stillR, V.still]) rfl ?_) <;> (try (refine ew ?_; try with_reducible exact True.intro)) <;> (repeat' (first | exact True.intro | omega | exact CanE_ptr rfl (by simp) | refine ⟨?_, ?_⟩ | exact of_eq_true (CanE_nil _ _ _) | exact CanE_of rfl (by simp; done) | exact CanE_of rfl rfl | (refine CanE_msl rfl ?_ rfl; simp [irows]; done) | (refine CanE_msl rfl ?_ rfl; simp [irows]; omega) | (refine CanE_frz ?_ ?_; (focus ((refine ew ?_; try with_reducible exact True.intro); done)); (intro q hq k s0 l0; simp; done))))⟩
              · (refine ew3 @hjc @mg @hvv ?_; try with_reducible exact True.intro)
                refine PFK_of ch ?_
                (refine ew ?_; try with_reducible exact True.intro)
                refine ⟨by omega, (j + 1, (y :: ys) ++ [v]), by dsimp only; omega, ⟨by dsimp only; omega, ej.symm⟩, ?_⟩
                dsimp only
                rw [irows_snoc, show slS 1 (irows (y :: ys ++ [v])) = [some ⟨1, irows (y :: ys ++ [v])⟩] from rfl, show slW (y :: ys ++ [v]).length = .msl 1 0 (ys.length + 1 + 1) by simp [slW]]
                simp only [List.cons_append, List.nil_append]
                (refine Fg_re [(0, _), (3, _)] (by simp) (by intro p hp; simp only [List.mem_cons, List.not_mem_nil, or_false] at hp; rcases hp with rfl | rfl <;> refine ⟨rfl, ?_⟩ <;> first | exact gcell_still _ | exact ir_still _ | simp [stillR, V.still]) rfl ?_) <;> (try (refine ew ?_; try with_reducible exact True.intro)) <;> (repeat' (first | exact True.intro | omega | exact CanE_ptr rfl (by simp) | refine ⟨?_, ?_⟩ | exact of_eq_true (CanE_nil _ _ _) | exact CanE_of rfl (by simp; done) | exact CanE_of rfl rfl | (refine CanE_msl rfl ?_ rfl; simp [irows]; done) | (refine CanE_msl rfl ?_ rfl; simp [irows]; omega) | (refine CanE_frz ?_ ?_; (focus ((refine ew ?_; try with_reducible exact True.intro); done)); (intro q hq k s0 l0; simp; done))))
          · have hje : j = R.length := by omega
            subst hje
            rw [← hchl] at hy0
            have hch2 : ch2 R last = if ys = [] then R else ys := by rw [hy0]; rfl
            rw [hC]
            (rcases ys with _ | ⟨y, ys⟩ <;> simp only [List.length_nil, List.length_cons, slW_0, slW_s, slI_nil, slI_cons, List.append_nil, List.cons_append, List.nil_append] at hyl ⊢)
            · rw [if_pos rfl] at hch2
              rw [hch2] at hbd hcs hC0
              have hR1 : 0 < R.length := by omega
              (refine ew1 @hjc ?_; try with_reducible exact True.intro)
              refine brK_dec (fun _ => ?_) fun hh => absurd (by simp) hh
              (refine ew ?_; try with_reducible exact True.intro)
              rw [← hC]
              have hCl : R.length ≤ 10 := by omega
              have hget : ∀ m, m < R.length → 1 ≤ R.getD m 0 ∧ R.getD m 0 ≤ 9 := fun m hm => hcs _ (by rw [List.getD_eq_getElem?_getD, List.getElem?_eq_getElem hm]; exact List.getElem_mem hm)
              have hdr : ∀ m, m < R.length → R.drop m = R.getD m 0 :: R.drop (m + 1) := fun m hm => by
                rw [List.drop_eq_getElem_cons hm, List.getD_eq_getElem?_getD, List.getElem?_eq_getElem hm]; rfl
              have h00 := hget 0 (by omega)
              skip
              refine loop_at (fun _ _ => false) (α := Nat × Int) (fun q => ⟨argE [.any, ints last, .any, .any, .any, .ptr 0 0 0, ints R, .nils, .any, .any, .any, iv q.2, .any, .any, .any, .any, .any, .any, .any, .any, .any, .any, .any, .any, .any, .any, .any, .any, .any, .any, .any, .any, .any, .any, .any, .any, .any, .any, .any, .any, .any, .any, .any, .any, .any, .any, .any, .any, ints R, iv (R.length : Nat), iv (q.1 : Nat)], [some ⟨100, [gcell G]⟩], 0, 0, [], []⟩) (fun q => q.1 ≤ R.length ∧ (1 ≤ q.2 ∧ q.2 ≤ 9) ∧ B = pk G (R.drop q.1) q.2) (fun q => R.length - q.1) rfl (0, R.getD 0 0) ?_ ?_ ?_
              · exact ⟨by dsimp only; omega, h00, hbd⟩
              · (refine Fg_re [(0, _)] (by simp) (by intro p hp; simp only [List.mem_cons, List.not_mem_nil, or_false] at hp; rcases hp with rfl <;> refine ⟨rfl, ?_⟩ <;> first | exact gcell_still _ | exact ir_still _ | simp [stillR, V.still]) rfl ?_) <;> (try (refine ew ?_; try with_reducible exact True.intro)) <;> (repeat' (first | exact True.intro | omega | exact CanE_ptr rfl (by simp) | refine ⟨?_, ?_⟩ | exact of_eq_true (CanE_nil _ _ _) | exact CanE_of rfl (by simp; done) | exact CanE_of rfl rfl | (refine CanE_msl rfl ?_ rfl; simp [irows]; done) | (refine CanE_msl rfl ?_ rfl; simp [irows]; omega) | (refine CanE_frz ?_ ?_; (focus ((refine ew ?_; try with_reducible exact True.intro); done)); (intro q hq k s0 l0; simp; done))))
              · rw [hC]
                rintro ⟨m, b⟩ ⟨hm, hb2, hpk⟩
                dsimp only at hm hb2 hpk
                have hget := hget m
                have hdr := hdr m
                (refine ew ?_; try with_reducible exact True.intro)
                refine brK_dec (fun he => ?_) fun he => ?_ <;> (refine ew1 @he ?_; try with_reducible exact True.intro)
                · have hml2 : m < R.length := by first | omega | (simp only [List.length_cons]; omega)
                  have hv9 := hget hml2
                  rw [hdr hml2, pk_c] at hpk
                  generalize R.getD m 0 = v at hv9 hpk ⊢
                  (refine ew1 @t1 ?_; try with_reducible exact True.intro)
                  refine PFK_of (cdg v (by omega)) ?_
                  (refine ew1 @t1 ?_; try with_reducible exact True.intro)
                  refine PFK_of (cdg b (by omega)) ?_
                  (refine ew1 @t1 ?_; try with_reducible exact True.intro)
                  refine brK_dec (fun hf => ?_) fun hf => ?_ <;> (refine ew1 @hf ?_; try with_reducible exact True.intro)
                  · have hf' : dgI G v < dgI G b := by unfold dgI; omega
                    rw [if_pos hf'] at hpk
                    exact ⟨(m + 1, v), by first | (dsimp only; omega) | (simp only [List.length_cons] at *; omega), ⟨by first | (dsimp only; omega) | (simp only [List.length_cons] at *; omega), by dsimp only; omega, hpk⟩, by (refine Fg_env ?_) <;> (try (refine ew ?_; try with_reducible exact True.intro)) <;> (repeat' (first | refine ⟨?_, ?_⟩ | exact EvV_int (by omega) | exact EvV_of (by simp) | exact EvV_nil _))⟩
                  · have hf' : ¬ dgI G v < dgI G b := by unfold dgI; omega
                    rw [if_neg hf'] at hpk
                    exact ⟨(m + 1, b), by first | (dsimp only; omega) | (simp only [List.length_cons] at *; omega), ⟨by first | (dsimp only; omega) | (simp only [List.length_cons] at *; omega), by dsimp only; omega, hpk⟩, by (refine Fg_env ?_) <;> (try (refine ew ?_; try with_reducible exact True.intro)) <;> (repeat' (first | refine ⟨?_, ?_⟩ | exact EvV_int (by omega) | exact EvV_of (by simp) | exact EvV_nil _))⟩
                · have hme : m = R.length := by first | omega | (simp only [List.length_cons] at hm ⊢; omega)
                  rw [hme, List.drop_length] at hpk
                  have hpk : B = b := hpk
                  subst hpk
                  (refine ew2 @t1 @t3 ?_; try with_reducible exact True.intro)
                  refine ⟨by omega, ?_⟩
                  refine PFK_of cc ?_
                  (refine ew2 @t1 @t3 ?_; try with_reducible exact True.intro)
                  refine PFK_of cw ?_
                  (refine ew2 @t1 @t3 ?_; try with_reducible exact True.intro)
                  refine ⟨(k + 1, ([]) ++ [B]), by dsimp only; omega, ⟨by dsimp only; omega, by rw [es]⟩, ?_⟩
                  dsimp only
                  rw [es, ← hE]
                  dsimp only
                  (refine Fg_re [(0, _), (2, _)] (by simp) (by intro p hp; simp only [List.mem_cons, List.not_mem_nil, or_false] at hp; rcases hp with rfl | rfl <;> refine ⟨rfl, ?_⟩ <;> first | exact gcell_still _ | exact ir_still _ | simp [stillR, V.still]) rfl ?_) <;> (try (refine ew ?_; try with_reducible exact True.intro)) <;> (repeat' (first | exact True.intro | omega | exact CanE_ptr rfl (by simp) | refine ⟨?_, ?_⟩ | exact of_eq_true (CanE_nil _ _ _) | exact CanE_of rfl (by simp; done) | exact CanE_of rfl rfl | (refine CanE_msl rfl ?_ rfl; simp [irows]; done) | (refine CanE_msl rfl ?_ rfl; simp [irows]; omega) | (refine CanE_frz ?_ ?_; (focus ((refine ew ?_; try with_reducible exact True.intro); done)); (intro q hq k s0 l0; simp; done))))
            · rw [if_neg (by simp)] at hch2
              rw [hch2] at hbd hcs hC0
              skip
              (refine ew1 @hjc ?_; try with_reducible exact True.intro)
              refine brK_dec (fun hh => absurd hh (by omega)) fun _ => ?_
              (refine ew ?_; try with_reducible exact True.intro)
              rw [← hC]
              have hCl : (y :: ys).length ≤ 10 := by simp only [List.length_cons]; omega
              have hget : ∀ m, m < (y :: ys).length → 1 ≤ (y :: ys).getD m 0 ∧ (y :: ys).getD m 0 ≤ 9 := fun m hm => hcs _ (by rw [List.getD_eq_getElem?_getD, List.getElem?_eq_getElem hm]; exact List.getElem_mem hm)
              have hdr : ∀ m, m < (y :: ys).length → (y :: ys).drop m = (y :: ys).getD m 0 :: (y :: ys).drop (m + 1) := fun m hm => by
                rw [List.drop_eq_getElem_cons hm, List.getD_eq_getElem?_getD, List.getElem?_eq_getElem hm]; rfl
              have h00 := hget 0 (by simp)
              skip
              refine loop_at (fun _ _ => false) (α := Nat × Int) (fun q => ⟨argE [.any, ints last, .any, .any, .any, .ptr 0 0 0, ints R, .nils, .any, .any, .any, iv q.2, .any, .any, .any, .any, .any, .any, .any, .any, .any, .any, .any, .any, .any, .any, .any, .any, .any, .any, .any, .any, .any, .any, .any, .any, .any, .any, .any, .any, .any, .any, .any, .any, .any, .any, .any, .any, ints (y :: ys), iv ((y :: ys).length : Nat), iv (q.1 : Nat)], [some ⟨100, [gcell G]⟩], 0, 0, [], []⟩) (fun q => q.1 ≤ (y :: ys).length ∧ (1 ≤ q.2 ∧ q.2 ≤ 9) ∧ B = pk G ((y :: ys).drop q.1) q.2) (fun q => (y :: ys).length - q.1) rfl (0, (y :: ys).getD 0 0) ?_ ?_ ?_
              · exact ⟨by dsimp only; omega, h00, hbd⟩
              · (refine Fg_re [(0, _)] (by simp) (by intro p hp; simp only [List.mem_cons, List.not_mem_nil, or_false] at hp; rcases hp with rfl <;> refine ⟨rfl, ?_⟩ <;> first | exact gcell_still _ | exact ir_still _ | simp [stillR, V.still]) rfl ?_) <;> (try (refine ew ?_; try with_reducible exact True.intro)) <;> (repeat' (first | exact True.intro | omega | exact CanE_ptr rfl (by simp) | refine ⟨?_, ?_⟩ | exact of_eq_true (CanE_nil _ _ _) | exact CanE_of rfl (by simp; done) | exact CanE_of rfl rfl | (refine CanE_msl rfl ?_ rfl; simp [irows]; done) | (refine CanE_msl rfl ?_ rfl; simp [irows]; omega) | (refine CanE_frz ?_ ?_; (focus ((refine ew ?_; try with_reducible exact True.intro); done)); (intro q hq k s0 l0; simp; done))))
                exact CanE_frzI rfl (by rintro (_ | _ | _) s0 l0 hh <;> simp at hh) rfl
              · rw [hC]
                rintro ⟨m, b⟩ ⟨hm, hb2, hpk⟩
                dsimp only at hm hb2 hpk
                have hget := hget m
                have hdr := hdr m
                (refine ew ?_; try with_reducible exact True.intro)
                refine brK_dec (fun he => ?_) fun he => ?_ <;> (refine ew1 @he ?_; try with_reducible exact True.intro)
                · have hml2 : m < (y :: ys).length := by first | omega | (simp only [List.length_cons]; omega)
                  have hv9 := hget hml2
                  rw [hdr hml2, pk_c] at hpk
                  generalize (y :: ys).getD m 0 = v at hv9 hpk ⊢
                  (refine ew1 @t1 ?_; try with_reducible exact True.intro)
                  refine PFK_of (cdg v (by omega)) ?_
                  (refine ew1 @t1 ?_; try with_reducible exact True.intro)
                  refine PFK_of (cdg b (by omega)) ?_
                  (refine ew1 @t1 ?_; try with_reducible exact True.intro)
                  refine brK_dec (fun hf => ?_) fun hf => ?_ <;> (refine ew1 @hf ?_; try with_reducible exact True.intro)
                  · have hf' : dgI G v < dgI G b := by unfold dgI; omega
                    rw [if_pos hf'] at hpk
                    exact ⟨(m + 1, v), by first | (dsimp only; omega) | (simp only [List.length_cons] at *; omega), ⟨by first | (dsimp only; omega) | (simp only [List.length_cons] at *; omega), by dsimp only; omega, hpk⟩, by (refine Fg_env ?_) <;> (try (refine ew ?_; try with_reducible exact True.intro)) <;> (repeat' (first | refine ⟨?_, ?_⟩ | exact EvV_int (by omega) | exact EvV_of (by simp) | exact EvV_nil _))⟩
                  · have hf' : ¬ dgI G v < dgI G b := by unfold dgI; omega
                    rw [if_neg hf'] at hpk
                    exact ⟨(m + 1, b), by first | (dsimp only; omega) | (simp only [List.length_cons] at *; omega), ⟨by first | (dsimp only; omega) | (simp only [List.length_cons] at *; omega), by dsimp only; omega, hpk⟩, by (refine Fg_env ?_) <;> (try (refine ew ?_; try with_reducible exact True.intro)) <;> (repeat' (first | refine ⟨?_, ?_⟩ | exact EvV_int (by omega) | exact EvV_of (by simp) | exact EvV_nil _))⟩
                · have hme : m = (y :: ys).length := by first | omega | (simp only [List.length_cons] at hm ⊢; omega)
                  rw [hme, List.drop_length] at hpk
                  have hpk : B = b := hpk
                  subst hpk
                  (refine ew2 @t1 @t3 ?_; try with_reducible exact True.intro)
                  refine ⟨by omega, ?_⟩
                  refine PFK_of cc ?_
                  (refine ew2 @t1 @t3 ?_; try with_reducible exact True.intro)
                  refine PFK_of cw ?_
                  (refine ew2 @t1 @t3 ?_; try with_reducible exact True.intro)
                  refine ⟨(k + 1, ([]) ++ [B]), by dsimp only; omega, ⟨by dsimp only; omega, by rw [es]⟩, ?_⟩
                  dsimp only
                  rw [es, ← hE]
                  dsimp only
                  (refine Fg_re [(0, _), (2, _)] (by simp) (by intro p hp; simp only [List.mem_cons, List.not_mem_nil, or_false] at hp; rcases hp with rfl | rfl <;> refine ⟨rfl, ?_⟩ <;> first | exact gcell_still _ | exact ir_still _ | simp [stillR, V.still]) rfl ?_) <;> (try (refine ew ?_; try with_reducible exact True.intro)) <;> (repeat' (first | exact True.intro | omega | exact CanE_ptr rfl (by simp) | refine ⟨?_, ?_⟩ | exact of_eq_true (CanE_nil _ _ _) | exact CanE_of rfl (by simp; done) | exact CanE_of rfl rfl | (refine CanE_msl rfl ?_ rfl; simp [irows]; done) | (refine CanE_msl rfl ?_ rfl; simp [irows]; omega) | (refine CanE_frz ?_ ?_; (focus ((refine ew ?_; try with_reducible exact True.intro); done)); (intro q hq k s0 l0; simp; done))))
      · (refine ew1 @hR0 ?_; try with_reducible exact True.intro)
        rw [← hC]
        refine loop_at (fun _ _ => false) (α := Nat × List Int) (fun q => ⟨argE [.any, ints last, .any, .any, .any, .ptr 0 0 0, ints R, .msl 1 0 (xs.length + 1), slX q.2.length, .any, .any, .any, .any, .any, .any, .any, .any, .any, .any, .any, .any, .any, .any, .any, .any, .any, ints R, iv (R.length : Nat), iv (q.1 : Nat)], [some ⟨100, [gcell G]⟩, some ⟨1, irows (x :: xs)⟩] ++ slS 1 (irows q.2), 0, 0, [], []⟩) (fun q => q.1 ≤ R.length ∧ q.2 = chJ R last q.1) (fun q => R.length - q.1) rfl (0, []) ?_ ?_ ?_
        · exact ⟨by omega, rfl⟩
        · (refine Fg_re [(0, _), (1, _)] (by simp) (by intro p hp; simp only [List.mem_cons, List.not_mem_nil, or_false] at hp; rcases hp with rfl | rfl <;> refine ⟨rfl, ?_⟩ <;> first | exact gcell_still _ | exact ir_still _ | simp [stillR, V.still]) rfl ?_) <;> (try (refine ew ?_; try with_reducible exact True.intro)) <;> (repeat' (first | exact True.intro | omega | exact CanE_ptr rfl (by simp) | refine ⟨?_, ?_⟩ | exact of_eq_true (CanE_nil _ _ _) | exact CanE_of rfl (by simp; done) | exact CanE_of rfl rfl | (refine CanE_msl rfl ?_ rfl; simp [irows]; done) | (refine CanE_msl rfl ?_ rfl; simp [irows]; omega) | (refine CanE_frz ?_ ?_; (focus ((refine ew ?_; try with_reducible exact True.intro); done)); (intro q hq k s0 l0; simp; done))))
        · rintro ⟨j, ys⟩ ⟨hj, hy0⟩
          dsimp only at hj hy0
          have hyl : ys.length ≤ 10 := by rw [hy0]; have := chJ_len R last j; omega
          have ej : chJ R last (j + 1) = chJ R last j ++ if R.getD j 0 ∈ last then [] else [R.getD j 0] := rfl
          rw [← hy0] at ej
          by_cases hjc : (j : Int) < (R.length : Nat)
          · have hjl : j < R.length := by omega
            generalize hvv : R.getD j 0 = v at ej
            have ch := c_hasInt h.d_impl_hasInt (l := last) (n := v) (by omega)
            by_cases hvl : v ∈ last
            · rw [decide_eq_true hvl] at ch
              rw [if_pos hvl, List.append_nil] at ej
              (rcases ys with _ | ⟨y, ys⟩ <;> simp only [List.length_nil, List.length_cons, slX_0, slX_s, slI_nil, slI_cons, List.append_nil, List.cons_append, List.nil_append] at hyl ⊢)
              · (refine ew3 @hjc @mg @hvv ?_; try with_reducible exact True.intro)
                refine PFK_of ch ?_
                (refine ew ?_; try with_reducible exact True.intro)
                refine ⟨(j + 1, []), by dsimp only; omega, ⟨by dsimp only; omega, ej.symm⟩, ?_⟩
                simp only [List.length_nil, slX_0]
                (refine Fg_env ?_) <;> (try (refine ew ?_; try with_reducible exact True.intro)) <;> (repeat' (first | refine ⟨?_, ?_⟩ | exact EvV_int (by omega) | exact EvV_of (by simp) | exact EvV_nil _))
              · (refine ew3 @hjc @mg @hvv ?_; try with_reducible exact True.intro)
                refine PFK_of ch ?_
                (refine ew ?_; try with_reducible exact True.intro)
                refine ⟨(j + 1, y :: ys), by dsimp only; omega, ⟨by dsimp only; omega, ej.symm⟩, ?_⟩
                simp only [List.length_cons, slX_s]
                (refine Fg_env ?_) <;> (try (refine ew ?_; try with_reducible exact True.intro)) <;> (repeat' (first | refine ⟨?_, ?_⟩ | exact EvV_int (by omega) | exact EvV_of (by simp) | exact EvV_nil _))
            · rw [decide_eq_false hvl] at ch
              rw [if_neg hvl] at ej
              (rcases ys with _ | ⟨y, ys⟩ <;> simp only [List.length_nil, List.length_cons, slX_0, slX_s, slI_nil, slI_cons, List.append_nil, List.cons_append, List.nil_append] at hyl ⊢)
              · (refine ew3 @hjc @mg @hvv ?_; try with_reducible exact True.intro)
                refine PFK_of ch ?_
                (refine ew ?_; try with_reducible exact True.intro)
                exact ⟨by omega, (j + 1, [v]), by dsimp only; omega, ⟨by dsimp only; omega, ej.symm⟩, by (refine Fg_re [(0, _), (1, _), (3, _)] (by simp) (by intro p hp; simp only [List.mem_cons, List.not_mem_nil, or_false] at hp; rcases hp with rfl | rfl | rfl <;> refine ⟨rfl, ?_⟩ <;> first | exact gcell_still _ | exact ir_still _ | simp [stillR, V.still]) rfl ?_) <;> (try (refine ew ?_; try with_reducible exact True.intro)) <;> (repeat' (first | exact True.intro | omega | exact CanE_ptr rfl (by simp) | refine ⟨?_, ?_⟩ | exact of_eq_true (CanE_nil _ _ _) | exact CanE_of rfl (by simp; done) | exact CanE_of rfl rfl | (refine CanE_msl rfl ?_ rfl; simp [irows]; done) | (refine CanE_msl rfl ?_ rfl; simp [irows]; omega) | (refine CanE_frz ?_ ?_; (focus ((refine ew ?_; try with_reducible exact True.intro); done)); (intro q hq k s0 l0; simp; done))))⟩
              · (refine ew3 @hjc @mg @hvv ?_; try with_reducible exact True.intro)
                refine PFK_of ch ?_
                (refine ew ?_; try with_reducible exact True.intro)
                refine ⟨by omega, (j + 1, (y :: ys) ++ [v]), by dsimp only; omega, ⟨by dsimp only; omega, ej.symm⟩, ?_⟩
                dsimp only
                rw [irows_snoc, show slS 1 (irows (y :: ys ++ [v])) = [some ⟨1, irows (y :: ys ++ [v])⟩] from rfl, show slX (y :: ys ++ [v]).length = .msl 2 0 (ys.length + 1 + 1) by simp [slX]]
                simp only [List.cons_append, List.nil_append]
                (refine Fg_re [(0, _), (1, _), (4, _)] (by simp) (by intro p hp; simp only [List.mem_cons, List.not_mem_nil, or_false] at hp; rcases hp with rfl | rfl | rfl <;> refine ⟨rfl, ?_⟩ <;> first | exact gcell_still _ | exact ir_still _ | simp [stillR, V.still]) rfl ?_) <;> (try (refine ew ?_; try with_reducible exact True.intro)) <;> (repeat' (first | exact True.intro | omega | exact CanE_ptr rfl (by simp) | refine ⟨?_, ?_⟩ | exact of_eq_true (CanE_nil _ _ _) | exact CanE_of rfl (by simp; done) | exact CanE_of rfl rfl | (refine CanE_msl rfl ?_ rfl; simp [irows]; done) | (refine CanE_msl rfl ?_ rfl; simp [irows]; omega) | (refine CanE_frz ?_ ?_; (focus ((refine ew ?_; try with_reducible exact True.intro); done)); (intro q hq k s0 l0; simp; done))))
          · have hje : j = R.length := by omega
            subst hje
            rw [← hchl] at hy0
            have hch2 : ch2 R last = if ys = [] then R else ys := by rw [hy0]; rfl
            rw [hC]
            (rcases ys with _ | ⟨y, ys⟩ <;> simp only [List.length_nil, List.length_cons, slX_0, slX_s, slI_nil, slI_cons, List.append_nil, List.cons_append, List.nil_append] at hyl ⊢)
            · rw [if_pos rfl] at hch2
              rw [hch2] at hbd hcs hC0
              have hR1 : 0 < R.length := by omega
              (refine ew1 @hjc ?_; try with_reducible exact True.intro)
              refine brK_dec (fun _ => ?_) fun hh => absurd (by simp) hh
              (refine ew ?_; try with_reducible exact True.intro)
              rw [← hC]
              have hCl : R.length ≤ 10 := by omega
              have hget : ∀ m, m < R.length → 1 ≤ R.getD m 0 ∧ R.getD m 0 ≤ 9 := fun m hm => hcs _ (by rw [List.getD_eq_getElem?_getD, List.getElem?_eq_getElem hm]; exact List.getElem_mem hm)
              have hdr : ∀ m, m < R.length → R.drop m = R.getD m 0 :: R.drop (m + 1) := fun m hm => by
                rw [List.drop_eq_getElem_cons hm, List.getD_eq_getElem?_getD, List.getElem?_eq_getElem hm]; rfl
              have h00 := hget 0 (by omega)
              skip
              refine loop_at (fun _ _ => false) (α := Nat × Int) (fun q => ⟨argE [.any, ints last, .any, .any, .any, .ptr 0 0 0, ints R, .msl 1 0 (xs.length + 1), .any, .any, .any, iv q.2, .any, .any, .any, .any, .any, .any, .any, .any, .any, .any, .any, .any, .any, .any, .any, .any, .any, .any, .any, .any, .any, .any, .any, .any, .any, .any, .any, .any, .any, .any, .any, .any, .any, .any, .any, .any, ints R, iv (R.length : Nat), iv (q.1 : Nat)], [some ⟨100, [gcell G]⟩, some ⟨1, irows (x :: xs)⟩], 0, 0, [], []⟩) (fun q => q.1 ≤ R.length ∧ (1 ≤ q.2 ∧ q.2 ≤ 9) ∧ B = pk G (R.drop q.1) q.2) (fun q => R.length - q.1) rfl (0, R.getD 0 0) ?_ ?_ ?_
              · exact ⟨by dsimp only; omega, h00, hbd⟩
              · (refine Fg_re [(0, _), (1, _)] (by simp) (by intro p hp; simp only [List.mem_cons, List.not_mem_nil, or_false] at hp; rcases hp with rfl | rfl <;> refine ⟨rfl, ?_⟩ <;> first | exact gcell_still _ | exact ir_still _ | simp [stillR, V.still]) rfl ?_) <;> (try (refine ew ?_; try with_reducible exact True.intro)) <;> (repeat' (first | exact True.intro | omega | exact CanE_ptr rfl (by simp) | refine ⟨?_, ?_⟩ | exact of_eq_true (CanE_nil _ _ _) | exact CanE_of rfl (by simp; done) | exact CanE_of rfl rfl | (refine CanE_msl rfl ?_ rfl; simp [irows]; done) | (refine CanE_msl rfl ?_ rfl; simp [irows]; omega) | (refine CanE_frz ?_ ?_; (focus ((refine ew ?_; try with_reducible exact True.intro); done)); (intro q hq k s0 l0; simp; done))))
              · rw [hC]
                rintro ⟨m, b⟩ ⟨hm, hb2, hpk⟩
                dsimp only at hm hb2 hpk
                have hget := hget m
                have hdr := hdr m
                (refine ew ?_; try with_reducible exact True.intro)
                refine brK_dec (fun he => ?_) fun he => ?_ <;> (refine ew1 @he ?_; try with_reducible exact True.intro)
                · have hml2 : m < R.length := by first | omega | (simp only [List.length_cons]; omega)
                  have hv9 := hget hml2
                  rw [hdr hml2, pk_c] at hpk
                  generalize R.getD m 0 = v at hv9 hpk ⊢
                  (refine ew1 @t1 ?_; try with_reducible exact True.intro)
                  refine PFK_of (cdg v (by omega)) ?_
                  (refine ew1 @t1 ?_; try with_reducible exact True.intro)
                  refine PFK_of (cdg b (by omega)) ?_
                  (refine ew1 @t1 ?_; try with_reducible exact True.intro)
                  refine brK_dec (fun hf => ?_) fun hf => ?_ <;> (refine ew1 @hf ?_; try with_reducible exact True.intro)
                  · have hf' : dgI G v < dgI G b := by unfold dgI; omega
                    rw [if_pos hf'] at hpk
                    exact ⟨(m + 1, v), by first | (dsimp only; omega) | (simp only [List.length_cons] at *; omega), ⟨by first | (dsimp only; omega) | (simp only [List.length_cons] at *; omega), by dsimp only; omega, hpk⟩, by (refine Fg_env ?_) <;> (try (refine ew ?_; try with_reducible exact True.intro)) <;> (repeat' (first | refine ⟨?_, ?_⟩ | exact EvV_int (by omega) | exact EvV_of (by simp) | exact EvV_nil _))⟩
                  · have hf' : ¬ dgI G v < dgI G b := by unfold dgI; omega
                    rw [if_neg hf'] at hpk
                    exact ⟨(m + 1, b), by first | (dsimp only; omega) | (simp only [List.length_cons] at *; omega), ⟨by first | (dsimp only; omega) | (simp only [List.length_cons] at *; omega), by dsimp only; omega, hpk⟩, by (refine Fg_env ?_) <;> (try (refine ew ?_; try with_reducible exact True.intro)) <;> (repeat' (first | refine ⟨?_, ?_⟩ | exact EvV_int (by omega) | exact EvV_of (by simp) | exact EvV_nil _))⟩
                · have hme : m = R.length := by first | omega | (simp only [List.length_cons] at hm ⊢; omega)
                  rw [hme, List.drop_length] at hpk
                  have hpk : B = b := hpk
                  subst hpk
                  (refine ew2 @t1 @t3 ?_; try with_reducible exact True.intro)
                  refine ⟨by omega, ?_⟩
                  refine PFK_of cc ?_
                  (refine ew2 @t1 @t3 ?_; try with_reducible exact True.intro)
                  refine PFK_of cw ?_
                  (refine ew2 @t1 @t3 ?_; try with_reducible exact True.intro)
                  refine ⟨(k + 1, (x :: xs) ++ [B]), by dsimp only; omega, ⟨by dsimp only; omega, by rw [es]⟩, ?_⟩
                  dsimp only
                  rw [es, ← hE]
                  rw [irows_snoc, show slS 1 (irows (x :: xs ++ [B])) = [some ⟨1, irows (x :: xs ++ [B])⟩] from rfl, show slW (x :: xs ++ [B]).length = .msl 1 0 (xs.length + 1 + 1) by simp [slW]]
                  dsimp only
                  (refine Fg_re [(0, _), (3, _)] (by simp) (by intro p hp; simp only [List.mem_cons, List.not_mem_nil, or_false] at hp; rcases hp with rfl | rfl <;> refine ⟨rfl, ?_⟩ <;> first | exact gcell_still _ | exact ir_still _ | simp [stillR, V.still]) rfl ?_) <;> (try (refine ew ?_; try with_reducible exact True.intro)) <;> (repeat' (first | exact True.intro | omega | exact CanE_ptr rfl (by simp) | refine ⟨?_, ?_⟩ | exact of_eq_true (CanE_nil _ _ _) | exact CanE_of rfl (by simp; done) | exact CanE_of rfl rfl | (refine CanE_msl rfl ?_ rfl; simp [irows]; done) | (refine CanE_msl rfl ?_ rfl; simp [irows]; omega) | (refine CanE_frz ?_ ?_; (focus ((refine ew ?_; try with_reducible exact True.intro); done)); (intro q hq k s0 l0; simp; done))))
            · rw [if_neg (by simp)] at hch2
              rw [hch2] at hbd hcs hC0
              skip
              (refine ew1 @hjc ?_; try with_reducible exact True.intro)
              refine brK_dec (fun hh => absurd hh (by omega)) fun _ => ?_
              (refine ew ?_; try with_reducible exact True.intro)
              rw [← hC]
              have hCl : (y :: ys).length ≤ 10 := by simp only [List.length_cons]; omega
              have hget : ∀ m, m < (y :: ys).length → 1 ≤ (y :: ys).getD m 0 ∧ (y :: ys).getD m 0 ≤ 9 := fun m hm => hcs _ (by rw [List.getD_eq_getElem?_getD, List.getElem?_eq_getElem hm]; exact List.getElem_mem hm)
              have hdr : ∀ m, m < (y :: ys).length → (y :: ys).drop m = (y :: ys).getD m 0 :: (y :: ys).drop (m + 1) := fun m hm => by
                rw [List.drop_eq_getElem_cons hm, List.getD_eq_getElem?_getD, List.getElem?_eq_getElem hm]; rfl
              have h00 := hget 0 (by simp)
              skip
              refine loop_at (fun _ _ => false) (α := Nat × Int) (fun q => ⟨argE [.any, ints last, .any, .any, .any, .ptr 0 0 0, ints R, .msl 1 0 (xs.length + 1), .any, .any, .any, iv q.2, .any, .any, .any, .any, .any, .any, .any, .any, .any, .any, .any, .any, .any, .any, .any, .any, .any, .any, .any, .any, .any, .any, .any, .any, .any, .any, .any, .any, .any, .any, .any, .any, .any, .any, .any, .any, ints (y :: ys), iv ((y :: ys).length : Nat), iv (q.1 : Nat)], [some ⟨100, [gcell G]⟩, some ⟨1, irows (x :: xs)⟩], 0, 0, [], []⟩) (fun q => q.1 ≤ (y :: ys).length ∧ (1 ≤ q.2 ∧ q.2 ≤ 9) ∧ B = pk G ((y :: ys).drop q.1) q.2) (fun q => (y :: ys).length - q.1) rfl (0, (y :: ys).getD 0 0) ?_ ?_ ?_
              · exact ⟨by dsimp only; omega, h00, hbd⟩
              · (refine Fg_re [(0, _), (1, _)] (by simp) (by intro p hp; simp only [List.mem_cons, List.not_mem_nil, or_false] at hp; rcases hp with rfl | rfl <;> refine ⟨rfl, ?_⟩ <;> first | exact gcell_still _ | exact ir_still _ | simp [stillR, V.still]) rfl ?_) <;> (try (refine ew ?_; try with_reducible exact True.intro)) <;> (repeat' (first | exact True.intro | omega | exact CanE_ptr rfl (by simp) | refine ⟨?_, ?_⟩ | exact of_eq_true (CanE_nil _ _ _) | exact CanE_of rfl (by simp; done) | exact CanE_of rfl rfl | (refine CanE_msl rfl ?_ rfl; simp [irows]; done) | (refine CanE_msl rfl ?_ rfl; simp [irows]; omega) | (refine CanE_frz ?_ ?_; (focus ((refine ew ?_; try with_reducible exact True.intro); done)); (intro q hq k s0 l0; simp; done))))
                exact CanE_frzI rfl (by rintro (_ | _ | _) s0 l0 hh <;> simp at hh) rfl
              · rw [hC]
                rintro ⟨m, b⟩ ⟨hm, hb2, hpk⟩
                dsimp only at hm hb2 hpk
                have hget := hget m
                have hdr := hdr m
                (refine ew ?_; try with_reducible exact True.intro)
                refine brK_dec (fun he => ?_) fun he => ?_ <;> (refine ew1 @he ?_; try with_reducible exact True.intro)
                · have hml2 : m < (y :: ys).length := by first | omega | (simp only [List.length_cons]; omega)
                  have hv9 := hget hml2
                  rw [hdr hml2, pk_c] at hpk
                  generalize (y :: ys).getD m 0 = v at hv9 hpk ⊢
                  (refine ew1 @t1 ?_; try with_reducible exact True.intro)
                  refine PFK_of (cdg v (by omega)) ?_
                  (refine ew1 @t1 ?_; try with_reducible exact True.intro)
                  refine PFK_of (cdg b (by omega)) ?_
                  (refine ew1 @t1 ?_; try with_reducible exact True.intro)
                  refine brK_dec (fun hf => ?_) fun hf => ?_ <;> (refine ew1 @hf ?_; try with_reducible exact True.intro)
                  · have hf' : dgI G v < dgI G b := by unfold dgI; omega
                    rw [if_pos hf'] at hpk
                    exact ⟨(m + 1, v), by first | (dsimp only; omega) | (simp only [List.length_cons] at *; omega), ⟨by first | (dsimp only; omega) | (simp only [List.length_cons] at *; omega), by dsimp only; omega, hpk⟩, by (refine Fg_env ?_) <;> (try (refine ew ?_; try with_reducible exact True.intro)) <;> (repeat' (first | refine ⟨?_, ?_⟩ | exact EvV_int (by omega) | exact EvV_of (by simp) | exact EvV_nil _))⟩
                  · have hf' : ¬ dgI G v < dgI G b := by unfold dgI; omega
                    rw [if_neg hf'] at hpk
                    exact ⟨(m + 1, b), by first | (dsimp only; omega) | (simp only [List.length_cons] at *; omega), ⟨by first | (dsimp only; omega) | (simp only [List.length_cons] at *; omega), by dsimp only; omega, hpk⟩, by (refine Fg_env ?_) <;> (try (refine ew ?_; try with_reducible exact True.intro)) <;> (repeat' (first | refine ⟨?_, ?_⟩ | exact EvV_int (by omega) | exact EvV_of (by simp) | exact EvV_nil _))⟩
                · have hme : m = (y :: ys).length := by first | omega | (simp only [List.length_cons] at hm ⊢; omega)
                  rw [hme, List.drop_length] at hpk
                  have hpk : B = b := hpk
                  subst hpk
                  (refine ew2 @t1 @t3 ?_; try with_reducible exact True.intro)
                  refine ⟨by omega, ?_⟩
                  refine PFK_of cc ?_
                  (refine ew2 @t1 @t3 ?_; try with_reducible exact True.intro)
                  refine PFK_of cw ?_
                  (refine ew2 @t1 @t3 ?_; try with_reducible exact True.intro)
                  refine ⟨(k + 1, (x :: xs) ++ [B]), by dsimp only; omega, ⟨by dsimp only; omega, by rw [es]⟩, ?_⟩
                  dsimp only
                  rw [es, ← hE]
                  rw [irows_snoc, show slS 1 (irows (x :: xs ++ [B])) = [some ⟨1, irows (x :: xs ++ [B])⟩] from rfl, show slW (x :: xs ++ [B]).length = .msl 1 0 (xs.length + 1 + 1) by simp [slW]]
                  dsimp only
                  (refine Fg_re [(0, _), (3, _)] (by simp) (by intro p hp; simp only [List.mem_cons, List.not_mem_nil, or_false] at hp; rcases hp with rfl | rfl <;> refine ⟨rfl, ?_⟩ <;> first | exact gcell_still _ | exact ir_still _ | simp [stillR, V.still]) rfl ?_) <;> (try (refine ew ?_; try with_reducible exact True.intro)) <;> (repeat' (first | exact True.intro | omega | exact CanE_ptr rfl (by simp) | refine ⟨?_, ?_⟩ | exact of_eq_true (CanE_nil _ _ _) | exact CanE_of rfl (by simp; done) | exact CanE_of rfl rfl | (refine CanE_msl rfl ?_ rfl; simp [irows]; done) | (refine CanE_msl rfl ?_ rfl; simp [irows]; omega) | (refine CanE_frz ?_ ?_; (focus ((refine ew ?_; try with_reducible exact True.intro); done)); (intro q hq k s0 l0; simp; done))))
    · have hke : k = ns.length := by omega
      rw [hfin hke]
      have hR0 : ¬ ((R.length : Int) > 0) := by omega
      (rcases xs with _ | ⟨x, xs⟩ <;> simp only [List.length_nil, List.length_cons, slW_0, slW_s, slI_nil, slI_cons] at hx ⊢)
      · (refine ew1 @hR0 ?_; try with_reducible exact True.intro)
        exact fin_nil
      · (refine ew1 @hR0 ?_; try with_reducible exact True.intro)
        exact fin_ints (o := 1) (l := x :: xs) rfl
end Go.Ml
end
section
set_option linter.unusedSimpArgs false
set_option linter.unusedVariables false
set_option maxRecDepth 100000
set_option maxHeartbeats 8000000
namespace Go.Ml
def F_laws_hasInt : Fn := ⟨2, 17, [.tmp 4], (.seq (.reg false 0 [oN 4 (.mov (.c (.bool false)))]) (.seq (.seq (.reg false 0 [oN 7 (oV 0), oN 8 (.len (.t 7)), oN 9 (.mov (cI 0))]) (.block 0 (.loop (.seq (.reg false 0 [oN 10 (.bin .lss (.t 9) (.t 8))]) (.seq (.cond (.t 10) .skip (.exit 0)) (.seq (.block 1 (.seq (.reg false 0 [oN 11 (.idx 1 (.t 7) (.t 9)), oN 12 (.load 1 false (.t 11)), oN 6 (oV 12)]) (.seq (.reg false 0 [oN 13 (oV 6), oN 14 (oV 1), oN 15 (.bin .eql (.t 13) (.t 14))]) (.cond (.t 15) (.seq (.reg false 0 [oN 4 (.mov (.c (.bool true)))]) .ret) .skip)))) (.reg false 0 [oN 16 (.bin .add (.t 9) (cI 1)), oN 9 (oV 16)]))))))) (.seq (.reg false 0 [oN 4 (.mov (.c (.bool false)))]) .ret)))⟩
structure D_laws_hasInt (T : Nat → Option Fn) : Prop where
  hT : T 309 = some F_laws_hasInt
def F_laws_FnOrders : Fn := ⟨1, 71, [.tmp 2], (.seq (.reg false 0 [oN 2 (.mov (.c (.bool false)))]) (.seq (.seq (.reg false 0 [oN 11 (oV 0), oN 12 (.len (.t 11)), oN 13 (.bin .gtr (.t 12) (cI 1048576))]) (.cond (.t 13) (.seq (.reg false 0 [oN 2 (.mov (.c (.bool true)))]) .ret) .skip)) (.seq (.reg false 0 [oN 14 (oV 0), oN 15 (.call 171 [(.t 14)]), oN 3 (oV 15)]) (.seq (.reg false 0 [oN 16 (oV 0), oN 17 (.call 308 [(.t 16)]), oN 4 (oV 17)]) (.seq (.reg false 0 [oN 18 (oV 3), oN 19 (oV 4), oN 20 (.call 300 [(.t 18), (.t 19)]), oN 5 (oV 20)]) (.seq (.reg false 0 [oN 21 (oV 0), oN 22 (oV 3), oN 23 (.call 271 [(.t 21), (.t 22)]), oN 6 (oV 23)]) (.seq (.reg false 0 [oN 24 (oV 3), oN 25 (.call 293 [(.t 24)]), oN 7 (oV 25)]) (.seq (.reg false 0 [oN 8 (.mov (.c (.bool false)))]) (.seq (.seq (.reg false 0 [oN 26 (oV 5), oN 27 (.len (.t 26)), oN 28 (.mov (cI 0))]) (.block 0 (.loop (.seq (.reg false 0 [oN 29 (.bin .lss (.t 28) (.t 27))]) (.seq (.cond (.t 29) .skip (.exit 0)) (.seq (.block 1 (.seq (.reg false 0 [oN 30 (.idx 1 (.t 26) (.t 28)), oN 31 (.load 1 false (.t 30)), oN 10 (oV 31)]) (.seq (.seq (.reg false 0 [oN 32 (oV 8), oN 33 (oV 32), oG 33 true 34 (oV 4), oG 33 true 35 (oV 10), oG 33 true 36 (.call 309 [(.t 34), (.t 35)]), oG 33 true 37 (.un .not (.t 36)), oN 38 (.pick (.t 33) (.t 37) (.c (.bool false)))]) (.cond (.t 38) (.seq (.reg false 0 [oN 2 (.mov (.c (.bool false)))]) .ret) .skip)) (.reg false 0 [oN 39 (oV 8), oN 40 (oV 39), oG 40 false 41 (oV 4), oG 40 false 42 (oV 10), oG 40 false 43 (.call 309 [(.t 41), (.t 42)]), oN 44 (.pick (.t 40) (.c (.bool true)) (.t 43)), oN 8 (oV 44)])))) (.reg false 0 [oN 45 (.bin .add (.t 28) (cI 1)), oN 28 (oV 45)]))))))) (.seq (.seq (.reg false 0 [oN 46 (oV 3), oN 47 (oV 5), oN 48 (.call 221 [(.t 46), (.t 47)]), oN 49 (.un .not (.t 48)), oN 50 (oV 49), oG 50 false 51 (oV 5), oG 50 false 52 (.len (.t 51)), oG 50 false 53 (.bin .eql (.t 52) (cI 0)), oN 54 (.pick (.t 50) (.c (.bool true)) (.t 53))]) (.cond (.t 54) (.seq (.reg false 0 [oN 2 (.mov (.c (.bool false)))]) .ret) .skip)) (.seq (.reg false 0 [oN 55 (oV 7), oN 56 (.bin .lss (.t 55) (cI 0)), oN 57 (oV 56), oG 57 false 58 (oV 7), oG 57 false 59 (oV 3), oG 57 false 60 (oV 5), oG 57 false 61 (.call 291 [(.t 59), (.t 60)]), oG 57 false 62 (.bin .leq (.t 58) (.t 61)), oG 57 false 63 (oV 62), oG 63 true 64 (oV 7), oG 63 true 65 (oV 3), oG 63 true 66 (oV 6), oG 63 true 67 (.call 291 [(.t 65), (.t 66)]), oG 63 true 68 (.bin .leq (.t 64) (.t 67)), oG 57 false 69 (.pick (.t 63) (.t 68) (.c (.bool false))), oN 70 (.pick (.t 57) (.c (.bool true)) (.t 69)), oN 2 (oV 70)]) .ret)))))))))))⟩
structure D_laws_FnOrders (T : Nat → Option Fn) : Prop where
  hT : T 287 = some F_laws_FnOrders
  d_spec_MakeSet : D_spec_MakeSet T
  d_impl_IsOrder : D_impl_IsOrder T
  d_spec_MakeOrder : D_spec_MakeOrder T
  d_impl_FillCount : D_impl_FillCount T
  d_impl_BestFill : D_impl_BestFill T
  d_impl_MinDegreeOrder : D_impl_MinDegreeOrder T
  d_spec_MakeKeep : D_spec_MakeKeep T
  d_laws_hasInt : D_laws_hasInt T
theorem c_lhasInt {T : Nat → Option Fn} (h : D_laws_hasInt T) {l : List Int} {n : Int} (hl : l.length ≤ 9223372036854775807 := by first | omega | assumption | (simp; omega)) : PF T 309 [ints l, iv n] (.bool (decide (n ∈ l))) := by
  refine pf_end (fun _ _ => false) h.hT rfl rfl ?_
  dsimp only [F_laws_hasInt, oN, oS, oG, oK, oA, oH, oV, cI]
  (refine ev ?_; try with_reducible exact True.intro)
  refine loop_at (fun _ _ => false) (α := Nat) (fun i => ⟨argE [ints l, iv n, .any, .any, .bool false, .any, .any, ints l, iv (l.length : Nat), iv (i : Nat)], [], 0, 0, [], []⟩) (fun i => i ≤ l.length ∧ ∀ j, j < i → l.getD j 0 ≠ n) (fun i => l.length - i) rfl 0 ?_ ?_ ?_
  · exact ⟨by omega, by intro j hj; omega⟩
  · first | ((refine Fg_env ?_) <;> (try (refine ev ?_; try with_reducible exact True.intro)) <;> (repeat' (first | refine ⟨?_, ?_⟩ | exact EvV_int (by omega) | exact EvV_of (by simp) | exact EvV_nil _)); done) | ((refine Fg_re [] (by simp) (by intro p hp; cases hp) rfl ?_) <;> (try (refine ev ?_; try with_reducible exact True.intro)) <;> (repeat' (first | exact True.intro | omega | exact CanE_ptr rfl (by simp) | refine ⟨?_, ?_⟩ | exact of_eq_true (CanE_nil _ _ _) | exact CanE_of rfl (by simp; done) | exact CanE_of rfl rfl | (refine CanE_msl rfl ?_ rfl; simp [irows]; done) | (refine CanE_msl rfl ?_ rfl; simp [irows]; omega) | (refine CanE_frz ?_ ?_; (focus ((refine ev ?_; try with_reducible exact True.intro); done)); (intro q hq k s0 l0; simp; done)))); done)
  · rintro i ⟨hi, hj⟩
    (refine ev ?_; try with_reducible exact True.intro)
    refine brK_dec (fun hc => ?_) fun hc => ?_ <;> (refine ev1 @hc ?_; try with_reducible exact True.intro)
    · have hil : i < l.length := by omega
      by_cases he : l.getD i 0 = n
      · (refine ev1 @he ?_; try with_reducible exact True.intro)
        have : n ∈ l := by rw [← he, List.getD_eq_getElem?_getD, List.getElem?_eq_getElem hil]; exact List.getElem_mem hil
        rw [decide_eq_true this]
      · (refine ev1 @he ?_; try with_reducible exact True.intro)
        refine ⟨i + 1, by omega, ⟨by omega, fun j hj' => ?_⟩, by first | ((refine Fg_env ?_) <;> (try (refine ev ?_; try with_reducible exact True.intro)) <;> (repeat' (first | refine ⟨?_, ?_⟩ | exact EvV_int (by omega) | exact EvV_of (by simp) | exact EvV_nil _)); done) | ((refine Fg_re [] (by simp) (by intro p hp; cases hp) rfl ?_) <;> (try (refine ev ?_; try with_reducible exact True.intro)) <;> (repeat' (first | exact True.intro | omega | exact CanE_ptr rfl (by simp) | refine ⟨?_, ?_⟩ | exact of_eq_true (CanE_nil _ _ _) | exact CanE_of rfl (by simp; done) | exact CanE_of rfl rfl | (refine CanE_msl rfl ?_ rfl; simp [irows]; done) | (refine CanE_msl rfl ?_ rfl; simp [irows]; omega) | (refine CanE_frz ?_ ?_; (focus ((refine ev ?_; try with_reducible exact True.intro); done)); (intro q hq k s0 l0; simp; done)))); done)⟩
        by_cases e : j = i
        · subst e; exact he
        · exact hj j (by omega)
    · have : n ∉ l := by
        intro hm
        obtain ⟨j, hj'⟩ := List.mem_iff_getElem?.1 hm
        have hlt := (List.getElem?_eq_some_iff.1 hj').1
        refine hj j (by omega) ?_
        rw [List.getD_eq_getElem?_getD, hj']; rfl
      rw [decide_eq_false this]
def lateL (o K : List Int) : Nat → Bool
  | 0 => false
  | k + 1 => lateL o K k || decide (o.getD k 0 ∈ K)
theorem lateL_t {o K : List Int} : ∀ {k : Nat}, lateL o K k = true → ∃ i, i < k ∧ o.getD i 0 ∈ K
  | k + 1, h => by
    unfold lateL at h
    simp only [Bool.or_eq_true, decide_eq_true_eq] at h
    rcases h with h | h
    · obtain ⟨i, h1, h2⟩ := lateL_t h
      exact ⟨i, by omega, h2⟩
    · exact ⟨k, by omega, h⟩
theorem c_lawFnOrders {T : Nat → Option Fn} (h : D_laws_FnOrders T) (x : List UInt8) (wx : x.length ≤ 9223372036854775807) : PF T 287 [bytesV x] (.bool true) := by
  refine pf_endL (fun _ _ => false) h.hT rfl rfl ?_
  dsimp only [F_laws_FnOrders, oN, oS, oG, oK, oA, oH, oV, cI]
  (refine ev ?_; try with_reducible exact True.intro)
  refine brK_dec (fun hb => ?_) fun hb => ?_
  · (refine ev ?_; try with_reducible exact True.intro)
    exact laxV_refl _
  have hx : x.length ≤ 1048576 := by omega
  obtain ⟨n, S, hS, cm⟩ := c_MakeSet h.d_spec_MakeSet hx
  obtain ⟨K, hK, ck⟩ := c_MakeKeep h.d_spec_MakeKeep hx
  have hw := hS.wf
  have hlen := hS.len
  have hsl : S.length ≤ 1048576 := by omega
  obtain ⟨o, ho, co⟩ := r_MakeOrder h.d_spec_MakeOrder hx hS.ok hw hsl (draw_nodes hS)
  have c1 := (po_iMinDegreeOrder h.d_impl_MinDegreeOrder (l := S) (last := K) hw (by omega)).frz (dep_ints _ _)
  have c2 := c_iBestFill h.d_impl_BestFill (l := S) hw hsl
  have h1 := mdV_ord (last := K) hS.ok
  have h2 := @mdV_late S K hS.ok
  have hl1 := mdV_len S K
  have hne : 1 ≤ (mdV S K).length := by
    have := (of_decide_eq_true h1 : ordP S (mdV S K)).2.1
    have := draw_nodes hS
    omega
  have b1 := best_le h1
  have b2 := best_le ho
  have hol := ord_len ho
  have c3 := c_iFillCount h.d_impl_FillCount (l := S) (o := o) hw (by omega)
  have c4 := c_iFillCount h.d_impl_FillCount (l := S) (o := mdV S K) hw (by omega)
  have c5 := c_iIsOrder h.d_impl_IsOrder (l := S) (o := mdV S K) hw (by omega)
  rw [h1] at c5
  clear h1 ho hS
  generalize mdV S K = a at *
  generalize bestV S = best at *
  generalize fcV S o = f1 at *
  generalize fcV S a = f2 at *
  (refine ev ?_; try with_reducible exact True.intro)
  refine PFK_of cm ?_
  (refine ev ?_; try with_reducible exact True.intro)
  refine PFK_of ck ?_
  (refine ev ?_; try with_reducible exact True.intro)
  refine PFK_of c1 ?_
  (refine ev ?_; try with_reducible exact True.intro)
  refine PFK_of co ?_
  (refine ev ?_; try with_reducible exact True.intro)
  refine PFK_of c2 ?_
  (refine ev ?_; try with_reducible exact True.intro)
  refine loop_at (fun _ _ => false) (α := Nat) (fun i => ⟨argE [.any, .any, .bool false, lksV S, ints K, ints a, ints o, iv best, .bool (lateL a K i), .any, .any, .any, .any, .any, .any, .any, .any, .any, .any, .any, .any, .any, .any, .any, .any, .any, ints a, iv (a.length : Nat), iv (i : Nat)], [], 0, 0, [], []⟩) (fun i => i ≤ a.length) (fun i => a.length - i) rfl 0 ?_ ?_ ?_
  · exact Nat.zero_le _
  · simp only [show lateL a K 0 = false from rfl]
    first | ((refine Fg_env ?_) <;> (try (refine ev ?_; try with_reducible exact True.intro)) <;> (repeat' (first | refine ⟨?_, ?_⟩ | exact EvV_int (by omega) | exact EvV_of (by simp) | exact EvV_nil _)); done) | ((refine Fg_re [] (by simp) (by intro p hp; cases hp) rfl ?_) <;> (try (refine ev ?_; try with_reducible exact True.intro)) <;> (repeat' (first | exact True.intro | omega | exact CanE_ptr rfl (by simp) | refine ⟨?_, ?_⟩ | exact of_eq_true (CanE_nil _ _ _) | exact CanE_of rfl (by simp; done) | exact CanE_of rfl rfl | (refine CanE_msl rfl ?_ rfl; simp [irows]; done) | (refine CanE_msl rfl ?_ rfl; simp [irows]; omega) | (refine CanE_frz ?_ ?_; (focus ((refine ev ?_; try with_reducible exact True.intro); done)); (intro q hq k s0 l0; simp; done)))); done)
  · rintro i hi
    (refine ev ?_; try with_reducible exact True.intro)
    refine brK_dec (fun hc => ?_) fun hc => ?_ <;> (refine ev1 @hc ?_; try with_reducible exact True.intro)
    · have hil : i < a.length := by omega
      have ch := c_lhasInt h.d_laws_hasInt (l := K) (n := a.getD i 0) (by omega)
      have es : lateL a K (i + 1) = (lateL a K i || decide (a.getD i 0 ∈ K)) := rfl
      have hlt : lateL a K i = true → a.getD i 0 ∈ K := fun hl => by
        obtain ⟨j, hj, hjk⟩ := lateL_t hl
        exact h2 hj hil hjk
      cases hl : lateL a K i
      · rw [hl] at es
        (refine ev1 @hil ?_; try with_reducible exact True.intro)
        refine PFK_of ch ?_
        (refine ev ?_; try with_reducible exact True.intro)
        refine ⟨i + 1, by omega, by omega, by rw [es]; first | ((refine Fg_env ?_) <;> (try (refine ev ?_; try with_reducible exact True.intro)) <;> (repeat' (first | refine ⟨?_, ?_⟩ | exact EvV_int (by omega) | exact EvV_of (by simp) | exact EvV_nil _)); done) | ((refine Fg_re [] (by simp) (by intro p hp; cases hp) rfl ?_) <;> (try (refine ev ?_; try with_reducible exact True.intro)) <;> (repeat' (first | exact True.intro | omega | exact CanE_ptr rfl (by simp) | refine ⟨?_, ?_⟩ | exact of_eq_true (CanE_nil _ _ _) | exact CanE_of rfl (by simp; done) | exact CanE_of rfl rfl | (refine CanE_msl rfl ?_ rfl; simp [irows]; done) | (refine CanE_msl rfl ?_ rfl; simp [irows]; omega) | (refine CanE_frz ?_ ?_; (focus ((refine ev ?_; try with_reducible exact True.intro); done)); (intro q hq k s0 l0; simp; done)))); done)⟩
      · rw [hl, Bool.true_or] at es
        rw [decide_eq_true (hlt hl)] at ch
        (refine ev1 @hil ?_; try with_reducible exact True.intro)
        refine PFK_of ch ?_
        (refine ev ?_; try with_reducible exact True.intro)
        refine ⟨i + 1, by omega, by omega, by rw [es]; first | ((refine Fg_env ?_) <;> (try (refine ev ?_; try with_reducible exact True.intro)) <;> (repeat' (first | refine ⟨?_, ?_⟩ | exact EvV_int (by omega) | exact EvV_of (by simp) | exact EvV_nil _)); done) | ((refine Fg_re [] (by simp) (by intro p hp; cases hp) rfl ?_) <;> (try (refine ev ?_; try with_reducible exact True.intro)) <;> (repeat' (first | exact True.intro | omega | exact CanE_ptr rfl (by simp) | refine ⟨?_, ?_⟩ | exact of_eq_true (CanE_nil _ _ _) | exact CanE_of rfl (by simp; done) | exact CanE_of rfl rfl | (refine CanE_msl rfl ?_ rfl; simp [irows]; done) | (refine CanE_msl rfl ?_ rfl; simp [irows]; omega) | (refine CanE_frz ?_ ?_; (focus ((refine ev ?_; try with_reducible exact True.intro); done)); (intro q hq k s0 l0; simp; done)))); done)⟩
    · refine PFK_of c5 ?_
      have hne2 : ¬ ((a.length : Nat) : Int) = 0 := by omega
      (refine ev1 @hne2 ?_; try with_reducible exact True.intro)
      by_cases hbn : best < 0
      · (refine ev2 @hbn @hne2 ?_; try with_reducible exact True.intro)
        exact laxV_refl _
      · have l1 : best ≤ f1 := b2.resolve_left hbn
        have l2 : best ≤ f2 := b1.resolve_left hbn
        (refine ev2 @hbn @hne2 ?_; try with_reducible exact True.intro)
        refine PFK_of c4 ?_
        (refine ev3 @hbn @hne2 @l2 ?_; try with_reducible exact True.intro)
        refine PFK_of c3 ?_
        (refine ev4 @hbn @hne2 @l1 @l2 ?_; try with_reducible exact True.intro)
        exact laxV_refl _
end Go.Ml
end
section
set_option linter.unusedSimpArgs false
namespace Go.Ml
def OutOk (P : Program) (fid : Nat) (o : OutF) : Prop :=
  ∀ args σ r σ', o.sem args σ r σ' → ∀ w M D (vals : Array Value), rdL w D (XS M D) args vals.toList → SRel w D M σ → Calls P fid vals w (Post M D w σ.length r σ')
def Fits (P : Program) (ν : Nat → Option Nat) (T : Nat → Option Fn) : Prop :=
  ∀ fid f F, ν fid = some f → T f = some F → (∃ fn, P.funcs[fid]? = some fn ∧ trFn P ν fn = some F) ∨ ∃ o, F.body = .lib o ∧ OutOk P fid o
theorem no_lib {T : Nat → Option Fn} {j : Job} {x : Out} (h : Run T j x) : ∀ o st, j ≠ .code (.lib o) st := by
  induction h with
  | gc ρ hn hρ h ih => intro o st e; cases e; exact ih o _ rfl
  | forget he ho hk h ih => intro o st e; cases e; exact ih o _ rfl
  | re W h h' ih => intro o st e; cases e; exact ih o _ rfl
  | _ => intro o st e; cases e
theorem trC_lib {P : Program} {ν : Nat → Option Nat} {nt : Nat} {o : OutF} : ∀ c : Code, trC P ν nt c ≠ some (.lib o) := by
  intro c h
  unfold trC at h
  cases c <;> simp at h
  all_goals (try (split at h <;> simp at h))
theorem trFn_lib {P : Program} {ν : Nat → Option Nat} {fn : Func} {F : Fn} {o : OutF} (h : trFn P ν fn = some F) (hb : F.body = .lib o) : False := by
  unfold trFn at h
  split at h <;> first | (cases h; done) | skip
  split at h <;> first | (cases h; done) | skip
  rename_i b rs' hb' hrs'
  split at h <;> first | (cases h; done) | skip
  simp only [Option.some.injEq] at h
  subst h
  simp only [] at hb
  subst hb
  exact trC_lib _ hb'
section
variable {P : Program} {ν : Nat → Option Nat} {T : Nat → Option Fn}
theorem okK_cons {m : Nat} {x : OpI} {l : List OpI} (h : okK m (x :: l) = true) : okK m l = true ∧ ∀ y ∈ l, y.i.makes = true → y.k ≠ x.k ∧ y.k < m := by
  have hm : ∀ (l : List OpI), okK m l = true → ∀ y ∈ l, y.i.makes = true → y.k < m := by
    intro l
    induction l with
    | nil => intro _ y hy; cases hy
    | cons z l ih =>
      intro h y hy hmk
      simp only [okK, Bool.and_eq_true] at h
      rcases List.mem_cons.1 hy with rfl | hy
      · have := h.1
        rw [if_pos hmk] at this
        simp only [Bool.and_eq_true, decide_eq_true_eq] at this
        exact this.1
      · exact ih h.2 y hy hmk
  simp only [okK, Bool.and_eq_true] at h
  refine ⟨h.2, fun y hy hmk => ⟨?_, hm l h.2 y hy hmk⟩⟩
  by_cases hx : x.i.makes = true
  · have := h.1
    rw [if_pos hx] at this
    simp only [Bool.and_eq_true, decide_eq_true_eq, List.all_eq_true] at this
    have := this.2 y hy
    simpa [hmk] using this
  · have := h.1
    rw [if_neg hx] at this
    simp only [beq_iff_eq] at this
    have := hm l h.2 y hy hmk
    omega
theorem okK_lt {m : Nat} : ∀ (l : List OpI), okK m l = true → ∀ x ∈ l, x.i.makes = true → x.k < m
  | [], _, y, hy, _ => by cases hy
  | z :: l, h, y, hy, hmk => by
    simp only [okK, Bool.and_eq_true] at h
    rcases List.mem_cons.1 hy with rfl | hy
    · have := h.1
      rw [if_pos hmk] at this
      simp only [Bool.and_eq_true, decide_eq_true_eq] at this
      exact this.1
    · exact okK_lt l h.2 y hy hmk
theorem okK_ne {m : Nat} : ∀ (l : List OpI), okK m l = true → ∀ (i j : Nat) (x y : OpI), l[i]? = some x → l[j]? = some y → i ≠ j → x.i.makes = true → x.k ≠ y.k
  | [], _, i, j, x, y, hx, _, _, _ => by simp at hx
  | z :: l, h, i, j, x, y, hx, hy, hij, hmk => by
    obtain ⟨k1, k2⟩ := okK_cons h
    cases i with
    | zero =>
      simp at hx; subst hx
      cases j with
      | zero => exact absurd rfl hij
      | succ j =>
        have hy' : y ∈ l := List.mem_of_getElem? (by simpa using hy)
        by_cases hmy : y.i.makes = true
        · exact fun e => (k2 y hy' hmy).1 e.symm
        · -- one that makes none has the number m
          have hm : ∀ (l : List OpI), okK m l = true → ∀ y ∈ l, y.i.makes ≠ true → y.k = m := by
            intro l
            induction l with
            | nil => intro _ y hy; cases hy
            | cons z l ih =>
              intro h y hy hn
              simp only [okK, Bool.and_eq_true] at h
              rcases List.mem_cons.1 hy with rfl | hy
              · have := h.1
                rw [if_neg hn] at this
                simpa using this
              · exact ih h.2 y hy hn
          have := hm l k1 y hy' hmy
          have h3 := okK_lt _ h z (by simp) hmk
          omega
    | succ i =>
      have hx' : x ∈ l := List.mem_of_getElem? (by simpa using hx)
      cases j with
      | zero =>
        simp at hy; subst hy
        exact (k2 x hx' hmk).1
      | succ j => exact okK_ne l k1 i j x y (by simpa using hx) (by simpa using hy) (by omega) hmk
theorem opsOk_cons {o : OpI} {l : List OpI} {st st1 st2 : St} (h1 : OpOk P ν o st st1) (h2 : OpsOk P ν l st1 st2) : OpsOk P ν (o :: l) st st2 := by
  obtain ⟨a1, a2, a3, a4⟩ := h1
  obtain ⟨b1, b2, b3, b4⟩ := h2
  refine ⟨b1.trans a1, b2.trans a2, Nat.le_trans a3 b3, ?_⟩
  intro ops dr nt m k rest htr hk M w0 D0 D a w hs hid Q hQ
  cases rest with
  | nil => simp [trOps] at htr
  | cons r rest =>
    simp only [trOps] at htr
    split at htr <;> first | (cases htr; done) | skip
    rename_i x hx
    split at htr <;> first | (cases htr; done) | skip
    rename_i l' hl'
    simp only [Option.some.injEq, List.cons.injEq] at htr
    obtain ⟨rfl, rfl⟩ := htr
    obtain ⟨k1, k2⟩ := okK_cons hk
    have key := a4 ops dr nt m k r hx M w0 D0 D a w hs (hid x (by simp)) (wpList P ops Q rest) Q (fun D' a' w' hs' hun => by
      refine b4 ops dr nt m _ rest hl' k1 M w0 D0 D' a' w' hs' (fun y hy hmk => ?_) Q hQ
      rw [a1]
      obtain ⟨e1, e2⟩ := hid y (by simp [hy]) hmk
      exact ⟨Nat.lt_of_lt_of_le e1 a3, hun _ (Nat.le_add_right _ _) e1 e2 (fun h => (k2 y hy hmk).1 (by omega))⟩)
    unfold wpList
    split
    · rename_i hw; rw [if_pos hw] at key; exact .inl key
    · rename_i hw; rw [if_neg hw] at key; exact key
theorem trC_inv {nt : Nat} {cc : Code} {c : C} (h : trC P ν nt cc = some c) : match c with
    | .skip => cc = .skip
    | .reg d m l => ∃ id ops, cc = .region id ops d ∧ trOps P ν ops d nt m 0 ops.toList = some l
    | .seq x y => ∃ a b, cc = .seq a b ∧ trC P ν nt a = some x ∧ trC P ν nt b = some y
    | .cond s x y => ∃ o a b, cc = .cond o a b ∧ trS o = some s ∧ trC P ν nt a = some x ∧ trC P ν nt b = some y
    | .block id x => ∃ a, cc = .block id a ∧ trC P ν nt a = some x
    | .loop x => ∃ a, cc = .loop a ∧ trC P ν nt a = some x
    | .exit id => cc = .exit id
    | .ret => cc = .ret
    | .lib _ => False := by
  cases cc with
  | skip => simp only [trC, Option.some.injEq] at h; subst h; rfl
  | region id ops d =>
    simp only [trC, Option.map_eq_some_iff] at h
    obtain ⟨l, h1, rfl⟩ := h
    exact ⟨id, ops, rfl, h1⟩
  | seq a b =>
    simp only [trC] at h
    split at h <;> first | (cases h; done) | skip
    rename_i x y h1 h2
    simp only [Option.some.injEq] at h; subst h
    exact ⟨a, b, rfl, h1, h2⟩
  | cond o a b =>
    simp only [trC] at h
    split at h <;> first | (cases h; done) | skip
    rename_i s x y h1 h2 h3
    simp only [Option.some.injEq] at h; subst h
    exact ⟨o, a, b, rfl, h1, h2, h3⟩
  | block id a =>
    simp only [trC, Option.map_eq_some_iff] at h
    obtain ⟨x, h1, rfl⟩ := h
    exact ⟨a, rfl, h1⟩
  | loop a =>
    simp only [trC, Option.map_eq_some_iff] at h
    obtain ⟨x, h1, rfl⟩ := h
    exact ⟨a, rfl, h1⟩
  | exit id => simp only [trC, Option.some.injEq] at h; subst h; rfl
  | ret => simp only [trC, Option.some.injEq] at h; subst h; rfl
  | _ => simp [trC] at h
theorem loop_of {c : C} {e : Ex} {st st' : St} (hk : st'.keep = st.keep) (h : LoopOk P ν c e st st') : CodeOk P ν (.loop c) e st st' := by
  refine ⟨hk, ?_⟩
  intro nt cc htr M w0 D0 D a w hs Q hQ
  obtain ⟨cb, rfl, hb⟩ := trC_inv htr
  intro b k cs
  obtain ⟨x, a', w', q, harr⟩ := h nt cb hb M w0 D0 D a w hs Q hQ b k cs
  exact ⟨x, a', w', q, .of_steps (.one step_loop) harr⟩
theorem exOf_ne {e : Ex} (h : e ≠ .normal) : exOf e ≠ .normal := by cases e <;> simp [exOf] at h ⊢
theorem then_of {next : Act → World → Prop} {Q : Exit → Act → World → Prop} {e : Ex} (h : e ≠ .normal) {a : Act} {w : World} (hq : Q (exOf e) a w) : Exit.then next Q (exOf e) a w := by
  cases e <;> first | (simp at h; done) | exact hq
def getRes (tmps : Array Value) : ResultVar → Sem Value
  | .tmp t => pure (tmps.getD t undef)
  | .cell q t => do loadVar t (← asAddr (tmps.getD q undef))
theorem results_eq (fn : Func) (tmps : Array Value) : results fn tmps = (do let vs ← fn.results.mapM (getRes tmps); pure (if h : vs.size = 1 then vs[0] else .tuple vs)) := rfl
theorem fnOk_lib (hT : Fits P ν T) {f : Nat} {args : List V} {σ : Store} {F : Fn} {o : OutF} {r : V} {σ' : Store} (hf : T f = some F) (hb : F.body = .lib o) (h : o.sem args σ r σ') : FnOk P ν f args σ r σ' := by
  intro fid hfid w M D vals hv hS
  rcases hT fid f F hfid hf with ⟨fn, hfn, htr⟩ | ⟨o', e, hO⟩
  · exact (trFn_lib htr hb).elim
  · rw [hb] at e
    cases e
    exact hO args σ r σ' h w M D vals hv hS
theorem fnOk_fn (hT : Fits P ν T) {f : Nat} {args : List V} {σ : Store} {F : Fn} {e : Ex} {st' : St} {rs : List V} (hf : T f = some F) (hl : args.length = F.nargs) (hnl : ∀ o, F.body ≠ .lib o)
    (ih : CodeOk P ν F.body e (St.enter args σ) st') (he : e = .normal ∨ e = .ret) (hr : F.res.mapM (Res.get st') = some rs) : FnOk P ν f args σ (packRes rs) st'.objs := by
  intro fid hfid w M D vals hv hS
  rcases hT fid f F hfid hf with ⟨fn, hfn, htr⟩ | ⟨o, e, _⟩
  case inr => exact (hnl o e).elim
  unfold trFn at htr
  split at htr <;> first | (cases htr; done) | skip
  rename_i body hbody
  split at htr <;> first | (cases htr; done) | skip
  rename_i b rs' hb hrs'
  split at htr <;> first | (cases htr; done) | skip
  rename_i hle
  simp only [Option.some.injEq] at htr; subst htr
  have hvl : vals.size = args.length := by simpa using (rdL_length _ _ hv).symm
  refine calls_of_wp hfn hbody ?_
  have hs0 : SR fn.ntmps M w D (St.enter args σ) D { tmps := vals ++ Array.replicate (fn.ntmps - vals.size) undef, defers := [] } w := by
    refine ⟨?_, ?_, rfl, hS, Gr.refl _ _, fun o d h => .inl ⟨o, d, h, rfl⟩, fun o _ => DSle.refl _⟩
    · intro t
      simp only [St.enter]
      by_cases ht : t < args.length
      · obtain ⟨y, h1, h2⟩ := rdL_get _ _ hv t args[t] (by simp [ht])
        have e1 : argE args t = args[t] := by simp [argE, ht]
        rw [e1]
        have e2 : (vals ++ Array.replicate (fn.ntmps - vals.size) undef).getD t undef = y := by
          rw [Array.getD_eq_getD_getElem?, Array.getElem?_append_left (by omega)]
          rw [← Array.getElem?_toList, h1]; rfl
        rw [e2]; exact h2
      · have e1 : argE args t = .any := by simp [argE, List.getD, List.getElem?_eq_none (Nat.le_of_not_lt ht)]
        rw [e1]; simp only [rd]
    · simp only [Array.size_append, Array.size_replicate]; simp only [] at hl; omega
  refine ih.2 fn.ntmps body hb M w D D _ w hs0 _ ?_
  intro D' a' w' hs'
  have hres : ∃ v, (results fn a'.tmps).run P w' = .ok v w' ∧ rd w' D' (XS M D') (packRes rs) v := by
    have hlist : ∀ (vars : List ResultVar) (rl : List Res) (vl : List V), vars.mapM (trRes P) = some rl → rl.mapM (Res.get st') = some vl →
        ∃ ys : List Value, (vars.mapM (getRes a'.tmps)).run P w' = .ok ys w' ∧ rdL w' D' (XS M D') vl ys := by
      intro vars
      induction vars with
      | nil => intro rl vl h1 h2; simp at h1; subst h1; simp at h2; subst h2; exact ⟨[], by simp, by simp [rdL]⟩
      | cons x vars ihv =>
        intro rl vl h1 h2
        simp only [List.mapM_cons, Option.pure_def, Option.bind_eq_bind, Option.bind_eq_some_iff, Option.some.injEq] at h1
        obtain ⟨r, hr1, rl', hr2, rfl⟩ := h1
        simp only [List.mapM_cons, Option.pure_def, Option.bind_eq_bind, Option.bind_eq_some_iff, Option.some.injEq] at h2
        obtain ⟨z, hz1, vl', hz2, rfl⟩ := h2
        obtain ⟨ys, k1, k2⟩ := ihv rl' vl' hr2 hz2
        cases x with
        | tmp t =>
          simp only [trRes, Option.some.injEq] at hr1; subst hr1
          simp only [Res.get, Option.some.injEq] at hz1; subst hz1
          refine ⟨a'.tmps.getD t undef :: ys, ?_, by simp only [rdL]; exact ⟨_, _, rfl, hs'.env t, k2⟩⟩
          have hg : (getRes a'.tmps (.tmp t)).run P w' = .ok (a'.tmps.getD t undef) w' := rfl
          simp only [List.mapM_cons, Sem.run_bind, Sem.run_pure, Result.andThen_ok, k1, hg]
        | cell q t =>
          simp only [trRes, Option.map_eq_some_iff] at hr1
          obtain ⟨⟨n, g⟩, hg, rfl⟩ := hr1
          simp only [Res.get] at hz1
          split at hz1 <;> first | (cases hz1; done) | skip
          rename_i row off hrow
          obtain ⟨u, j1, j2⟩ := run_load_agg hs'.store hg hrow (hs'.env q) hz1
          obtain ⟨bl, oo, hptr, _⟩ := rowAt_rd hs'.store hrow (hs'.env q)
          refine ⟨u :: ys, ?_, by simp only [rdL]; exact ⟨_, _, rfl, j2, k2⟩⟩
          have j1' : (loadVar t ⟨bl, oo + off, none⟩).run P w' = .ok u w' := by
            rw [hptr] at j1
            simpa [Instr.loadAt, Instr.sureAddr] using j1
          have hg : (getRes a'.tmps (.cell q t)).run P w' = .ok u w' := by
            simp only [getRes, hptr, asAddr, Sem.run_bind, Sem.run_pure, Result.andThen_ok, j1']
          simp only [List.mapM_cons, Sem.run_bind, Sem.run_pure, Result.andThen_ok, k1, hg]
    obtain ⟨ys, k1, k2⟩ := hlist fn.results.toList rs' rs hrs' hr
    refine ⟨if h : ys.toArray.size = 1 then ys.toArray[0] else .tuple ys.toArray, ?_, ?_⟩
    · have : (fn.results.mapM (getRes a'.tmps)).run P w' = .ok ys.toArray w' := by
        rw [← Array.toArray_toList (xs := fn.results), List.mapM_toArray, Sem.run_map, k1]; rfl
      rw [results_eq]
      simp only [Sem.run_bind, this, Result.andThen_ok, Sem.run_pure]
    · have hlen := rdL_length _ _ k2
      have gen : ∀ (rs : List V) (ys : List Value), rdL w' D' (XS M D') rs ys → rs.length = ys.length → rd w' D' (XS M D') (packRes rs) (if h : ys.toArray.size = 1 then ys.toArray[0] else .tuple ys.toArray) := by
        intro rs ys h hl
        cases rs with
        | nil =>
          cases ys with
          | nil => simp only [packRes]; rw [dif_neg (by simp)]; simp only [rd]; exact ⟨_, rfl, h⟩
          | cons y ys => simp at hl
        | cons x xs =>
          cases ys with
          | nil => simp at hl
          | cons y ys =>
            cases xs with
            | nil =>
              cases ys with
              | nil =>
                simp only [rdL] at h
                obtain ⟨y', ys', h0, h1, h2⟩ := h
                cases h0
                simpa [packRes] using h1
              | cons y' ys => simp at hl
            | cons x' xs =>
              cases ys with
              | nil => simp at hl
              | cons y' ys =>
                simp only [packRes]
                rw [dif_neg (by simp)]
                simp only [rd]
                exact ⟨_, rfl, h⟩
      exact gen rs ys k2 hlen
  obtain ⟨v, hv1, hv2⟩ := hres
  have hfin : bodyPost P fn (Post M D w σ.length (packRes rs) st'.objs) .ret a' w' :=
    ⟨hs'.df, v, hv1, v, D', rfl, hv2, hs'.store, hs'.gr, hs'.fr, fun o ho => hs'.kp o (by rw [ih.1]; exact ho)⟩
  rcases he with rfl | rfl <;> exact hfin
theorem trOps_get {ops : Array Oper} {dr : Bool} {nt m : Nat} : ∀ {k : Nat} {rest : List Oper} {l : List OpI}, trOps P ν ops dr nt m k rest = some l →
    l.length = rest.length ∧ ∀ (i : Nat) (x : OpI), l[i]? = some x → ∃ o k', rest[i]? = some o ∧ trOp P ν ops dr nt m k' o = some x
  | k, [], l, h => by simp only [trOps, Option.some.injEq] at h; subst h; simp
  | k, o :: rest, l, h => by
    simp only [trOps] at h
    split at h <;> first | (cases h; done) | skip
    rename_i x hx
    split at h <;> first | (cases h; done) | skip
    rename_i l' hl'
    simp only [Option.some.injEq] at h; subst h
    obtain ⟨e1, e2⟩ := trOps_get hl'
    refine ⟨by simp [e1], fun i y hi => ?_⟩
    cases i with
    | zero => simp at hi; subst hi; exact ⟨o, k, rfl, hx⟩
    | succ i => simpa using e2 i y (by simpa using hi)
theorem trOp_aft {ops : Array Oper} {nt m k : Nat} {o : Oper} {x : OpI} (h : trOp P ν ops true nt m k o = some x) : x.aft = trAft o := by
  unfold trOp at h
  split at h <;> first | (cases h; done) | skip
  split at h <;> first | (cases h; done) | skip
  simp only [Option.some.injEq] at h; subst h
  rfl
theorem ready_iff {ops : Array Oper} {nt m : Nat} {l : List OpI} (h : trOps P ν ops true nt m 0 ops.toList = some l) {done : List Nat} {listed : Array Bool} (hs : listed.size = ops.size)
    (hl : ∀ i, listed.getD i false = true ↔ i ∈ done) {i : Nat} : i ∈ Region.ready .any ops listed ↔ readyB l done i = true := by
  obtain ⟨e1, e2⟩ := trOps_get h
  rw [mem_ready]
  have hlt : ∀ {i : Nat}, i < ops.size → (listed.getD i true = false ↔ i ∉ done) := by
    intro i hi
    have : listed.getD i true = listed.getD i false := by
      rw [Array.getD_eq_getD_getElem?, Array.getD_eq_getD_getElem?, Array.getElem?_eq_getElem (by omega)]; rfl
    rw [this]
    constructor
    · intro h1 h2; rw [(hl i).2 h2] at h1; cases h1
    · intro h1
      cases hb : listed.getD i false with
      | false => rfl
      | true => exact absurd ((hl i).1 hb) h1
  constructor
  · rintro ⟨h1, o, ho, h2⟩
    have hi := (Array.getElem?_eq_some_iff.1 ho).1
    have hil : i < l.length := by rw [e1]; simpa using hi
    obtain ⟨o', k', ho', hx⟩ := e2 i l[i] (by simp [hil])
    have : o' = o := by rw [Array.getElem?_toList] at ho'; rw [ho] at ho'; exact (Option.some.inj ho').symm
    subst this
    unfold readyB
    rw [List.getElem?_eq_getElem hil]
    simp only [Bool.and_eq_true, Bool.not_eq_true', List.all_eq_true]
    refine ⟨?_, ?_⟩
    · have := (hlt hi).1 h1
      simpa using this
    · intro e he
      rw [trOp_aft hx] at he
      simp only [trAft, List.mem_map, List.mem_filter] at he
      obtain ⟨ed, ⟨h3, h4⟩, rfl⟩ := he
      have := h2 ed (by simpa using h3) h4
      simpa using (hl _).1 this
  · intro hr
    unfold readyB at hr
    split at hr <;> first | (cases hr; done) | skip
    rename_i x hx
    simp only [Bool.and_eq_true, Bool.not_eq_true', List.all_eq_true] at hr
    obtain ⟨o, k', ho, htr⟩ := e2 i x hx
    have ho' : ops[i]? = some o := by rwa [Array.getElem?_toList] at ho
    have hi := (Array.getElem?_eq_some_iff.1 ho').1
    refine ⟨(hlt hi).2 (by simpa using hr.1), o, ho', ?_⟩
    intro e he hb
    refine (hl _).2 ?_
    have := hr.2 e.on (by rw [trOp_aft htr]; simp only [trAft, List.mem_map, List.mem_filter]; exact ⟨e, ⟨by simpa using he, hb⟩, rfl⟩)
    simpa using this
theorem sound (hm : P.follows .mixedOrders = true) (hT : Fits P ν T) {j : Job} {o : Out} (h : Run T j o) : Sound P ν j o := by
  induction h with
  | skip st =>
    refine ⟨⟨rfl, ?_⟩, fun x h => by cases h⟩
    intro nt cc htr M w0 D0 D a w hs Q hQ
    have hc : cc = .skip := trC_inv htr
    subst hc
    exact Go.wp_skip (hQ D a w hs)
  | @reg m l st st' hk h ih =>
    obtain ⟨_, i1, i2, i3, i4⟩ := ih
    refine ⟨⟨i2, ?_⟩, fun x h => by cases h⟩
    intro nt cc htr M w0 D0 D a w hs Q hQ
    obtain ⟨id, ops, rfl, hops⟩ := trC_inv htr
    refine wp_region_list ?_
    refine i4 ops false nt m 0 ops.toList hops hk M w0 D0 D a w ⟨hs.env, hs.tm, hs.df, hs.mem m, hs.gr, hs.fr, hs.kp⟩ (fun x hx hmk => ?_) Q (fun D' a' w' h => hQ D' a' w' h)
    have hkm : x.k < m := by
      have : ∀ (l : List OpI), okK m l = true → ∀ x ∈ l, x.i.makes = true → x.k < m := by
        intro l
        induction l with
        | nil => intro _ y hy; cases hy
        | cons z l ih =>
          intro h y hy hmk
          simp only [okK, Bool.and_eq_true] at h
          rcases List.mem_cons.1 hy with rfl | hy
          · have := h.1
            rw [if_pos hmk] at this
            simp only [Bool.and_eq_true, decide_eq_true_eq] at this
            exact this.1
          · exact ih h.2 y hy hmk
      exact this l hk x hx hmk
    simp only [List.length_append, List.length_replicate]
    exact ⟨by omega, hs.store.far _ (by omega)⟩
  | @regD m l st st' hk h ih =>
    obtain ⟨_, i1, i2, i3, i4⟩ := ih
    refine ⟨⟨i2, ?_⟩, fun x h => by cases h⟩
    intro nt cc htr M w0 D0 D a w hs Q hQ
    obtain ⟨id, ops, rfl, hops⟩ := trC_inv htr
    refine wp_region_any hm ?_
    have hsd : SR nt M w0 D0 st D a { w with drawn := w.drawn + 1 } := by
      have hE : Ext w D (XS M D) { w with drawn := w.drawn + 1 } D (XS M D) := ⟨Nat.le_refl _, fun _ _ _ => rfl, fun _ _ h => h, fun _ => DSle.refl _⟩
      refine ⟨fun t => rd_mono _ _ hE (hs.env t), hs.tm, hs.df, ?_, ⟨hs.gr.size, hs.gr.os, hs.gr.tape, hs.gr.output, hs.gr.block⟩, hs.fr, hs.kp⟩
      refine ⟨fun o d ho => ?_, hs.store.alive, hs.store.inj, hs.store.far, hs.store.mlt⟩
      obtain ⟨ob, c, e, g1, g2, g3, g4, g5, g6, g7, g8, g9, g10, g11⟩ := hs.store.live o d ho
      refine ⟨ob, c, e, g1, g2, g3, g4, g5, g6, g7, g8, g9, g10, fun i x hi => ?_⟩
      obtain ⟨k0, y, k1, k2⟩ := g11 i x hi
      exact ⟨k0, y, k1, rd_mono _ _ hE k2⟩
    refine i4 ops nt m hops hk M w0 D0 D a _ ⟨hsd.env, hsd.tm, hsd.df, hsd.mem m, hsd.gr, hsd.fr, hsd.kp⟩ (fun i x hx _ hmk => ?_) Q (fun D' a' w' h => hQ D' a' w' h) _ _ (by simp) (fun i => ?_) ?_
    · have hkm : x.k < m := okK_lt l hk x (List.mem_of_getElem? hx) hmk
      simp only [List.length_append, List.length_replicate]
      exact ⟨by omega, hsd.store.far _ (by omega)⟩
    · simp only [Array.getD_eq_getD_getElem?, Array.getElem?_replicate]
      split <;> simp
    · simp
  | @anyN l done st h =>
    refine ⟨rfl, rfl, rfl, Nat.le_refl _, ?_⟩
    intro ops nt m htr hk M w0 D0 D a w hs hid Q hQ fuel listed h1 h2 h3
    refine wpAny_done ?_ (hQ D a w hs) fuel
    apply List.eq_nil_iff_forall_not_mem.2
    intro i hi
    rw [ready_iff htr h1 h2, h i] at hi
    cases hi
  | @anyC l done st st' i0 h0 f h h' ih ih' =>
    obtain ⟨_, b1, b2, b3, _⟩ := ih' i0 h0
    obtain ⟨x0, hx0⟩ : ∃ x0, l[i0]? = some x0 := by
      unfold readyB at h0
      split at h0 <;> first | (cases h0; done) | skip
      exact ⟨_, by assumption⟩
    obtain ⟨_, a1, a2, a3, _⟩ := ih i0 x0 hx0 h0
    refine ⟨rfl, b1.trans a1, b2.trans a2, Nat.le_trans a3 b3, ?_⟩
    intro ops nt m htr hk M w0 D0 D a w hs hid Q hQ fuel listed h1 h2 h3
    have hready : ∀ i, i ∈ Region.ready .any ops listed ↔ readyB l done i = true := fun i => ready_iff htr h1 h2
    have hpos : fuel ≠ 0 := by
      rintro rfl
      have hi := (hready i0).2 h0
      have := (mem_ready.1 hi).1
      obtain ⟨_, o, ho, _⟩ := mem_ready.1 hi
      have hlt := (Array.getElem?_eq_some_iff.1 ho).1
      have hmem : false ∈ listed.toList := by
        have : listed[i0]'(by omega) = false := by
          rw [Array.getD_eq_getD_getElem?, Array.getElem?_eq_getElem (by omega)] at this
          simpa using this
        rw [← this]; simp
      have := List.count_pos_iff.2 hmem
      omega
    obtain ⟨fuel, rfl⟩ := Nat.exists_eq_succ_of_ne_zero hpos
    refine ⟨fun hnil => ?_, fun i hi => ?_⟩
    · have := (hready i0).2 h0
      rw [hnil] at this; cases this
    · have hr := (hready i).1 hi
      obtain ⟨e1, e2⟩ := trOps_get htr
      obtain ⟨_, o, ho, _⟩ := mem_ready.1 hi
      have hlt := (Array.getElem?_eq_some_iff.1 ho).1
      have hil : i < l.length := by rw [e1]; simpa using hlt
      obtain ⟨o', k', ho', hx⟩ := e2 i l[i] (by simp [hil])
      have : o' = o := by rw [Array.getElem?_toList] at ho'; rw [ho] at ho'; exact (Option.some.inj ho').symm
      subst this
      have hli : l[i]? = some l[i] := by simp [hil]
      have hnd : i ∉ done := by
        unfold readyB at hr
        rw [hli] at hr
        simp only [Bool.and_eq_true, Bool.not_eq_true'] at hr
        simpa using hr.1
      obtain ⟨_, c1, c2, c3, c4⟩ := ih i l[i] hli hr
      obtain ⟨_, d1, d2, d3, d4⟩ := ih' i hr
      have key := c4 ops true nt m k' o' hx M w0 D0 D a w hs (fun hmk => hid i l[i] hli hnd hmk) (wpAny P .any ops Q fuel (listed.setIfInBounds i true)) Q (fun D' a' w' hs' hun => by
        refine d4 ops nt m htr hk M w0 D0 D' a' w' hs' (fun j y hy hj hmk => ?_) Q hQ fuel _ (by simpa using h1) (fun j => ?_) ?_
        · simp only [List.mem_cons, not_or] at hj
          rw [c1]
          obtain ⟨g1, g2⟩ := hid j y hy hj.2 hmk
          refine ⟨Nat.lt_of_lt_of_le g1 c3, hun _ (Nat.le_add_right _ _) g1 g2 ?_⟩
          intro he
          have hne := okK_ne l hk j i y l[i] hy hli hj.1 hmk
          omega
        · rw [Array.getD_eq_getD_getElem?, Array.getElem?_setIfInBounds]
          by_cases hij : i = j
          · subst hij
            simp [h1, hlt]
          · rw [if_neg hij, ← Array.getD_eq_getD_getElem?, h2 j]
            simp only [List.mem_cons]
            constructor
            · exact .inr
            · rintro (h | h)
              · exact absurd h.symm hij
              · exact h
        · have hfi : listed[i]'(by omega) = false := by
            have := (mem_ready.1 hi).1
            rw [Array.getD_eq_getD_getElem?, Array.getElem?_eq_getElem (by omega)] at this
            simpa using this
          rw [Array.toList_setIfInBounds, List.count_set (by simpa using (by omega : i < listed.size))]
          have h4 : listed.toList[i]'(by simpa using (by omega : i < listed.size)) = false := by simpa using hfi
          have h5 : 0 < listed.toList.count false := List.count_pos_iff.2 (by rw [← h4]; exact List.getElem_mem _)
          simp only [h4, beq_self_eq_true, if_true]
          have : (true == false) = false := rfl
          simp only [this, Bool.false_eq_true, if_false]
          omega)
      unfold wpOp
      simp only [ho]
      split
      · rename_i hw; rw [if_pos hw] at key; exact .inl key
      · rename_i hw; rw [if_neg hw] at key; exact key
  | @seqN a b st st1 o h h' ih ih' =>
    cases o with
    | fn r σ => trivial
    | code e st2 =>
    obtain ⟨⟨i1, i2⟩, _⟩ := ih
    obtain ⟨⟨j1, j2⟩, _⟩ := ih'
    refine ⟨⟨j1.trans i1, ?_⟩, fun x h => by cases h⟩
    intro nt cc htr M w0 D0 D a w hs Q hQ
    obtain ⟨ca, cb, rfl, ha, hb⟩ := trC_inv htr
    refine Go.wp_seq (i2 nt ca ha M w0 D0 D a w hs _ fun D' a' w' hs' => ?_)
    exact j2 nt cb hb M w0 D0 D' a' w' hs' Q hQ
  | @seqE a b st e st1 he h ih =>
    obtain ⟨⟨i1, i2⟩, _⟩ := ih
    refine ⟨⟨i1, ?_⟩, fun x h => by cases h⟩
    intro nt cc htr M w0 D0 D a w hs Q hQ
    obtain ⟨ca, cb, rfl, ha, hb⟩ := trC_inv htr
    exact Go.wp_seq (i2 nt ca ha M w0 D0 D a w hs _ fun D' a' w' hs' => then_of he (hQ D' a' w' hs'))
  | @cond x a b st t o hx h ih =>
    cases o with
    | fn r σ => trivial
    | code e st2 =>
    obtain ⟨⟨i1, i2⟩, _⟩ := ih
    refine ⟨⟨i1, ?_⟩, fun x h => by cases h⟩
    intro nt cc htr M w0 D0 D a w hs Q hQ
    obtain ⟨oc, ca, cb, rfl, h1, ha, hb⟩ := trC_inv htr
    have hv := rd_src hs.env h1
    rw [hx] at hv
    simp only [rd] at hv
    refine Go.wp_cond hv (i2 nt _ ?_ M w0 D0 D _ w hs Q hQ)
    cases t
    · exact hb
    · exact ha
  | @block id c st e st1 h ih =>
    obtain ⟨⟨i1, i2⟩, _⟩ := ih
    refine ⟨⟨i1, ?_⟩, fun x h => by cases h⟩
    intro nt cc htr M w0 D0 D a w hs Q hQ
    obtain ⟨ca, rfl, ha⟩ := trC_inv htr
    refine Go.wp_block (i2 nt ca ha M w0 D0 D a w hs _ fun D' a' w' hs' => ?_)
    have := hQ D' a' w' hs'
    cases e with
    | normal => exact this
    | ret => exact this
    | exit id' =>
      simp only [exOf, exIn, Exit.inBlock] at this ⊢
      by_cases hid : id' = id
      · simp only [hid, if_true] at this ⊢; exact this
      · simp only [hid, if_false] at this ⊢; exact this
  | @loopN c st st1 o h h' ih ih' =>
    cases o with
    | fn r σ => trivial
    | code e st2 =>
    obtain ⟨⟨i1, i2⟩, _⟩ := ih
    obtain ⟨⟨j1, _⟩, j2⟩ := ih'
    have key : LoopOk P ν c e st st2 := by
      intro nt cc htr M w0 D0 D a w hs Q hQ b k cs
      obtain ⟨x, a1, w1, ⟨D1, hx, hs1⟩, harr⟩ := i2 nt cc htr M w0 D0 D a w hs (fun x a' w' => ∃ D', x = .normal ∧ SR nt M w0 D0 st1 D' a' w') (fun D' a' w' h => ⟨D', rfl, h⟩) b (.inLoop cc :: k) cs
      subst hx
      obtain ⟨x2, a2, w2, q2, harr2⟩ := j2 c rfl nt cc htr M w0 D0 D1 a1 w1 hs1 Q hQ b k cs
      exact ⟨x2, a2, w2, q2, .of_steps (Steps.trans harr (.one step_inLoop)) harr2⟩
    exact ⟨loop_of (j1.trans i1) key, fun x hx => by cases hx; exact key⟩
  | @loopE c st e st1 he h ih =>
    obtain ⟨⟨i1, i2⟩, _⟩ := ih
    have key : LoopOk P ν c e st st1 := by
      intro nt cc htr M w0 D0 D a w hs Q hQ b k cs
      obtain ⟨x, a1, w1, ⟨D1, hx, hs1⟩, harr⟩ := i2 nt cc htr M w0 D0 D a w hs (fun x a' w' => ∃ D', x = exOf e ∧ SR nt M w0 D0 st1 D' a' w') (fun D' a' w' h => ⟨D', rfl, h⟩) b (.inLoop cc :: k) cs
      subst hx
      exact ⟨_, a1, w1, hQ D1 a1 w1 hs1, .pass (x := .inLoop cc) rfl (fun _ _ => .inl (exOf_ne he)) harr⟩
    exact ⟨loop_of i1 key, fun x hx => by cases hx; exact key⟩
  | exit id st =>
    refine ⟨⟨rfl, ?_⟩, fun x h => by cases h⟩
    intro nt cc htr M w0 D0 D a w hs Q hQ
    have hc : cc = .exit id := trC_inv htr
    subst hc
    exact Go.wp_exit (hQ D a w hs)
  | ret st =>
    refine ⟨⟨rfl, ?_⟩, fun x h => by cases h⟩
    intro nt cc htr M w0 D0 D a w hs Q hQ
    have hc : cc = .ret := trC_inv htr
    subst hc
    exact Go.wp_ret (hQ D a w hs)
  | @gc c st o ρ hn hρ h ih =>
    cases o with
    | fn r σ => trivial
    | code e st2 =>
    obtain ⟨⟨i1, i2⟩, i3⟩ := ih
    refine ⟨⟨i1, ?_⟩, ?_⟩
    · intro nt cc htr M w0 D0 D a w hs Q hQ
      exact i2 nt cc htr M w0 D0 _ a w (hs.gc hn hρ) Q hQ
    · intro x hx nt cc htr M w0 D0 D a w hs Q hQ
      exact i3 x hx nt cc htr M w0 D0 _ a w (hs.gc hn hρ) Q hQ
  | nil st =>
    refine ⟨rfl, rfl, rfl, Nat.le_refl _, ?_⟩
    intro ops dr nt m k rest htr hk M w0 D0 D a w hs hid Q hQ
    cases rest with
    | nil => exact hQ D a w hs
    | cons r rest =>
      simp only [trOps] at htr
      split at htr <;> first | (cases htr; done) | skip
      split at htr <;> first | (cases htr; done) | skip
  | @cons o l st st1 out h h' ih ih' =>
    cases out with
    | fn r σ => trivial
    | code e st2 => exact ⟨ih'.1, opsOk_cons ih.2 ih'.2⟩
  | off hg he => exact ⟨rfl, opOk_off hg he⟩
  | op hg h => exact ⟨rfl, opOk_op hg h⟩
  | callP hg hi ha h hR ih => exact ⟨rfl, opOk_callP hg hi ha ih hR⟩
  | callR ρ hn hρ hg hi h ih => exact ⟨rfl, opOk_callR hn hρ hg hi ih⟩
  | callG hg hi ha h hR ih => exact ⟨rfl, opOk_callG hg hi ha ih hR⟩
  | callI hg hi h hl hb ih => exact ⟨rfl, opOk_callI hg hi ih hl hb⟩
  | @fn f args σ F e st' rs hf hl h he hr ih => exact fnOk_fn hT hf hl (fun o e => no_lib h o (St.enter args σ) (by rw [e])) ih.1 he hr
  | lib hf hb h => exact fnOk_lib hT hf hb h
  | frz h hr ih => exact fnOk_frz hr ih
  | gcF ρ hn hρ h ih => exact fnOk_gcF hn hρ ih
  | @forget c st st2 o he ho hk h' ih =>
    cases o with
    | fn r σ => trivial
    | code e st3 =>
    obtain ⟨⟨i1, i2⟩, i3⟩ := ih
    refine ⟨⟨i1.trans hk, ?_⟩, ?_⟩
    · intro nt cc htr M w0 D0 D a w hs Q hQ
      exact i2 nt cc htr M w0 D0 _ a w (hs.forget he ho hk) Q hQ
    · intro x hx nt cc htr M w0 D0 D a w hs Q hQ
      exact i3 x hx nt cc htr M w0 D0 _ a w (hs.forget he ho hk) Q hQ
  | @re c st st2 o W h h' ih =>
    cases o with
    | fn r σ => trivial
    | code e st3 =>
    obtain ⟨⟨i1, i2⟩, i3⟩ := ih
    refine ⟨⟨i1.trans h.keep, ?_⟩, ?_⟩
    · intro nt cc htr M w0 D0 D a w hs Q hQ
      exact i2 nt cc htr M w0 D0 _ a w (hs.re h) Q hQ
    · intro x hx nt cc htr M w0 D0 D a w hs Q hQ
      exact i3 x hx nt cc htr M w0 D0 _ a w (hs.re h) Q hQ
  | reF W ha h hs hr ih => exact fnOk_reF ha hs hr ih
  | laxF ha h hr ih => exact fnOk_laxF ha hr ih
end
end Go.Ml
end
section
set_option linter.unusedSimpArgs false
set_option linter.unusedVariables false
namespace Go.Ml
open Go.ChangeShapes Go.WideShapes Go.ChangeAt Go.RowKit
def nuOf : List (Nat × Nat × Fn) → Nat → Option Nat
  | [], _ => none
  | x :: l, i => if x.1 = i then some x.2.1 else nuOf l i
def tbOf : List (Nat × Nat × Fn) → Nat → Option Fn
  | [], _ => none
  | x :: l, k => if x.2.1 = k then some x.2.2 else tbOf l k
theorem nuOf_mem : ∀ {l : List (Nat × Nat × Fn)} {i k : Nat}, nuOf l i = some k → ∃ x ∈ l, x.1 = i ∧ x.2.1 = k
  | [], _, _, h => by simp [nuOf] at h
  | x :: l, i, k, h => by
    simp only [nuOf] at h
    split at h
    · rename_i e; exact ⟨x, by simp, e, by simpa using h⟩
    · obtain ⟨y, hy, e⟩ := nuOf_mem h; exact ⟨y, by simp [hy], e⟩
theorem tbOf_mem : ∀ {l : List (Nat × Nat × Fn)} {k : Nat} {F : Fn}, tbOf l k = some F → ∃ x ∈ l, x.2.1 = k ∧ x.2.2 = F
  | [], _, _, h => by simp [tbOf] at h
  | x :: l, i, k, h => by
    simp only [tbOf] at h
    split at h
    · rename_i e; exact ⟨x, by simp, e, by simpa using h⟩
    · obtain ⟨y, hy, e⟩ := tbOf_mem h; exact ⟨y, by simp [hy], e⟩
theorem eq_of_nodup_map {α β : Type} {f : α → β} : ∀ {l : List α}, (l.map f).Nodup → ∀ {x y}, x ∈ l → y ∈ l → f x = f y → x = y
  | [], _, _, _, h, _, _ => by cases h
  | a :: l, hn, x, y, hx, hy, e => by
    simp only [List.map_cons, List.nodup_cons] at hn
    rcases List.mem_cons.1 hx with rfl | hx' <;> rcases List.mem_cons.1 hy with rfl | hy'
    · rfl
    · exact absurd (e ▸ List.mem_map_of_mem hy') hn.1
    · exact absurd (e ▸ List.mem_map_of_mem hx') hn.1
    · exact eq_of_nodup_map hn.2 hx' hy' e
theorem fits_of {P : Program} {l : List (Nat × Nat × Fn)} (hnd : (l.map (·.2.1)).Nodup) (h : ∀ x ∈ l, (∃ fn, P.funcs[x.1]? = some fn ∧ trFn P (nuOf l) fn = some x.2.2) ∨ ∃ o, x.2.2.body = .lib o ∧ OutOk P x.1 o) : Fits P (nuOf l) (tbOf l) := by
  intro fid f F h1 h2
  obtain ⟨x, hx, e1, e2⟩ := nuOf_mem h1
  obtain ⟨y, hy, e3, e4⟩ := tbOf_mem h2
  have : x = y := eq_of_nodup_map hnd hx hy (e2.trans e3.symm)
  subst this
  rw [← e1, ← e4]
  exact h x hx
theorem calls_of {P : Program} {l : List (Nat × Nat × Fn)} (hm : P.follows .mixedOrders = true) (hT : Fits P (nuOf l) (tbOf l)) {f fid : Nat} {args : List V} {r : V} (h : PF (tbOf l) f args r) (hf : nuOf l fid = some f)
    {w : World} {vals : Array Value} (hr : rdL w DM.none (fun _ => False) args vals.toList) :
    Calls P fid vals w fun e w' => (∃ v D X, e = .returned v ∧ rd w' D X r v) ∧ Below w.heap.size w w' := by
  have hs := sound hm hT h
  have hX : XS (fun _ => False) DM.none = fun _ => False := by
    funext b; simp [XS, DM.none]
  refine (hs fid hf w (fun _ => False) DM.none vals (by rw [hX]; exact hr) ⟨?_, ?_, ?_, ?_, ?_⟩).mono fun e w' hp => ?_
  · intro o d h; cases h
  · intro o ob h; simp [objAt] at h
  · intro o o' d d' h; cases h
  · intro o _; rfl
  · intro b h; exact h.elim
  · obtain ⟨v, D', e1, e2, e3, e4, _⟩ := hp
    refine ⟨⟨v, D', _, e1, e2⟩, ⟨e4.os, e4.tape, e4.output, e4.size, fun k hk => e4.block k hk ?_⟩⟩
    rintro ⟨o, d, h, _⟩; cases h
theorem calls_true {P : Program} {l : List (Nat × Nat × Fn)} (hm : P.follows .mixedOrders = true) (hT : Fits P (nuOf l) (tbOf l)) {f fid : Nat} {args : List V} (h : PF (tbOf l) f args (.bool true)) (hf : nuOf l fid = some f)
    {w : World} {vals : Array Value} (hr : rdL w DM.none (fun _ => False) args vals.toList) :
    Calls P fid vals w fun e w' => e = .returned (.bool true) ∧ Below w.heap.size w w' :=
  (calls_of hm hT h hf hr).mono fun e w' hp => by
    obtain ⟨⟨v, D, X, rfl, e2⟩, hb⟩ := hp
    have : v = .bool true := by simpa [rd] using e2
    exact ⟨by rw [this], hb⟩
end Go.Ml
end
section
set_option linter.unusedSimpArgs false
set_option linter.unusedVariables false
namespace Go.Ml
open Go.ChangeShapes Go.WideShapes Go.ChangeAt Go.RowKit
inductive Lf where
  | int (k : IntKind)
  | bool
  | str
  | sl (row : List Lf)
mutual
def Mt : Lf → V → Prop
  | .int k, v => ∃ n, v = .int k n ∧ (Lit.int k n).wf = true
  | .bool, v => ∃ b, v = .bool b
  | .str, v => ∃ s, v = .str s ∧ s.length ≤ maxLen
  | .sl row, v => ∃ rows : List (List V), v = .sl row.length rows ∧ rows.length ≤ maxLen ∧ ∀ r ∈ rows, MtL row r
def MtL : List Lf → List V → Prop
  | [], vs => vs = []
  | l :: ls, vs => ∃ v vs', vs = v :: vs' ∧ Mt l v ∧ MtL ls vs'
end
def shFs (P : Program) (sh : TypeId → Option (List Lf)) : List Field → Nat → Option (List Lf)
  | [], _ => some []
  | f :: fs, off => match sh f.type, shFs P sh fs (off + P.cellsOf f.type) with
    | some r, some rs => if f.offset = off ∧ r.length = P.cellsOf f.type then some (r ++ rs) else none
    | _, _ => none
def shapeOf (P : Program) : Nat → TypeId → Option (List Lf)
  | 0, _ => none
  | n + 1, t => match P.underlying t with
    | some (.int k) => some [.int k]
    | some .bool => some [.bool]
    | some .string => some [.str]
    | some (.slice e) => match shapeOf P n e with
      | some r => if r.length = P.cellsOf e ∧ 0 < r.length then some [.sl r] else none
      | none => none
    | some (.struct fs) => match shFs P (shapeOf P n) fs.toList 0 with
      | some r => if r.length = P.cellsOf t then some r else none
      | none => none
    | _ => none
theorem mtL_append {l1 l2 : List Lf} {v1 v2 : List V} (h1 : MtL l1 v1) (h2 : MtL l2 v2) : MtL (l1 ++ l2) (v1 ++ v2) := by
  induction l1 generalizing v1 with
  | nil => simp only [MtL] at h1; subst h1; simpa using h2
  | cons l l1 ih =>
    simp only [MtL] at h1
    obtain ⟨v, vs, rfl, a, b⟩ := h1
    simp only [List.cons_append, MtL]
    exact ⟨v, vs ++ v2, rfl, a, ih b⟩
theorem mtL_len {l : List Lf} {v : List V} (h : MtL l v) : v.length = l.length := by
  induction l generalizing v with
  | nil => simp only [MtL] at h; subst h; rfl
  | cons x l ih =>
    simp only [MtL] at h
    obtain ⟨v, vs, rfl, a, b⟩ := h
    simp [ih b]
theorem mt_leaf : ∀ {l : Lf} {v : V}, Mt l v → v.leaf = true := by
  intro l v h
  cases l <;> simp only [Mt] at h
  · obtain ⟨n, rfl, _⟩ := h; rfl
  · obtain ⟨b, rfl⟩ := h; rfl
  · obtain ⟨s, rfl, _⟩ := h; rfl
  · obtain ⟨rows, rfl, _⟩ := h; rfl
theorem mtL_leaf {l : List Lf} {v : List V} (h : MtL l v) : ∀ x ∈ v, x.leaf = true := by
  induction l generalizing v with
  | nil => simp only [MtL] at h; subst h; intro x hx; cases hx
  | cons y l ih =>
    simp only [MtL] at h
    obtain ⟨v, vs, rfl, a, b⟩ := h
    intro x hx
    rcases List.mem_cons.1 hx with rfl | hx
    · exact mt_leaf a
    · exact ih b x hx
theorem rdRows_of {w : World} {D : DM} {X : Nat → Prop} {b sz : Nat} : ∀ (off : Nat) (rows : List (List V)),
    (∀ i r, rows[i]? = some r → r.length = sz ∧ rdCells w D X b (off + i * sz) r) → rdRows w D X b sz off rows
  | _, [], _ => by simp [rdRows]
  | off, r :: rows, h => by
    simp only [rdRows]
    have h0 := h 0 r rfl
    refine ⟨h0.1, by simpa using h0.2, rdRows_of (off + sz) rows fun i r' hi => ?_⟩
    have := h (i + 1) r' (by simpa using hi)
    rwa [show off + (i + 1) * sz = off + sz + i * sz by rw [Nat.succ_mul]; omega] at this
theorem rdCells_of_rdL {w : World} {D : DM} {X : Nat → Prop} {b : Nat} : ∀ (off : Nat) (vs : List V) (cs : List Value), rdL w D X vs cs → (∀ x ∈ vs, x.leaf = true) →
    (∀ i, i < cs.length → w.cell? ⟨b, off + i, none⟩ = cs[i]?) → rdCells w D X b off vs
  | _, [], _, _, _, _ => by simp [rdCells]
  | off, v :: vs, cs, h, hl, hc => by
    simp only [rdL] at h
    obtain ⟨y, ys, rfl, h1, h2⟩ := h
    simp only [rdCells]
    refine ⟨hl v (by simp), ⟨y, by simpa using hc 0 (by simp), h1⟩, rdCells_of_rdL (off + 1) vs ys h2 (fun x hx => hl x (by simp [hx])) fun i hi => ?_⟩
    have := hc (i + 1) (by simpa using hi)
    rw [show off + 1 + i = off + (i + 1) by omega, this]
    simp
section
variable {H : Type} {enc : TypeId × Value → H} {P : Program} {w : World}
theorem shape_rd : ∀ (n : Nat) {t : TypeId} {L : List Lf} {fuel : Nat} {cs : List Value} {x : DataW H × List MemPlace}, shapeOf P n t = some L →
    DataW.trod enc P w 0 (fun _ => true) true fuel t cs = some x → ∃ vs, MtL L vs ∧ rdL w DM.none (fun _ => False) vs cs
  | 0, t, L, fuel, cs, x, h, _ => by simp [shapeOf] at h
  | n + 1, t, L, fuel, cs, x, h, hx => by
    cases fuel with
    | zero => simp [DataW.trod] at hx
    | succ fuel =>
    simp only [shapeOf] at h
    split at h
    · rename_i k hu
      simp only [Option.some.injEq] at h; subst h
      obtain ⟨m, rfl, _, hw⟩ := DataW.trod_int hu hx
      exact ⟨[.int k m], by simp [MtL, Mt, hw], by simp [rdL, rd]⟩
    · rename_i hu
      simp only [Option.some.injEq] at h; subst h
      rw [DataW.trod_step] at hx
      unfold DataW.trodStep at hx
      rw [hu] at hx
      split at hx <;> simp_all
      rename_i b
      exact ⟨[.bool b], by simp [MtL, Mt], by simp [rdL, rd]⟩
    · rename_i hu
      simp only [Option.some.injEq] at h; subst h
      rw [DataW.trod_step] at hx
      unfold DataW.trodStep at hx
      rw [hu] at hx
      split at hx <;> simp_all
      rename_i s
      exact ⟨[.str s.data.toList], by simp [MtL, Mt]; exact hx.1, by simp [rdL, rd]⟩
    · rename_i e hu
      split at h <;> first | (cases h; done) | skip
      rename_i r hr
      split at h <;> first | (cases h; done) | skip
      rename_i hsz
      simp only [Option.some.injEq] at h; subst h
      rcases DataW.trod_slice hu hx with ⟨rfl, _⟩ | ⟨a, len, cap, elems, rest, m, _, rfl, _, hb, hl, hm, hlen, hel, _, _⟩
      · exact ⟨[.sl r.length []], by simp [MtL, Mt], by simp only [rdL, rd]; exact ⟨_, [], rfl, ⟨none, 0, rfl, Nat.le_refl _, .inl (by trivial)⟩, rfl⟩⟩
      · have hel' : ∀ i, i < len → ∃ cs', w.cells? 0 (a.add (i * P.cellsOf e)) (P.cellsOf e) = some cs' ∧ ∃ vs, MtL r vs ∧ rdL w DM.none (fun _ => False) vs cs' := by
          intro i hi
          have h1 := hel i hi
          have h2 : elems[i]? = some (elems[i]'(by omega)) := List.getElem?_eq_getElem (by omega)
          rw [h2, Option.bind_eq_some_iff] at h1
          obtain ⟨cs', k1, k2⟩ := h1
          exact ⟨cs', k1, shape_rd n hr k2⟩
        have hch : ∀ i, ∃ p : List Value × List V, i < len → w.cells? 0 (a.add (i * P.cellsOf e)) (P.cellsOf e) = some p.1 ∧ MtL r p.2 ∧ rdL w DM.none (fun _ => False) p.2 p.1 := by
          intro i
          by_cases hi : i < len
          · obtain ⟨cs', k1, vs, k2, k3⟩ := hel' i hi
            exact ⟨(cs', vs), fun _ => ⟨k1, k2, k3⟩⟩
          · exact ⟨([], []), fun h => absurd h hi⟩
        obtain ⟨f, hf⟩ := Classical.axiomOfChoice hch
        have hrow : ∀ i vs, ((List.range len).map fun i => (f i).2)[i]? = some vs → i < len ∧ vs = (f i).2 := by
          intro i vs hi
          rw [List.getElem?_map, Option.map_eq_some_iff] at hi
          obtain ⟨j, h1, h2⟩ := hi
          obtain ⟨h3, h4⟩ := List.getElem?_eq_some_iff.1 h1
          rw [List.getElem_range] at h4
          subst h4
          exact ⟨by simpa using h3, h2.symm⟩
        refine ⟨[.sl r.length ((List.range len).map fun i => (f i).2)], ?_, ?_⟩
        · simp only [MtL, Mt]
          refine ⟨_, [], rfl, ⟨_, rfl, by simp; exact Nat.le_trans hl hm, fun rr hrr => ?_⟩, rfl⟩
          obtain ⟨i, hi⟩ := List.mem_iff_getElem?.1 hrr
          obtain ⟨h1, rfl⟩ := hrow i rr hi
          exact (hf i h1).2.1
        · simp only [rdL, rd]
          refine ⟨_, [], rfl, ⟨some a, cap, by simp, by simpa using hl, ?_⟩, rfl⟩
          by_cases h0 : len = 0
          · left; subst h0; rfl
          · right
            obtain ⟨b, off, spot⟩ := a
            have hspot : spot = none := by
              obtain ⟨_, _, hc⟩ := World.cells?_some (hf 0 (by omega)).1
              have hlen0 := (World.cells?_some (hf 0 (by omega)).1).2.1
              have hc0 := hc 0 (by omega)
              have hlt0 : 0 < (f 0).1.length := by omega
              rw [List.getElem?_eq_getElem hlt0] at hc0
              simpa [Addr.add] using World.cell?_spot hc0
            subst hspot
            have hb' : b < w.heap.size := by
              have := World.cells?_block (hf 0 (by omega)).1 (by omega)
              simpa [Addr.add] using this
            refine ⟨b, off, rfl, hb', fun h => h, rdRows_of _ _ fun i rr hi => ?_⟩
            obtain ⟨h1, rfl⟩ := hrow i rr hi
            obtain ⟨g1, g2, g3⟩ := hf i h1
            obtain ⟨_, hl2, hc⟩ := World.cells?_some g1
            refine ⟨mtL_len g2, rdCells_of_rdL _ _ _ g3 (mtL_leaf g2) fun j hj => ?_⟩
            have := hc j (by omega)
            rw [← this, hsz.1]
            congr 1
            simp only [addr_add]
    · rename_i fs hu
      split at h <;> first | (cases h; done) | skip
      rename_i r hr
      split at h <;> first | (cases h; done) | skip
      rename_i hsz
      simp only [Option.some.injEq] at h; subst h
      rw [DataW.trod_step] at hx
      unfold DataW.trodStep at hx
      rw [hu] at hx
      simp only [] at hx
      split at hx <;> first | (cases hx; done) | skip
      rename_i hlen
      rw [Option.map_eq_some_iff] at hx
      obtain ⟨xs, hxs, _⟩ := hx
      have key : ∀ (fl : List Field) (off : Nat) (r : List Lf) (xs : List (DataW H × List MemPlace)), shFs P (shapeOf P n) fl off = some r →
          (fl.mapM fun f => DataW.trod enc P w 0 (fun _ => true) true fuel f.type ((cs.drop f.offset).take (P.cellsOf f.type))) = some xs →
          ∃ vs, MtL r vs ∧ rdL w DM.none (fun _ => False) vs ((cs.drop off).take r.length) := by
        intro fl
        induction fl with
        | nil =>
          intro off r xs h _
          simp only [shFs, Option.some.injEq] at h; subst h
          exact ⟨[], by simp [MtL], by simp [rdL]⟩
        | cons f fl ih =>
          intro off r xs h hm
          simp only [shFs] at h
          split at h <;> first | (cases h; done) | skip
          rename_i r1 rs h1 h2
          split at h <;> first | (cases h; done) | skip
          rename_i hc
          simp only [Option.some.injEq] at h; subst h
          simp only [List.mapM_cons, Option.pure_def, Option.bind_eq_bind, Option.bind_eq_some_iff, Option.some.injEq] at hm
          obtain ⟨y, hy, ys, hys, rfl⟩ := hm
          obtain ⟨v1, a1, a2⟩ := shape_rd n h1 hy
          obtain ⟨v2, b1, b2⟩ := ih _ rs ys h2 hys
          refine ⟨v1 ++ v2, mtL_append a1 b1, ?_⟩
          have e : (cs.drop off).take (r1 ++ rs).length = (cs.drop off).take r1.length ++ (cs.drop (off + P.cellsOf f.type)).take rs.length := by
            rw [List.length_append, List.take_add, List.drop_drop, hc.2]
          rw [e]
          rw [hc.1, ← hc.2] at a2
          exact rdL_append _ _ _ _ a2 b2
      obtain ⟨vs, a1, a2⟩ := key fs.toList 0 r xs hr hxs
      refine ⟨vs, a1, ?_⟩
      rw [List.drop_zero, List.take_of_length_le (by omega)] at a2
      exact a2
    · cases h
theorem shape_in (n : Nat) {t : TypeId} {L : List Lf} {v : Value} {d : DataW H} {ps : List MemPlace} (hs : shapeOf P n t = some L) (h : DataW.Trod enc P w 0 (fun _ => true) true t v d ps) :
    ∃ vs, MtL L vs ∧ rdL w DM.none (fun _ => False) vs v.cells.toList := by
  obtain ⟨fuel, hf⟩ := h
  exact shape_rd n hs hf
end
end Go.Ml
namespace Go.Ml
open Go.ChangeShapes Go.WideShapes Go.ChangeAt Go.RowKit
def argV (g : Bool) (vs : List V) : V := if g = true then .agg vs else vs.headD .any
def ArgsMt : List (Bool × List Lf) → List V → Prop
  | [], vs => vs = []
  | s :: ss, vs => ∃ cs rest, vs = argV s.1 cs :: rest ∧ MtL s.2 cs ∧ ArgsMt ss rest
def argOk (P : Program) (t : TypeId) (s : Bool × List Lf) : Bool :=
  match P.underlying t with
  | some (.struct _) => s.1
  | some (.int _) | some .bool | some .string | some (.slice _) => !s.1
  | _ => false
def argsOk (P : Program) : List TypeId → List (Bool × List Lf) → Prop
  | [], ss => ss = []
  | t :: ts, ss => ∃ s rest, ss = s :: rest ∧ shapeOf P 20 t = some s.2 ∧ argOk P t s = true ∧ argsOk P ts rest
theorem args_in {H : Type} {enc : TypeId × Value → H} {P : Program} {w : World} {r : Reach} {b : Nat} : ∀ {ts : List TypeId} {ss : List (Bool × List Lf)} {vs : List Value} {ds : List (DataW H)} {ps : List MemPlace},
    argsOk P ts ss → (∀ (j : Nat) t v, ts[j]? = some t → vs[j]? = some v → Value.okWide P w r b t v) → DataW.TrodAll enc P w 0 (fun _ => true) true ts vs ds ps →
    ∃ Vs, ArgsMt ss Vs ∧ rdL w DM.none (fun _ => False) Vs vs
  | [], ss, [], ds, ps, h, _, _ => by simp only [argsOk] at h; subst h; exact ⟨[], rfl, by simp [rdL]⟩
  | [], _, _ :: _, ds, ps, _, _, ht => by cases ds <;> exact ht.elim
  | _ :: _, _, [], ds, ps, _, _, ht => by cases ds <;> exact ht.elim
  | t :: ts, ss, v :: vs, [], ps, _, _, ht => ht.elim
  | t :: ts, ss, v :: vs, d :: ds, ps, h, hw, ht => by
    simp only [argsOk] at h
    obtain ⟨s, rest, rfl, h1, h2, h3⟩ := h
    obtain ⟨p, q, k1, k2, _⟩ := ht
    obtain ⟨Vs, a1, a2⟩ := args_in h3 (fun j t' v' hj hv => hw (j + 1) t' v' (by simpa using hj) (by simpa using hv)) k2
    obtain ⟨cs, c1, c2⟩ := shape_in 20 h1 k1
    have hok := hw 0 t v rfl rfl
    refine ⟨argV s.1 cs :: Vs, ⟨cs, Vs, rfl, c1, a1⟩, ?_⟩
    simp only [rdL]
    refine ⟨v, vs, rfl, ?_, a2⟩
    unfold argOk at h2
    have one : (∀ cs', v ≠ .agg cs') → s.1 = false → s.2.length = 1 → rd w DM.none (fun _ => False) (argV s.1 cs) v := by
      intro hv hs hl
      have hvc : v.cells.toList = [v] := by cases v <;> first | rfl | (exact absurd rfl (hv _))
      rw [hvc] at c2
      have := mtL_len c1
      rw [hl] at this
      cases cs with
      | nil => simp at this
      | cons x xs =>
        simp only [rdL] at c2
        obtain ⟨y, ys, e, e2, _⟩ := c2
        simp only [List.cons.injEq] at e
        rw [hs]
        simp only [argV, Bool.false_eq_true, if_false, List.headD_cons]
        rw [e.1]; exact e2
    unfold shapeOf at h1
    split at h2
    · rename_i fs hu
      rw [h2]
      simp only [Value.okWide, hu] at hok
      obtain ⟨cs', rfl, _⟩ := hok
      simp only [argV, if_true, rd]
      exact ⟨cs', rfl, c2⟩
    · rename_i k hu
      rw [hu] at h1
      simp only [Option.some.injEq] at h1
      obtain ⟨n, rfl⟩ := okWide_int hu hok
      exact one (by intro cs' e; cases e) (by simpa using h2) (by rw [← h1]; rfl)
    · rename_i hu
      rw [hu] at h1
      simp only [Option.some.injEq] at h1
      obtain ⟨n, rfl⟩ := okWide_bool hu hok
      exact one (by intro cs' e; cases e) (by simpa using h2) (by rw [← h1]; rfl)
    · rename_i hu
      rw [hu] at h1
      simp only [Option.some.injEq] at h1
      obtain ⟨n, rfl⟩ := okWide_string hu hok
      exact one (by intro cs' e; cases e) (by simpa using h2) (by rw [← h1]; rfl)
    · rename_i e hu
      rw [hu] at h1
      simp only [] at h1
      obtain ⟨a0, l0, c0, rfl⟩ := okWide_slice hu hok
      refine one (by intro cs' e; cases e) (by simpa using h2) ?_
      split at h1 <;> first | (cases h1; done) | skip
      split at h1 <;> first | (cases h1; done) | skip
      simp only [Option.some.injEq] at h1
      rw [← h1]; rfl
    · cases h2
theorem trodAll_below {H : Type} {enc : TypeId × Value → H} {P : Program} (hl : laidOutB P = true) {W W' : World} (hb : Below W.heap.size W W') : ∀ {ts : List TypeId} {vs : List Value} {ds : List (DataW H)} {ps : List MemPlace},
    (ts.all fun t => P.readableRec t && decide (t < P.types.size)) = true → DataW.TrodAll enc P W 0 (fun _ => true) true ts vs ds ps → (∀ x ∈ ps, x.block < W.heap.size) →
    DataW.TrodAll enc P W' 0 (fun b => decide (b < W.heap.size)) true ts vs ds ps
  | [], [], [], ps, _, h, _ => h
  | [], _ :: _, ds, ps, _, ht, _ => by cases ds <;> exact ht.elim
  | [], [], _ :: _, ps, _, ht, _ => ht.elim
  | _ :: _, [], ds, ps, _, ht, _ => by cases ds <;> exact ht.elim
  | t :: ts, v :: vs, [], ps, _, ht, _ => ht.elim
  | t :: ts, v :: vs, d :: ds, ps, h, ht, hlt => by
    simp only [List.all_cons, Bool.and_eq_true, decide_eq_true_eq] at h
    obtain ⟨p, q, k1, k2, rfl⟩ := ht
    exact ⟨p, q, Below.trod hl h.1.1 h.1.2 k1 hb fun x hx => hlt x (by simp [hx]), trodAll_below hl hb (by simpa using h.2) k2 fun x hx => hlt x (by simp [hx]), rfl⟩
end Go.Ml
end
section
set_option linter.unusedSimpArgs false
set_option linter.unusedVariables false
namespace Go.Ml
theorem dec_list {α : Type} {row : List Lf} {f : α → List V} {W : α → Prop} (h : ∀ r, MtL row r → ∃ x, r = f x ∧ W x) {v : V} (hv : Mt (.sl row) v) : ∃ l : List α, v = .sl row.length (l.map f) ∧ wfL W l := by
  simp only [Mt] at hv
  obtain ⟨rows, rfl, hl, hr⟩ := hv
  have key : ∀ rows : List (List V), (∀ r ∈ rows, MtL row r) → ∃ l : List α, rows = l.map f ∧ ∀ x ∈ l, W x := by
    intro rows
    induction rows with
    | nil => intro _; exact ⟨[], rfl, by simp⟩
    | cons r rows ih =>
      intro hr
      obtain ⟨x, rfl, hx⟩ := h r (hr r (by simp))
      obtain ⟨l, rfl, hl⟩ := ih fun r hr' => hr r (by simp [hr'])
      exact ⟨x :: l, rfl, by simpa using ⟨hx, hl⟩⟩
  obtain ⟨l, rfl, hw⟩ := key rows hr
  exact ⟨l, rfl, by simpa [maxLen] using hl, hw⟩
theorem dec_one {l : Lf} {r : List V} (h : MtL [l] r) : ∃ v, r = [v] ∧ Mt l v := by
  simp only [MtL] at h
  obtain ⟨v, vs, rfl, h1, rfl⟩ := h
  exact ⟨v, rfl, h1⟩
theorem dec_bytes {v : V} (h : Mt (.sl [.int .u8]) v) : ∃ l : List UInt8, v = .sl 1 (l.map fun b => [.int .u8 b.toNat]) ∧ l.length ≤ 9223372036854775807 := by
  obtain ⟨l, rfl, hl⟩ := dec_list (f := fun b : UInt8 => [V.int .u8 b.toNat]) (W := fun _ => True) (fun r hr => by
    obtain ⟨v, rfl, g⟩ := dec_one hr
    simp only [Mt] at g
    obtain ⟨n, rfl, hn⟩ := g
    simp only [Lit.wf, Bool.and_eq_true, decide_eq_true_eq] at hn
    have h1 : IntKind.u8.min = 0 := by decide
    have h2 : IntKind.u8.max = 255 := by decide
    rw [h1, h2] at hn
    refine ⟨UInt8.ofNat n.toNat, ?_, trivial⟩
    have e : (((UInt8.ofNat n.toNat).toNat : Nat) : Int) = n := by
      rw [UInt8.toNat_ofNat', Nat.mod_eq_of_lt (by omega)]; omega
    rw [e]) h
  exact ⟨l, rfl, hl.1⟩
def AllP {α : Type} (P : α → Prop) : List α → Prop
  | [] => True
  | x :: l => P x ∧ AllP P l
theorem AllP.mem {α : Type} {P : α → Prop} : ∀ {l : List α}, AllP P l → ∀ x ∈ l, P x
  | [], _, x, hx => by cases hx
  | y :: l, h, x, hx => by
    rcases List.mem_cons.1 hx with rfl | hx
    · exact h.1
    · exact AllP.mem h.2 x hx
end Go.Ml
namespace Go.Ml
theorem trod_len {H : Type} {enc : TypeId × Value → H} {P : Program} {w : World} {b : Nat} {sp : Nat → Bool} {hd : Bool} : ∀ {ts : List TypeId} {vs : List Value} {ds : List (DataW H)} {ps : List MemPlace},
    DataW.TrodAll enc P w b sp hd ts vs ds ps → ds.length = ts.length
  | [], [], [], _, _ => rfl
  | [], [], _ :: _, _, h => h.elim
  | [], _ :: _, ds, _, h => by cases ds <;> exact h.elim
  | _ :: _, [], ds, _, h => by cases ds <;> exact h.elim
  | _ :: _, _ :: _, [], _, h => h.elim
  | t :: ts, v :: vs, d :: ds, ps, h => by
    obtain ⟨p, q, _, h2, _⟩ := h
    simp [trod_len h2]
end Go.Ml
end
