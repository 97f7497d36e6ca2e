/- A small language for the functions of this claim, its soundness, contracts. -/
import Derived.Test.YtldphoheoiochaaPart3
section
set_option linter.unusedSimpArgs false
set_option linter.unusedVariables false
set_option maxRecDepth 100000
set_option maxHeartbeats 8000000
namespace Go.Ml
def l5 : Obj := ⟨1, [[iv 1], [iv 1], [iv 1], [iv 2], [iv 3]]⟩
theorem mapO_l5 (g : Nat → Option Nat) : mapO g l5 = l5 := by simp [mapO, l5, mapV]
theorem RefK_pick5 {T : Nat → Option Fn} (h : D_spec_l01Pick T) {x : List UInt8} (hx : x.length ≤ 1048576) {as : List Src} {dst : Option Nat} {env : Nat → V} {σ : Store} {kp bs : Nat} {rs ms : List Nat} {k : St → Prop} {b p : Nat}
    (hb : CurP σ b x) (hp : objAt σ p = some l5) (hne : b ≠ p) (ha : (as.map fun s => s.ev env) = [.ptr b 0 0, .msl p 0 5])
    (hk : ∀ (d i h : Int), (1 ≤ d ∧ d ≤ 3) → 0 ≤ i ∧ i ≤ x.length → k ⟨updO env dst (iv d), σ.set b (some (cob x i h)), kp, bs, rs, ms⟩) : RefK T 191 as dst ⟨env, σ, kp, bs, rs, ms⟩ k := by
  obtain ⟨i, hh, hob, hi⟩ := hb
  obtain ⟨d, i', h', hd, hi', hrun⟩ := r_pick5 h hx (hh := hh) hi
  have e : (as.map fun s => mapV (place [b, p]) (s.ev env)) = [.ptr 0 0 0, .msl 1 0 5] := by
    have : (as.map fun s => mapV (place [b, p]) (s.ev env)) = (as.map fun s => s.ev env).map (mapV (place [b, p])) := by rw [List.map_map]; rfl
    rw [this, ha]
    simp [mapV, place, hne]
  have e2 : gcS [b, p] σ = [some (cob x i hh), some l5] := by
    simp only [gcS, List.map_cons, List.map_nil, hob, hp, Option.map_some, mapO_cob, mapO_l5]
  have hlt := objAt_lt hob
  have hlp := objAt_lt hp
  have e3 : putBack [b, p] σ [some (cob x i' h'), some l5] = σ.set b (some (cob x i' h')) := by
    unfold putBack
    have : ([some (cob x i' h'), some l5] : Store).drop [b, p].length = [] := rfl
    rw [this, List.map_nil, List.append_nil]
    apply List.ext_getElem?
    intro q
    rw [List.getElem?_mapIdx, List.getElem?_set]
    by_cases hq : b = q
    · subst hq
      rw [if_pos rfl, if_pos hlt, List.getElem?_eq_getElem hlt]
      simp only [Option.map_some, place, if_true]
      show some (some (mapO _ (cob x i' h'))) = _
      rw [mapO_cob]
    · rw [if_neg hq]
      by_cases hq2 : p = q
      · subst hq2
        have h5 : σ[p]? = some (some l5) := by
          rw [List.getElem?_eq_getElem hlp]
          have : (σ[p]?).getD none = some l5 := hp
          rw [List.getElem?_eq_getElem hlp] at this
          exact congrArg some this
        rw [h5]
        simp only [Option.map_some, place, if_neg hq, if_true]
        show some (some (mapO _ l5)) = _
        rw [mapO_l5]
      · cases hg : σ[q]? with
        | none => rfl
        | some ob => simp [place, hq, hq2]
  refine ⟨_, .ref [b, p] (by simp [hne]) (fun o ho => by
    rcases List.mem_cons.1 ho with rfl | ho
    · rw [hob]; rfl
    · rw [List.mem_singleton.1 ho, hp]; rfl) (r := iv d) (σ' := [some (cob x i' h'), some l5]) (by rw [e, e2]; exact hrun), ?_⟩
  have := hk d i' h' hd hi'
  rw [← e3] at this
  exact this
def fewR (n d : Int) : R := Q.raw (mkQ n d)
theorem biOk {n : Int} (hn : -1000000 ≤ n ∧ n ≤ 1000000) : (natOk (bi n).mag && !((bi n).neg && (bi n).mag.isEmpty)) = true := by
  have h1 : natOk (mk n.natAbs) = true := natOk_of (Nat.lt_of_le_of_lt (by omega : n.natAbs ≤ 1000000) (by decide))
  show (natOk (mk n.natAbs) && !(decide (n < 0) && (mk n.natAbs).isEmpty)) = true
  rw [h1, Bool.true_and]
  by_cases h : n < 0
  · have h2 : mk n.natAbs ≠ [] := fun e => by
      have := congrArg val e
      rw [val_mk] at this
      simp [val] at this
      omega
    rw [decide_eq_true h, Bool.true_and]
    cases he : mk n.natAbs with
    | nil => exact absurd he h2
    | cons a l => rfl
  · rw [decide_eq_false h]; rfl
theorem c_RatMakeS {T : Nat → Option Fn} (h : D_spec_RatMake T) {n d : Int} (hn : -1000000 ≤ n ∧ n ≤ 1000000 := by first | omega | assumption | (simp; omega)) (hd : 1 ≤ d ∧ d ≤ 1000000 := by first | omega | assumption | (simp; omega)) : PF T 199 [biV (bi n), biV (bi d)] (ratV (fewR n d)) := by
  have ln : (mk n.natAbs).length ≤ 2 := ln_small (by omega)
  have ld : (mk d.natAbs).length ≤ 2 := ln_small (by omega)
  have c1 := c_sBigIntOk h.d_spec_BigIntOk (z := bi n) (by show (mk n.natAbs).length ≤ _; omega)
  have c2 := c_sBigIntOk h.d_spec_BigIntOk (z := bi d) (by show (mk d.natAbs).length ≤ _; omega)
  rw [biOk hn] at c1
  rw [biOk ⟨by omega, hd.2⟩] at c2
  have c3 := c_l04Low h.d_spec_l04Low (neg := decide (n < 0)) (m := n.natAbs) (n := d.natAbs) (by omega) (by omega)
  have e : sg (decide (n < 0)) n.natAbs = n := by unfold sg; split <;> simp_all <;> omega
  have e2 : ((d.natAbs : Nat) : Int) = d := by omega
  rw [e, e2] at c3
  have hdn : (d < 0) = False := eq_false (by omega)
  refine pf_endL (fun _ _ => false) h.hT rfl rfl ?_
  dsimp only [F_spec_RatMake, oN, oS, oG, oK, oA, oH, oV, cI]
  (refine ev ?_; try with_reducible exact True.intro)
  refine PFK_of c1 ?_
  (refine ev ?_; try with_reducible exact True.intro)
  refine PFK_of c2 ?_
  (refine ev1 @hdn ?_; try with_reducible exact True.intro)
  refine PFK_of c3 ?_
  (refine ev ?_; try with_reducible exact True.intro)
  exact laxV_refl _
theorem c_RatOfS {T : Nat → Option Fn} (h : D_spec_RatOf T) {n d : Int} (hn : -1000000 ≤ n ∧ n ≤ 1000000 := by first | omega | assumption | (simp; omega)) (hd : 1 ≤ d ∧ d ≤ 1000000 := by first | omega | assumption | (simp; omega)) : PF T 190 [iv n, iv d] (ratV (fewR n d)) := by
  have c1 := c_sBigIntOf h.d_spec_BigIntOf (n := n) (by omega)
  have c2 := c_sBigIntOf h.d_spec_BigIntOf (n := d) (by omega)
  refine pf_endL (fun _ _ => false) h.hT rfl rfl ?_
  dsimp only [F_spec_RatOf, oN, oS, oG, oK, oA, oH, oV, cI]
  (refine ev ?_; try with_reducible exact True.intro)
  refine PFK_of c1 ?_
  (refine ev ?_; try with_reducible exact True.intro)
  refine PFK_of c2 ?_
  (refine ev ?_; try with_reducible exact True.intro)
  refine PFK_of (c_RatMakeS h.d_spec_RatMake hn hd) ?_
  (refine ev ?_; try with_reducible exact True.intro)
  exact laxV_refl _
theorem mapV_rat (g : Nat → Option Nat) (r : R) : mapV g (ratV r) = ratV r := by simp [mapV, mapV.mapL]
theorem f_l04Few {T : Nat → Option Fn} (h : D_spec_l04Few T) {x : List UInt8} (hx : x.length ≤ 1048576) : CurF T 184 [] x fun r => ∃ n d : Int, r = ratV (fewR n d) ∧ (-10 ≤ n ∧ n ≤ 10) ∧ (1 ≤ d ∧ d ≤ 3) := by
  refine curF_of fun i hh hi => ?_
  unfold cur
  refine run_end (fun x d => x == 107 || x == 191) h.hT rfl rfl ?_
  dsimp only [F_spec_l04Few, oN, oS, oG, oK, oA, oH, oV, cI, St.enter, List.length_cons, List.length_nil, Nat.zero_add]
  (refine ew ?_; try with_reducible exact True.intro)
  refine RefK_curF (b := 0) (rest := [iv 21]) ⟨i, hh, rfl, hi⟩ (f_l01Below h.d_spec_l01Below (n := 21) (by omega) hx) rfl (fun _ => rfl) ?_
  rintro _ i2 h2 ⟨m, rfl, hm⟩ hi2
  (refine ew ?_; try with_reducible exact True.intro)
  refine RefK_pick5 h.d_spec_l01Pick hx (b := 0) (p := 2) ⟨i2, h2, rfl, hi2⟩ rfl (by decide) rfl ?_
  intro d i3 h3 hd hi3
  (refine ew ?_; try with_reducible exact True.intro)
  refine PFK_of (c_RatOfS h.d_spec_RatOf (n := m - 10) (d := d) (by omega) (by omega)) ?_
  (refine ew ?_; try with_reducible exact True.intro)
  exact ⟨⟨⟨_, _, rfl, by omega, hd⟩, fun g => mapV_rat g _⟩, i3, h3, rfl, hi3⟩
theorem r_l01New {T : Nat → Option Fn} (h : D_spec_l01New T) {x : List UInt8} (hx : x.length ≤ 1048576) : ∃ hh : Int, Run T (.fn 105 [bytesV x] []) (.fn (.ptr 0 0 0) (cur x 0 hh)) := by
  have : ∃ r σ', Run T (.fn 105 [bytesV x] []) (.fn r σ') ∧ ∃ hh : Int, r = .ptr 0 0 0 ∧ σ' = cur x 0 hh := by
    refine run_end (fun _ _ => false) h.hT rfl rfl ?_
    dsimp only [F_spec_l01New, oN, oS, oG, oK, oA, oH, oV, cI, St.enter, List.length_cons, List.length_nil, Nat.zero_add]
    (refine ew ?_; try with_reducible exact True.intro)
    refine loop_at (fun _ _ => false) (α := Nat × Int) (fun q => ⟨argE [bytesV x, .any, .any, iv q.2, iv (q.1 : Nat)], [], 0, 0, [], []⟩) (fun q => q.1 ≤ x.length) (fun q => x.length - q.1) rfl (0, 1951 + x.length) ?_ ?_ ?_
    · omega
    · (refine Fg_env ?_) <;> (try (refine ew ?_; try with_reducible exact True.intro)) <;> (repeat' (first | refine ⟨?_, ?_⟩ | exact EvV_int (by omega) | exact EvV_of (by simp) | exact EvV_nil _))
    · rintro ⟨k, hh⟩ hk
      dsimp only at hk
      by_cases hc : (k : Int) < (x.length : Nat)
      · have hkl : k < x.length := by omega
        by_cases hc2 : (k : Int) < 4000
        · have g1 : (x.map fun b => [V.int .u8 b.toNat]).getD k [] = [.int .u8 (x.getD k default).toNat] := mg (f := fun b : UInt8 => [V.int .u8 b.toNat]) hkl
          have hb : (x.getD k default).toNat < 256 := (x.getD k default).toBitVec.isLt
          generalize (x.getD k default).toNat = b at g1 hb
          (refine ew3 @hc @hc2 @g1 ?_; try with_reducible exact True.intro)
          exact ⟨(k + 1, bitsAnd IntKind.i64 (IntKind.i64.wrap (IntKind.i64.wrap (IntKind.i64.wrap (hh * 59) + b) + 7)) 1073741823), by dsimp only; omega, by dsimp only; omega, by (refine Fg_env ?_) <;> (try (refine ew ?_; try with_reducible exact True.intro)) <;> (repeat' (first | refine ⟨?_, ?_⟩ | exact EvV_int (by omega) | exact EvV_of (by simp) | exact EvV_nil _))⟩
        · (refine ew2 @hc @hc2 ?_; try with_reducible exact True.intro)
          exact ⟨_, rfl⟩
      · (refine ew1 @hc ?_; try with_reducible exact True.intro)
        exact ⟨_, rfl⟩
  obtain ⟨r, σ', h1, hh, rfl, rfl⟩ := this
  exact ⟨hh, h1⟩
theorem cur_shift {x : List UInt8} {i h : Int} {s : Store} (hi : 0 ≤ i ∧ i ≤ x.length) : CurP (addS s (cur x i h)) s.length x := by
  refine ⟨i, h, ?_, hi⟩
  rw [objAt_addS, if_neg (Nat.lt_irrefl _), Nat.sub_self]
  show (some (cob x i h)).map _ = _
  rw [Option.map_some, mapO_cob]
theorem r_l32New {T : Nat → Option Fn} (h : D_spec_l32New T) {x : List UInt8} {n : Int} (hn : n ≤ 1000) (hx : x.length ≤ 1048576) : ∃ i hh : Int, (0 ≤ i ∧ i ≤ x.length) ∧ Run T (.fn 181 [bytesV x, iv n] []) (.fn (.ptr 0 0 0) (cur x i hh)) := by
  obtain ⟨h0, rn⟩ := r_l01New h.d_spec_l01New hx
  have : ∃ r σ', Run T (.fn 181 [bytesV x, iv n] []) (.fn r σ') ∧ (r = .ptr 0 0 0 ∧ CurP σ' 0 x) := by
    refine run_end (fun x d => x == 105 || x == 129) h.hT rfl rfl ?_
    dsimp only [F_spec_l32New, oN, oS, oG, oK, oA, oH, oV, cI, St.enter, List.length_cons, List.length_nil, Nat.zero_add]
    (refine ew ?_; try with_reducible exact True.intro)
    refine RefK_run0 rn (by (refine ew ?_; try with_reducible exact True.intro)) (by (refine ew ?_; try with_reducible exact True.intro)) ?_
    have hP := cur_shift (x := x) (i := 0) (h := h0) (s := []) (by omega)
    rw [List.length_nil] at hP
    rw [show mapV (shiftN ([] : Store).length) (.ptr 0 0 0) = .ptr 0 0 0 from rfl]
    generalize addS [] (cur x 0 h0) = s0 at hP ⊢
    (refine ew ?_; try with_reducible exact True.intro)
    refine loop_at (fun x d => x == 105 || x == 129) (α := Nat × Store) (fun q => ⟨argE [.any, iv n, .any, .any, .any, .ptr 0 0 0, iv (q.1 : Nat)], q.2, 0, 0, [], []⟩) (fun q => q.1 ≤ 1000 ∧ CurP q.2 0 x) (fun q => 1000 - q.1) rfl (0, s0) ?_ ?_ ?_
    · exact ⟨by omega, hP⟩
    · (refine Fg_env ?_) <;> (try (refine ew ?_; try with_reducible exact True.intro)) <;> (repeat' (first | refine ⟨?_, ?_⟩ | exact EvV_int (by omega) | exact EvV_of (by simp) | exact EvV_nil _))
    · clear hP
      rintro ⟨k, s⟩ ⟨hk, hP⟩
      dsimp only at hk hP
      (refine ew ?_; try with_reducible exact True.intro)
      refine brK_dec (fun hc => ?_) fun hc => ?_ <;> (refine ew1 @hc ?_; try with_reducible exact True.intro)
      · refine RefK_curF hP (f_l01Byte h.d_spec_l01Byte hx) rfl (fun _ => rfl) ?_
        rintro _ i2 h2 ⟨m, rfl, hm⟩ hi2
        (refine ew ?_; try with_reducible exact True.intro)
        have hlt : 0 < s.length := by obtain ⟨_, _, ho, _⟩ := hP; exact objAt_lt ho
        exact ⟨(k + 1, s.set 0 (some (cob x i2 h2))), by dsimp only; omega, ⟨by dsimp only; omega, ⟨i2, h2, objAt_seteq hlt, hi2⟩⟩, by (refine Fg_env ?_) <;> (try (refine ew ?_; try with_reducible exact True.intro)) <;> (repeat' (first | refine ⟨?_, ?_⟩ | exact EvV_int (by omega) | exact EvV_of (by simp) | exact EvV_nil _))⟩
      · exact hP
  obtain ⟨r, σ', h1, rfl, i', h', h3, h4⟩ := this
  refine ⟨i', h', h4, ?_⟩
  have := Run.gcF [0] (by simp) (fun k hk => absurd hk (Nat.not_lt_zero _)) h1
  have e : gcS [0] σ' = cur x i' h' := by
    simp only [gcS, List.map_cons, List.map_nil, h3, Option.map_some, mapO_cob]; rfl
  rwa [e] at this
theorem c_MakeRat {T : Nat → Option Fn} (h : D_spec_MakeRat T) {x : List UInt8} {n : Int} (hn : 0 ≤ n ∧ n ≤ 100) (hx : x.length ≤ 1048576) : ∃ m d : Int, (-10 ≤ m ∧ m ≤ 10) ∧ (1 ≤ d ∧ d ≤ 3) ∧ PF T 175 [bytesV x, iv n] (ratV (fewR m d)) := by
  obtain ⟨i0, h0, hi0, rn⟩ := r_l32New h.d_spec_l32New (n := 3 * n) (by omega) hx
  have : ∃ r σ', Run T (.fn 175 [bytesV x, iv n] []) (.fn r σ') ∧ ∃ m d : Int, (-10 ≤ m ∧ m ≤ 10) ∧ (1 ≤ d ∧ d ≤ 3) ∧ r = ratV (fewR m d) := by
    refine run_end (fun x d => x == 181 || x == 184) h.hT rfl rfl ?_
    dsimp only [F_spec_MakeRat, oN, oS, oG, oK, oA, oH, oV, cI, St.enter, List.length_cons, List.length_nil, Nat.zero_add]
    (refine ew ?_; try with_reducible exact True.intro)
    refine RefK_run0 rn (by (refine ew ?_; try with_reducible exact True.intro)) (by (refine ew ?_; try with_reducible exact True.intro)) ?_
    obtain ⟨s, hs⟩ : ∃ s, addS [some ⟨3, [[.bool false, .nils, .nils]]⟩] (cur x i0 h0) = s := ⟨_, rfl⟩
    have hP := cur_shift (x := x) (i := i0) (h := h0) (s := [some ⟨3, [[.bool false, .nils, .nils]]⟩]) hi0
    have h00 : objAt s 0 = some ⟨3, [[.bool false, .nils, .nils]]⟩ := by rw [← hs, objAt_addS, if_pos (by decide)]; rfl
    rw [hs] at hP ⊢
    rw [show mapV (shiftN ([some ⟨3, [[.bool false, .nils, .nils]]⟩] : Store).length) (.ptr 0 0 0) = .ptr 1 0 0 from rfl]
    rw [show ([some ⟨3, [[.bool false, .nils, .nils]]⟩] : Store).length = 1 from rfl] at hP
    have hlt : 1 < s.length := by obtain ⟨_, _, ho, _⟩ := hP; exact objAt_lt ho
    (refine ew ?_; try with_reducible exact True.intro)
    refine RefK_curF hP (f_l04Few h.d_spec_l04Few hx) rfl (fun _ => rfl) ?_
    rintro _ i2 h2 ⟨m, d, rfl, hm, hd⟩ hi2
    (refine ew1 @h00 ?_; try with_reducible exact True.intro)
    exact ⟨m, d, hm, hd, rfl⟩
  obtain ⟨r, σ', h1, m, d, h2, h3, rfl⟩ := this
  exact ⟨m, d, h2, h3, .frz h1 (res_agg_still (by intro v hv; simp at hv; rcases hv with rfl | rfl | rfl <;> rfl))⟩
end Go.Ml
end
section
set_option linter.unusedSimpArgs false
set_option linter.unusedVariables false
set_option maxRecDepth 100000
set_option maxHeartbeats 8000000
namespace Go.Ml
theorem c_MakeNum {T : Nat → Option Fn} (h : D_spec_MakeNum T) {x : List UInt8} {n : Int} (hn : 0 ≤ n ∧ n ≤ 100) (hx : x.length ≤ 1048576) : ∃ m : Int, (0 ≤ m ∧ m ≤ 65535) ∧ PF T 173 [bytesV x, iv n] (iv m) := by
  obtain ⟨i0, h0, hi0, rn⟩ := r_l32New h.d_spec_l32New (n := n) (by omega) hx
  have : ∃ r σ', Run T (.fn 173 [bytesV x, iv n] []) (.fn r σ') ∧ ∃ m : Int, (0 ≤ m ∧ m ≤ 65535) ∧ r = iv m := by
    refine run_end (fun x d => x == 181 || x == 129) h.hT rfl rfl ?_
    dsimp only [F_spec_MakeNum, oN, oS, oG, oK, oA, oH, oV, cI, St.enter, List.length_cons, List.length_nil, Nat.zero_add]
    (refine ew ?_; try with_reducible exact True.intro)
    refine RefK_run0 rn (by (refine ew ?_; try with_reducible exact True.intro)) (by (refine ew ?_; try with_reducible exact True.intro)) ?_
    have hP := cur_shift (x := x) (i := i0) (h := h0) (s := []) hi0
    rw [List.length_nil] at hP
    rw [show mapV (shiftN ([] : Store).length) (.ptr 0 0 0) = .ptr 0 0 0 from rfl]
    generalize addS [] (cur x i0 h0) = s0 at hP ⊢
    have hlt : 0 < s0.length := by obtain ⟨_, _, ho, _⟩ := hP; exact objAt_lt ho
    (refine ew ?_; try with_reducible exact True.intro)
    refine RefK_curF hP (f_l01Byte h.d_spec_l01Byte hx) rfl (fun _ => rfl) ?_
    rintro _ i2 h2 ⟨m, rfl, hm⟩ hi2
    (refine ew ?_; try with_reducible exact True.intro)
    refine RefK_curF (b := 0) ⟨i2, h2, objAt_seteq hlt, hi2⟩ (f_l01Byte h.d_spec_l01Byte hx) rfl (fun _ => rfl) ?_
    rintro _ i3 h3 ⟨m2, rfl, hm2⟩ hi3
    (refine ew ?_; try with_reducible exact True.intro)
    exact ⟨_, by omega, rfl⟩
  obtain ⟨r, σ', h1, m, h2, rfl⟩ := this
  exact ⟨m, h2, .frz h1 rfl⟩
structure SmL (l : Lk) : Prop where
  ab : 0 ≤ l.a ∧ l.a < l.b ∧ l.b ≤ 3
  w : ∃ n : Int, (1 ≤ n ∧ n ≤ 9) ∧ l.w = intR n
  dx : ∃ n : Int, (-20 ≤ n ∧ n ≤ 20) ∧ l.dx = intR n
  dy : ∃ n : Int, (-20 ≤ n ∧ n ≤ 20) ∧ l.dy = intR n
theorem smL_of {a b w x y : Int} (ha : 0 ≤ a ∧ a ≤ 3) (hb : 0 ≤ b ∧ b ≤ 3) (hne : a ≠ b) (hw : 1 ≤ w ∧ w ≤ 9) (hx : -20 ≤ x ∧ x ≤ 20) (hy : -20 ≤ y ∧ y ≤ 20) : SmL (nlV a b w x y) := by
  have hok : nlOk a b w x y = true := by
    unfold nlOk nd inC wtC
    simp
    omega
  unfold nlV
  rw [if_pos hok]
  split
  · exact ⟨⟨by dsimp only; omega, by dsimp only; omega, by dsimp only; omega⟩, ⟨w, hw, rfl⟩, ⟨-x, by omega, rfl⟩, ⟨-y, by omega, rfl⟩⟩
  · exact ⟨⟨by dsimp only; omega, by dsimp only; omega, by dsimp only; omega⟩, ⟨w, hw, rfl⟩, ⟨x, hx, rfl⟩, ⟨y, hy, rfl⟩⟩
theorem mapV_lk (g : Nat → Option Nat) (l : Lk) : mapV g (lkV l) = lkV l := by simp [mapV, mapV.mapL]
theorem f_l06Draw {T : Nat → Option Fn} (h : D_spec_l06Draw T) {x : List UInt8} (hx : x.length ≤ 1048576) : CurF T 128 [iv 3] x fun r => ∃ l : Lk, r = lkV l ∧ SmL l := by
  refine curF_of fun i hh hi => ?_
  unfold cur
  refine run_end (fun x d => x == 107) h.hT rfl rfl ?_
  dsimp only [F_spec_l06Draw, oN, oS, oG, oK, oA, oH, oV, cI, St.enter, List.length_cons, List.length_nil, Nat.zero_add]
  (refine ew ?_; try with_reducible exact True.intro)
  refine RefK_curF (b := 0) (rest := [iv 3]) ⟨i, hh, rfl, hi⟩ (f_l01Below h.d_spec_l01Below (n := 3) (by omega) hx) rfl (fun _ => rfl) ?_
  rintro _ i2 h2 ⟨a, rfl, ha⟩ hi2
  (refine ew ?_; try with_reducible exact True.intro)
  refine RefK_curF (b := 0) (rest := [iv 3]) ⟨i2, h2, rfl, hi2⟩ (f_l01Below h.d_spec_l01Below (n := 3) (by omega) hx) rfl (fun _ => rfl) ?_
  rintro _ i3 h3 ⟨b, rfl, hb⟩ hi3
  (refine ew ?_; try with_reducible exact True.intro)
  refine brK_dec (fun hc => ?_) fun hc => ?_
  · have hr : (a + 1).tmod (3 + 1) = a + 1 := Int.tmod_eq_of_lt (by omega) (by omega)
    (refine ew1 @hr ?_; try with_reducible exact True.intro)
    refine RefK_curF (b := 0) (rest := [iv 9]) ⟨i3, h3, rfl, hi3⟩ (f_l01Below h.d_spec_l01Below (n := 9) (by omega) hx) rfl (fun _ => rfl) ?_
    rintro _ i4 h4 ⟨w, rfl, hw⟩ hi4
    (refine ew ?_; try with_reducible exact True.intro)
    refine RefK_curF (b := 0) (rest := [iv 41]) ⟨i4, h4, rfl, hi4⟩ (f_l01Below h.d_spec_l01Below (n := 41) (by omega) hx) rfl (fun _ => rfl) ?_
    rintro _ i5 h5 ⟨dx, rfl, hdx⟩ hi5
    (refine ew ?_; try with_reducible exact True.intro)
    refine RefK_curF (b := 0) (rest := [iv 41]) ⟨i5, h5, rfl, hi5⟩ (f_l01Below h.d_spec_l01Below (n := 41) (by omega) hx) rfl (fun _ => rfl) ?_
    rintro _ i6 h6 ⟨dy, rfl, hdy⟩ hi6
    (refine ew ?_; try with_reducible exact True.intro)
    have hS := smL_of (a := a) (b := a + 1) (w := 1 + w) (x := dx - 20) (y := dy - 20) (by omega) (by omega) (by omega) (by omega) (by omega) (by omega)
    refine PFK_of (c_sNewLink h.d_spec_NewLink (a := a) (b := a + 1) (w := 1 + w) (x := dx - 20) (y := dy - 20)) ?_
    generalize nlV a (a + 1) (1 + w) (dx - 20) (dy - 20) = l at hS ⊢
    (refine ew ?_; try with_reducible exact True.intro)
    exact ⟨⟨⟨l, rfl, hS⟩, fun g => mapV_lk g _⟩, i6, h6, rfl, hi6⟩
  · (refine ew ?_; try with_reducible exact True.intro)
    refine RefK_curF (b := 0) (rest := [iv 9]) ⟨i3, h3, rfl, hi3⟩ (f_l01Below h.d_spec_l01Below (n := 9) (by omega) hx) rfl (fun _ => rfl) ?_
    rintro _ i4 h4 ⟨w, rfl, hw⟩ hi4
    (refine ew ?_; try with_reducible exact True.intro)
    refine RefK_curF (b := 0) (rest := [iv 41]) ⟨i4, h4, rfl, hi4⟩ (f_l01Below h.d_spec_l01Below (n := 41) (by omega) hx) rfl (fun _ => rfl) ?_
    rintro _ i5 h5 ⟨dx, rfl, hdx⟩ hi5
    (refine ew ?_; try with_reducible exact True.intro)
    refine RefK_curF (b := 0) (rest := [iv 41]) ⟨i5, h5, rfl, hi5⟩ (f_l01Below h.d_spec_l01Below (n := 41) (by omega) hx) rfl (fun _ => rfl) ?_
    rintro _ i6 h6 ⟨dy, rfl, hdy⟩ hi6
    (refine ew ?_; try with_reducible exact True.intro)
    have hS := smL_of (a := a) (b := b) (w := 1 + w) (x := dx - 20) (y := dy - 20) (by omega) (by omega) (by omega) (by omega) (by omega) (by omega)
    refine PFK_of (c_sNewLink h.d_spec_NewLink (a := a) (b := b) (w := 1 + w) (x := dx - 20) (y := dy - 20)) ?_
    generalize nlV a (b) (1 + w) (dx - 20) (dy - 20) = l at hS ⊢
    (refine ew ?_; try with_reducible exact True.intro)
    exact ⟨⟨⟨l, rfl, hS⟩, fun g => mapV_lk g _⟩, i6, h6, rfl, hi6⟩
theorem c_MakeLink {T : Nat → Option Fn} (h : D_spec_MakeLink T) {x : List UInt8} (hx : x.length ≤ 1048576) : ∃ l : Lk, SmL l ∧ PF T 218 [bytesV x] (lkV l) := by
  obtain ⟨i0, h0, hi0, rn⟩ := r_l32New h.d_spec_l32New (n := 5) (by omega) hx
  have : ∃ r σ', Run T (.fn 218 [bytesV x] []) (.fn r σ') ∧ ∃ l : Lk, SmL l ∧ r = lkV l := by
    refine run_end (fun x d => x == 181 || x == 128) h.hT rfl rfl ?_
    dsimp only [F_spec_MakeLink, oN, oS, oG, oK, oA, oH, oV, cI, St.enter, List.length_cons, List.length_nil, Nat.zero_add]
    (refine ew ?_; try with_reducible exact True.intro)
    refine RefK_run0 rn (by (refine ew ?_; try with_reducible exact True.intro)) (by (refine ew ?_; try with_reducible exact True.intro)) ?_
    obtain ⟨z, hz⟩ : ∃ z : Obj, z = ⟨11, [[.int .i64 0, .int .i64 0, .bool false, .nils, .nils, .bool false, .nils, .nils, .bool false, .nils, .nils]]⟩ := ⟨_, rfl⟩
    rw [← hz]
    obtain ⟨s, hs⟩ : ∃ s, addS [some z] (cur x i0 h0) = s := ⟨_, rfl⟩
    have hP := cur_shift (x := x) (i := i0) (h := h0) (s := [some z]) hi0
    have h00 : objAt s 0 = some z := by rw [← hs, objAt_addS, if_pos (by simp)]; rfl
    rw [hs] at hP ⊢
    rw [show mapV (shiftN ([some z] : Store).length) (.ptr 0 0 0) = .ptr 1 0 0 from rfl]
    rw [show ([some z] : Store).length = 1 from rfl] at hP
    have hlt : 1 < s.length := by obtain ⟨_, _, ho, _⟩ := hP; exact objAt_lt ho
    (refine ew ?_; try with_reducible exact True.intro)
    refine RefK_curF hP (f_l06Draw h.d_spec_l06Draw hx) rfl (fun _ => rfl) ?_
    rintro _ i2 h2 ⟨l, rfl, hl⟩ hi2
    rw [hz] at h00
    (refine ew1 @h00 ?_; try with_reducible exact True.intro)
    exact ⟨l, hl, rfl⟩
  obtain ⟨r, σ', h1, l, h2, rfl⟩ := this
  exact ⟨l, h2, .frz h1 (res_agg_still (st_Lk [l] _ (by simp)))⟩
end Go.Ml
end
section
set_option linter.unusedSimpArgs false
set_option linter.unusedVariables false
namespace Go.Ml
def Ht (a : Rat) (N : Nat) : Prop := a.num.natAbs ≤ N ∧ a.den ≤ N
theorem ht_normalize {n : Int} {d N : Nat} (h : d ≠ 0) (h1 : n.natAbs ≤ N) (h2 : d ≤ N) : Ht (Rat.normalize n d h) N := by
  rw [Rat.normalize_eq]
  refine ⟨?_, Nat.le_trans (Nat.div_le_self _ _) h2⟩
  show (n / (n.natAbs.gcd d : Nat)).natAbs ≤ N
  refine Nat.le_trans ?_ h1
  have hd : ((n.natAbs.gcd d : Nat) : Int) ∣ n := Int.ofNat_dvd_left.2 (Nat.gcd_dvd_left _ _)
  rw [Int.natAbs_ediv_of_dvd hd]
  exact Nat.div_le_self _ _
theorem ht_pos {a : Rat} {N : Nat} (h : Ht a N) : 1 ≤ N := by
  have := a.den_pos
  have := h.2
  omega
theorem ht_mul {a b : Rat} {M N : Nat} (ha : Ht a M) (hb : Ht b N) : Ht (a * b) (M * N) := by
  rw [Rat.mul_def]
  refine ht_normalize _ ?_ (Nat.mul_le_mul ha.2 hb.2)
  rw [Int.natAbs_mul]
  exact Nat.mul_le_mul ha.1 hb.1
theorem ht_add {a b : Rat} {M N : Nat} (ha : Ht a M) (hb : Ht b N) : Ht (a + b) (2 * (M * N)) := by
  rw [Rat.add_def]
  have h1 : (a.num * (b.den : Int)).natAbs ≤ M * N := by
    rw [Int.natAbs_mul, Int.natAbs_natCast]; exact Nat.mul_le_mul ha.1 hb.2
  have h2 : (b.num * (a.den : Int)).natAbs ≤ M * N := by
    rw [Int.natAbs_mul, Int.natAbs_natCast, Nat.mul_comm]; exact Nat.mul_le_mul ha.2 hb.1
  have h3 := Nat.mul_le_mul ha.2 hb.2
  refine ht_normalize _ ?_ (by omega)
  have := Int.natAbs_add_le (a.num * (b.den : Int)) (b.num * (a.den : Int))
  omega
theorem ht_neg {a : Rat} {N : Nat} (h : Ht a N) : Ht (-a) N := by
  unfold Ht
  rw [Rat.neg_num, Rat.neg_den, Int.natAbs_neg]
  exact h
theorem ht_sub {a b : Rat} {M N : Nat} (ha : Ht a M) (hb : Ht b N) : Ht (a - b) (2 * (M * N)) := by
  rw [Rat.sub_eq_add_neg]; exact ht_add ha (ht_neg hb)
theorem ht_inv {a : Rat} {N : Nat} (h : Ht a N) : Ht a⁻¹ N := by
  unfold Ht
  rw [Rat.num_inv, Rat.den_inv]
  refine ⟨?_, ?_⟩
  · rw [Int.natAbs_mul, Int.natAbs_natCast]
    have hs : a.num.sign.natAbs ≤ 1 := by
      rcases Int.lt_trichotomy a.num 0 with h | h | h
      · rw [Int.sign_eq_neg_one_of_neg h]; decide
      · rw [h]; decide
      · rw [Int.sign_eq_one_of_pos h]; decide
    have := Nat.mul_le_mul hs (Nat.le_refl a.den)
    have := h.2
    omega
  · split
    · exact ht_pos h
    · exact h.1
theorem ht_div {a b : Rat} {M N : Nat} (ha : Ht a M) (hb : Ht b N) : Ht (a / b) (M * N) := by
  rw [Rat.div_def]; exact ht_mul ha (ht_inv hb)
theorem ht_int {n : Int} {N : Nat} (h : n.natAbs ≤ N) (h1 : 1 ≤ N) : Ht (n : Rat) N := by
  unfold Ht
  rw [Rat.num_intCast, Rat.den_intCast]
  exact ⟨h, h1⟩
theorem ht_fits {a : Rat} {N : Nat} (h : Ht a N) (hN : N < 1000000000 ^ 24) : fits a = true := by
  unfold fits
  rw [decide_eq_true (Nat.lt_of_le_of_lt h.1 hN), decide_eq_true (Nat.lt_of_le_of_lt h.2 hN)]
  rfl
theorem Ht.mono {a : Rat} {M N : Nat} (h : Ht a M) (hl : M ≤ N) : Ht a N := ⟨Nat.le_trans h.1 hl, Nat.le_trans h.2 hl⟩
structure Rv (r : R) (a : Rat) (N : Nat) : Prop where
  q : r.q = some a
  h : Ht a N
theorem Rv.add {r s : R} {a b : Rat} {M N : Nat} (h1 : Rv r a M) (h2 : Rv s b N) (hN : 2 * (M * N) < 1000000000 ^ 24 := by decide) : Rv (addR r s) (a + b) (2 * (M * N)) := by
  have h := ht_add h1.h h2.h
  refine ⟨?_, h⟩
  rw [addR_q, h1.q, h2.q]
  show norm (a + b) = _
  exact norm_fits (ht_fits h hN)
theorem Rv.sub {r s : R} {a b : Rat} {M N : Nat} (h1 : Rv r a M) (h2 : Rv s b N) (hN : 2 * (M * N) < 1000000000 ^ 24 := by decide) : Rv (subR r s) (a - b) (2 * (M * N)) := by
  have h := ht_sub h1.h h2.h
  refine ⟨?_, h⟩
  rw [subR_q, h1.q, h2.q]
  show norm (a + -b) = _
  rw [← Rat.sub_eq_add_neg]
  exact norm_fits (ht_fits h hN)
theorem Rv.mul {r s : R} {a b : Rat} {M N : Nat} (h1 : Rv r a M) (h2 : Rv s b N) (hN : M * N < 1000000000 ^ 24 := by decide) : Rv (mulR r s) (a * b) (M * N) := by
  have h := ht_mul h1.h h2.h
  refine ⟨?_, h⟩
  rw [mulR_q, h1.q, h2.q]
  show norm (a * b) = _
  exact norm_fits (ht_fits h hN)
theorem Rv.div {r s : R} {a b : Rat} {M N : Nat} (h1 : Rv r a M) (h2 : Rv s b N) (hb : b ≠ 0) (hN : M * N < 1000000000 ^ 24 := by decide) : Rv (divR r s) (a / b) (M * N) := by
  have h := ht_div h1.h h2.h
  refine ⟨?_, h⟩
  rw [divR_q, h1.q, h2.q]
  show (if b = 0 then none else norm (a / b)) = _
  rw [if_neg hb]
  exact norm_fits (ht_fits h hN)
theorem rv_int {n : Int} {N : Nat} (h : n.natAbs ≤ N) (h1 : 1 ≤ N) (hN : N < 1000000000 ^ 24 := by decide) : Rv (intR n) (n : Rat) N :=
  ⟨intR_q (Nat.lt_of_le_of_lt h hN), ht_int h h1⟩
theorem Rv.ok {r : R} {a : Rat} {N : Nat} (h : Rv r a N) : r.ok = true := by
  rw [ok_iff, h.q]; simp
theorem Rv.eq {r s : R} {a b : Rat} {M N : Nat} (h1 : Rv r a M) (h2 : Rv s b N) (hr : r.cn) (hs : s.cn) (e : a = b) : r = s := by
  rw [← hr, ← hs, h1.q, h2.q, e]
end Go.Ml
end
section
set_option linter.unusedSimpArgs false
set_option linter.unusedVariables false
set_option maxRecDepth 100000
set_option maxHeartbeats 8000000
namespace Go.Ml
theorem mg_id (v w x y a b c : Rat) (h : v + w ≠ 0) : v * ((x - a) * (x - a) + (y - c) * (y - c)) + w * ((x - b) * (x - b) + (y - c) * (y - c)) =
  (v + w) * ((x - (v * a + w * b) / (v + w)) * (x - (v * a + w * b) / (v + w)) + (y - (v * c + w * c) / (v + w)) * (y - (v * c + w * c) / (v + w))) + (v * w) / (v + w) * ((a - b) * (a - b) + (c - c) * (c - c)) := by
  grind
theorem rv_few {n d : Int} (hn : -10 ≤ n ∧ n ≤ 10) (hd : 1 ≤ d ∧ d ≤ 3) : Rv (fewR n d) (Rat.divInt n d) 10 := by
  have hh : Ht (Rat.divInt n d) 10 := by
    obtain ⟨e, rfl⟩ : ∃ e : Nat, d = (e : Int) := ⟨d.toNat, by omega⟩
    show Ht (mkRat n e) 10
    unfold mkRat
    rw [dif_neg (by omega)]
    exact ht_normalize _ (by omega) (by omega)
  refine ⟨?_, hh⟩
  unfold fewR mkQ
  rw [if_neg (by omega), norm_fits (ht_fits hh (by decide))]
  exact q_raw (ht_fits hh (by decide))
theorem Rv.of_eq {r s : R} {a : Rat} {N : Nat} (h : Rv s a N) (e : r = s) : Rv r a N := e ▸ h
theorem lkEn_t {l : Lk} {p q : Pt} (h : lkOk l = true) : lkEn l p q = mulR l.w (sqR (subR (subR q.x p.x) l.dx) (subR (subR q.y p.y) l.dy)) := by unfold lkEn; rw [if_pos h]
theorem merge_plain {k l : Lk} {p q : Pt} {v w a b c px py qx qy : Rat} (ok1 : lkOk k = true) (ok2 : lkOk l = true) (hab : k.a = l.a ∧ k.b = l.b)
    (kw : Rv k.w v 9) (kx : Rv k.dx a 20) (ky : Rv k.dy c 20) (lw : Rv l.w w 9) (lx : Rv l.dx b 10) (ly : Rv l.dy c 20)
    (rpx : Rv p.x px 10) (rpy : Rv p.y py 10) (rqx : Rv q.x qx 10) (rqy : Rv q.y qy 10) (h0 : v + w ≠ 0) :
    mgOk k l = true ∧ (addR (lkEn k p q) (lkEn l p q)).ok = true ∧ addR (lkEn k p q) (lkEn l p q) = addR (lkEn (mgLV k l) p q) (mgEV k l) := by
  have rW : Rv (mgW k l) _ _ := kw.add lw
  have rX : Rv (mgX k l) _ _ := ((kw.mul kx).add (lw.mul lx)).div rW h0
  have rY : Rv (mgY k l) _ _ := ((kw.mul ky).add (lw.mul ly)).div rW h0
  have sx := kx.sub lx
  have sy := ky.sub ly
  have rE : Rv (mgE k l) _ _ := ((kw.mul lw).div rW h0).mul ((sx.mul sx).add (sy.mul sy))
  have hP : mgP k l = true := by unfold mgP; rw [ok1, ok2, decide_eq_true hab.1, decide_eq_true hab.2]; rfl
  have hok : mgOk k l = true := by unfold mgOk mgG; rw [hP, rW.ok, rX.ok, rY.ok, rE.ok]; rfl
  have hLV : mgLV k l = mgL k l := by unfold mgLV; rw [if_pos hok]
  have hEV : mgEV k l = mgE k l := by unfold mgEV; rw [if_pos hok]
  have hmv := mg_valid hP
  rw [rW.ok, rX.ok, rY.ok] at hmv
  have hmv : lkOk (mgL k l) = true := hmv
  have e1 := lkEn_t (p := p) (q := q) ok1
  have e2 := lkEn_t (p := p) (q := q) ok2
  have e3 := lkEn_t (p := p) (q := q) hmv
  have ex := rqx.sub rpx
  have ey := rqy.sub rpy
  have k1 := ex.sub kx
  have k2 := ey.sub ky
  have l1 := ex.sub lx
  have l2 := ey.sub ly
  have m1 := ex.sub rX
  have m2 := ey.sub rY
  have ek := (kw.mul ((k1.mul k1).add (k2.mul k2))).of_eq e1
  have el := (lw.mul ((l1.mul l1).add (l2.mul l2))).of_eq e2
  have em := (rW.mul ((m1.mul m1).add (m2.mul m2))).of_eq e3
  have s1 := ek.add el
  have s2 := em.add rE
  rw [hLV, hEV]
  refine ⟨hok, s1.ok, s1.eq s2 (addR_cn _ _) (addR_cn _ _) ?_⟩
  exact mg_id v w (qx - px) (qy - py) a b c h0
theorem lkOk_of {l : Lk} {w : Rat} {N : Nat} (h : 0 ≤ l.a ∧ l.a < l.b ∧ l.b ≤ 9) (hw : Rv l.w w N) (hp : 0 < w) (hx : l.dx.ok = true) (hy : l.dy.ok = true) : lkOk l = true := by
  have hs : 0 < sgnR l.w := by
    unfold sgnR
    rw [hw.q]
    show 0 < sgn w.num
    have : 0 < w.num := by
      rw [Rat.lt_iff, show (0 : Rat).num = 0 from rfl, show (0 : Rat).den = 1 from rfl, Int.zero_mul, Int.natCast_one, Int.mul_one] at hp
      exact hp
    unfold sgn
    rw [if_neg (by omega), if_neg (by omega)]
    decide
  unfold sgnR at hs
  unfold lkOk nd
  rw [decide_eq_true hs, hx, hy, decide_eq_true h.2.1, decide_eq_true h.1, decide_eq_true h.2.2, decide_eq_true (show 0 ≤ l.b by omega), decide_eq_true (show l.a ≤ 9 by omega)]
  rfl
theorem merge_draw {k : Lk} {p q : Pt} (hk : SmL k) {w2 m5 d5 m1 d1 m2 d2 m3 d3 m4 d4 : Int} (hw : 1 ≤ w2 ∧ w2 ≤ 9) (h5 : (-10 ≤ m5 ∧ m5 ≤ 10) ∧ (1 ≤ d5 ∧ d5 ≤ 3)) (h1 : (-10 ≤ m1 ∧ m1 ≤ 10) ∧ (1 ≤ d1 ∧ d1 ≤ 3)) (h2 : (-10 ≤ m2 ∧ m2 ≤ 10) ∧ (1 ≤ d2 ∧ d2 ≤ 3))
    (h3 : (-10 ≤ m3 ∧ m3 ≤ 10) ∧ (1 ≤ d3 ∧ d3 ≤ 3)) (h4 : (-10 ≤ m4 ∧ m4 ≤ 10) ∧ (1 ≤ d4 ∧ d4 ≤ 3)) (hp : p = ⟨fewR m1 d1, fewR m2 d2⟩) (hq : q = ⟨fewR m3 d3, fewR m4 d4⟩) :
    mgOk k ⟨k.a, k.b, intR w2, fewR m5 d5, k.dy⟩ = true ∧ (addR (lkEn k p q) (lkEn ⟨k.a, k.b, intR w2, fewR m5 d5, k.dy⟩ p q)).ok = true ∧
      addR (lkEn k p q) (lkEn ⟨k.a, k.b, intR w2, fewR m5 d5, k.dy⟩ p q) = addR (lkEn (mgLV k ⟨k.a, k.b, intR w2, fewR m5 d5, k.dy⟩) p q) (mgEV k ⟨k.a, k.b, intR w2, fewR m5 d5, k.dy⟩) := by
  obtain ⟨hab, ⟨w1, hw1, ew⟩, ⟨x1, hx1, ex⟩, ⟨y1, hy1, ey⟩⟩ := hk
  have kw : Rv k.w (w1 : Rat) 9 := (rv_int (by omega) (by omega)).of_eq ew
  have kx : Rv k.dx (x1 : Rat) 20 := (rv_int (by omega) (by omega)).of_eq ex
  have ky : Rv k.dy (y1 : Rat) 20 := (rv_int (by omega) (by omega)).of_eq ey
  have lw : Rv (intR w2) (w2 : Rat) 9 := rv_int (by omega) (by omega)
  have lx := rv_few h5.1 h5.2
  have p1 : (0 : Rat) < (w1 : Rat) := Rat.intCast_pos.2 (by omega)
  have p2 : (0 : Rat) < (w2 : Rat) := Rat.intCast_pos.2 (by omega)
  have ok1 : lkOk k = true := lkOk_of ⟨hab.1, hab.2.1, by omega⟩ kw p1 kx.ok ky.ok
  have ok2 : lkOk ⟨k.a, k.b, intR w2, fewR m5 d5, k.dy⟩ = true := lkOk_of (l := ⟨k.a, k.b, intR w2, fewR m5 d5, k.dy⟩) ⟨hab.1, hab.2.1, by dsimp only; omega⟩ lw p2 lx.ok ky.ok
  have h0 : (w1 : Rat) + (w2 : Rat) ≠ 0 := by
    rw [← Rat.intCast_add]
    intro e
    have := Rat.intCast_eq_zero_iff.1 e
    omega
  subst hp hq
  exact merge_plain (l := ⟨k.a, k.b, intR w2, fewR m5 d5, k.dy⟩) ok1 ok2 ⟨rfl, rfl⟩ kw kx ky lw lx ky (rv_few h1.1 h1.2) (rv_few h2.1 h2.2) (rv_few h3.1 h3.2) (rv_few h4.1 h4.2) h0
end Go.Ml
end
section
set_option linter.unusedSimpArgs false
set_option linter.unusedVariables false
set_option maxRecDepth 100000
set_option maxHeartbeats 8000000
namespace Go.Ml
theorem fewR_cn {n d : Int} (hn : -10 ≤ n ∧ n ≤ 10) (hd : 1 ≤ d ∧ d ≤ 3) : (fewR n d).cn := cn_ok (rv_few hn hd).ok
theorem smL_cn {l : Lk} (h : SmL l) : l.w.cn ∧ l.dx.cn ∧ l.dy.cn := by
  obtain ⟨_, ⟨a, ha, e1⟩, ⟨b, hb, e2⟩, ⟨c, hc, e3⟩⟩ := h
  rw [e1, e2, e3]
  exact ⟨cn_ok (rv_int (N := 9) (by omega) (by omega)).ok, cn_ok (rv_int (N := 20) (by omega) (by omega)).ok, cn_ok (rv_int (N := 20) (by omega) (by omega)).ok⟩
theorem c_lawFnMerge {T : Nat → Option Fn} (h : D_laws_FnMerge T) (x : List UInt8) (wx : x.length ≤ 9223372036854775807) : PF T 211 [bytesV x] (.bool true) := by
  refine pf_endL (fun _ _ => false) h.hT rfl rfl ?_
  dsimp only [F_laws_FnMerge, oN, oS, oG, oK, oA, oH, oV, cI]
  (refine ev ?_; try with_reducible exact True.intro)
  refine brK_dec (fun hb => ?_) fun hb => ?_
  · (refine ev ?_; try with_reducible exact True.intro)
    exact laxV_refl _
  have hx : x.length ≤ 1048576 := by omega
  obtain ⟨k, hk, ck⟩ := c_MakeLink h.d_spec_MakeLink hx
  obtain ⟨w, hw, cw⟩ := c_MakeNum h.d_spec_MakeNum (n := 1) (by omega) hx
  obtain ⟨m5, d5, h5, h5', c5⟩ := c_MakeRat h.d_spec_MakeRat (n := 5) (by omega) hx
  obtain ⟨m1, d1, h1, h1', c1⟩ := c_MakeRat h.d_spec_MakeRat (n := 1) (by omega) hx
  obtain ⟨m2, d2, h2, h2', c2⟩ := c_MakeRat h.d_spec_MakeRat (n := 2) (by omega) hx
  obtain ⟨m3, d3, h3, h3', c3⟩ := c_MakeRat h.d_spec_MakeRat (n := 3) (by omega) hx
  obtain ⟨m4, d4, h4, h4', c4⟩ := c_MakeRat h.d_spec_MakeRat (n := 4) (by omega) hx
  have ht : 0 ≤ w.tmod 9 ∧ w.tmod 9 < 9 := ⟨Int.tmod_nonneg _ hw.1, Int.tmod_lt_of_pos _ (by decide)⟩
  have hM := merge_draw (p := ⟨fewR m1 d1, fewR m2 d2⟩) (q := ⟨fewR m3 d3, fewR m4 d4⟩) hk (w2 := 1 + w.tmod 9) (by omega) ⟨h5, h5'⟩ ⟨h1, h1'⟩ ⟨h2, h2'⟩ ⟨h3, h3'⟩ ⟨h4, h4'⟩ rfl rfl
  have n1 := fewR_cn h1 h1'
  have n2 := fewR_cn h2 h2'
  have n3 := fewR_cn h3 h3'
  have n4 := fewR_cn h4 h4'
  have n5 := fewR_cn h5 h5'
  have nk := smL_cn hk
  have nw : (intR (1 + w.tmod 9)).cn := cn_ok (rv_int (N := 9) (by omega) (by omega)).ok
  have ci := c_iRatFromInt h.d_impl_RatFromInt (n := 1 + w.tmod 9) (by omega)
  generalize fewR m1 d1 = r1 at c1 hM n1
  generalize fewR m2 d2 = r2 at c2 hM n2
  generalize fewR m3 d3 = r3 at c3 hM n3
  generalize fewR m4 d4 = r4 at c4 hM n4
  generalize fewR m5 d5 = r5 at c5 hM n5
  generalize hwi : intR (1 + w.tmod 9) = rw at ci hM nw
  (refine ev ?_; try with_reducible exact True.intro)
  refine PFK_of ck ?_
  (refine ev ?_; try with_reducible exact True.intro)
  refine PFK_of cw ?_
  (refine ev ?_; try with_reducible exact True.intro)
  refine PFK_of ci ?_
  (refine ev ?_; try with_reducible exact True.intro)
  refine PFK_of c5 ?_
  (refine ev ?_; try with_reducible exact True.intro)
  refine PFK_of c1 ?_
  (refine ev ?_; try with_reducible exact True.intro)
  refine PFK_of c2 ?_
  (refine ev ?_; try with_reducible exact True.intro)
  refine PFK_of c3 ?_
  (refine ev ?_; try with_reducible exact True.intro)
  refine PFK_of c4 ?_
  (refine ev ?_; try with_reducible exact True.intro)
  obtain ⟨hok, hsum, heq⟩ := hM
  have wk : k.wf := ⟨cn_wf nk.1, cn_wf nk.2.1, cn_wf nk.2.2⟩
  have wl : (⟨k.a, k.b, rw, r5, k.dy⟩ : Lk).wf := ⟨cn_wf nw, cn_wf n5, cn_wf nk.2.2⟩
  have wp : (⟨r1, r2⟩ : Pt).wf := ⟨cn_wf n1, cn_wf n2⟩
  have wq : (⟨r3, r4⟩ : Pt).wf := ⟨cn_wf n3, cn_wf n4⟩
  have cm := (po_iMergeLinks h.d_impl_MergeLinks (k := k) (l := ⟨k.a, k.b, rw, r5, k.dy⟩) wk wl).frz (dep_tup3 (dep_lk _ _) (dep_rat _ _) (dep_bool _ _))
  have hmc := mgLV_cn k ⟨k.a, k.b, rw, r5, k.dy⟩
  have hec := mgEV_cn k ⟨k.a, k.b, rw, r5, k.dy⟩
  have ce1 := (po_iLinkEnergy h.d_impl_LinkEnergy (l := k) (p := ⟨r1, r2⟩) (q := ⟨r3, r4⟩) wk wp wq).frz (dep_rat _ _)
  have ce2 := (po_iLinkEnergy h.d_impl_LinkEnergy (l := ⟨k.a, k.b, rw, r5, k.dy⟩) (p := ⟨r1, r2⟩) (q := ⟨r3, r4⟩) wl wp wq).frz (dep_rat _ _)
  have n6 := lkEn_cn k ⟨r1, r2⟩ ⟨r3, r4⟩
  have n7 := lkEn_cn ⟨k.a, k.b, rw, r5, k.dy⟩ ⟨r1, r2⟩ ⟨r3, r4⟩
  rw [hok] at cm
  generalize mgLV k ⟨k.a, k.b, rw, r5, k.dy⟩ = m at cm heq hmc
  generalize mgEV k ⟨k.a, k.b, rw, r5, k.dy⟩ = e at cm heq hec
  have wm : m.wf := ⟨cn_wf hmc.1, cn_wf hmc.2.1, cn_wf hmc.2.2⟩
  have ce3 := (po_iLinkEnergy h.d_impl_LinkEnergy (l := m) (p := ⟨r1, r2⟩) (q := ⟨r3, r4⟩) wm wp wq).frz (dep_rat _ _)
  have n8 := lkEn_cn m ⟨r1, r2⟩ ⟨r3, r4⟩
  generalize lkEn k ⟨r1, r2⟩ ⟨r3, r4⟩ = e1 at ce1 n6 heq hsum
  generalize lkEn ⟨k.a, k.b, rw, r5, k.dy⟩ ⟨r1, r2⟩ ⟨r3, r4⟩ = e2 at ce2 n7 heq hsum
  generalize lkEn m ⟨r1, r2⟩ ⟨r3, r4⟩ = e3 at ce3 n8 heq
  have ca := c_iRatAdd h.d_impl_RatAdd (cn_wf n6) (cn_wf n7)
  have cb := c_iRatAdd h.d_impl_RatAdd (cn_wf n8) (cn_wf hec)
  have wS := cn_wf (addR_cn e1 e2)
  rw [← heq] at cb
  generalize addR e1 e2 = S at ca cb hsum wS
  have co := c_RatOk h.d_impl_RatOk wS
  have cq := c_implRatEqual h.d_impl_RatEqual wS wS
  rw [hsum] at co
  rw [decide_eq_true rfl] at cq
  refine PFK_of cm ?_
  (refine ev ?_; try with_reducible exact True.intro)
  refine PFK_of ce1 ?_
  (refine ev ?_; try with_reducible exact True.intro)
  refine PFK_of ce2 ?_
  (refine ev ?_; try with_reducible exact True.intro)
  refine PFK_of ca ?_
  (refine ev ?_; try with_reducible exact True.intro)
  refine ⟨by unfold OkA; decide +kernel, ?_⟩
  refine PFK_of co ?_
  (refine ev ?_; try with_reducible exact True.intro)
  refine PFK_of ce3 ?_
  (refine ev ?_; try with_reducible exact True.intro)
  refine PFK_of cb ?_
  (refine ev ?_; try with_reducible exact True.intro)
  refine PFK_of cq ?_
  (refine ev ?_; try with_reducible exact True.intro)
  exact laxV_refl _
end Go.Ml
end
section
set_option linter.unusedSimpArgs false
namespace Go.Ml
def Fits (P : Program) (ν : Nat → Option Nat) (T : Nat → Option Fn) : Prop :=
  ∀ fid f F, ν fid = some f → T f = some F → ∃ fn, P.funcs[fid]? = some fn ∧ trFn P ν fn = some F
section
variable {P : Program} {ν : Nat → Option Nat} {T : Nat → Option Fn}
theorem okK_cons {m : Nat} {x : OpI} {l : List OpI} (h : okK m (x :: l) = true) : okK m l = true ∧ ∀ y ∈ l, y.i.makes = true → y.k ≠ x.k ∧ y.k < m := by
  have hm : ∀ (l : List OpI), okK m l = true → ∀ y ∈ l, y.i.makes = true → y.k < m := by
    intro l
    induction l with
    | nil => intro _ y hy; cases hy
    | cons z l ih =>
      intro h y hy hmk
      simp only [okK, Bool.and_eq_true] at h
      rcases List.mem_cons.1 hy with rfl | hy
      · have := h.1
        rw [if_pos hmk] at this
        simp only [Bool.and_eq_true, decide_eq_true_eq] at this
        exact this.1
      · exact ih h.2 y hy hmk
  simp only [okK, Bool.and_eq_true] at h
  refine ⟨h.2, fun y hy hmk => ⟨?_, hm l h.2 y hy hmk⟩⟩
  by_cases hx : x.i.makes = true
  · have := h.1
    rw [if_pos hx] at this
    simp only [Bool.and_eq_true, decide_eq_true_eq, List.all_eq_true] at this
    have := this.2 y hy
    simpa [hmk] using this
  · have := h.1
    rw [if_neg hx] at this
    simp only [beq_iff_eq] at this
    have := hm l h.2 y hy hmk
    omega
theorem okK_lt {m : Nat} : ∀ (l : List OpI), okK m l = true → ∀ x ∈ l, x.i.makes = true → x.k < m
  | [], _, y, hy, _ => by cases hy
  | z :: l, h, y, hy, hmk => by
    simp only [okK, Bool.and_eq_true] at h
    rcases List.mem_cons.1 hy with rfl | hy
    · have := h.1
      rw [if_pos hmk] at this
      simp only [Bool.and_eq_true, decide_eq_true_eq] at this
      exact this.1
    · exact okK_lt l h.2 y hy hmk
theorem okK_ne {m : Nat} : ∀ (l : List OpI), okK m l = true → ∀ (i j : Nat) (x y : OpI), l[i]? = some x → l[j]? = some y → i ≠ j → x.i.makes = true → x.k ≠ y.k
  | [], _, i, j, x, y, hx, _, _, _ => by simp at hx
  | z :: l, h, i, j, x, y, hx, hy, hij, hmk => by
    obtain ⟨k1, k2⟩ := okK_cons h
    cases i with
    | zero =>
      simp at hx; subst hx
      cases j with
      | zero => exact absurd rfl hij
      | succ j =>
        have hy' : y ∈ l := List.mem_of_getElem? (by simpa using hy)
        by_cases hmy : y.i.makes = true
        · exact fun e => (k2 y hy' hmy).1 e.symm
        · -- one that makes none has the number m
          have hm : ∀ (l : List OpI), okK m l = true → ∀ y ∈ l, y.i.makes ≠ true → y.k = m := by
            intro l
            induction l with
            | nil => intro _ y hy; cases hy
            | cons z l ih =>
              intro h y hy hn
              simp only [okK, Bool.and_eq_true] at h
              rcases List.mem_cons.1 hy with rfl | hy
              · have := h.1
                rw [if_neg hn] at this
                simpa using this
              · exact ih h.2 y hy hn
          have := hm l k1 y hy' hmy
          have h3 := okK_lt _ h z (by simp) hmk
          omega
    | succ i =>
      have hx' : x ∈ l := List.mem_of_getElem? (by simpa using hx)
      cases j with
      | zero =>
        simp at hy; subst hy
        exact (k2 x hx' hmk).1
      | succ j => exact okK_ne l k1 i j x y (by simpa using hx) (by simpa using hy) (by omega) hmk
theorem opsOk_cons {o : OpI} {l : List OpI} {st st1 st2 : St} (h1 : OpOk P ν o st st1) (h2 : OpsOk P ν l st1 st2) : OpsOk P ν (o :: l) st st2 := by
  obtain ⟨a1, a2, a3, a4⟩ := h1
  obtain ⟨b1, b2, b3, b4⟩ := h2
  refine ⟨b1.trans a1, b2.trans a2, Nat.le_trans a3 b3, ?_⟩
  intro ops dr nt m k rest htr hk M w0 D0 D a w hs hid Q hQ
  cases rest with
  | nil => simp [trOps] at htr
  | cons r rest =>
    simp only [trOps] at htr
    split at htr <;> first | (cases htr; done) | skip
    rename_i x hx
    split at htr <;> first | (cases htr; done) | skip
    rename_i l' hl'
    simp only [Option.some.injEq, List.cons.injEq] at htr
    obtain ⟨rfl, rfl⟩ := htr
    obtain ⟨k1, k2⟩ := okK_cons hk
    have key := a4 ops dr nt m k r hx M w0 D0 D a w hs (hid x (by simp)) (wpList P ops Q rest) Q (fun D' a' w' hs' hun => by
      refine b4 ops dr nt m _ rest hl' k1 M w0 D0 D' a' w' hs' (fun y hy hmk => ?_) Q hQ
      rw [a1]
      obtain ⟨e1, e2⟩ := hid y (by simp [hy]) hmk
      exact ⟨Nat.lt_of_lt_of_le e1 a3, hun _ (Nat.le_add_right _ _) e1 e2 (fun h => (k2 y hy hmk).1 (by omega))⟩)
    unfold wpList
    split
    · rename_i hw; rw [if_pos hw] at key; exact .inl key
    · rename_i hw; rw [if_neg hw] at key; exact key
theorem trC_inv {nt : Nat} {cc : Code} {c : C} (h : trC P ν nt cc = some c) : match c with
    | .skip => cc = .skip
    | .reg d m l => ∃ id ops, cc = .region id ops d ∧ trOps P ν ops d nt m 0 ops.toList = some l
    | .seq x y => ∃ a b, cc = .seq a b ∧ trC P ν nt a = some x ∧ trC P ν nt b = some y
    | .cond s x y => ∃ o a b, cc = .cond o a b ∧ trS o = some s ∧ trC P ν nt a = some x ∧ trC P ν nt b = some y
    | .block id x => ∃ a, cc = .block id a ∧ trC P ν nt a = some x
    | .loop x => ∃ a, cc = .loop a ∧ trC P ν nt a = some x
    | .exit id => cc = .exit id
    | .ret => cc = .ret := by
  cases cc with
  | skip => simp only [trC, Option.some.injEq] at h; subst h; rfl
  | region id ops d =>
    simp only [trC, Option.map_eq_some_iff] at h
    obtain ⟨l, h1, rfl⟩ := h
    exact ⟨id, ops, rfl, h1⟩
  | seq a b =>
    simp only [trC] at h
    split at h <;> first | (cases h; done) | skip
    rename_i x y h1 h2
    simp only [Option.some.injEq] at h; subst h
    exact ⟨a, b, rfl, h1, h2⟩
  | cond o a b =>
    simp only [trC] at h
    split at h <;> first | (cases h; done) | skip
    rename_i s x y h1 h2 h3
    simp only [Option.some.injEq] at h; subst h
    exact ⟨o, a, b, rfl, h1, h2, h3⟩
  | block id a =>
    simp only [trC, Option.map_eq_some_iff] at h
    obtain ⟨x, h1, rfl⟩ := h
    exact ⟨a, rfl, h1⟩
  | loop a =>
    simp only [trC, Option.map_eq_some_iff] at h
    obtain ⟨x, h1, rfl⟩ := h
    exact ⟨a, rfl, h1⟩
  | exit id => simp only [trC, Option.some.injEq] at h; subst h; rfl
  | ret => simp only [trC, Option.some.injEq] at h; subst h; rfl
  | _ => simp [trC] at h
theorem loop_of {c : C} {e : Ex} {st st' : St} (hk : st'.keep = st.keep) (h : LoopOk P ν c e st st') : CodeOk P ν (.loop c) e st st' := by
  refine ⟨hk, ?_⟩
  intro nt cc htr M w0 D0 D a w hs Q hQ
  obtain ⟨cb, rfl, hb⟩ := trC_inv htr
  intro b k cs
  obtain ⟨x, a', w', q, harr⟩ := h nt cb hb M w0 D0 D a w hs Q hQ b k cs
  exact ⟨x, a', w', q, .of_steps (.one step_loop) harr⟩
theorem exOf_ne {e : Ex} (h : e ≠ .normal) : exOf e ≠ .normal := by cases e <;> simp [exOf] at h ⊢
theorem then_of {next : Act → World → Prop} {Q : Exit → Act → World → Prop} {e : Ex} (h : e ≠ .normal) {a : Act} {w : World} (hq : Q (exOf e) a w) : Exit.then next Q (exOf e) a w := by
  cases e <;> first | (simp at h; done) | exact hq
def getRes (tmps : Array Value) : ResultVar → Sem Value
  | .tmp t => pure (tmps.getD t undef)
  | .cell q t => do loadVar t (← asAddr (tmps.getD q undef))
theorem results_eq (fn : Func) (tmps : Array Value) : results fn tmps = (do let vs ← fn.results.mapM (getRes tmps); pure (if h : vs.size = 1 then vs[0] else .tuple vs)) := rfl
theorem fnOk_fn (hT : Fits P ν T) {f : Nat} {args : List V} {σ : Store} {F : Fn} {e : Ex} {st' : St} {rs : List V} (hf : T f = some F) (hl : args.length = F.nargs)
    (ih : CodeOk P ν F.body e (St.enter args σ) st') (he : e = .normal ∨ e = .ret) (hr : F.res.mapM (Res.get st') = some rs) : FnOk P ν f args σ (packRes rs) st'.objs := by
  intro fid hfid w M D vals hv hS
  obtain ⟨fn, hfn, htr⟩ := hT fid f F hfid hf
  unfold trFn at htr
  split at htr <;> first | (cases htr; done) | skip
  rename_i body hbody
  split at htr <;> first | (cases htr; done) | skip
  rename_i b rs' hb hrs'
  split at htr <;> first | (cases htr; done) | skip
  rename_i hle
  simp only [Option.some.injEq] at htr; subst htr
  have hvl : vals.size = args.length := by simpa using (rdL_length _ _ hv).symm
  refine calls_of_wp hfn hbody ?_
  have hs0 : SR fn.ntmps M w D (St.enter args σ) D { tmps := vals ++ Array.replicate (fn.ntmps - vals.size) undef, defers := [] } w := by
    refine ⟨?_, ?_, rfl, hS, Gr.refl _ _, fun o d h => .inl ⟨o, d, h, rfl⟩, fun o _ => DSle.refl _⟩
    · intro t
      simp only [St.enter]
      by_cases ht : t < args.length
      · obtain ⟨y, h1, h2⟩ := rdL_get _ _ hv t args[t] (by simp [ht])
        have e1 : argE args t = args[t] := by simp [argE, ht]
        rw [e1]
        have e2 : (vals ++ Array.replicate (fn.ntmps - vals.size) undef).getD t undef = y := by
          rw [Array.getD_eq_getD_getElem?, Array.getElem?_append_left (by omega)]
          rw [← Array.getElem?_toList, h1]; rfl
        rw [e2]; exact h2
      · have e1 : argE args t = .any := by simp [argE, List.getD, List.getElem?_eq_none (Nat.le_of_not_lt ht)]
        rw [e1]; simp only [rd]
    · simp only [Array.size_append, Array.size_replicate]; simp only [] at hl; omega
  refine ih.2 fn.ntmps body hb M w D D _ w hs0 _ ?_
  intro D' a' w' hs'
  have hres : ∃ v, (results fn a'.tmps).run P w' = .ok v w' ∧ rd w' D' (XS M D') (packRes rs) v := by
    have hlist : ∀ (vars : List ResultVar) (rl : List Res) (vl : List V), vars.mapM (trRes P) = some rl → rl.mapM (Res.get st') = some vl →
        ∃ ys : List Value, (vars.mapM (getRes a'.tmps)).run P w' = .ok ys w' ∧ rdL w' D' (XS M D') vl ys := by
      intro vars
      induction vars with
      | nil => intro rl vl h1 h2; simp at h1; subst h1; simp at h2; subst h2; exact ⟨[], by simp, by simp [rdL]⟩
      | cons x vars ihv =>
        intro rl vl h1 h2
        simp only [List.mapM_cons, Option.pure_def, Option.bind_eq_bind, Option.bind_eq_some_iff, Option.some.injEq] at h1
        obtain ⟨r, hr1, rl', hr2, rfl⟩ := h1
        simp only [List.mapM_cons, Option.pure_def, Option.bind_eq_bind, Option.bind_eq_some_iff, Option.some.injEq] at h2
        obtain ⟨z, hz1, vl', hz2, rfl⟩ := h2
        obtain ⟨ys, k1, k2⟩ := ihv rl' vl' hr2 hz2
        cases x with
        | tmp t =>
          simp only [trRes, Option.some.injEq] at hr1; subst hr1
          simp only [Res.get, Option.some.injEq] at hz1; subst hz1
          refine ⟨a'.tmps.getD t undef :: ys, ?_, by simp only [rdL]; exact ⟨_, _, rfl, hs'.env t, k2⟩⟩
          have hg : (getRes a'.tmps (.tmp t)).run P w' = .ok (a'.tmps.getD t undef) w' := rfl
          simp only [List.mapM_cons, Sem.run_bind, Sem.run_pure, Result.andThen_ok, k1, hg]
        | cell q t =>
          simp only [trRes, Option.map_eq_some_iff] at hr1
          obtain ⟨⟨n, g⟩, hg, rfl⟩ := hr1
          simp only [Res.get] at hz1
          split at hz1 <;> first | (cases hz1; done) | skip
          rename_i row off hrow
          obtain ⟨u, j1, j2⟩ := run_load_agg hs'.store hg hrow (hs'.env q) hz1
          obtain ⟨bl, oo, hptr, _⟩ := rowAt_rd hs'.store hrow (hs'.env q)
          refine ⟨u :: ys, ?_, by simp only [rdL]; exact ⟨_, _, rfl, j2, k2⟩⟩
          have j1' : (loadVar t ⟨bl, oo + off, none⟩).run P w' = .ok u w' := by
            rw [hptr] at j1
            simpa [Instr.loadAt, Instr.sureAddr] using j1
          have hg : (getRes a'.tmps (.cell q t)).run P w' = .ok u w' := by
            simp only [getRes, hptr, asAddr, Sem.run_bind, Sem.run_pure, Result.andThen_ok, j1']
          simp only [List.mapM_cons, Sem.run_bind, Sem.run_pure, Result.andThen_ok, k1, hg]
    obtain ⟨ys, k1, k2⟩ := hlist fn.results.toList rs' rs hrs' hr
    refine ⟨if h : ys.toArray.size = 1 then ys.toArray[0] else .tuple ys.toArray, ?_, ?_⟩
    · have : (fn.results.mapM (getRes a'.tmps)).run P w' = .ok ys.toArray w' := by
        rw [← Array.toArray_toList (xs := fn.results), List.mapM_toArray, Sem.run_map, k1]; rfl
      rw [results_eq]
      simp only [Sem.run_bind, this, Result.andThen_ok, Sem.run_pure]
    · have hlen := rdL_length _ _ k2
      have gen : ∀ (rs : List V) (ys : List Value), rdL w' D' (XS M D') rs ys → rs.length = ys.length → rd w' D' (XS M D') (packRes rs) (if h : ys.toArray.size = 1 then ys.toArray[0] else .tuple ys.toArray) := by
        intro rs ys h hl
        cases rs with
        | nil =>
          cases ys with
          | nil => simp only [packRes]; rw [dif_neg (by simp)]; simp only [rd]; exact ⟨_, rfl, h⟩
          | cons y ys => simp at hl
        | cons x xs =>
          cases ys with
          | nil => simp at hl
          | cons y ys =>
            cases xs with
            | nil =>
              cases ys with
              | nil =>
                simp only [rdL] at h
                obtain ⟨y', ys', h0, h1, h2⟩ := h
                cases h0
                simpa [packRes] using h1
              | cons y' ys => simp at hl
            | cons x' xs =>
              cases ys with
              | nil => simp at hl
              | cons y' ys =>
                simp only [packRes]
                rw [dif_neg (by simp)]
                simp only [rd]
                exact ⟨_, rfl, h⟩
      exact gen rs ys k2 hlen
  obtain ⟨v, hv1, hv2⟩ := hres
  have hfin : bodyPost P fn (Post M D w σ.length (packRes rs) st'.objs) .ret a' w' :=
    ⟨hs'.df, v, hv1, v, D', rfl, hv2, hs'.store, hs'.gr, hs'.fr, fun o ho => hs'.kp o (by rw [ih.1]; exact ho)⟩
  rcases he with rfl | rfl <;> exact hfin
theorem trOps_get {ops : Array Oper} {dr : Bool} {nt m : Nat} : ∀ {k : Nat} {rest : List Oper} {l : List OpI}, trOps P ν ops dr nt m k rest = some l →
    l.length = rest.length ∧ ∀ (i : Nat) (x : OpI), l[i]? = some x → ∃ o k', rest[i]? = some o ∧ trOp P ν ops dr nt m k' o = some x
  | k, [], l, h => by simp only [trOps, Option.some.injEq] at h; subst h; simp
  | k, o :: rest, l, h => by
    simp only [trOps] at h
    split at h <;> first | (cases h; done) | skip
    rename_i x hx
    split at h <;> first | (cases h; done) | skip
    rename_i l' hl'
    simp only [Option.some.injEq] at h; subst h
    obtain ⟨e1, e2⟩ := trOps_get hl'
    refine ⟨by simp [e1], fun i y hi => ?_⟩
    cases i with
    | zero => simp at hi; subst hi; exact ⟨o, k, rfl, hx⟩
    | succ i => simpa using e2 i y (by simpa using hi)
theorem trOp_aft {ops : Array Oper} {nt m k : Nat} {o : Oper} {x : OpI} (h : trOp P ν ops true nt m k o = some x) : x.aft = trAft o := by
  unfold trOp at h
  split at h <;> first | (cases h; done) | skip
  split at h <;> first | (cases h; done) | skip
  simp only [Option.some.injEq] at h; subst h
  rfl
theorem ready_iff {ops : Array Oper} {nt m : Nat} {l : List OpI} (h : trOps P ν ops true nt m 0 ops.toList = some l) {done : List Nat} {listed : Array Bool} (hs : listed.size = ops.size)
    (hl : ∀ i, listed.getD i false = true ↔ i ∈ done) {i : Nat} : i ∈ Region.ready .any ops listed ↔ readyB l done i = true := by
  obtain ⟨e1, e2⟩ := trOps_get h
  rw [mem_ready]
  have hlt : ∀ {i : Nat}, i < ops.size → (listed.getD i true = false ↔ i ∉ done) := by
    intro i hi
    have : listed.getD i true = listed.getD i false := by
      rw [Array.getD_eq_getD_getElem?, Array.getD_eq_getD_getElem?, Array.getElem?_eq_getElem (by omega)]; rfl
    rw [this]
    constructor
    · intro h1 h2; rw [(hl i).2 h2] at h1; cases h1
    · intro h1
      cases hb : listed.getD i false with
      | false => rfl
      | true => exact absurd ((hl i).1 hb) h1
  constructor
  · rintro ⟨h1, o, ho, h2⟩
    have hi := (Array.getElem?_eq_some_iff.1 ho).1
    have hil : i < l.length := by rw [e1]; simpa using hi
    obtain ⟨o', k', ho', hx⟩ := e2 i l[i] (by simp [hil])
    have : o' = o := by rw [Array.getElem?_toList] at ho'; rw [ho] at ho'; exact (Option.some.inj ho').symm
    subst this
    unfold readyB
    rw [List.getElem?_eq_getElem hil]
    simp only [Bool.and_eq_true, Bool.not_eq_true', List.all_eq_true]
    refine ⟨?_, ?_⟩
    · have := (hlt hi).1 h1
      simpa using this
    · intro e he
      rw [trOp_aft hx] at he
      simp only [trAft, List.mem_map, List.mem_filter] at he
      obtain ⟨ed, ⟨h3, h4⟩, rfl⟩ := he
      have := h2 ed (by simpa using h3) h4
      simpa using (hl _).1 this
  · intro hr
    unfold readyB at hr
    split at hr <;> first | (cases hr; done) | skip
    rename_i x hx
    simp only [Bool.and_eq_true, Bool.not_eq_true', List.all_eq_true] at hr
    obtain ⟨o, k', ho, htr⟩ := e2 i x hx
    have ho' : ops[i]? = some o := by rwa [Array.getElem?_toList] at ho
    have hi := (Array.getElem?_eq_some_iff.1 ho').1
    refine ⟨(hlt hi).2 (by simpa using hr.1), o, ho', ?_⟩
    intro e he hb
    refine (hl _).2 ?_
    have := hr.2 e.on (by rw [trOp_aft htr]; simp only [trAft, List.mem_map, List.mem_filter]; exact ⟨e, ⟨by simpa using he, hb⟩, rfl⟩)
    simpa using this
theorem sound (hm : P.follows .mixedOrders = true) (hT : Fits P ν T) {j : Job} {o : Out} (h : Run T j o) : Sound P ν j o := by
  induction h with
  | skip st =>
    refine ⟨⟨rfl, ?_⟩, fun x h => by cases h⟩
    intro nt cc htr M w0 D0 D a w hs Q hQ
    have hc : cc = .skip := trC_inv htr
    subst hc
    exact Go.wp_skip (hQ D a w hs)
  | @reg m l st st' hk h ih =>
    obtain ⟨_, i1, i2, i3, i4⟩ := ih
    refine ⟨⟨i2, ?_⟩, fun x h => by cases h⟩
    intro nt cc htr M w0 D0 D a w hs Q hQ
    obtain ⟨id, ops, rfl, hops⟩ := trC_inv htr
    refine wp_region_list ?_
    refine i4 ops false nt m 0 ops.toList hops hk M w0 D0 D a w ⟨hs.env, hs.tm, hs.df, hs.mem m, hs.gr, hs.fr, hs.kp⟩ (fun x hx hmk => ?_) Q (fun D' a' w' h => hQ D' a' w' h)
    have hkm : x.k < m := by
      have : ∀ (l : List OpI), okK m l = true → ∀ x ∈ l, x.i.makes = true → x.k < m := by
        intro l
        induction l with
        | nil => intro _ y hy; cases hy
        | cons z l ih =>
          intro h y hy hmk
          simp only [okK, Bool.and_eq_true] at h
          rcases List.mem_cons.1 hy with rfl | hy
          · have := h.1
            rw [if_pos hmk] at this
            simp only [Bool.and_eq_true, decide_eq_true_eq] at this
            exact this.1
          · exact ih h.2 y hy hmk
      exact this l hk x hx hmk
    simp only [List.length_append, List.length_replicate]
    exact ⟨by omega, hs.store.far _ (by omega)⟩
  | @regD m l st st' hk h ih =>
    obtain ⟨_, i1, i2, i3, i4⟩ := ih
    refine ⟨⟨i2, ?_⟩, fun x h => by cases h⟩
    intro nt cc htr M w0 D0 D a w hs Q hQ
    obtain ⟨id, ops, rfl, hops⟩ := trC_inv htr
    refine wp_region_any hm ?_
    have hsd : SR nt M w0 D0 st D a { w with drawn := w.drawn + 1 } := by
      have hE : Ext w D (XS M D) { w with drawn := w.drawn + 1 } D (XS M D) := ⟨Nat.le_refl _, fun _ _ _ => rfl, fun _ _ h => h, fun _ => DSle.refl _⟩
      refine ⟨fun t => rd_mono _ _ hE (hs.env t), hs.tm, hs.df, ?_, ⟨hs.gr.size, hs.gr.os, hs.gr.tape, hs.gr.output, hs.gr.block⟩, hs.fr, hs.kp⟩
      refine ⟨fun o d ho => ?_, hs.store.alive, hs.store.inj, hs.store.far, hs.store.mlt⟩
      obtain ⟨ob, c, e, g1, g2, g3, g4, g5, g6, g7, g8, g9, g10, g11⟩ := hs.store.live o d ho
      refine ⟨ob, c, e, g1, g2, g3, g4, g5, g6, g7, g8, g9, g10, fun i x hi => ?_⟩
      obtain ⟨k0, y, k1, k2⟩ := g11 i x hi
      exact ⟨k0, y, k1, rd_mono _ _ hE k2⟩
    refine i4 ops nt m hops hk M w0 D0 D a _ ⟨hsd.env, hsd.tm, hsd.df, hsd.mem m, hsd.gr, hsd.fr, hsd.kp⟩ (fun i x hx _ hmk => ?_) Q (fun D' a' w' h => hQ D' a' w' h) _ _ (by simp) (fun i => ?_) ?_
    · have hkm : x.k < m := okK_lt l hk x (List.mem_of_getElem? hx) hmk
      simp only [List.length_append, List.length_replicate]
      exact ⟨by omega, hsd.store.far _ (by omega)⟩
    · simp only [Array.getD_eq_getD_getElem?, Array.getElem?_replicate]
      split <;> simp
    · simp
  | @anyN l done st h =>
    refine ⟨rfl, rfl, rfl, Nat.le_refl _, ?_⟩
    intro ops nt m htr hk M w0 D0 D a w hs hid Q hQ fuel listed h1 h2 h3
    refine wpAny_done ?_ (hQ D a w hs) fuel
    apply List.eq_nil_iff_forall_not_mem.2
    intro i hi
    rw [ready_iff htr h1 h2, h i] at hi
    cases hi
  | @anyC l done st st' i0 h0 f h h' ih ih' =>
    obtain ⟨_, b1, b2, b3, _⟩ := ih' i0 h0
    obtain ⟨x0, hx0⟩ : ∃ x0, l[i0]? = some x0 := by
      unfold readyB at h0
      split at h0 <;> first | (cases h0; done) | skip
      exact ⟨_, by assumption⟩
    obtain ⟨_, a1, a2, a3, _⟩ := ih i0 x0 hx0 h0
    refine ⟨rfl, b1.trans a1, b2.trans a2, Nat.le_trans a3 b3, ?_⟩
    intro ops nt m htr hk M w0 D0 D a w hs hid Q hQ fuel listed h1 h2 h3
    have hready : ∀ i, i ∈ Region.ready .any ops listed ↔ readyB l done i = true := fun i => ready_iff htr h1 h2
    have hpos : fuel ≠ 0 := by
      rintro rfl
      have hi := (hready i0).2 h0
      have := (mem_ready.1 hi).1
      obtain ⟨_, o, ho, _⟩ := mem_ready.1 hi
      have hlt := (Array.getElem?_eq_some_iff.1 ho).1
      have hmem : false ∈ listed.toList := by
        have : listed[i0]'(by omega) = false := by
          rw [Array.getD_eq_getD_getElem?, Array.getElem?_eq_getElem (by omega)] at this
          simpa using this
        rw [← this]; simp
      have := List.count_pos_iff.2 hmem
      omega
    obtain ⟨fuel, rfl⟩ := Nat.exists_eq_succ_of_ne_zero hpos
    refine ⟨fun hnil => ?_, fun i hi => ?_⟩
    · have := (hready i0).2 h0
      rw [hnil] at this; cases this
    · have hr := (hready i).1 hi
      obtain ⟨e1, e2⟩ := trOps_get htr
      obtain ⟨_, o, ho, _⟩ := mem_ready.1 hi
      have hlt := (Array.getElem?_eq_some_iff.1 ho).1
      have hil : i < l.length := by rw [e1]; simpa using hlt
      obtain ⟨o', k', ho', hx⟩ := e2 i l[i] (by simp [hil])
      have : o' = o := by rw [Array.getElem?_toList] at ho'; rw [ho] at ho'; exact (Option.some.inj ho').symm
      subst this
      have hli : l[i]? = some l[i] := by simp [hil]
      have hnd : i ∉ done := by
        unfold readyB at hr
        rw [hli] at hr
        simp only [Bool.and_eq_true, Bool.not_eq_true'] at hr
        simpa using hr.1
      obtain ⟨_, c1, c2, c3, c4⟩ := ih i l[i] hli hr
      obtain ⟨_, d1, d2, d3, d4⟩ := ih' i hr
      have key := c4 ops true nt m k' o' hx M w0 D0 D a w hs (fun hmk => hid i l[i] hli hnd hmk) (wpAny P .any ops Q fuel (listed.setIfInBounds i true)) Q (fun D' a' w' hs' hun => by
        refine d4 ops nt m htr hk M w0 D0 D' a' w' hs' (fun j y hy hj hmk => ?_) Q hQ fuel _ (by simpa using h1) (fun j => ?_) ?_
        · simp only [List.mem_cons, not_or] at hj
          rw [c1]
          obtain ⟨g1, g2⟩ := hid j y hy hj.2 hmk
          refine ⟨Nat.lt_of_lt_of_le g1 c3, hun _ (Nat.le_add_right _ _) g1 g2 ?_⟩
          intro he
          have hne := okK_ne l hk j i y l[i] hy hli hj.1 hmk
          omega
        · rw [Array.getD_eq_getD_getElem?, Array.getElem?_setIfInBounds]
          by_cases hij : i = j
          · subst hij
            simp [h1, hlt]
          · rw [if_neg hij, ← Array.getD_eq_getD_getElem?, h2 j]
            simp only [List.mem_cons]
            constructor
            · exact .inr
            · rintro (h | h)
              · exact absurd h.symm hij
              · exact h
        · have hfi : listed[i]'(by omega) = false := by
            have := (mem_ready.1 hi).1
            rw [Array.getD_eq_getD_getElem?, Array.getElem?_eq_getElem (by omega)] at this
            simpa using this
          rw [Array.toList_setIfInBounds, List.count_set (by simpa using (by omega : i < listed.size))]
          have h4 : listed.toList[i]'(by simpa using (by omega : i < listed.size)) = false := by simpa using hfi
          have h5 : 0 < listed.toList.count false := List.count_pos_iff.2 (by rw [← h4]; exact List.getElem_mem _)
          simp only [h4, beq_self_eq_true, if_true]
          have : (true == false) = false := rfl
          simp only [this, Bool.false_eq_true, if_false]
          omega)
      unfold wpOp
      simp only [ho]
      split
      · rename_i hw; rw [if_pos hw] at key; exact .inl key
      · rename_i hw; rw [if_neg hw] at key; exact key
  | @seqN a b st st1 o h h' ih ih' =>
    cases o with
    | fn r σ => trivial
    | code e st2 =>
    obtain ⟨⟨i1, i2⟩, _⟩ := ih
    obtain ⟨⟨j1, j2⟩, _⟩ := ih'
    refine ⟨⟨j1.trans i1, ?_⟩, fun x h => by cases h⟩
    intro nt cc htr M w0 D0 D a w hs Q hQ
    obtain ⟨ca, cb, rfl, ha, hb⟩ := trC_inv htr
    refine Go.wp_seq (i2 nt ca ha M w0 D0 D a w hs _ fun D' a' w' hs' => ?_)
    exact j2 nt cb hb M w0 D0 D' a' w' hs' Q hQ
  | @seqE a b st e st1 he h ih =>
    obtain ⟨⟨i1, i2⟩, _⟩ := ih
    refine ⟨⟨i1, ?_⟩, fun x h => by cases h⟩
    intro nt cc htr M w0 D0 D a w hs Q hQ
    obtain ⟨ca, cb, rfl, ha, hb⟩ := trC_inv htr
    exact Go.wp_seq (i2 nt ca ha M w0 D0 D a w hs _ fun D' a' w' hs' => then_of he (hQ D' a' w' hs'))
  | @cond x a b st t o hx h ih =>
    cases o with
    | fn r σ => trivial
    | code e st2 =>
    obtain ⟨⟨i1, i2⟩, _⟩ := ih
    refine ⟨⟨i1, ?_⟩, fun x h => by cases h⟩
    intro nt cc htr M w0 D0 D a w hs Q hQ
    obtain ⟨oc, ca, cb, rfl, h1, ha, hb⟩ := trC_inv htr
    have hv := rd_src hs.env h1
    rw [hx] at hv
    simp only [rd] at hv
    refine Go.wp_cond hv (i2 nt _ ?_ M w0 D0 D _ w hs Q hQ)
    cases t
    · exact hb
    · exact ha
  | @block id c st e st1 h ih =>
    obtain ⟨⟨i1, i2⟩, _⟩ := ih
    refine ⟨⟨i1, ?_⟩, fun x h => by cases h⟩
    intro nt cc htr M w0 D0 D a w hs Q hQ
    obtain ⟨ca, rfl, ha⟩ := trC_inv htr
    refine Go.wp_block (i2 nt ca ha M w0 D0 D a w hs _ fun D' a' w' hs' => ?_)
    have := hQ D' a' w' hs'
    cases e with
    | normal => exact this
    | ret => exact this
    | exit id' =>
      simp only [exOf, exIn, Exit.inBlock] at this ⊢
      by_cases hid : id' = id
      · simp only [hid, if_true] at this ⊢; exact this
      · simp only [hid, if_false] at this ⊢; exact this
  | @loopN c st st1 o h h' ih ih' =>
    cases o with
    | fn r σ => trivial
    | code e st2 =>
    obtain ⟨⟨i1, i2⟩, _⟩ := ih
    obtain ⟨⟨j1, _⟩, j2⟩ := ih'
    have key : LoopOk P ν c e st st2 := by
      intro nt cc htr M w0 D0 D a w hs Q hQ b k cs
      obtain ⟨x, a1, w1, ⟨D1, hx, hs1⟩, harr⟩ := i2 nt cc htr M w0 D0 D a w hs (fun x a' w' => ∃ D', x = .normal ∧ SR nt M w0 D0 st1 D' a' w') (fun D' a' w' h => ⟨D', rfl, h⟩) b (.inLoop cc :: k) cs
      subst hx
      obtain ⟨x2, a2, w2, q2, harr2⟩ := j2 c rfl nt cc htr M w0 D0 D1 a1 w1 hs1 Q hQ b k cs
      exact ⟨x2, a2, w2, q2, .of_steps (Steps.trans harr (.one step_inLoop)) harr2⟩
    exact ⟨loop_of (j1.trans i1) key, fun x hx => by cases hx; exact key⟩
  | @loopE c st e st1 he h ih =>
    obtain ⟨⟨i1, i2⟩, _⟩ := ih
    have key : LoopOk P ν c e st st1 := by
      intro nt cc htr M w0 D0 D a w hs Q hQ b k cs
      obtain ⟨x, a1, w1, ⟨D1, hx, hs1⟩, harr⟩ := i2 nt cc htr M w0 D0 D a w hs (fun x a' w' => ∃ D', x = exOf e ∧ SR nt M w0 D0 st1 D' a' w') (fun D' a' w' h => ⟨D', rfl, h⟩) b (.inLoop cc :: k) cs
      subst hx
      exact ⟨_, a1, w1, hQ D1 a1 w1 hs1, .pass (x := .inLoop cc) rfl (fun _ _ => .inl (exOf_ne he)) harr⟩
    exact ⟨loop_of i1 key, fun x hx => by cases hx; exact key⟩
  | exit id st =>
    refine ⟨⟨rfl, ?_⟩, fun x h => by cases h⟩
    intro nt cc htr M w0 D0 D a w hs Q hQ
    have hc : cc = .exit id := trC_inv htr
    subst hc
    exact Go.wp_exit (hQ D a w hs)
  | ret st =>
    refine ⟨⟨rfl, ?_⟩, fun x h => by cases h⟩
    intro nt cc htr M w0 D0 D a w hs Q hQ
    have hc : cc = .ret := trC_inv htr
    subst hc
    exact Go.wp_ret (hQ D a w hs)
  | @gc c st o ρ hn hρ h ih =>
    cases o with
    | fn r σ => trivial
    | code e st2 =>
    obtain ⟨⟨i1, i2⟩, i3⟩ := ih
    refine ⟨⟨i1, ?_⟩, ?_⟩
    · intro nt cc htr M w0 D0 D a w hs Q hQ
      exact i2 nt cc htr M w0 D0 _ a w (hs.gc hn hρ) Q hQ
    · intro x hx nt cc htr M w0 D0 D a w hs Q hQ
      exact i3 x hx nt cc htr M w0 D0 _ a w (hs.gc hn hρ) Q hQ
  | nil st =>
    refine ⟨rfl, rfl, rfl, Nat.le_refl _, ?_⟩
    intro ops dr nt m k rest htr hk M w0 D0 D a w hs hid Q hQ
    cases rest with
    | nil => exact hQ D a w hs
    | cons r rest =>
      simp only [trOps] at htr
      split at htr <;> first | (cases htr; done) | skip
      split at htr <;> first | (cases htr; done) | skip
  | @cons o l st st1 out h h' ih ih' =>
    cases out with
    | fn r σ => trivial
    | code e st2 => exact ⟨ih'.1, opsOk_cons ih.2 ih'.2⟩
  | off hg he => exact ⟨rfl, opOk_off hg he⟩
  | op hg h => exact ⟨rfl, opOk_op hg h⟩
  | callP hg hi ha h hR ih => exact ⟨rfl, opOk_callP hg hi ha ih hR⟩
  | callR ρ hn hρ hg hi h ih => exact ⟨rfl, opOk_callR hn hρ hg hi ih⟩
  | callG hg hi ha h hR ih => exact ⟨rfl, opOk_callG hg hi ha ih hR⟩
  | callI hg hi h hl hb ih => exact ⟨rfl, opOk_callI hg hi ih hl hb⟩
  | fn hf hl h he hr ih => exact fnOk_fn hT hf hl ih.1 he hr
  | frz h hr ih => exact fnOk_frz hr ih
  | gcF ρ hn hρ h ih => exact fnOk_gcF hn hρ ih
  | @forget c st st2 o he ho hk h' ih =>
    cases o with
    | fn r σ => trivial
    | code e st3 =>
    obtain ⟨⟨i1, i2⟩, i3⟩ := ih
    refine ⟨⟨i1.trans hk, ?_⟩, ?_⟩
    · intro nt cc htr M w0 D0 D a w hs Q hQ
      exact i2 nt cc htr M w0 D0 _ a w (hs.forget he ho hk) Q hQ
    · intro x hx nt cc htr M w0 D0 D a w hs Q hQ
      exact i3 x hx nt cc htr M w0 D0 _ a w (hs.forget he ho hk) Q hQ
  | @re c st st2 o W h h' ih =>
    cases o with
    | fn r σ => trivial
    | code e st3 =>
    obtain ⟨⟨i1, i2⟩, i3⟩ := ih
    refine ⟨⟨i1.trans h.keep, ?_⟩, ?_⟩
    · intro nt cc htr M w0 D0 D a w hs Q hQ
      exact i2 nt cc htr M w0 D0 _ a w (hs.re h) Q hQ
    · intro x hx nt cc htr M w0 D0 D a w hs Q hQ
      exact i3 x hx nt cc htr M w0 D0 _ a w (hs.re h) Q hQ
  | reF W ha h hs hr ih => exact fnOk_reF ha hs hr ih
  | laxF ha h hr ih => exact fnOk_laxF ha hr ih
end
end Go.Ml
end
section
set_option linter.unusedSimpArgs false
set_option linter.unusedVariables false
namespace Go.Ml
open Go.ChangeShapes Go.WideShapes Go.ChangeAt Go.RowKit
def nuOf : List (Nat × Nat × Fn) → Nat → Option Nat
  | [], _ => none
  | x :: l, i => if x.1 = i then some x.2.1 else nuOf l i
def tbOf : List (Nat × Nat × Fn) → Nat → Option Fn
  | [], _ => none
  | x :: l, k => if x.2.1 = k then some x.2.2 else tbOf l k
theorem nuOf_mem : ∀ {l : List (Nat × Nat × Fn)} {i k : Nat}, nuOf l i = some k → ∃ x ∈ l, x.1 = i ∧ x.2.1 = k
  | [], _, _, h => by simp [nuOf] at h
  | x :: l, i, k, h => by
    simp only [nuOf] at h
    split at h
    · rename_i e; exact ⟨x, by simp, e, by simpa using h⟩
    · obtain ⟨y, hy, e⟩ := nuOf_mem h; exact ⟨y, by simp [hy], e⟩
theorem tbOf_mem : ∀ {l : List (Nat × Nat × Fn)} {k : Nat} {F : Fn}, tbOf l k = some F → ∃ x ∈ l, x.2.1 = k ∧ x.2.2 = F
  | [], _, _, h => by simp [tbOf] at h
  | x :: l, i, k, h => by
    simp only [tbOf] at h
    split at h
    · rename_i e; exact ⟨x, by simp, e, by simpa using h⟩
    · obtain ⟨y, hy, e⟩ := tbOf_mem h; exact ⟨y, by simp [hy], e⟩
theorem eq_of_nodup_map {α β : Type} {f : α → β} : ∀ {l : List α}, (l.map f).Nodup → ∀ {x y}, x ∈ l → y ∈ l → f x = f y → x = y
  | [], _, _, _, h, _, _ => by cases h
  | a :: l, hn, x, y, hx, hy, e => by
    simp only [List.map_cons, List.nodup_cons] at hn
    rcases List.mem_cons.1 hx with rfl | hx' <;> rcases List.mem_cons.1 hy with rfl | hy'
    · rfl
    · exact absurd (e ▸ List.mem_map_of_mem hy') hn.1
    · exact absurd (e ▸ List.mem_map_of_mem hx') hn.1
    · exact eq_of_nodup_map hn.2 hx' hy' e
theorem fits_of {P : Program} {l : List (Nat × Nat × Fn)} (hnd : (l.map (·.2.1)).Nodup) (h : ∀ x ∈ l, ∃ fn, P.funcs[x.1]? = some fn ∧ trFn P (nuOf l) fn = some x.2.2) : Fits P (nuOf l) (tbOf l) := by
  intro fid f F h1 h2
  obtain ⟨x, hx, e1, e2⟩ := nuOf_mem h1
  obtain ⟨y, hy, e3, e4⟩ := tbOf_mem h2
  have : x = y := eq_of_nodup_map hnd hx hy (e2.trans e3.symm)
  subst this
  rw [← e1, ← e4]
  exact h x hx
theorem calls_of {P : Program} {l : List (Nat × Nat × Fn)} (hm : P.follows .mixedOrders = true) (hT : Fits P (nuOf l) (tbOf l)) {f fid : Nat} {args : List V} {r : V} (h : PF (tbOf l) f args r) (hf : nuOf l fid = some f)
    {w : World} {vals : Array Value} (hr : rdL w DM.none (fun _ => False) args vals.toList) :
    Calls P fid vals w fun e w' => (∃ v D X, e = .returned v ∧ rd w' D X r v) ∧ Below w.heap.size w w' := by
  have hs := sound hm hT h
  have hX : XS (fun _ => False) DM.none = fun _ => False := by
    funext b; simp [XS, DM.none]
  refine (hs fid hf w (fun _ => False) DM.none vals (by rw [hX]; exact hr) ⟨?_, ?_, ?_, ?_, ?_⟩).mono fun e w' hp => ?_
  · intro o d h; cases h
  · intro o ob h; simp [objAt] at h
  · intro o o' d d' h; cases h
  · intro o _; rfl
  · intro b h; exact h.elim
  · obtain ⟨v, D', e1, e2, e3, e4, _⟩ := hp
    refine ⟨⟨v, D', _, e1, e2⟩, ⟨e4.os, e4.tape, e4.output, e4.size, fun k hk => e4.block k hk ?_⟩⟩
    rintro ⟨o, d, h, _⟩; cases h
theorem calls_true {P : Program} {l : List (Nat × Nat × Fn)} (hm : P.follows .mixedOrders = true) (hT : Fits P (nuOf l) (tbOf l)) {f fid : Nat} {args : List V} (h : PF (tbOf l) f args (.bool true)) (hf : nuOf l fid = some f)
    {w : World} {vals : Array Value} (hr : rdL w DM.none (fun _ => False) args vals.toList) :
    Calls P fid vals w fun e w' => e = .returned (.bool true) ∧ Below w.heap.size w w' :=
  (calls_of hm hT h hf hr).mono fun e w' hp => by
    obtain ⟨⟨v, D, X, rfl, e2⟩, hb⟩ := hp
    have : v = .bool true := by simpa [rd] using e2
    exact ⟨by rw [this], hb⟩
end Go.Ml
end
section
set_option linter.unusedSimpArgs false
set_option linter.unusedVariables false
namespace Go.Ml
open Go.ChangeShapes Go.WideShapes Go.ChangeAt Go.RowKit
inductive Lf where
  | int (k : IntKind)
  | bool
  | str
  | sl (row : List Lf)
mutual
def Mt : Lf → V → Prop
  | .int k, v => ∃ n, v = .int k n ∧ (Lit.int k n).wf = true
  | .bool, v => ∃ b, v = .bool b
  | .str, v => ∃ s, v = .str s ∧ s.length ≤ maxLen
  | .sl row, v => ∃ rows : List (List V), v = .sl row.length rows ∧ rows.length ≤ maxLen ∧ ∀ r ∈ rows, MtL row r
def MtL : List Lf → List V → Prop
  | [], vs => vs = []
  | l :: ls, vs => ∃ v vs', vs = v :: vs' ∧ Mt l v ∧ MtL ls vs'
end
def shFs (P : Program) (sh : TypeId → Option (List Lf)) : List Field → Nat → Option (List Lf)
  | [], _ => some []
  | f :: fs, off => match sh f.type, shFs P sh fs (off + P.cellsOf f.type) with
    | some r, some rs => if f.offset = off ∧ r.length = P.cellsOf f.type then some (r ++ rs) else none
    | _, _ => none
def shapeOf (P : Program) : Nat → TypeId → Option (List Lf)
  | 0, _ => none
  | n + 1, t => match P.underlying t with
    | some (.int k) => some [.int k]
    | some .bool => some [.bool]
    | some .string => some [.str]
    | some (.slice e) => match shapeOf P n e with
      | some r => if r.length = P.cellsOf e ∧ 0 < r.length then some [.sl r] else none
      | none => none
    | some (.struct fs) => match shFs P (shapeOf P n) fs.toList 0 with
      | some r => if r.length = P.cellsOf t then some r else none
      | none => none
    | _ => none
theorem mtL_append {l1 l2 : List Lf} {v1 v2 : List V} (h1 : MtL l1 v1) (h2 : MtL l2 v2) : MtL (l1 ++ l2) (v1 ++ v2) := by
  induction l1 generalizing v1 with
  | nil => simp only [MtL] at h1; subst h1; simpa using h2
  | cons l l1 ih =>
    simp only [MtL] at h1
    obtain ⟨v, vs, rfl, a, b⟩ := h1
    simp only [List.cons_append, MtL]
    exact ⟨v, vs ++ v2, rfl, a, ih b⟩
theorem mtL_len {l : List Lf} {v : List V} (h : MtL l v) : v.length = l.length := by
  induction l generalizing v with
  | nil => simp only [MtL] at h; subst h; rfl
  | cons x l ih =>
    simp only [MtL] at h
    obtain ⟨v, vs, rfl, a, b⟩ := h
    simp [ih b]
theorem mt_leaf : ∀ {l : Lf} {v : V}, Mt l v → v.leaf = true := by
  intro l v h
  cases l <;> simp only [Mt] at h
  · obtain ⟨n, rfl, _⟩ := h; rfl
  · obtain ⟨b, rfl⟩ := h; rfl
  · obtain ⟨s, rfl, _⟩ := h; rfl
  · obtain ⟨rows, rfl, _⟩ := h; rfl
theorem mtL_leaf {l : List Lf} {v : List V} (h : MtL l v) : ∀ x ∈ v, x.leaf = true := by
  induction l generalizing v with
  | nil => simp only [MtL] at h; subst h; intro x hx; cases hx
  | cons y l ih =>
    simp only [MtL] at h
    obtain ⟨v, vs, rfl, a, b⟩ := h
    intro x hx
    rcases List.mem_cons.1 hx with rfl | hx
    · exact mt_leaf a
    · exact ih b x hx
theorem rdRows_of {w : World} {D : DM} {X : Nat → Prop} {b sz : Nat} : ∀ (off : Nat) (rows : List (List V)),
    (∀ i r, rows[i]? = some r → r.length = sz ∧ rdCells w D X b (off + i * sz) r) → rdRows w D X b sz off rows
  | _, [], _ => by simp [rdRows]
  | off, r :: rows, h => by
    simp only [rdRows]
    have h0 := h 0 r rfl
    refine ⟨h0.1, by simpa using h0.2, rdRows_of (off + sz) rows fun i r' hi => ?_⟩
    have := h (i + 1) r' (by simpa using hi)
    rwa [show off + (i + 1) * sz = off + sz + i * sz by rw [Nat.succ_mul]; omega] at this
theorem rdCells_of_rdL {w : World} {D : DM} {X : Nat → Prop} {b : Nat} : ∀ (off : Nat) (vs : List V) (cs : List Value), rdL w D X vs cs → (∀ x ∈ vs, x.leaf = true) →
    (∀ i, i < cs.length → w.cell? ⟨b, off + i, none⟩ = cs[i]?) → rdCells w D X b off vs
  | _, [], _, _, _, _ => by simp [rdCells]
  | off, v :: vs, cs, h, hl, hc => by
    simp only [rdL] at h
    obtain ⟨y, ys, rfl, h1, h2⟩ := h
    simp only [rdCells]
    refine ⟨hl v (by simp), ⟨y, by simpa using hc 0 (by simp), h1⟩, rdCells_of_rdL (off + 1) vs ys h2 (fun x hx => hl x (by simp [hx])) fun i hi => ?_⟩
    have := hc (i + 1) (by simpa using hi)
    rw [show off + 1 + i = off + (i + 1) by omega, this]
    simp
section
variable {H : Type} {enc : TypeId × Value → H} {P : Program} {w : World}
theorem shape_rd : ∀ (n : Nat) {t : TypeId} {L : List Lf} {fuel : Nat} {cs : List Value} {x : DataW H × List MemPlace}, shapeOf P n t = some L →
    DataW.trod enc P w 0 (fun _ => true) true fuel t cs = some x → ∃ vs, MtL L vs ∧ rdL w DM.none (fun _ => False) vs cs
  | 0, t, L, fuel, cs, x, h, _ => by simp [shapeOf] at h
  | n + 1, t, L, fuel, cs, x, h, hx => by
    cases fuel with
    | zero => simp [DataW.trod] at hx
    | succ fuel =>
    simp only [shapeOf] at h
    split at h
    · rename_i k hu
      simp only [Option.some.injEq] at h; subst h
      obtain ⟨m, rfl, _, hw⟩ := DataW.trod_int hu hx
      exact ⟨[.int k m], by simp [MtL, Mt, hw], by simp [rdL, rd]⟩
    · rename_i hu
      simp only [Option.some.injEq] at h; subst h
      rw [DataW.trod_step] at hx
      unfold DataW.trodStep at hx
      rw [hu] at hx
      split at hx <;> simp_all
      rename_i b
      exact ⟨[.bool b], by simp [MtL, Mt], by simp [rdL, rd]⟩
    · rename_i hu
      simp only [Option.some.injEq] at h; subst h
      rw [DataW.trod_step] at hx
      unfold DataW.trodStep at hx
      rw [hu] at hx
      split at hx <;> simp_all
      rename_i s
      exact ⟨[.str s.data.toList], by simp [MtL, Mt]; exact hx.1, by simp [rdL, rd]⟩
    · rename_i e hu
      split at h <;> first | (cases h; done) | skip
      rename_i r hr
      split at h <;> first | (cases h; done) | skip
      rename_i hsz
      simp only [Option.some.injEq] at h; subst h
      rcases DataW.trod_slice hu hx with ⟨rfl, _⟩ | ⟨a, len, cap, elems, rest, m, _, rfl, _, hb, hl, hm, hlen, hel, _, _⟩
      · exact ⟨[.sl r.length []], by simp [MtL, Mt], by simp only [rdL, rd]; exact ⟨_, [], rfl, ⟨none, 0, rfl, Nat.le_refl _, .inl (by trivial)⟩, rfl⟩⟩
      · have hel' : ∀ i, i < len → ∃ cs', w.cells? 0 (a.add (i * P.cellsOf e)) (P.cellsOf e) = some cs' ∧ ∃ vs, MtL r vs ∧ rdL w DM.none (fun _ => False) vs cs' := by
          intro i hi
          have h1 := hel i hi
          have h2 : elems[i]? = some (elems[i]'(by omega)) := List.getElem?_eq_getElem (by omega)
          rw [h2, Option.bind_eq_some_iff] at h1
          obtain ⟨cs', k1, k2⟩ := h1
          exact ⟨cs', k1, shape_rd n hr k2⟩
        have hch : ∀ i, ∃ p : List Value × List V, i < len → w.cells? 0 (a.add (i * P.cellsOf e)) (P.cellsOf e) = some p.1 ∧ MtL r p.2 ∧ rdL w DM.none (fun _ => False) p.2 p.1 := by
          intro i
          by_cases hi : i < len
          · obtain ⟨cs', k1, vs, k2, k3⟩ := hel' i hi
            exact ⟨(cs', vs), fun _ => ⟨k1, k2, k3⟩⟩
          · exact ⟨([], []), fun h => absurd h hi⟩
        obtain ⟨f, hf⟩ := Classical.axiomOfChoice hch
        have hrow : ∀ i vs, ((List.range len).map fun i => (f i).2)[i]? = some vs → i < len ∧ vs = (f i).2 := by
          intro i vs hi
          rw [List.getElem?_map, Option.map_eq_some_iff] at hi
          obtain ⟨j, h1, h2⟩ := hi
          obtain ⟨h3, h4⟩ := List.getElem?_eq_some_iff.1 h1
          rw [List.getElem_range] at h4
          subst h4
          exact ⟨by simpa using h3, h2.symm⟩
        refine ⟨[.sl r.length ((List.range len).map fun i => (f i).2)], ?_, ?_⟩
        · simp only [MtL, Mt]
          refine ⟨_, [], rfl, ⟨_, rfl, by simp; exact Nat.le_trans hl hm, fun rr hrr => ?_⟩, rfl⟩
          obtain ⟨i, hi⟩ := List.mem_iff_getElem?.1 hrr
          obtain ⟨h1, rfl⟩ := hrow i rr hi
          exact (hf i h1).2.1
        · simp only [rdL, rd]
          refine ⟨_, [], rfl, ⟨some a, cap, by simp, by simpa using hl, ?_⟩, rfl⟩
          by_cases h0 : len = 0
          · left; subst h0; rfl
          · right
            obtain ⟨b, off, spot⟩ := a
            have hspot : spot = none := by
              obtain ⟨_, _, hc⟩ := World.cells?_some (hf 0 (by omega)).1
              have hlen0 := (World.cells?_some (hf 0 (by omega)).1).2.1
              have hc0 := hc 0 (by omega)
              have hlt0 : 0 < (f 0).1.length := by omega
              rw [List.getElem?_eq_getElem hlt0] at hc0
              simpa [Addr.add] using World.cell?_spot hc0
            subst hspot
            have hb' : b < w.heap.size := by
              have := World.cells?_block (hf 0 (by omega)).1 (by omega)
              simpa [Addr.add] using this
            refine ⟨b, off, rfl, hb', fun h => h, rdRows_of _ _ fun i rr hi => ?_⟩
            obtain ⟨h1, rfl⟩ := hrow i rr hi
            obtain ⟨g1, g2, g3⟩ := hf i h1
            obtain ⟨_, hl2, hc⟩ := World.cells?_some g1
            refine ⟨mtL_len g2, rdCells_of_rdL _ _ _ g3 (mtL_leaf g2) fun j hj => ?_⟩
            have := hc j (by omega)
            rw [← this, hsz.1]
            congr 1
            simp only [addr_add]
    · rename_i fs hu
      split at h <;> first | (cases h; done) | skip
      rename_i r hr
      split at h <;> first | (cases h; done) | skip
      rename_i hsz
      simp only [Option.some.injEq] at h; subst h
      rw [DataW.trod_step] at hx
      unfold DataW.trodStep at hx
      rw [hu] at hx
      simp only [] at hx
      split at hx <;> first | (cases hx; done) | skip
      rename_i hlen
      rw [Option.map_eq_some_iff] at hx
      obtain ⟨xs, hxs, _⟩ := hx
      have key : ∀ (fl : List Field) (off : Nat) (r : List Lf) (xs : List (DataW H × List MemPlace)), shFs P (shapeOf P n) fl off = some r →
          (fl.mapM fun f => DataW.trod enc P w 0 (fun _ => true) true fuel f.type ((cs.drop f.offset).take (P.cellsOf f.type))) = some xs →
          ∃ vs, MtL r vs ∧ rdL w DM.none (fun _ => False) vs ((cs.drop off).take r.length) := by
        intro fl
        induction fl with
        | nil =>
          intro off r xs h _
          simp only [shFs, Option.some.injEq] at h; subst h
          exact ⟨[], by simp [MtL], by simp [rdL]⟩
        | cons f fl ih =>
          intro off r xs h hm
          simp only [shFs] at h
          split at h <;> first | (cases h; done) | skip
          rename_i r1 rs h1 h2
          split at h <;> first | (cases h; done) | skip
          rename_i hc
          simp only [Option.some.injEq] at h; subst h
          simp only [List.mapM_cons, Option.pure_def, Option.bind_eq_bind, Option.bind_eq_some_iff, Option.some.injEq] at hm
          obtain ⟨y, hy, ys, hys, rfl⟩ := hm
          obtain ⟨v1, a1, a2⟩ := shape_rd n h1 hy
          obtain ⟨v2, b1, b2⟩ := ih _ rs ys h2 hys
          refine ⟨v1 ++ v2, mtL_append a1 b1, ?_⟩
          have e : (cs.drop off).take (r1 ++ rs).length = (cs.drop off).take r1.length ++ (cs.drop (off + P.cellsOf f.type)).take rs.length := by
            rw [List.length_append, List.take_add, List.drop_drop, hc.2]
          rw [e]
          rw [hc.1, ← hc.2] at a2
          exact rdL_append _ _ _ _ a2 b2
      obtain ⟨vs, a1, a2⟩ := key fs.toList 0 r xs hr hxs
      refine ⟨vs, a1, ?_⟩
      rw [List.drop_zero, List.take_of_length_le (by omega)] at a2
      exact a2
    · cases h
theorem shape_in (n : Nat) {t : TypeId} {L : List Lf} {v : Value} {d : DataW H} {ps : List MemPlace} (hs : shapeOf P n t = some L) (h : DataW.Trod enc P w 0 (fun _ => true) true t v d ps) :
    ∃ vs, MtL L vs ∧ rdL w DM.none (fun _ => False) vs v.cells.toList := by
  obtain ⟨fuel, hf⟩ := h
  exact shape_rd n hs hf
end
end Go.Ml
namespace Go.Ml
open Go.ChangeShapes Go.WideShapes Go.ChangeAt Go.RowKit
def argV (g : Bool) (vs : List V) : V := if g = true then .agg vs else vs.headD .any
def ArgsMt : List (Bool × List Lf) → List V → Prop
  | [], vs => vs = []
  | s :: ss, vs => ∃ cs rest, vs = argV s.1 cs :: rest ∧ MtL s.2 cs ∧ ArgsMt ss rest
def argOk (P : Program) (t : TypeId) (s : Bool × List Lf) : Bool :=
  match P.underlying t with
  | some (.struct _) => s.1
  | some (.int _) | some .bool | some .string | some (.slice _) => !s.1
  | _ => false
def argsOk (P : Program) : List TypeId → List (Bool × List Lf) → Prop
  | [], ss => ss = []
  | t :: ts, ss => ∃ s rest, ss = s :: rest ∧ shapeOf P 20 t = some s.2 ∧ argOk P t s = true ∧ argsOk P ts rest
theorem args_in {H : Type} {enc : TypeId × Value → H} {P : Program} {w : World} {r : Reach} {b : Nat} : ∀ {ts : List TypeId} {ss : List (Bool × List Lf)} {vs : List Value} {ds : List (DataW H)} {ps : List MemPlace},
    argsOk P ts ss → (∀ (j : Nat) t v, ts[j]? = some t → vs[j]? = some v → Value.okWide P w r b t v) → DataW.TrodAll enc P w 0 (fun _ => true) true ts vs ds ps →
    ∃ Vs, ArgsMt ss Vs ∧ rdL w DM.none (fun _ => False) Vs vs
  | [], ss, [], ds, ps, h, _, _ => by simp only [argsOk] at h; subst h; exact ⟨[], rfl, by simp [rdL]⟩
  | [], _, _ :: _, ds, ps, _, _, ht => by cases ds <;> exact ht.elim
  | _ :: _, _, [], ds, ps, _, _, ht => by cases ds <;> exact ht.elim
  | t :: ts, ss, v :: vs, [], ps, _, _, ht => ht.elim
  | t :: ts, ss, v :: vs, d :: ds, ps, h, hw, ht => by
    simp only [argsOk] at h
    obtain ⟨s, rest, rfl, h1, h2, h3⟩ := h
    obtain ⟨p, q, k1, k2, _⟩ := ht
    obtain ⟨Vs, a1, a2⟩ := args_in h3 (fun j t' v' hj hv => hw (j + 1) t' v' (by simpa using hj) (by simpa using hv)) k2
    obtain ⟨cs, c1, c2⟩ := shape_in 20 h1 k1
    have hok := hw 0 t v rfl rfl
    refine ⟨argV s.1 cs :: Vs, ⟨cs, Vs, rfl, c1, a1⟩, ?_⟩
    simp only [rdL]
    refine ⟨v, vs, rfl, ?_, a2⟩
    unfold argOk at h2
    have one : (∀ cs', v ≠ .agg cs') → s.1 = false → s.2.length = 1 → rd w DM.none (fun _ => False) (argV s.1 cs) v := by
      intro hv hs hl
      have hvc : v.cells.toList = [v] := by cases v <;> first | rfl | (exact absurd rfl (hv _))
      rw [hvc] at c2
      have := mtL_len c1
      rw [hl] at this
      cases cs with
      | nil => simp at this
      | cons x xs =>
        simp only [rdL] at c2
        obtain ⟨y, ys, e, e2, _⟩ := c2
        simp only [List.cons.injEq] at e
        rw [hs]
        simp only [argV, Bool.false_eq_true, if_false, List.headD_cons]
        rw [e.1]; exact e2
    unfold shapeOf at h1
    split at h2
    · rename_i fs hu
      rw [h2]
      simp only [Value.okWide, hu] at hok
      obtain ⟨cs', rfl, _⟩ := hok
      simp only [argV, if_true, rd]
      exact ⟨cs', rfl, c2⟩
    · rename_i k hu
      rw [hu] at h1
      simp only [Option.some.injEq] at h1
      obtain ⟨n, rfl⟩ := okWide_int hu hok
      exact one (by intro cs' e; cases e) (by simpa using h2) (by rw [← h1]; rfl)
    · rename_i hu
      rw [hu] at h1
      simp only [Option.some.injEq] at h1
      obtain ⟨n, rfl⟩ := okWide_bool hu hok
      exact one (by intro cs' e; cases e) (by simpa using h2) (by rw [← h1]; rfl)
    · rename_i hu
      rw [hu] at h1
      simp only [Option.some.injEq] at h1
      obtain ⟨n, rfl⟩ := okWide_string hu hok
      exact one (by intro cs' e; cases e) (by simpa using h2) (by rw [← h1]; rfl)
    · rename_i e hu
      rw [hu] at h1
      simp only [] at h1
      obtain ⟨a0, l0, c0, rfl⟩ := okWide_slice hu hok
      refine one (by intro cs' e; cases e) (by simpa using h2) ?_
      split at h1 <;> first | (cases h1; done) | skip
      split at h1 <;> first | (cases h1; done) | skip
      simp only [Option.some.injEq] at h1
      rw [← h1]; rfl
    · cases h2
theorem trodAll_below {H : Type} {enc : TypeId × Value → H} {P : Program} (hl : laidOutB P = true) {W W' : World} (hb : Below W.heap.size W W') : ∀ {ts : List TypeId} {vs : List Value} {ds : List (DataW H)} {ps : List MemPlace},
    (ts.all fun t => P.readableRec t && decide (t < P.types.size)) = true → DataW.TrodAll enc P W 0 (fun _ => true) true ts vs ds ps → (∀ x ∈ ps, x.block < W.heap.size) →
    DataW.TrodAll enc P W' 0 (fun b => decide (b < W.heap.size)) true ts vs ds ps
  | [], [], [], ps, _, h, _ => h
  | [], _ :: _, ds, ps, _, ht, _ => by cases ds <;> exact ht.elim
  | [], [], _ :: _, ps, _, ht, _ => ht.elim
  | _ :: _, [], ds, ps, _, ht, _ => by cases ds <;> exact ht.elim
  | t :: ts, v :: vs, [], ps, _, ht, _ => ht.elim
  | t :: ts, v :: vs, d :: ds, ps, h, ht, hlt => by
    simp only [List.all_cons, Bool.and_eq_true, decide_eq_true_eq] at h
    obtain ⟨p, q, k1, k2, rfl⟩ := ht
    exact ⟨p, q, Below.trod hl h.1.1 h.1.2 k1 hb fun x hx => hlt x (by simp [hx]), trodAll_below hl hb (by simpa using h.2) k2 fun x hx => hlt x (by simp [hx]), rfl⟩
end Go.Ml
end
section
set_option linter.unusedSimpArgs false
set_option linter.unusedVariables false
namespace Go.Ml
theorem dec_list {α : Type} {row : List Lf} {f : α → List V} {W : α → Prop} (h : ∀ r, MtL row r → ∃ x, r = f x ∧ W x) {v : V} (hv : Mt (.sl row) v) : ∃ l : List α, v = .sl row.length (l.map f) ∧ wfL W l := by
  simp only [Mt] at hv
  obtain ⟨rows, rfl, hl, hr⟩ := hv
  have key : ∀ rows : List (List V), (∀ r ∈ rows, MtL row r) → ∃ l : List α, rows = l.map f ∧ ∀ x ∈ l, W x := by
    intro rows
    induction rows with
    | nil => intro _; exact ⟨[], rfl, by simp⟩
    | cons r rows ih =>
      intro hr
      obtain ⟨x, rfl, hx⟩ := h r (hr r (by simp))
      obtain ⟨l, rfl, hl⟩ := ih fun r hr' => hr r (by simp [hr'])
      exact ⟨x :: l, rfl, by simpa using ⟨hx, hl⟩⟩
  obtain ⟨l, rfl, hw⟩ := key rows hr
  exact ⟨l, rfl, by simpa [maxLen] using hl, hw⟩
theorem dec_one {l : Lf} {r : List V} (h : MtL [l] r) : ∃ v, r = [v] ∧ Mt l v := by
  simp only [MtL] at h
  obtain ⟨v, vs, rfl, h1, rfl⟩ := h
  exact ⟨v, rfl, h1⟩
theorem dec_bytes {v : V} (h : Mt (.sl [.int .u8]) v) : ∃ l : List UInt8, v = .sl 1 (l.map fun b => [.int .u8 b.toNat]) ∧ l.length ≤ 9223372036854775807 := by
  obtain ⟨l, rfl, hl⟩ := dec_list (f := fun b : UInt8 => [V.int .u8 b.toNat]) (W := fun _ => True) (fun r hr => by
    obtain ⟨v, rfl, g⟩ := dec_one hr
    simp only [Mt] at g
    obtain ⟨n, rfl, hn⟩ := g
    simp only [Lit.wf, Bool.and_eq_true, decide_eq_true_eq] at hn
    have h1 : IntKind.u8.min = 0 := by decide
    have h2 : IntKind.u8.max = 255 := by decide
    rw [h1, h2] at hn
    refine ⟨UInt8.ofNat n.toNat, ?_, trivial⟩
    have e : (((UInt8.ofNat n.toNat).toNat : Nat) : Int) = n := by
      rw [UInt8.toNat_ofNat', Nat.mod_eq_of_lt (by omega)]; omega
    rw [e]) h
  exact ⟨l, rfl, hl.1⟩
def AllP {α : Type} (P : α → Prop) : List α → Prop
  | [] => True
  | x :: l => P x ∧ AllP P l
theorem AllP.mem {α : Type} {P : α → Prop} : ∀ {l : List α}, AllP P l → ∀ x ∈ l, P x
  | [], _, x, hx => by cases hx
  | y :: l, h, x, hx => by
    rcases List.mem_cons.1 hx with rfl | hx
    · exact h.1
    · exact AllP.mem h.2 x hx
end Go.Ml
namespace Go.Ml
theorem trod_len {H : Type} {enc : TypeId × Value → H} {P : Program} {w : World} {b : Nat} {sp : Nat → Bool} {hd : Bool} : ∀ {ts : List TypeId} {vs : List Value} {ds : List (DataW H)} {ps : List MemPlace},
    DataW.TrodAll enc P w b sp hd ts vs ds ps → ds.length = ts.length
  | [], [], [], _, _ => rfl
  | [], [], _ :: _, _, h => h.elim
  | [], _ :: _, ds, _, h => by cases ds <;> exact h.elim
  | _ :: _, [], ds, _, h => by cases ds <;> exact h.elim
  | _ :: _, _ :: _, [], _, h => h.elim
  | t :: ts, v :: vs, d :: ds, ps, h => by
    obtain ⟨p, q, _, h2, _⟩ := h
    simp [trod_len h2]
end Go.Ml
end
