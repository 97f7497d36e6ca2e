/- The steps of the reckoning, as equations. -/
import Derived.Test.YteiefahbhljlgaaZzWp
import Derived.IntWalk
set_option linter.unusedSimpArgs false
set_option linter.unusedVariables false
namespace Go.Ml

def wr {α : Sort _} (a : α) : α := a

theorem nr {α : Sort _} {a b : α} (h : a = b) : a = b := h
theorem wr_eq {α : Sort _} (a : α) : wr a = a := nr rfl

def stoK (σ : Store) (k : Store → Prop) : Prop := k σ
theorem stoK_n (k : Store → Prop) : stoK [] k = k [] := nr rfl
theorem stoK_c (a : Option Obj) (σ : Store) (k : Store → Prop) : stoK (a :: σ) k = k (a :: σ) := nr rfl
@[congr] theorem stoK_cg {v v' : Store} {k : Store → Prop} (h : wr v = v') : stoK v k = stoK v' k := by rw [← h, wr_eq]
def natK (n : Nat) (k : Nat → Prop) : Prop := k n
theorem natK_eq (n : Nat) (k : Nat → Prop) : natK n k = k n := nr rfl
@[congr] theorem natK_cg {v v' : Nat} {k : Nat → Prop} (h : wr v = v') : natK v k = natK v' k := by rw [← h, wr_eq]
def brK (t : Bool) (a b : Prop) : Prop := if t = true then a else b
@[congr] theorem brK_cg {t t' : Bool} {a b : Prop} (h : wr t = t') : brK t a b = brK t' a b := by rw [← h, wr_eq]
theorem brK_t (a b : Prop) : brK true a b = a := by simp [brK]
theorem brK_f (a b : Prop) : brK false a b = b := by simp [brK]
theorem brK_not (t : Bool) (a b : Prop) : brK (!t) a b = brK t b a := by cases t <;> simp [brK]
theorem brK_yes {c : Prop} [Decidable c] {a b : Prop} (h : c) : brK (decide c) a b = a := by simp [brK, h]
theorem brK_no {c : Prop} [Decidable c] {a b : Prop} (h : ¬ c) : brK (decide c) a b = b := by simp [brK, h]
theorem brK_dec {c : Prop} [Decidable c] {a b : Prop} (h1 : c → a) (h2 : ¬ c → b) : brK (decide c) a b := by
  unfold brK
  by_cases h : c
  · rw [if_pos (decide_eq_true h)]; exact h1 h
  · rw [if_neg (by simpa using h)]; exact h2 h
theorem brK_b {t : Bool} {a b : Prop} (h1 : t = true → a) (h2 : t = false → b) : brK t a b := by
  cases t
  · rw [brK_f]; exact h2 rfl
  · rw [brK_t]; exact h1 rfl
def mvK (v : V) (k : V → Prop) : Prop := k v
theorem mvK_eq (v : V) (k : V → Prop) : mvK v k = k v := nr rfl
@[congr] theorem mvK_cg {v v' : V} {k : V → Prop} (h : wr v = v') : mvK v k = mvK v' k := by rw [← h, wr_eq]
@[congr] theorem optK_cg {α : Type} {v v' : Option α} {k : α → Prop} (h : wr v = v') : optK v k = optK v' k := by rw [← h, wr_eq]
@[congr] theorem boolK_cg {v v' : V} {k : Bool → Prop} (h : wr v = v') : boolK v k = boolK v' k := by rw [← h, wr_eq]
@[congr] theorem numK_cg {v v' : List Nat} {k : List Nat → Prop} (h : wr v = v') : numK v k = numK v' k := by rw [← h, wr_eq]
@[congr] theorem asIdxK_cg {n n' : Nat} {v v' : V} {k : Nat → Prop} (h0 : wr n = n') (h : wr v = v') : asIdxK n v k = asIdxK n' v' k := by rw [← h0, ← h, wr_eq, wr_eq]
@[congr] theorem asBoundK_cg {n n' : Nat} {v v' : V} {k : Nat → Prop} (h0 : wr n = n') (h : wr v = v') : asBoundK n v k = asBoundK n' v' k := by rw [← h0, ← h, wr_eq, wr_eq]
@[congr] theorem binK_cg {op : BinOp} {x x' y y' : V} {k : V → Prop} (h0 : wr x = x') (h : wr y = y') : binK op x y k = binK op x' y' k := by rw [← h0, ← h, wr_eq, wr_eq]
@[congr] theorem PFK_cg {T : Nat → Option Fn} {f : Nat} {as as' : List V} {k : V → Prop} (h : wr as = as') : PFK T f as k = PFK T f as' k := by rw [← h, wr_eq]
@[congr] theorem RefK_cg {T : Nat → Option Fn} {f f' : Nat} {as : List Src} {d : Option Nat} {st : St} {k : St → Prop} (h : wr f = f') : RefK T f as d st k = RefK T f' as d st k := by rw [← h, wr_eq]
@[congr] theorem LoopK_cg {T T' : Nat → Option Fn} {c : C} {Q : Ex → St → Prop} {st : St} (h : wr T = T') : LoopK T c Q st = LoopK T' c Q st := by rw [← h, wr_eq]
@[congr] theorem OkA_cg {ops : List OpI} {l l' : List Acc} (h : wr l = l') : OkA ops l = OkA ops l' := by rw [← h, wr_eq]

theorem optK_some {α : Type} (a : α) (k : α → Prop) : optK (some a) k = k a := nr rfl
theorem boolK_b (b : Bool) (k : Bool → Prop) : boolK (.bool b) k = k b := nr rfl
theorem numK_nil (k : List Nat → Prop) : numK [] k = k [] := nr rfl
theorem numK_cons (a : Nat) (l : List Nat) (k : List Nat → Prop) : numK (a :: l) k = k (a :: l) := nr rfl
theorem asIdxK_ok {n : Nat} {q : IntKind} {i : Int} {k : Nat → Prop} (h : 0 ≤ i ∧ i < n) : asIdxK n (.int q i) k = k i.toNat := by
  simp [asIdxK, h]
theorem asBoundK_ok {n : Nat} {q : IntKind} {i : Int} {k : Nat → Prop} (h : 0 ≤ i ∧ i ≤ n) : asBoundK n (.int q i) k = k i.toNat := by
  simp [asBoundK, h]

theorem w64 {n : Int} (h : -9223372036854775808 ≤ n ∧ n ≤ 9223372036854775807) : IntKind.i64.wrap n = n := IntWalk.i64_in n h
theorem w32u {n : Int} (h : 0 ≤ n ∧ n ≤ 4294967295) : IntKind.u32.wrap n = n := IntWalk.u32_in n h
theorem w64u {n : Int} (h : 0 ≤ n ∧ n ≤ 18446744073709551615) : IntKind.u64.wrap n = n := IntWalk.u64_in n h
theorem w8u {n : Int} (h : 0 ≤ n ∧ n ≤ 255) : IntKind.u8.wrap n = n := IntWalk.u8_in n h

/-! ### Temporaries, store -/

theorem ev_t (n : Nat) (env : Nat → V) : Src.ev env (.t n) = env n := nr rfl
theorem ev_c (v : V) (env : Nat → V) : Src.ev env (.c v) = v := nr rfl
theorem updO_some (env : Nat → V) (t : Nat) (v : V) : updO env (some t) v = upd env t v := nr rfl
theorem updO_none (env : Nat → V) (v : V) : updO env none v = env := nr rfl
theorem updO_at (env : Nat → V) (t : Nat) (v : V) (s : Nat) : updO env (some t) v s = if s = t then v else env s := nr rfl
theorem upd_at (env : Nat → V) (t : Nat) (v : V) (s : Nat) : upd env t v s = if s = t then v else env s := nr rfl
theorem argE_0 (a : V) (l : List V) : argE (a :: l) 0 = a := nr rfl
theorem argE_s (a : V) (l : List V) (n : Nat) : argE (a :: l) (n + 1) = argE l n := nr rfl
theorem argE_n (n : Nat) : argE [] n = .any := nr rfl
theorem objAt_0 (a : Option Obj) (l : Store) : objAt (a :: l) 0 = a := nr rfl
theorem objAt_s (a : Option Obj) (l : Store) (n : Nat) : objAt (a :: l) (n + 1) = objAt l n := nr rfl
theorem objAt_n (n : Nat) : objAt [] n = none := nr rfl
theorem set_0 (a : Option Obj) (l : Store) (x : Option Obj) : List.set (a :: l) 0 x = x :: l := nr rfl
theorem set_s (a : Option Obj) (l : Store) (n : Nat) (x : Option Obj) : List.set (a :: l) (n + 1) x = a :: List.set l n x := nr rfl
theorem padS_0 (σ : Store) : padS σ 0 = σ := by simp [padS]
theorem padS_s (σ : Store) (n : Nat) : padS σ (n + 1) = padS (σ ++ [none]) n := by simp [padS, List.replicate_succ]
theorem in_mk (env : Nat → V) (objs : Store) (kp bs : Nat) (rs ms : List Nat) (m : Nat) : St.in ⟨env, objs, kp, bs, rs, ms⟩ m = ⟨env, padS objs m, kp, objs.length, [], []⟩ := nr rfl
theorem enter_mk (args : List V) (σ : Store) : St.enter args σ = ⟨argE args, σ, σ.length, 0, [], []⟩ := nr rfl
theorem kill_nil (σ : Store) : killAll σ [] = σ := nr rfl
theorem kill_cons (σ : Store) (o : Nat) (l : List Nat) : killAll σ (o :: l) = killAll (σ.set o none) l := nr rfl

/-! ### Code -/
section
variable (T : Nat → Option Fn) (rf : Nat → Bool) (Q : Ex → St → Prop) (st : St) (k : St → Prop) (env : Nat → V) (σ : Store) (kp bs : Nat) (rs ms : List Nat)

def goK (st : St) (d : Option Nat) (id : Nat) (ef : Eff) (k : St → Prop) : Prop := k (ef.go st d id)
@[congr] theorem goK_cg {st : St} {d : Option Nat} {id id' : Nat} {ef : Eff} {k : St → Prop} (h : wr id = id') : goK st d id ef k = goK st d id' ef k := by rw [← h, wr_eq]
theorem goK_v (t id : Nat) (v : V) : goK ⟨env, σ, kp, bs, rs, ms⟩ (some t) id (.val v) k = k ⟨upd env t v, σ, kp, bs, rs, ms⟩ := nr rfl
theorem goK_v0 (id : Nat) (v : V) : goK ⟨env, σ, kp, bs, rs, ms⟩ none id (.val v) k = k ⟨env, σ, kp, bs, rs, ms⟩ := nr rfl
theorem goK_p (t id : Nat) (ob : Obj) : goK ⟨env, σ, kp, bs, rs, ms⟩ (some t) id (.newP ob) k = stoK (σ.set id (some ob)) fun σ => k ⟨upd env t (.ptr id 0 0), σ, kp, bs, rs, ms⟩ := nr rfl
theorem goK_s (t id : Nat) (ob : Obj) (n : Nat) : goK ⟨env, σ, kp, bs, rs, ms⟩ (some t) id (.newS ob n) k = stoK (σ.set id (some ob)) fun σ => k ⟨upd env t (.msl id 0 n), σ, kp, bs, rs, ms⟩ := nr rfl
theorem goK_u (id o : Nat) (ob : Obj) : goK ⟨env, σ, kp, bs, rs, ms⟩ none id (.upd o ob) k = stoK (σ.set o (some ob)) fun σ => k ⟨env, σ, kp, bs, rs, ms⟩ := nr rfl
theorem goK_m (t id o : Nat) (ob : Obj) (n : Nat) : goK ⟨env, σ, kp, bs, rs, ms⟩ (some t) id (.mov o ob n) k = stoK ((σ.set o none).set id (some ob)) fun σ => k ⟨upd env t (.msl id 0 n), σ, kp, bs, rs, ms⟩ := nr rfl

theorem wp_skip : wp T rf .skip Q st = Q .normal st := nr rfl
theorem wp_regF (m : Nat) (l : List OpI) : wp T rf (.reg false m l) Q ⟨env, σ, kp, bs, rs, ms⟩ = natK σ.length fun b => stoK (padS σ m) fun σ => opsK T rf l ⟨env, σ, kp, b, [], []⟩ (Q .normal) := nr rfl
theorem wp_regT (m : Nat) (l : List OpI) : wp T rf (.reg true m l) Q ⟨env, σ, kp, bs, rs, ms⟩ = natK σ.length fun b => stoK (padS σ m) fun σ => if noWr l = true then any0K T l ⟨env, σ, kp, b, [], []⟩ (Q .normal) else anyK T l l 0 [] ⟨env, σ, kp, b, [], []⟩ (Q .normal) := nr rfl
theorem wp_seq (a b : C) : wp T rf (.seq a b) Q st = wp T rf a (fun e st => seqK e (wp T rf b Q st) (Q e st)) st := nr rfl
theorem wp_cond (x : Src) (a b : C) : wp T rf (.cond x a b) Q st = boolK (x.ev st.env) fun t => if t = true then wp T rf a Q st else wp T rf b Q st := nr rfl
theorem wp_cond' (x : Src) (a b : C) : wp T rf (.cond x a b) Q ⟨env, σ, kp, bs, rs, ms⟩ = boolK (x.ev env) fun t => brK t (wp T rf a Q ⟨env, σ, kp, bs, rs, ms⟩) (wp T rf b Q ⟨env, σ, kp, bs, rs, ms⟩) := nr rfl
theorem wp_block (id : Nat) (c : C) : wp T rf (.block id c) Q st = wp T rf c (fun e st => Q (exIn id e) st) st := nr rfl
theorem wp_loop (c : C) : wp T rf (.loop c) Q st = LoopK T c Q st := nr rfl
theorem wp_exit (id : Nat) : wp T rf (.exit id) Q st = Q (.exit id) st := nr rfl
theorem wp_ret : wp T rf .ret Q st = Q .ret st := nr rfl
theorem seqK_n (a b : Prop) : seqK .normal a b = a := nr rfl
theorem seqK_e (id : Nat) (a b : Prop) : seqK (.exit id) a b = b := nr rfl
theorem seqK_r (a b : Prop) : seqK .ret a b = b := nr rfl
theorem exIn_n (id : Nat) : exIn id .normal = .normal := nr rfl
theorem exIn_r (id : Nat) : exIn id .ret = .ret := nr rfl
theorem exIn_e (id j : Nat) : exIn id (.exit j) = if j = id then .normal else .exit j := nr rfl

theorem opsK_n : opsK T rf [] st k = k st := nr rfl
theorem opsK_c (o : OpI) (l : List OpI) : opsK T rf (o :: l) st k = opK T rf o st fun st => opsK T rf l st k := nr rfl

theorem opK_mk (g : Option (Nat × Bool)) (d : Option Nat) (n : Nat) (i : I) (a : List Nat) : opK T rf ⟨g, d, n, i, a⟩ ⟨env, σ, kp, bs, rs, ms⟩ k = gK g env (match i with
    | .call f as => if rf f = true then RefK T f as d ⟨env, σ, kp, bs, rs, ms⟩ k else resK env σ as fun as' => PFK T f as' fun r =>
        stoK (killAll σ (if scalar SD r then [] else reachAll env σ as)) fun σ => k ⟨updO env d r, σ, kp, bs, rs, ms⟩
    | i => natK (bs + n) fun id => i.effK env σ fun ef => goK ⟨env, σ, kp, bs, rs, ms⟩ d id ef k)
    (k ⟨updO env d .any, σ, kp, bs, rs, ms⟩) := by cases i <;> rfl

theorem any0K_n : any0K T [] st k = k st := nr rfl
theorem any0K_c (g : Option (Nat × Bool)) (d : Option Nat) (n : Nat) (i : I) (a : List Nat) (l : List OpI) : any0K T (⟨g, d, n, i, a⟩ :: l) ⟨env, σ, kp, bs, rs, ms⟩ k = gK g env (match i with
    | .call f as => resK env σ as fun as' => PFK T f as' fun r => numK (reachAll env σ as) fun R =>
        (R = [] ∨ scalar SD r = true) ∧ any0K T l ⟨updO env d r, σ, kp, bs, rs, ms⟩ k
    | x => x.effK env σ fun ef => valK ef fun v => any0K T l ⟨updO env d v, σ, kp, bs, rs, ms⟩ k)
    (any0K T l ⟨updO env d .any, σ, kp, bs, rs, ms⟩ k) := by cases i <;> rfl

theorem anyK_n (ops : List OpI) (i : Nat) (acc : List Acc) : anyK T ops [] i acc st k = (OkA ops acc ∧ k st) := nr rfl
theorem anyK_c (ops : List OpI) (g : Option (Nat × Bool)) (d : Option Nat) (n : Nat) (x : I) (a : List Nat) (l : List OpI) (i : Nat) (acc : List Acc) : anyK T ops (⟨g, d, n, x, a⟩ :: l) i acc ⟨env, σ, kp, bs, rs, ms⟩ k = gK g env (match x with
    | .call f as => resK env σ as fun as' => PFK T f as' fun r => numK (reachAll env σ as) fun R =>
        (R = [] ∨ scalar SD r = true) ∧ natK (i + 1) fun j => anyK T ops l j (⟨i, R, []⟩ :: acc) ⟨updO env d r, σ, kp, bs, rs, ms⟩ k
    | x => numK (x.reads env) fun R => natK (bs + n) fun id => x.effK env σ fun ef => numK (ef.wr id) fun W => natK (i + 1) fun j =>
        goK ⟨env, σ, kp, bs, rs, ms⟩ d id ef fun st => anyK T ops l j (⟨i, R, W⟩ :: acc) st k)
    (natK (i + 1) fun j => anyK T ops l j (⟨i, [], []⟩ :: acc) ⟨updO env d .any, σ, kp, bs, rs, ms⟩ k) := by cases x <;> rfl
end

theorem gK_0 (env : Nat → V) (a b : Prop) : gK none env a b = a := nr rfl
theorem gK_t (t : Nat) (env : Nat → V) (on off : Prop) : gK (some (t, true)) env on off = boolK (env t) fun b => brK b on off := nr rfl
theorem gK_f (t : Nat) (env : Nat → V) (on off : Prop) : gK (some (t, false)) env on off = boolK (env t) fun b => brK b off on := nr rfl
theorem valK_v (v : V) (k : V → Prop) : valK (.val v) k = k v := nr rfl
theorem wr_v (v : V) (id : Nat) : Eff.wr id (.val v) = [] := nr rfl
theorem wr_p (ob : Obj) (id : Nat) : Eff.wr id (.newP ob) = [id] := nr rfl
theorem wr_s (ob : Obj) (n : Nat) (id : Nat) : Eff.wr id (.newS ob n) = [id] := nr rfl
theorem wr_u (ob : Obj) (o : Nat) (id : Nat) : Eff.wr id (.upd o ob) = [o] := nr rfl
theorem wr_m (ob : Obj) (o n : Nat) (id : Nat) : Eff.wr id (.mov o ob n) = [o, id] := nr rfl

/-! ### Operations -/

def cellsK (v : V) (k : List V → Prop) : Prop := optK v.cells? k
@[congr] theorem cellsK_cg {v v' : V} {k : List V → Prop} (h : wr v = v') : cellsK v k = cellsK v' k := by rw [← h, wr_eq]
theorem cellsK_int (q : IntKind) (n : Int) (k : List V → Prop) : cellsK (.int q n) k = k [.int q n] := nr rfl
theorem cellsK_bool (b : Bool) (k : List V → Prop) : cellsK (.bool b) k = k [.bool b] := nr rfl
theorem cellsK_str (s : List UInt8) (k : List V → Prop) : cellsK (.str s) k = k [.str s] := nr rfl
theorem cellsK_nils (k : List V → Prop) : cellsK .nils k = k [.nils] := nr rfl
theorem cellsK_one (k : List V → Prop) : cellsK .one k = k [.one] := nr rfl
theorem cellsK_sl (sz : Nat) (r : List (List V)) (k : List V → Prop) : cellsK (.sl sz r) k = k [.sl sz r] := nr rfl
theorem cellsK_msl (o s l : Nat) (k : List V → Prop) : cellsK (.msl o s l) k = k [.msl o s l] := nr rfl
theorem cellsK_ptr (o s l : Nat) (k : List V → Prop) : cellsK (.ptr o s l) k = k [.ptr o s l] := nr rfl
theorem cellsK_fptr (r : List V) (o : Nat) (k : List V → Prop) : cellsK (.fptr r o) k = k [.fptr r o] := nr rfl
theorem cellsK_agg (cs : List V) (k : List V → Prop) : cellsK (.agg cs) k = if cs.all V.leaf = true then k cs else False := by
  simp only [cellsK, V.cells?]; split <;> rfl

def refK (σ : Store) (v : V) (k : Nat → Nat → Nat → Prop) (kf : List V → Nat → Prop) : Prop := match v with
  | .ptr o r off => k o r off
  | .fptr row off => kf row off
  | _ => False
@[congr] theorem refK_cg {σ : Store} {v v' : V} {k : Nat → Nat → Nat → Prop} {kf : List V → Nat → Prop} (h : wr v = v') : refK σ v k kf = refK σ v' k kf := by rw [← h, wr_eq]
theorem refK_p (σ : Store) (o r off : Nat) (k : Nat → Nat → Nat → Prop) (kf : List V → Nat → Prop) : refK σ (.ptr o r off) k kf = k o r off := nr rfl
theorem refK_f (σ : Store) (r : List V) (off : Nat) (k : Nat → Nat → Nat → Prop) (kf : List V → Nat → Prop) : refK σ (.fptr r off) k kf = kf r off := nr rfl

def slK (v : V) (kn : Prop) (kf : Nat → List (List V) → Prop) (km : Nat → Nat → Nat → Prop) : Prop := match v with
  | .nils => kn
  | .sl sz rows => kf sz rows
  | .msl o s l => km o s l
  | _ => False
@[congr] theorem slK_cg {v v' : V} {kn : Prop} {kf : Nat → List (List V) → Prop} {km : Nat → Nat → Nat → Prop} (h : wr v = v') : slK v kn kf km = slK v' kn kf km := by rw [← h, wr_eq]
theorem slK_n (kn : Prop) (kf : Nat → List (List V) → Prop) (km : Nat → Nat → Nat → Prop) : slK .nils kn kf km = kn := nr rfl
theorem slK_f (sz : Nat) (r : List (List V)) (kn : Prop) (kf : Nat → List (List V) → Prop) (km : Nat → Nat → Nat → Prop) : slK (.sl sz r) kn kf km = kf sz r := nr rfl
theorem slK_m (o s l : Nat) (kn : Prop) (kf : Nat → List (List V) → Prop) (km : Nat → Nat → Nat → Prop) : slK (.msl o s l) kn kf km = km o s l := nr rfl

def intK (v : V) (k : IntKind → Int → Prop) : Prop := match v with
  | .int q n => k q n
  | _ => False
@[congr] theorem intK_cg {v v' : V} {k : IntKind → Int → Prop} (h : wr v = v') : intK v k = intK v' k := by rw [← h, wr_eq]
theorem intK_i (q : IntKind) (n : Int) (k : IntKind → Int → Prop) : intK (.int q n) k = k q n := nr rfl

def strK (v : V) (k : List UInt8 → Prop) : Prop := match v with
  | .str s => k s
  | _ => False
@[congr] theorem strK_cg {v v' : V} {k : List UInt8 → Prop} (h : wr v = v') : strK v k = strK v' k := by rw [← h, wr_eq]
theorem strK_s (s : List UInt8) (k : List UInt8 → Prop) : strK (.str s) k = k s := nr rfl

def tupK (v : V) (k : List V → Prop) : Prop := match v with
  | .tup s => k s
  | _ => False
@[congr] theorem tupK_cg {v v' : V} {k : List V → Prop} (h : wr v = v') : tupK v k = tupK v' k := by rw [← h, wr_eq]
theorem tupK_t (s : List V) (k : List V → Prop) : tupK (.tup s) k = k s := nr rfl

section
variable (env : Nat → V) (σ : Store) (k : Eff → Prop)
theorem e_mov (x : Src) : I.effK env σ (.mov x) k = mvK (x.ev env) fun v => k (.val v) := nr rfl
theorem e_pick (c a b : Src) : I.effK env σ (.pick c a b) k = boolK (c.ev env) fun t => brK t (mvK (a.ev env) fun v => k (.val v)) (mvK (b.ev env) fun v => k (.val v)) := by
  simp only [I.effK]; cases c.ev env with | bool t => cases t <;> rfl | _ => rfl
theorem e_alloc (z : List V) : I.effK env σ (.alloc z) k = k (.newP ⟨z.length, [z]⟩) := nr rfl
theorem e_box (x : Src) : I.effK env σ (.box x) k = cellsK (x.ev env) fun cs => match cs with | c :: cs => k (.newP ⟨(c :: cs).length, [c :: cs]⟩) | [] => False := by
  simp only [I.effK, cellsK]; cases (x.ev env).cells? with | none => rfl | some cs => cases cs <;> rfl
theorem e_build (z : List V) (ps : List (Nat × Nat × Src)) : I.effK env σ (.build z ps) k = optK (fillRow env z ps) fun cs => k (.val (.agg cs)) := nr rfl
theorem e_mkSl (sz : Nat) (z : List V) (ln : Nat) (ps : List (Nat × Src)) : I.effK env σ (.mkSl sz z ln ps) k =
    optK (fillRows env sz (List.replicate ln z) ps) fun rows => if ln = 0 then k (.val .nils) else k (.newS ⟨sz, rows⟩ ln) := nr rfl
theorem e_make (z : List V) (b : Nat) (x : Src) : I.effK env σ (.make z b x) k = intK (x.ev env) fun q n => match q with
    | .i64 => (0 ≤ n ∧ n ≤ 2 ^ 47 ∧ n * b ≤ 2 ^ 47) ∧ k (.newS ⟨z.length, List.replicate n.toNat z⟩ n.toNat) | _ => False := by
  simp only [I.effK]; cases x.ev env with | int q n => cases q <;> rfl | _ => rfl
theorem e_load1 (n : Nat) (a : Src) : I.effK env σ (.load n false a) k = optK (rowAt σ (a.ev env)) fun p => optK p.1[p.2]? fun v => mvK v fun v => k (.val v) := nr rfl
theorem e_loadn (n : Nat) (a : Src) : I.effK env σ (.load n true a) k = optK (rowAt σ (a.ev env)) fun p => p.2 + n ≤ p.1.length ∧ mvK (.agg ((p.1.drop p.2).take n)) fun v => k (.val v) := nr rfl
theorem e_store (n : Nat) (a x : Src) : I.effK env σ (.store n a x) k = refK σ (a.ev env) (fun o r off => cellsK (x.ev env) fun cs => optK (objAt σ o) fun ob => optK ob.rows[r]? fun row =>
        (cs.length = n ∧ off + n ≤ row.length) ∧ k (.upd o ⟨ob.sz, ob.rows.set r (splice row off cs)⟩)) fun _ _ => False := by
  simp only [I.effK]; cases a.ev env <;> rfl
theorem e_fld (d : Nat) (a : Src) : I.effK env σ (.fld d a) k = refK σ (a.ev env) (fun o r off => optK (objAt σ o) fun _ => mvK (.ptr o r (off + d)) fun v => k (.val v)) fun row off => mvK (.fptr row (off + d)) fun v => k (.val v) := by
  simp only [I.effK]; cases a.ev env <;> rfl
theorem e_idx (sz : Nat) (x i : Src) : I.effK env σ (.idx sz x i) k = slK (x.ev env) False (fun sz' rows => asIdxK rows.length (i.ev env) fun j => sz' = sz ∧ mvK (.fptr (rows.getD j []) 0) fun v => k (.val v))
    (fun o s l => optK (objAt σ o) fun ob => asIdxK l (i.ev env) fun j => ob.sz = sz ∧ mvK (.ptr o (s + j) 0) fun v => k (.val v)) := by
  simp only [I.effK]; cases x.ev env <;> rfl
theorem e_idxA (c sz : Nat) (x i : Src) : I.effK env σ (.idxA c sz x i) k = refK σ (x.ev env) (fun o r off => asIdxK c (i.ev env) fun j => optK (objAt σ o) fun _ => mvK (.ptr o r (off + j * sz)) fun v => k (.val v))
    fun row off => asIdxK c (i.ev env) fun j => mvK (.fptr row (off + j * sz)) fun v => k (.val v) := by
  simp only [I.effK]; cases x.ev env <;> rfl
theorem e_idxS (x i : Src) : I.effK env σ (.idxS x i) k = strK (x.ev env) fun s => asIdxK s.length (i.ev env) fun j => mvK (.int .u8 (s.getD j 0).toNat) fun v => k (.val v) := by
  simp only [I.effK]; cases x.ev env <;> rfl
theorem e_len (x : Src) : I.effK env σ (.len x) k = optK (lenOf σ (x.ev env)) fun n => mvK (.int .i64 n) fun v => k (.val v) := nr rfl
theorem e_lenS (x : Src) : I.effK env σ (.lenS x) k = strK (x.ev env) fun s => mvK (.int .i64 s.length) fun v => k (.val v) := by
  simp only [I.effK]; cases x.ev env <;> rfl
theorem e_bin (op : BinOp) (x y : Src) : I.effK env σ (.bin op x y) k = binK op (x.ev env) (y.ev env) fun v => mvK v fun v => k (.val v) := nr rfl
theorem e_beq (ne : Bool) (x y : Src) : I.effK env σ (.beq ne x y) k = boolK (x.ev env) fun a => boolK (y.ev env) fun b => mvK (.bool (if ne = true then !(a == b) else a == b)) fun v => k (.val v) := by
  simp only [I.effK]; cases x.ev env <;> first | rfl | (cases y.ev env <;> rfl)
theorem e_not (x : Src) : I.effK env σ (.un .not x) k = boolK (x.ev env) fun a => mvK (.bool (!a)) fun v => k (.val v) := by
  simp only [I.effK]; cases x.ev env <;> rfl
theorem e_neg (x : Src) : I.effK env σ (.un .neg x) k = intK (x.ev env) fun q n => mvK (.int q (q.wrap (0 - n))) fun v => k (.val v) := by
  simp only [I.effK]; cases x.ev env <;> rfl
theorem e_conv (q : IntKind) (x : Src) : I.effK env σ (.conv q x) k = intK (x.ev env) fun _ n => mvK (.int q (q.wrap n)) fun v => k (.val v) := by
  simp only [I.effK]; cases x.ev env <;> rfl
theorem e_max (x y : Src) : I.effK env σ (.max x y) k = intK (x.ev env) fun q a => intK (y.ev env) fun q' b => q = q' ∧ mvK (.int q (if b > a then b else a)) fun v => k (.val v) := by
  simp only [I.effK]; cases x.ev env <;> first | rfl | (cases y.ev env <;> rfl)
theorem e_extr (i : Nat) (x : Src) : I.effK env σ (.extr i x) k = tupK (x.ev env) fun vs => optK vs[i]? fun v => mvK v fun v => k (.val v) := by
  simp only [I.effK]; cases x.ev env <;> rfl
theorem e_chk (x : Src) : I.effK env σ (.chk x) k = refK σ (x.ev env) (fun o r off => optK (objAt σ o) fun _ => k (.val (.ptr o r off))) fun row off => k (.val (.fptr row off)) := by
  simp only [I.effK]; cases x.ev env <;> rfl
theorem e_app (sz b : Nat) (x y : Src) : I.effK env σ (.app sz b x y) k = mvK (x.ev env) fun xv => optK (rowsOf σ xv) fun old => optK (rowsOf σ (y.ev env)) fun new =>
    (new.2 = [] → k (.val xv)) ∧ (new.2 ≠ [] → (new.1 = sz ∧ (old.2.length + new.2.length) * b ≤ 2 ^ 40 ∧ old.2.length + new.2.length ≤ 2 ^ 40) ∧
      slK xv (k (.newS ⟨sz, new.2⟩ new.2.length)) (fun _ _ => False) fun o _ _ => optK (objAt σ o) fun ob => ob.sz = sz ∧ k (.mov o ⟨sz, old.2 ++ new.2⟩ (old.2.length + new.2.length))) := by
  simp only [I.effK, mvK]; cases x.ev env <;> rfl
end

section
variable (k : V → Prop) (q : IntKind) (a b : Int)
theorem b_add : binK .add (.int q a) (.int q b) k = k (.int q (q.wrap (a + b))) := by simp [binK]
theorem b_sub : binK .sub (.int q a) (.int q b) k = k (.int q (q.wrap (a - b))) := by simp [binK]
theorem b_mul : binK .mul (.int q a) (.int q b) k = k (.int q (q.wrap (a * b))) := by simp [binK]
theorem b_quo {b : Int} (h : b ≠ 0) : binK .quo (.int q a) (.int q b) k = k (.int q (q.wrap (a.tdiv b))) := by simp [binK, h]
theorem b_rem {b : Int} (h : b ≠ 0) : binK .rem (.int q a) (.int q b) k = k (.int q (a.tmod b)) := by simp [binK, h]
theorem b_eql : binK .eql (.int q a) (.int q b) k = k (.bool (decide (a = b))) := by simp [binK]; rfl
theorem b_neq : binK .neq (.int q a) (.int q b) k = k (.bool (!decide (a = b))) := by simp [binK, bne]; rfl
theorem b_lss : binK .lss (.int q a) (.int q b) k = k (.bool (decide (a < b))) := by simp [binK]
theorem b_leq : binK .leq (.int q a) (.int q b) k = k (.bool (decide (a ≤ b))) := by simp [binK]
theorem b_gtr : binK .gtr (.int q a) (.int q b) k = k (.bool (decide (b < a))) := by simp [binK]
theorem b_geq : binK .geq (.int q a) (.int q b) k = k (.bool (decide (b ≤ a))) := by simp [binK]
theorem b_eqls (s t : List UInt8) : binK .eql (.str s) (.str t) k = k (.bool (s == t)) := nr rfl
theorem b_neqs (s t : List UInt8) : binK .neq (.str s) (.str t) k = k (.bool (!(s == t))) := nr rfl
theorem b_adds {s t : List UInt8} (h : s.length + t.length < 4611686018427387904) : binK .add (.str s) (.str t) k = k (.str (s ++ t)) := by
  have : s.length + t.length < 2 ^ 62 := h
  simp [binK, this]
end

/-! ### Places -/

theorem rowAt_f (σ : Store) (row : List V) (off : Nat) : rowAt σ (.fptr row off) = some (row, off) := nr rfl
theorem rowAt_p (σ : Store) (o r off : Nat) : rowAt σ (.ptr o r off) = match objAt σ o with | some ob => (ob.rows[r]?).map (·, off) | none => none := nr rfl
theorem lenOf_n (σ : Store) : lenOf σ .nils = some 0 := nr rfl
theorem lenOf_f (σ : Store) (sz : Nat) (rows : List (List V)) : lenOf σ (.sl sz rows) = some rows.length := nr rfl
theorem lenOf_m (σ : Store) (o s l : Nat) : lenOf σ (.msl o s l) = (objAt σ o).map fun _ => l := nr rfl
theorem rowsOf_n (σ : Store) : rowsOf σ .nils = some (0, []) := nr rfl
theorem rowsOf_f (σ : Store) (sz : Nat) (rows : List (List V)) : rowsOf σ (.sl sz rows) = some (sz, rows) := nr rfl
theorem rowsOf_m (σ : Store) (o s l : Nat) : rowsOf σ (.msl o s l) = match objAt σ o with
    | some ob => if s + l ≤ ob.rows.length then some (ob.sz, (ob.rows.drop s).take l) else none
    | none => none := nr rfl

/-! ### Freezing -/

theorem resK_n (env : Nat → V) (σ : Store) (k : List V → Prop) : resK env σ [] k = k [] := nr rfl
theorem resK_c (env : Nat → V) (σ : Store) (s : Src) (as : List Src) (k : List V → Prop) : resK env σ (s :: as) k = mvK (s.ev env) fun v => optK (resolve σ FD v) fun v => resK env σ as fun vs => k (v :: vs) := nr rfl

def resC (σ : Store) : List V → Option (List V)
  | [] => some []
  | c :: cs => match resolve σ 11 c with
    | some d => match resC σ cs with
      | some ds => some (d :: ds)
      | none => none
    | none => none

theorem resC_eq (σ : Store) : ∀ cs, cs.mapM (resolve σ 11) = resC σ cs
  | [] => rfl
  | c :: cs => by
    simp only [List.mapM_cons, resC, resC_eq σ cs]
    cases resolve σ 11 c with
    | none => rfl
    | some d => cases resC σ cs <;> rfl

theorem r_int (σ : Store) (q : IntKind) (n : Int) : resolve σ FD (.int q n) = some (.int q n) := nr rfl
theorem r_bool (σ : Store) (b : Bool) : resolve σ FD (.bool b) = some (.bool b) := nr rfl
theorem r_str (σ : Store) (s : List UInt8) : resolve σ FD (.str s) = some (.str s) := nr rfl
theorem r_nils (σ : Store) : resolve σ FD .nils = some .nils := nr rfl
theorem r_one (σ : Store) : resolve σ FD .one = some .one := nr rfl
theorem r_sl (σ : Store) (sz : Nat) (r : List (List V)) : resolve σ FD (.sl sz r) = some (.sl sz r) := nr rfl
theorem r_fptr (σ : Store) (r : List V) (o : Nat) : resolve σ FD (.fptr r o) = some (.fptr r o) := nr rfl
theorem r_agg (σ : Store) (cs : List V) : resolve σ FD (.agg cs) = (resC σ cs).map .agg := by rw [← resC_eq]; rfl
theorem r_tup (σ : Store) (cs : List V) : resolve σ FD (.tup cs) = (resC σ cs).map .tup := by rw [← resC_eq]; rfl
theorem resC_n (σ : Store) : resC σ [] = some [] := nr rfl
theorem resC_c (σ : Store) (c : V) (cs : List V) : resC σ (c :: cs) = match resolve σ 11 c with
    | some d => match resC σ cs with
      | some ds => some (d :: ds)
      | none => none
    | none => none := nr rfl
theorem r1_int (σ : Store) (q : IntKind) (n : Int) : resolve σ 11 (.int q n) = some (.int q n) := nr rfl
theorem r1_bool (σ : Store) (b : Bool) : resolve σ 11 (.bool b) = some (.bool b) := nr rfl
theorem r1_str (σ : Store) (s : List UInt8) : resolve σ 11 (.str s) = some (.str s) := nr rfl
theorem r1_nils (σ : Store) : resolve σ 11 .nils = some .nils := nr rfl
theorem r1_one (σ : Store) : resolve σ 11 .one = some .one := nr rfl
theorem r1_sl (σ : Store) (sz : Nat) (r : List (List V)) : resolve σ 11 (.sl sz r) = some (.sl sz r) := nr rfl
theorem r1_fptr (σ : Store) (r : List V) (o : Nat) : resolve σ 11 (.fptr r o) = some (.fptr r o) := nr rfl

/-- All cells are frozen. -/
def V.still : V → Bool
  | .one | .int .. | .bool _ | .str _ | .nils | .sl .. | .fptr .. => true
  | _ => false

def stillR (rows : List (List V)) : Prop := ∀ r ∈ rows, ∀ v ∈ r, v.still = true

theorem res_still {σ : Store} {n : Nat} {v : V} (h : v.still = true) : resolve σ (n + 1) v = some v := by
  cases v <;> first | rfl | cases h

theorem mapM_still {σ : Store} {n : Nat} : ∀ {r : List V}, (∀ v ∈ r, v.still = true) → r.mapM (resolve σ (n + 1)) = some r
  | [], _ => rfl
  | v :: r, h => by
    rw [List.mapM_cons, res_still (h v (by simp)), mapM_still fun x hx => h x (by simp [hx])]; rfl

theorem mapM_stillR {σ : Store} {n : Nat} : ∀ {rows : List (List V)}, stillR rows → (rows.mapM fun (r : List V) => r.mapM (resolve σ (n + 1))) = some rows
  | [], _ => rfl
  | r :: rows, h => by
    rw [List.mapM_cons, mapM_still (h r (by simp)), mapM_stillR fun x hx => h x (by simp [hx])]; rfl

theorem stillR.part {rows : List (List V)} (h : stillR rows) (s l : Nat) : stillR ((rows.drop s).take l) := fun r hr => h r (List.mem_of_mem_drop (List.mem_of_mem_take hr))

theorem r_mslN {σ : Store} {n o s l : Nat} {ob : Obj} (ho : objAt σ o = some ob) (hs : stillR ob.rows) (hl : s + l ≤ ob.rows.length) : resolve σ (n + 2) (.msl o s l) = some (.sl ob.sz ((ob.rows.drop s).take l)) := by
  rw [resolve]
  simp only [ho]
  rw [if_pos hl, mapM_stillR (hs.part s l)]; rfl

theorem r_msl {σ : Store} {o s l : Nat} {ob : Obj} (ho : objAt σ o = some ob) (hs : stillR ob.rows) (hl : s + l ≤ ob.rows.length) : resolve σ FD (.msl o s l) = some (.sl ob.sz ((ob.rows.drop s).take l)) := r_mslN (n := 10) ho hs hl
theorem r1_msl {σ : Store} {o s l : Nat} {ob : Obj} (ho : objAt σ o = some ob) (hs : stillR ob.rows) (hl : s + l ≤ ob.rows.length) : resolve σ 11 (.msl o s l) = some (.sl ob.sz ((ob.rows.drop s).take l)) := r_mslN (n := 9) ho hs hl

theorem ra_n (env : Nat → V) (σ : Store) : reachAll env σ [] = [] := nr rfl
theorem ra_c (env : Nat → V) (σ : Store) (s : Src) (as : List Src) : reachAll env σ (s :: as) = reach σ FD (s.ev env) ++ reachAll env σ as := nr rfl

theorem reach_still {σ : Store} {n : Nat} {v : V} (h : v.still = true) : reach σ (n + 1) v = [] := by
  cases v <;> first | rfl | cases h

theorem h_int (σ : Store) (q : IntKind) (n : Int) : reach σ FD (.int q n) = [] := nr rfl
theorem h_bool (σ : Store) (b : Bool) : reach σ FD (.bool b) = [] := nr rfl
theorem h_str (σ : Store) (s : List UInt8) : reach σ FD (.str s) = [] := nr rfl
theorem h_nils (σ : Store) : reach σ FD .nils = [] := nr rfl
theorem h_sl (σ : Store) (sz : Nat) (r : List (List V)) : reach σ FD (.sl sz r) = [] := nr rfl
theorem h_fptr (σ : Store) (r : List V) (o : Nat) : reach σ FD (.fptr r o) = [] := nr rfl
def reachC (σ : Store) (cs : List V) : List Nat := cs.flatMap (reach σ 11)
theorem h_agg (σ : Store) (cs : List V) : reach σ FD (.agg cs) = reachC σ cs := nr rfl
theorem hC_n (σ : Store) : reachC σ [] = [] := nr rfl
theorem hC_c (σ : Store) (c : V) (cs : List V) : reachC σ (c :: cs) = reach σ 11 c ++ reachC σ cs := nr rfl
theorem h1_int (σ : Store) (q : IntKind) (n : Int) : reach σ 11 (.int q n) = [] := nr rfl
theorem h1_bool (σ : Store) (b : Bool) : reach σ 11 (.bool b) = [] := nr rfl
theorem h1_str (σ : Store) (s : List UInt8) : reach σ 11 (.str s) = [] := nr rfl
theorem h1_nils (σ : Store) : reach σ 11 .nils = [] := nr rfl
theorem h1_sl (σ : Store) (sz : Nat) (r : List (List V)) : reach σ 11 (.sl sz r) = [] := nr rfl
theorem h1_fptr (σ : Store) (r : List V) (o : Nat) : reach σ 11 (.fptr r o) = [] := nr rfl

theorem s_int (q : IntKind) (n : Int) : scalar SD (.int q n) = true := nr rfl
theorem s_bool (b : Bool) : scalar SD (.bool b) = true := nr rfl
theorem s_str (s : List UInt8) : scalar SD (.str s) = true := nr rfl

/-! ### The end of a function -/

def outK : List Res → List V → St → (V → Prop) → Prop
  | [], acc, st, k => mvK (packRes acc.reverse) fun v => optK (resolve st.objs FD v) k
  | r :: rs, acc, st, k => optK (r.get st) fun v => mvK v fun v => outK rs (v :: acc) st k

theorem outK_spec {st : St} {k : V → Prop} : ∀ (rs : List Res) (acc : List V), outK rs acc st k → optK (rs.mapM (Res.get st)) fun vs => optK (resolve st.objs FD (packRes (acc.reverse ++ vs))) k
  | [], acc, h => by simpa [optK, outK, mvK] using h
  | r :: rs, acc, h => by
    obtain ⟨v, e, h⟩ := optK_spec h
    have := outK_spec rs (v :: acc) h
    obtain ⟨vs, e2, h⟩ := optK_spec this
    simp only [List.mapM_cons, e, e2]
    simpa [optK, wr] using h

def endK (rs : List Res) (e : Ex) (k : V → Prop) (st : St) : Prop := match e with
  | .normal => outK rs [] st k
  | .ret => outK rs [] st k
  | .exit _ => False

theorem endK_n (rs : List Res) (k : V → Prop) (st : St) : endK rs .normal k st = outK rs [] st k := nr rfl
theorem endK_r (rs : List Res) (k : V → Prop) (st : St) : endK rs .ret k st = outK rs [] st k := nr rfl
theorem outK_n (acc : List V) (st : St) (k : V → Prop) : outK [] acc st k = mvK (packRes acc.reverse) fun v => optK (resolve st.objs FD v) k := nr rfl
theorem outK_t (t : Nat) (rs : List Res) (acc : List V) (st : St) (k : V → Prop) : outK (.tmp t :: rs) acc st k = mvK (st.env t) fun v => outK rs (v :: acc) st k := nr rfl
theorem outK_c1 (t n : Nat) (rs : List Res) (acc : List V) (st : St) (k : V → Prop) : outK (.cell t n false :: rs) acc st k = optK (rowAt st.objs (st.env t)) fun p => optK p.1[p.2]? fun v => mvK v fun v => outK rs (v :: acc) st k := by
  simp only [outK, Res.get]
  cases rowAt st.objs (st.env t) <;> rfl
theorem outK_cn (t n : Nat) (rs : List Res) (acc : List V) (st : St) (k : V → Prop) (h : ∀ p, rowAt st.objs (st.env t) = some p → p.2 + n ≤ p.1.length) : outK (.cell t n true :: rs) acc st k = optK (rowAt st.objs (st.env t)) fun p => mvK (.agg ((p.1.drop p.2).take n)) fun v => outK rs (v :: acc) st k := by
  simp only [outK, Res.get]
  cases e : rowAt st.objs (st.env t) with
  | none => rfl
  | some p => simp only [optK, wr_eq, if_true]; rw [if_pos (h p e)]
theorem pack1 (v : V) : packRes [v] = v := nr rfl
theorem pack2 (v w : V) : packRes [v, w] = .tup [v, w] := nr rfl
theorem pack3 (v w x : V) : packRes [v, w, x] = .tup [v, w, x] := nr rfl

theorem pf_end {T : Nat → Option Fn} {f : Nat} {F : Fn} {args : List V} {r : V} (rf : Nat → Bool) (hT : T f = some F) (hl : args.length = F.nargs) (hk : F.body.okC = true)
    (h : wp T rf F.body (fun e st => endK F.res e (· = r) st) (St.enter args [])) : PF T f args r := by
  obtain ⟨e, st', h1, h2⟩ := wp_sound hk h
  have h3 : (e = .normal ∨ e = .ret) ∧ outK F.res [] st' (· = r) := by
    cases e with
    | normal => exact ⟨.inl rfl, h2⟩
    | ret => exact ⟨.inr rfl, h2⟩
    | exit id => exact h2.elim
  obtain ⟨he, h3⟩ := h3
  have := outK_spec _ _ h3
  obtain ⟨rs, e1, h4⟩ := optK_spec this
  obtain ⟨r', e2, h5⟩ := optK_spec h4
  subst h5
  exact .frz (.fn hT hl h1 he e1) e2

theorem PFK_of {T : Nat → Option Fn} {f : Nat} {as : List V} {k : V → Prop} {r : V} (h : PF T f as r) (hk : k r) : PFK T f as k := ⟨r, h, hk⟩

/-! ### Rows of numbers -/

def irows (l : List Int) : List (List V) := l.map fun x => [.int .i64 x]
abbrev ints (l : List Int) : V := .sl 1 (irows l)

theorem ir_len (l : List Int) : (irows l).length = l.length := by simp [irows]
theorem ir_getD {l : List Int} {j : Nat} (h : j < l.length) : (irows l).getD j [] = [.int .i64 (l.getD j 0)] := by
  simp [irows, List.getD_eq_getElem?_getD, List.getElem?_eq_getElem h]
theorem ir_get {l : List Int} {j : Nat} (h : j < l.length) : (irows l)[j]? = some [.int .i64 (l.getD j 0)] := by
  simp [irows, List.getD_eq_getElem?_getD, List.getElem?_eq_getElem h]
theorem ir_set (l : List Int) (j : Nat) (x : Int) : (irows l).set j [.int .i64 x] = irows (l.set j x) := by
  simp only [irows, List.map_set]
theorem ir_rep (n : Nat) (x : Int) : List.replicate n [V.int .i64 x] = irows (List.replicate n x) := by simp [irows]
theorem ir_drop (l : List Int) (n : Nat) : (irows l).drop n = irows (l.drop n) := by simp [irows]
theorem ir_take (l : List Int) (n : Nat) : (irows l).take n = irows (l.take n) := by simp [irows]
theorem ir_app (l m : List Int) : irows l ++ irows m = irows (l ++ m) := by simp [irows]
theorem ir_still (l : List Int) : stillR (irows l) := by
  intro r hr v hv
  obtain ⟨x, _, rfl⟩ := List.mem_map.1 hr
  simp at hv; subst hv; rfl
theorem ir_res {σ : Store} {o s n : Nat} {l : List Int} (ho : objAt σ o = some ⟨1, irows l⟩) (h : s = 0 ∧ n = l.length) : resolve σ FD (.msl o s n) = some (ints l) := by
  rw [r_msl ho (ir_still l) (by simp [ir_len]; omega)]
  simp [h.1, h.2, ir_take]
theorem splice1 (a b : V) : splice [a] 0 [b] = [b] := nr rfl

end Go.Ml
