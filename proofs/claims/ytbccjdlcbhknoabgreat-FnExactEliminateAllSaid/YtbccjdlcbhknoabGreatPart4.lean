/- A small language for the functions of this claim, its soundness, contracts. -/
import Derived.Test.YtbccjdlcbhknoabGreatPart3
set_option linter.unusedSimpArgs false
set_option linter.unusedVariables false
set_option maxRecDepth 100000
set_option maxHeartbeats 16000000
section
namespace Go.Ml
def onR (b : Nat) : List (List V):=(List.range 10).map fun i=>[.bC (b + i) 0 10]
def gst (g : Gd) : Store:=some ⟨1,[[.bC 1 0 10]]⟩ :: some ⟨1,onR 2⟩ :: (List.range 10).map fun a=>some ⟨1,grow g a⟩
theorem abw (g : Gd) : (gst g).length = 12:=by simp [gst]
structure EO (s : Store) (b : Nat) (g : Gd) : Prop where
 p : aj s b = some ⟨1,[[.bC (b + 1) 0 10]]⟩
 on : aj s (b + 1) = some ⟨1,onR (b + 2)⟩
 row : ∀ a,a < 10 → aj s (b + 2 + a) = some ⟨1,grow g a⟩
theorem aiG {g : Gd} {a : Nat} (ha : a < 10) : aj (gst g) (2 + a) = some ⟨1,grow g a⟩:=by
 rw [Nat.add_comm]
 show ((List.range 10).map fun a=>some (⟨1,grow g a⟩ : Obj))[a]?.getD none = _
 rw [List.getElem?_map,List.getElem?_range ha];rfl
theorem EO.lt {s : Store} {b : Nat} {g : Gd} (h : EO s b g) : b + 12 ≤ s.length:=by
 have:=aJ (h.row 9 (by omega));omega
theorem EO.frame {s s2 : Store} {b : Nat} {g : Gd} (h : EO s b g) (hs : ∀ q,b ≤ q → q < b + 12 → aj s2 q = aj s q) : EO s2 b g :=
 ⟨(hs _ (by omega) (by omega)).trans h.p,(hs _ (by omega) (by omega)).trans h.on,fun a ha=>(hs _ (by omega) (by omega)).trans (h.row a ha)⟩
theorem EO.set {s : Store} {b : Nat} {g : Gd} (h : EO s b g) {i j : Nat} {x : Bool} (hi : i < 10) (hj : j < 10) : EO (s.set (b + 2 + i) (some ⟨1,(grow g i).set j [.bool x]⟩)) b (Yt g i j x):=by
 have hl:=h.lt
 refine ⟨(aI (by omega)).trans h.p,(aI (by omega)).trans h.on,fun a ha=>?_⟩
 by_cases e : a = i
 ·subst e
  rw [bn (by omega),afL]
 ·rw [aI (by omega),h.row a ha,aiF e]
theorem RG {f : Nat → Option Nat} {v : V} (h : v.still = true) : aY f v = v:=by
 cases v <;> simp_all [V.still,aY]
theorem aiH {ρ : Nat → Option Nat} {b b' : Nat} (h : ∀ i,i < 10 → ρ (b + i) = some (b' + i)) : iI ρ ⟨1,onR b⟩ = ⟨1,onR b'⟩:=by
 unfold iI onR
 congr 1
 rw [List.map_map]
 apply List.map_congr_left
 intro i hi
 simp [aY,h i (List.mem_range.1 hi)]
theorem ac6 (f : Nat → Option Nat) (g : Gd) (a : Nat) : iI f ⟨1,grow g a⟩ = ⟨1,grow g a⟩:=by
 unfold iI
 congr 1
theorem NU {T : Tb} {f : Nat} {as : List Src} {dst : Option Nat} {env : Nat → V} {σ : Store} {kp bs : Nat} {rs ms : List Nat} {k : St → Prop} {as' : List V} {r : V} {σ' : Store}
  (h : Run T (.fn f as' []) (.fn r σ')) (ha : E5 env σ as (· = as')) (hr : dB env σ as = []) (hk : k ⟨dZ env dst (aY (bT σ.length) r),rV σ σ',kp,bs,rs,ms⟩) : JR T f as dst ⟨env,σ,kp,bs,rs,ms⟩ k:=by
 obtain ⟨as2,e,rfl⟩:=qR ha
 exact ⟨_,.own e h (R:=[]) (by split;rfl;exact hr.symm),hk⟩
theorem Ov {b j : Nat} : ∀ n,j < n → place ((List.range n).map (b + ·)) (b + j) = some j:=by
 intro n hj
 have h1 : ((List.range n).map (b + ·))[j]? = some (b + j):=by rw [List.getElem?_map,List.getElem?_range hj];rfl
 have h2 : ((List.range n).map (b + ·)).Nodup:=by
  refine List.pairwise_map.2 (List.nodup_range.imp fun hne e=>hne (by omega))
 exact I7 h2 h1
def g12 (b : Nat) : List Nat:=(List.range 12).map (b + ·)
theorem ac7 (g : Gd) : gst g = (List.range 12).map fun j=>aj (gst g) j:=by
 apply List.ext_getElem?
 intro n
 rw [List.getElem?_map]
 by_cases h : n < 12
 ·rw [List.getElem?_range h]
  simp only [Option.map_some,aj]
  rw [List.getElem?_eq_getElem (by rw [abw];exact h)];rfl
 ·rw [List.getElem?_eq_none (by rw [abw];omega),List.getElem?_eq_none (by simp;omega)];rfl
theorem afM {ρ : Nat → Option Nat} {o o' : Nat} (h : ρ o = some o') {s l : Nat} : iI ρ ⟨1,[[.bC o s l]]⟩ = ⟨1,[[.bC o' s l]]⟩:=by
 simp [iI,aY,h]
theorem EO.gc {s : Store} {b : Nat} {g : Gd} (h : EO s b g) : EW (g12 b) s = gst g:=by
 rw [ac7 g]
 unfold EW
 rw [g12,List.map_map]
 apply List.map_congr_left
 intro j hj
 have hj:=List.mem_range.1 hj
 show (aj s (b + j)).map (iI (place ((List.range 12).map (b + ·)))) = aj (gst g) j
 by_cases h0 : j = 0
 ·subst h0
  rw [Nat.add_zero,h.p]
  exact congrArg some (afM (Ov 12 (by omega : 1 < 12)))
 by_cases h1 : j = 1
 ·subst h1
  rw [h.on]
  refine congrArg some (aiH fun i hi=>?_)
  rw [show b + 2 + i = b + (2 + i) by omega]
  exact Ov 12 (by omega)
 obtain ⟨a,rfl⟩ : ∃ a,j = 2 + a:=⟨j - 2,by omega⟩
 rw [← Nat.add_assoc,h.row a (by omega),aiG (by omega)]
 exact congrArg some (ac6 _ _ _)
theorem mapM_some {α β : Type} {f : α → Option β} {h : α → β} : ∀ {l : List α},(∀ a ∈ l,f a = some (h a)) → l.mapM f = some (l.map h)
 | [],_=>rfl
 |
  a :: l,k=>by
  rw [List.mapM_cons,k a (by simp),mapM_some fun x hx=>k x (by simp [hx])];rfl
theorem FQ {s : Store} {o n m : Nat} {rows : List (List V)} (h : aj s o = some ⟨m,rows⟩) (hs : dR rows) : resolve s (n + 2) (.bC o 0 rows.length) = some (.sl m rows):=by
 rw [resolve]
 simp only [h,Nat.zero_add,Nat.le_refl,if_true,List.drop_zero,List.take_length]
 rw [qp hs];rfl
end Go.Ml
namespace Go.Ml
theorem ac8 {T : Tb} (rf : Nat → Nat → Bool) {c : C} {Q : Ex → St → Prop} {st : St} (hk : c.WC = true) (h : wp T rf c (fun e st'=>U3 e (Ol T c Q st') (Q e st')) st) : Ol T c Q st:=by
 obtain ⟨e,st1,h1,h2⟩:=sK hk h
 cases e with
 |
  normal =>
  obtain ⟨e,st2,h4,h5⟩:=h2
  exact ⟨e,st2,.adA h1 h4,h5⟩
 | exit id=>exact ⟨_,_,.WQ (by simp) h1,h2⟩
 | ret=>exact ⟨_,_,.WQ (by simp) h1,h2⟩
def Ai : Fn:=⟨1,20,[.tmp 2],(sr [oN 2 mN] (.seq (rf 1 [oN 6 (.dS 11 Aq 0 []),oK 3 1 (oV 6)]) (.seq (sr [oW 7 0,oN 8 (ln 7),oN 9 (.bY (cI 0))] (.block 0 (.loop (sr [oN 10 (bt .lss 9 8)] (.seq (cd 10 .skip (.exit 0)) (.seq (.block 1 (.seq (rf 1 [oK 11 1 (ix 11 7 9),oK 12 1 (lT 11 11),oN 5 (.alloc Aq),⟨none,none,1,.store 11 (.t 5) (.t 12),[]⟩]) (rf 2 [oK 13 2 (oV 3),oK 14 2 (lT 11 5),oK 15 2 (cl 197 [14]),oN 16 (.dS 11 Aq 1 [(0,(.t 15))]),oK 17 1 (.app 11 184 (.t 13) (.t 16)),oK 3 2 (oV 17)]))) (rg [oN 18 (bc .add 9 1),oW 9 18]))))))) (sr [oW 19 3,oW 2 19] .ret))))⟩
structure EP (T : Tb) : Prop where
 hT : T 194 = some Ai
 iw : mQ T
def kE : Fn:=⟨2,86,[.tmp 4,.cell 5 3 true,.tmp 6],(.seq (rf 2 [oN 3 (.box (.t 1)),oK 4 2 mN,oK 5 1 (.alloc jK),oK 6 2 mF]) (.seq (sr [oW 13 0,oN 14 (cl 193 [13]),oN 15 (nt 14),oW 16 15,oG 16 false 17 (lT 11 3),oG 16 false 18 (cl 83 [17]),oG 16 false 19 (nt 18),oN 20 (.pick (.t 16) (.c (.bool true)) (.t 19))] (cd 20 (sr [oN 21 (.build jK []),oN 4 mN,oS (.store 3 (.t 5) (.t 21)),oN 6 mF] .ret) .skip)) (sr [oW 22 0,oN 23 (cl 194 [22]),oW 7 23] (sr [oN 8 (.bY (cI 0))] (.seq (.block 0 (.loop (.seq (.seq (rt 0 [oW 24 8,oW 25 7,oA 26 0 (ln 25) [1],oA 27 0 (bt .lss 24 26) [0,2],oA 28 0 (oV 27) [3],oH 28 true 29 0 (oV 7) [4],oH 28 true 30 0 (oV 8) [4],oH 28 true 31 0 (ix 11 29 30) [5,6,4],oH 28 true 32 0 (lT 11 31) [7,4],oH 28 true 33 0 (lT 11 3) [4],oH 28 true 34 0 (cl 195 [32,33]) [8,9,4,4],oA 35 0 (.pick (.t 28) (.t 34) (.c (.bool false))) [4,10]]) (cd 35 .skip (.exit 0))) (.block 1 (rg [oW 36 8,oN 37 (bc .add 36 1),oW 8 37]))))) (.seq (.seq (rt 0 [oW 38 8,oW 39 7,oA 40 0 (ln 39) [1],oA 41 0 (bt .lss 38 40) [0,2],oA 42 0 (oV 41) [3],oH 42 true 43 0 (lT 11 3) [4],oH 42 true 44 0 (oV 7) [4],oH 42 true 45 0 (oV 8) [4],oH 42 true 46 0 (ix 11 44 45) [6,7,4],oH 42 true 47 0 (lT 11 46) [8,4],oH 42 true 48 0 (cl 195 [43,47]) [5,9,4,4],oH 42 true 49 0 (nt 48) [10,4],oA 50 0 (.pick (.t 42) (.t 49) (.c (.bool false))) [4,11]]) (cd 50 (.seq (rt 2 [oK 52 2 (oV 7),oK 53 2 (oV 8),oA 54 2 (ix 11 52 53) [0,1],oA 55 2 (lT 11 54) [2],oK 56 2 (lT 11 3),oA 57 2 (cl 196 [55,56]) [3,4],oA 51 2 (oV 57) [5],oA 58 2 (ex 0 51) [6],oA 59 2 (ex 1 51) [6],oA 60 2 (ex 2 51) [6],oN 9 (.alloc Aq),oK 10 1 (.alloc jK),⟨none,none,2,.store 11 (.t 9) (.t 58),[10,7,5,0,1,2,3,4,5,6,7,10,11]⟩,⟨none,none,2,.store 3 (.t 10) (.t 59),[11,8,12,0,1,2,3,4,5,6,7,8,10,11,12]⟩,oA 11 2 (oV 60) [9,13,0,1,2,3,4,5,6,7,8,9,10,11,12,13]]) (.seq (sr [oW 61 11,oN 62 (nt 61)] (cd 62 (sr [oN 63 (.build jK []),oN 4 mN,oS (.store 3 (.t 5) (.t 63)),oN 6 mF] .ret) .skip)) (sr [oW 64 7,oW 65 8,oN 66 (lT 11 9),oN 67 (ix 11 64 65),oS (.store 11 (.t 67) (.t 66))] (.seq (rt 0 [oW 68 7,oN 69 (lT 3 10),oA 4 0 (oV 68) [0,0],⟨none,none,0,.store 3 (.t 5) (.t 69),[1,2,0,1,2]⟩,oA 6 0 mT [3,0,1,2,3]]) .ret)))) .skip)) (.seq (rf 2 [oN 70 (.dS 11 Aq 0 []),oK 71 2 (oV 7),oK 72 2 (oV 8),oK 73 2 (.slice 11 (.t 71) none (some (.t 72))),oK 74 1 (.app 11 184 (.t 70) (.t 73)),oK 12 2 (oV 74)]) (.seq (rf 2 [oK 75 2 (oV 12),oK 76 2 (lT 11 3),oK 77 2 (cl 197 [76]),oN 78 (.dS 11 Aq 1 [(0,(.t 77))]),oK 79 1 (.app 11 184 (.t 75) (.t 78)),oK 12 2 (oV 79)]) (.seq (rf 1 [oK 80 1 (oV 12),oK 81 1 (oV 7),oK 82 1 (oV 8),oK 83 1 (.slice 11 (.t 81) (some (.t 82)) none),oN 84 (.app 11 184 (.t 80) (.t 83)),oK 85 1 (.call 36 [(cI 0)]),oK 4 1 (oV 84),⟨none,none,1,.store 3 (.t 5) (.t 85),[]⟩,oK 6 1 mT]) .ret)))))))))⟩
structure Du (T : Tb) : Prop where
 hT : T 188 = some kE
 bQ : ig T
 fV : kC T
 cZ : gu T
 TB : EP T
 wQ : wP T
 Md : xJ T
 iw : mQ T
def xM : Fn:=⟨2,77,[.tmp 4,.cell 5 3 true,.tmp 6],(.seq (rf 2 [oN 3 (.box (.t 1)),oK 4 2 mN,oK 5 1 (.alloc jK),oK 6 2 mF]) (sr [oN 7 (.bY (cI 0))] (.seq (.block 0 (.loop (.seq (.seq (rt 0 [oW 12 7,oW 13 0,oA 14 0 (ln 13) [1],oA 15 0 (bt .lss 12 14) [0,2],oA 16 0 (oV 15) [3],oH 16 true 17 0 (oV 0) [4],oH 16 true 18 0 (oV 7) [4],oH 16 true 19 0 (ix 11 17 18) [5,6,4],oH 16 true 20 0 (lT 11 19) [7,4],oH 16 true 21 0 (lT 11 3) [4],oH 16 true 22 0 (cl 111 [20,21]) [8,9,4,4],oA 23 0 (.pick (.t 16) (.t 22) (.c (.bool false))) [4,10]]) (cd 23 .skip (.exit 0))) (.block 1 (rg [oW 24 7,oN 25 (bc .add 24 1),oW 7 25]))))) (.seq (rf 2 [oN 26 (.dS 11 Aq 0 []),oK 27 2 (oV 0),oK 28 2 (oV 7),oK 29 2 (.slice 11 (.t 27) none (some (.t 28))),oK 30 1 (.app 11 184 (.t 26) (.t 29)),oK 8 2 (oV 30)]) (.seq (.seq (rt 0 [oW 31 7,oW 32 0,oA 33 0 (ln 32) [1],oA 34 0 (bt .eql 31 33) [0,2],oA 35 0 (oV 34) [3],oH 35 false 36 0 (lT 11 3) [4],oH 35 false 37 0 (oV 0) [4],oH 35 false 38 0 (oV 7) [4],oH 35 false 39 0 (ix 11 37 38) [6,7,4],oH 35 false 40 0 (lT 11 39) [8,4],oH 35 false 41 0 (cl 111 [36,40]) [5,9,4,4],oA 42 0 (.pick (.t 35) (.c (.bool true)) (.t 41)) [4,10]]) (cd 42 (.seq (rf 2 [oK 43 2 (oV 8),oK 44 2 (lT 11 3),oN 45 (.dS 11 Aq 1 [(0,(.t 44))]),oK 46 1 (.app 11 184 (.t 43) (.t 45)),oK 8 2 (oV 46)]) (.seq (rf 1 [oK 47 1 (oV 8),oK 48 1 (oV 0),oK 49 1 (oV 7),oK 50 1 (.slice 11 (.t 48) (some (.t 49)) none),oN 51 (.app 11 184 (.t 47) (.t 50)),oK 52 1 (.call 39 [(cI 0)]),oK 4 1 (oV 51),⟨none,none,1,.store 3 (.t 5) (.t 52),[]⟩,oK 6 1 mT]) .ret)) .skip)) (.seq (rt 2 [oK 54 2 (oV 0),oK 55 2 (oV 7),oA 56 2 (ix 11 54 55) [0,1],oA 57 2 (lT 11 56) [2],oK 58 2 (lT 11 3),oA 59 2 (cl 140 [57,58]) [3,4],oA 53 2 (oV 59) [5],oA 60 2 (ex 0 53) [6],oA 61 2 (ex 1 53) [6],oA 62 2 (ex 2 53) [6],oN 9 (.alloc Aq),oK 10 1 (.alloc jK),⟨none,none,2,.store 11 (.t 9) (.t 60),[10,7,5,0,1,2,3,4,5,6,7,10,11]⟩,⟨none,none,2,.store 3 (.t 10) (.t 61),[11,8,12,0,1,2,3,4,5,6,7,8,10,11,12]⟩,oA 11 2 (oV 62) [9,13,0,1,2,3,4,5,6,7,8,9,10,11,12,13]]) (.seq (sr [oW 63 11,oN 64 (nt 63)] (cd 64 (sr [oN 65 (.build jK []),oN 4 mN,oS (.store 3 (.t 5) (.t 65)),oN 6 mF] .ret) .skip)) (.seq (rf 2 [oK 66 2 (oV 8),oK 67 2 (lT 11 9),oN 68 (.dS 11 Aq 1 [(0,(.t 67))]),oK 69 1 (.app 11 184 (.t 66) (.t 68)),oK 8 2 (oV 69)]) (.seq (rt 1 [oK 70 1 (oV 8),oK 71 1 (oV 0),oK 72 1 (oV 7),oA 73 1 (bc .add 72 1) [2],oA 74 1 (.slice 11 (.t 71) (some (.t 73)) none) [1,3],oA 75 0 (.app 11 184 (.t 70) (.t 74)) [0,4],oK 76 1 (lT 3 10),oA 4 1 (oV 75) [5,5,0,1,2,3,4,5],⟨none,none,1,.store 3 (.t 5) (.t 76),[6,7,0,1,2,3,4,5,6,7]⟩,oA 6 1 mT [8,0,1,2,3,4,5,6,7,8]]) .ret)))))))))⟩
structure Dv (T : Tb) : Prop where
 hT : T 130 = some xM
 bI : fF T
 nK : nJ T
 Ec : xK T
def Bl (l : Lk) : List Lk → Nat
 | []=>0
 | x :: xs=>if bJ x l = true then Bl l xs + 1 else 0
theorem Me (l : Lk) : ∀ s : List Lk,Bl l s ≤ s.length
 | []=>Nat.le_refl _
 |
  x :: xs=>by
  have:=Me l xs
  unfold Bl;split <;> simp <;> omega
theorem VO {l : Lk} : ∀ {s : List Lk} {i : Nat},i ≤ Bl l s → i < s.length → bJ (s.getD i default) l = decide (i < Bl l s)
 | [],i,_,h=>absurd h (Nat.not_lt_zero _)
 |
  x :: xs,0,h,_=>by
  unfold Bl
  cases hx : bJ x l
  ·simp [hx]
  ·simp [hx]
 |
  x :: xs,i + 1,h,hi=>by
  unfold Bl at h ⊢
  split at h
  ·rename_i hx
   have:=VO (s:=xs) (i:=i) (l:=l) (by omega) (by simpa using hi)
   rw [List.getD_cons_succ,this,if_pos hx]
   simp
  ·omega
def KD (s : List Lk) (l : Lk) : Option (List Lk × R) :=
 let i:=Bl l s
 if i = s.length ∨ bJ l (s.getD i default) = true then some (s.take i ++ l :: s.drop i,fH 0)
 else if L9 (s.getD i default) l = true then some (s.take i ++ mgL (s.getD i default) l :: s.drop (i + 1),L8 (s.getD i default) l) else none
def OW (s : List Lk) (l : Lk) : Bool:=bg s && ji l && (KD s l).isSome
def adV (s : List Lk) (l : Lk) : List Lk:=if bg s = true ∧ ji l = true then ((KD s l).map (·.1)).getD [] else []
def adE (s : List Lk) (l : Lk) : R:=if bg s = true ∧ ji l = true then ((KD s l).map (·.2)).getD R0 else R0
theorem aay {s : List Lk} {l : Lk} (h : ¬ (bg s = true ∧ ji l = true)) : adV s l = [] ∧ adE s l = R0 ∧ OW s l = false:=by
 refine ⟨if_neg h,if_neg h,?_⟩
 unfold OW
 cases h1 : bg s
 ·rfl
 ·cases h2 : ji l
  ·rfl
  ·exact absurd ⟨h1,h2⟩ h
theorem PE {s : List Lk} {l : Lk} (h1 : bg s = true) (h2 : ji l = true) : adV s l = ((KD s l).map (·.1)).getD [] ∧ adE s l = ((KD s l).map (·.2)).getD R0 ∧ OW s l = (KD s l).isSome :=
 ⟨if_pos ⟨h1,h2⟩,if_pos ⟨h1,h2⟩,by unfold OW;rw [h1,h2];rfl⟩
theorem afO {T : Tb} (h : EP T) {l : List Lk} (hz : vY Lk.sz l ≤ 1048576) : Run T (.fn 194 [bf l] []) (.fn (ZF l.length) (WE 11 (l.map Lk.cells))):=by
 have hl : l.length ≤ 1048576:=by have:=qw Lk.sz l;omega
 have : ∃ r σ',Run T (.fn 194 [bf l] []) (.fn r σ') ∧ (r = ZF l.length ∧ σ' = WE 11 (l.map Lk.cells)):=by
  refine run_end nR h.hT ?_
  simp only [Ai,Lz,St.enter,List.length_cons,List.length_nil,Nat.zero_add]
  refine ew ?_
  refine aO (fun _ _=>false) (α:=Nat × List Lk) (fun q=>⟨bF [.any,.any,.any,ZF q.2.length,.any,.any,.any,bf l,iv (l.length : Nat),iv (q.1 : Nat)],WE 11 (q.2.map Lk.cells),0,0,[],[]⟩) (fun q=>q.1 ≤ l.length ∧ q.2 = l.take q.1) (fun q=>l.length - q.1) rfl (0,[]) ?_ ?_ ?_
  ·exact ⟨by omega,by simp⟩
  ·exact ajC
  ·rintro ⟨i,xs⟩ ⟨hi,hx0⟩
   dsimp only at hi hx0
   have hx : xs.length ≤ 1048576:=by rw [hx0];simp;omega
   by_cases hc : (i : Int) < (l.length : Nat)
   ·have hil : i < l.length:=by omega
    have es : l.take (i + 1) = l.take i ++ [l.getD i default]:=by
     rw [List.take_add_one,List.getElem?_eq_getElem hil,List.getD_eq_getElem?_getD,List.getElem?_eq_getElem hil];rfl
    rw [← hx0] at es
    have hys:=IJ (f:=Lk.sz) hz (getD_mem hil)
    obtain ⟨y,hy⟩ : ∃ y,l.getD i default = y:=⟨_,rfl⟩
    rw [hy] at es hys
    have cc:=Cc h.iw hys
    (rcases xs with _ | ⟨x,xs⟩ <;> simp only [List.length_nil,List.length_cons,jX,jB,List.map_nil,List.map_cons,XA,Um] at hx ⊢)
    ·refine Cb @hc @mg @hy ?_
     refine ah cc ?_
     refine ew ?_
     exact ⟨by omega,(i + 1,([]) ++ [y]),by dsimp only;omega,⟨by dsimp only;omega,es.symm⟩,by (simp only [List.map_append,List.map_cons,List.map_nil];refine BD (k:=2) (by simp only [Pv,LK,Pq,and_true,true_and];(repeat' (first | exact vZ _ | exact afn _ | refine ⟨?_,?_⟩))) rfl ?_;(try (refine ew ?_;try with_reducible exact True.intro));(repeat' (first | exact True.intro | omega | exact qV (by simp) (by simp) (by simp) | refine ⟨?_,?_⟩ | exact iQ rfl (by simp))))⟩
    ·refine Cb @hc @mg @hy ?_
     refine ah cc ?_
     refine ew ?_
     exact ⟨by omega,(i + 1,(x :: xs) ++ [y]),by dsimp only;omega,⟨by dsimp only;omega,es.symm⟩,by (simp only [List.map_append,List.map_cons,List.map_nil];refine BD (k:=3) (by simp only [Pv,LK,Pq,and_true,true_and];(repeat' (first | exact vZ _ | exact afn _ | refine ⟨?_,?_⟩))) rfl ?_;(try (refine ew ?_;try with_reducible exact True.intro));(repeat' (first | exact True.intro | omega | exact qV (by simp) (by simp) (by simp) | refine ⟨?_,?_⟩ | exact iQ rfl (by simp))))⟩
   ·have hie : i = l.length:=by omega
    rw [hie,List.take_length] at hx0
    have hx1 : l = xs:=hx0.symm
    subst hx1
    clear hx0 hie
    rcases l with _ | ⟨x,xs⟩ <;> simp only [List.length_nil,List.length_cons,jX,jB,List.map_nil,List.map_cons,XA,Um] at hc ⊢
    ·(refine BZ @hc ?_;try with_reducible exact True.intro)
    ·(refine BZ @hc ?_;try with_reducible exact True.intro)
 obtain ⟨r,σ',h1,rfl,rfl⟩:=this
 exact h1
theorem Jj : bM (.eu [bf [],aU R0,.bool false]) (.eu [.ak,.agg [.bool false,.ak,.ak],.bool false]):=by
 simp only [bM,lW]
 exact ⟨_,rfl,_,_,rfl,.inl ⟨rfl,.inl rfl⟩,_,_,rfl,jf,_,_,rfl,rfl,rfl⟩
theorem aiJ {n m : Nat} {s : Store} {rows : List (List V)} (h : dR rows) (hs : s.length = m) : rV s [some ⟨n,rows⟩] = s ++ [some ⟨n,rows⟩]:=by
 unfold rV
 simp only [List.map_cons,List.map_nil,Option.map_some,iI]
 congr 4
 have : ∀ r ∈ rows,r.map (aY (bT s.length)) = r:=fun r hr=>by
  conv=>rhs;rw [← List.map_id r]
  apply List.map_congr_left
  intro v hv
  exact RG (h r hr v hv)
 conv=>rhs;rw [← List.map_id rows]
 apply List.map_congr_left
 intro r hr
 exact this r hr
theorem VP {σ : Store} {rows : List (List V)} {L : List Lk} {n : Nat} {r : R} {b : Bool} {t : V} (hrow : rows = L.map Lk.cells) (hn : n = L.length) (ht : t = .eu [bf L,aU r,.bool b]) :
  dK (Option.map V.eu (match Ld σ 0 n (some ⟨11,rows⟩) with
   |
    some d=>(match (match resolve σ 11 (.agg r.cells) with
    | some d=>some [d,V.bool b]
    | none=>none) with
    | some ds=>some (d :: ds)
    | none=>none)
   | none=>none)) (bM t):=by
 subst hrow hn ht
 have h1 : Ld σ 0 L.length (some ⟨11,L.map Lk.cells⟩) = some (.sl 11 (L.map Lk.cells)):=by
  rw [Le (vZ L) (by simp),List.drop_zero,List.take_of_length_le (by simp)]
 have h2 : resolve σ 11 (.agg r.cells) = some (.agg r.cells):=by
  show resolve σ (10 + 1) (.agg r.cells) = _
  rw [resolve,qo (n:=9) (fun v hv=>Xx [r] _ (by simp) v hv)];rfl
 rw [h1,h2]
 exact aC _
theorem aaz {T : Tb} (h : Du T) {s : List Lk} {l : Lk} (hw : BU Lk.wf s:=by exact bZ) (hl : l.wf:=by exact Uz) (hz : vY Lk.sz s ≤ 1048576:=by exact bZ) (hz2 : l.sz ≤ 1048576:=by exact bZ) : PF T 188 [bf s,KO l] (.eu [bf (adV s l),aU (adE s l),.bool (OW s l)]):=by
 have hll : s.length ≤ 1048576:=by have:=qw Lk.sz s;omega
 have ci:=nM h.cZ hw
 have cl:=qF h.fV hl
 cases h1 : bg s
 ·rw [h1] at ci
  obtain ⟨e1,e2,e3⟩:=aay (s:=s) (l:=l) (by rw [h1];simp)
  rw [e1,e2,e3]
  refine aK nR h.hT ?_
  simp only [kE,Lz]
  refine ev ?_
  refine ah ci ?_
  refine ev ?_
  exact Jj
 rw [h1] at ci
 cases h2 : ji l
 ·rw [h2] at cl
  obtain ⟨e1,e2,e3⟩:=aay (s:=s) (l:=l) (by rw [h2];simp)
  rw [e1,e2,e3]
  refine aK nR h.hT ?_
  simp only [kE,Lz]
  refine ev ?_
  refine ah ci ?_
  refine ev ?_
  refine ah cl ?_
  refine ev ?_
  exact Jj
 rw [h2] at cl
 have ra:=afO h.TB hz
 obtain ⟨e1,e2,e3⟩:=PE h1 h2
 rw [e1,e2,e3]
 clear e1 e2 e3
 have hst:=vZ s
 rcases s with _ | ⟨s0,s⟩
 ·have ra : Run T (.fn 194 [bf []] []) (.fn .ak []):=ra
  have c6:=Cc h.iw hz2
  have c0:=jS h.bQ (n:=0) (by omega)
  refine aK (fun x d=>x == 194) h.hT ?_
  simp only [kE,Lz]
  refine ew ?_
  refine ah ci ?_
  refine ew ?_
  refine ah cl ?_
  refine ew ?_
  refine NU ra (by (refine ew ?_;try with_reducible exact True.intro)) (by (refine ew ?_;try with_reducible exact True.intro)) ?_
  rw [show ∀ s : Store,rV s [] = s from fun s=>by simp [rV]]
  rw [show ∀ g,aY g .ak = .ak from fun g=>rfl]
  refine ew ?_
  refine ac8 (fun x d=>x == 194) rfl ?_
  have h00 : ((0 : Int) < ((0 : Nat) : Int)) = False:=by simp
  refine BZ @h00 ?_
  refine ah c6 ?_
  refine ew ?_
  refine ⟨by omega,?_⟩
  refine ah c0 ?_
  refine ew ?_
  have Yu : KD [] l = some ([l],fH 0):=by
   unfold KD Bl
   exact if_pos (.inl rfl)
  rw [Yu]
  exact aC _
 ·simp only [List.length_cons,jB,List.map_cons,Um] at ra
  generalize hS : s0 :: s = S at *
  have hSl : S.length = s.length + 1:=by rw [← hS];rfl
  have hSm : s0.cells :: s.map Lk.cells = S.map Lk.cells:=by rw [← hS];rfl
  rw [hSm,← hSl] at ra
  refine aK (fun x d=>x == 194) h.hT ?_
  simp only [kE,Lz]
  refine ew ?_
  refine ah ci ?_
  refine ew ?_
  refine ah cl ?_
  refine ew ?_
  refine NU ra (by (refine ew ?_;try with_reducible exact True.intro)) (by (refine ew ?_;try with_reducible exact True.intro)) ?_
  rw [aiJ hst (m:=2) rfl]
  rw [show aY (bT ([some ⟨11,[l.cells]⟩,some ⟨3,[[.bool false,.ak,.ak]]⟩] : Store).length) (.bC 0 0 S.length) = .bC 2 0 S.length from rfl]
  refine ew ?_
  have hpl:=Me l S
  refine aO (fun x d=>x == 194) (α:=Nat) (fun i=>⟨bF [.any,.any,.any,.ptr 0 0 0,.any,.ptr 1 0 0,.any,.bC 2 0 S.length,iv (i : Nat)],[some ⟨11,[l.cells]⟩,some ⟨3,[[.bool false,.ak,.ak]]⟩,some ⟨11,S.map Lk.cells⟩],0,0,[],[]⟩) (fun i=>i ≤ Bl l S) (fun i=>Bl l S - i) rfl 0 ?_ ?_ ?_
  ·omega
  ·(refine aH ?_;exact uT)
  ·intro i hi
   have hT : ∀ k,List.take k (S.map Lk.cells) = (S.take k).map Lk.cells:=fun k=>List.map_take.symm
   have hD : ∀ k,List.drop k (S.map Lk.cells) = (S.drop k).map Lk.cells:=fun k=>List.map_drop.symm
   have hap : (∀ A,A.map Lk.cells ++ [l.cells] = (A ++ [l]).map Lk.cells) ∧ ∀ A B : List Lk,A.map Lk.cells ++ B.map Lk.cells = (A ++ B).map Lk.cells:=⟨fun A=>by simp,fun A B=>by simp⟩
   by_cases hc : (i : Int) < (S.length : Nat)
   ·have hil : i < S.length:=by omega
    have hpa:=VO hi hil
    have hrow:=mg? (f:=Lk.cells) hil
    generalize hx : S.getD i default = x at hpa hrow
    have cl1:=Nz h.wQ (k:=x) (l:=l)
    rw [hpa] at cl1
    refine sJ @hc @hrow ?_
    refine ah cl1 ?_
    by_cases hip : i < Bl l S
    ·rw [decide_eq_true hip]
     refine ew ?_
     exact ⟨i + 1,by omega,by omega,by (refine aH ?_;exact uT)⟩
    ·rw [decide_eq_false hip]
     have hie : i = Bl l S:=by omega
     have cl2:=Nz h.wQ (k:=l) (l:=x)
     refine sJ @hc @hrow ?_
     refine ah cl2 ?_
     have c6:=Cc h.iw hz2
     have c0:=jS h.bQ (n:=0) (by omega)
     have Yu : bJ l x = true → KD S l = some (S.take i ++ l :: S.drop i,fH 0):=fun h=>by
      unfold KD
      dsimp only
      rw [← hie,hx]
      exact if_pos (.inr h)
     cases hlx : bJ l x
     ·refine sJ @hc @hrow ?_
      have hxo : ji x = true:=hx ▸ mP h1 hil
      have hxw : x.wf:=by
       have:=hw.2 x (by rw [← hx,List.getD_eq_getElem?_getD,List.getElem?_eq_getElem hil];exact List.getElem_mem hil)
       exact this
      have hab : x.a = l.a ∧ x.b = l.b:=by
       rw [decide_eq_false hip] at hpa
       unfold bJ at hpa hlx
       simp at hpa hlx
       omega
      have hP : mgP x l = true:=by unfold mgP;rw [hxo,h2,decide_eq_true hab.1,decide_eq_true hab.2];rfl
      have afP : KD S l = if L9 x l = true then some (S.take i ++ mgL x l :: S.drop (i + 1),L8 x l) else none:=by
       unfold KD
       dsimp only
       rw [← hie,hx,if_neg (by rw [hlx];simp;omega)]
      have cm:=TA h.Md hxw hl
      have e1 : RF x l = L9 x l:=by unfold RF;rw [hP,Bool.true_and]
      have e2 : aaw x l = if L9 x l = true then mgL x l else Lk0:=by unfold aaw;rw [e1]
      have e3 : aax x l = if L9 x l = true then L8 x l else R0:=by unfold aax;rw [e1]
      rw [e1,e2,e3] at cm
      rw [afP]
      cases hg : L9 x l
      ·rw [hg,if_neg (by simp),if_neg (by simp)] at cm
       refine ah cm ?_
       refine ew ?_
       refine ⟨by unfold iW;decide +kernel,?_⟩
       exact Jj
      ·rw [hg,if_pos rfl,if_pos rfl] at cm
       generalize mgL x l = mm at cm ⊢
       generalize L8 x l = me at cm ⊢
       refine ah cm ?_
       refine ew ?_
       have hset : (List.map Lk.cells S).set i mm.cells = List.map Lk.cells (S.take i ++ mm :: S.drop (i + 1)):=by
        rw [List.set_eq_take_append_cons_drop,if_pos (by simpa using hil),List.map_append,List.map_cons,List.map_take,List.map_drop]
       refine ⟨by unfold iW;decide +kernel,?_⟩
       have hLl : (S.take i ++ mm :: S.drop (i + 1)).length = S.length:=by simp;omega
       generalize S.take i ++ mm :: S.drop (i + 1) = L' at hset hLl ⊢
       have htk : List.take S.length L' = L':=List.take_of_length_le (by omega)
       refine Cb @hrow @hset @htk ?_
       refine ⟨by unfold iW;decide +kernel,?_⟩
       refine BZ @htk ?_
       exact VP rfl hLl.symm rfl
     ·rw [Yu hlx]
      have hd : (List.map Lk.cells (List.drop i S) = []) = False:=eq_false (by intro e;have:=congrArg List.length e;rw [List.length_map,List.length_drop] at this;have h9 : ([] : List (List V)).length = 0:=rfl;omega)
      have hl1 : (List.drop i S).length ≤ 1048576:=by rw [List.length_drop];omega
      have hl2 : (List.take i S).length ≤ 1048576:=by rw [List.length_take];omega
      rcases Nat.eq_zero_or_pos i with h0 | h0
      ·have hn : (List.map Lk.cells (List.take i S) = []) = True:=eq_true (by rw [h0];rfl)
       refine vW @hc @hrow @hT @hD @hn @hd ?_
       refine ah c6 ?_
       refine xX @hT @hD @hn @hd ?_
       refine ⟨by omega,?_⟩
       refine ⟨by omega,?_⟩
       refine ah c0 ?_
       refine xX @hT @hD @hn @hd ?_
       exact VP (L:=S.take i ++ l :: S.drop i) (by rw [h0];simp) (by rw [h0];simp;omega) rfl
      ·have hn : (List.map Lk.cells (List.take i S) = []) = False:=eq_false (by intro e;have:=congrArg List.length e;rw [List.length_map,List.length_take] at this;have h9 : ([] : List (List V)).length = 0:=rfl;omega)
       refine vW @hc @hrow @hT @hD @hn @hd ?_
       refine ⟨by omega,?_⟩
       refine ah c6 ?_
       refine yJ @hT @hD @hn @hd @hap ?_
       refine ⟨by omega,?_⟩
       refine ⟨by simp only [List.length_append,List.length_cons,List.length_nil];omega,?_⟩
       refine ah c0 ?_
       refine yJ @hT @hD @hn @hd @hap ?_
       exact VP (L:=S.take i ++ l :: S.drop i) (by simp) (by simp;omega) rfl
   ·have hie : i = S.length:=by omega
    have c6:=Cc h.iw hz2
    have c0:=jS h.bQ (n:=0) (by omega)
    have Yu : KD S l = some (S ++ [l],fH 0):=by
     unfold KD
     dsimp only
     have hpe : Bl l S = S.length:=by omega
     rw [hpe,if_pos (.inl rfl),List.take_length,List.drop_length]
    rw [Yu]
    have hS1 : (List.map Lk.cells S = []) = False:=eq_false (by intro e;have:=congrArg List.length e;rw [List.length_map] at this;have h9 : ([] : List (List V)).length = 0:=rfl;omega)
    refine xX @hc @hT @hD @hS1 ?_
    refine ⟨by omega,?_⟩
    refine ah c6 ?_
    have hd : (List.map Lk.cells (List.drop i S) = []) = True:=eq_true (by rw [List.drop_eq_nil_of_le (by omega)];rfl)
    refine yJ @hT @hD @hS1 @hap @hd ?_
    refine ⟨by omega,?_⟩
    refine ah c0 ?_
    refine yJ @hT @hD @hS1 @hap @hd ?_
    exact VP (L:=S ++ [l]) (by simp) (by simp) rfl
theorem PG {σ : Store} {p n : Nat} {L : List Lk} (h : aj σ p = some ⟨11,L.map Lk.cells⟩) (hn : n = L.length) : resolve σ FD (.bC p 0 n) = some (bf L):=by
 have:=FQ (n:=10) h (vZ L)
 rw [List.length_map] at this
 rw [hn];exact this
theorem UC (env : Nat → V) (n : Nat) (x : Src) (lo hi : Option Src) : I.reads env (.slice n x lo hi) = iJ (x.ev env):=by simp [I.reads,I.mZ]
theorem UD {σ : Store} {v u e t : V} {b : Bool} {os : List Nat} (hr : resolve σ FD v = some u) (h : bD σ e t os) (hn : os.Nodup) : ZU σ (.eu [v,e,.bool b]) [(false,u),(true,t),(false,.bool b)]:=by
 refine ⟨[v,e,.bool b],os,aC _,?_,hn⟩
 simp only [Pm,if_true,Bool.false_eq_true,if_false]
 exact ⟨v,[e,.bool b],[],os,rfl,rfl,⟨hr,rfl⟩,e,[.bool b],os,[],rfl,by simp,h,.bool b,[],[],[],rfl,rfl,⟨rfl,rfl⟩,rfl,rfl⟩
theorem VQ {σ : Store} : ZU σ (.eu [.ak,.agg [.bool false,.ak,.ak],.bool false]) [(false,bf []),(true,aU R0),(false,.bool false)]:=by
 refine ⟨[.sl 11 [],aU R0,.bool false],[],?_,?_,.nil⟩
 ·exact Jj
 ·simp only [Pm,if_true,Bool.false_eq_true,if_false]
  refine ⟨_,_,[],[],rfl,rfl,⟨rfl,rfl⟩,_,_,[],[],rfl,rfl,?_,_,[],[],[],rfl,rfl,⟨rfl,rfl⟩,rfl,rfl⟩
  exact gQ (jC (jD (o1:=[]) gy (jD (o1:=[]) gy iq)))
theorem VR {σ : Store} {p n : Nat} {A B : List Lk} {m : Lk} {y : R} {c3 c4 c6 c7 c9 c10 e1 e2 : V} {os : List Nat} (C : Cs σ [iv m.a,iv m.b,.bool m.w.neg,c3,c4,.bool m.dx.neg,c6,c7,.bool m.dy.neg,c9,c10,.bool y.neg,e1,e2] (m.cells ++ y.cells) os)
  (h : aj σ p = some ⟨11,A.map Lk.cells ++ ([iv m.a,iv m.b,.bool m.w.neg,c3,c4,.bool m.dx.neg,c6,c7,.bool m.dy.neg,c9,c10] :: B.map Lk.cells)⟩) (hn : n = A.length + (B.length + 1)) :
  ZU σ (.eu [.bC p 0 n,.agg [.bool y.neg,e1,e2],.bool true]) [(false,bf (A ++ m :: B)),(true,aU y),(false,.bool true)]:=by
 obtain ⟨a1,a2,o1,o2,e,rfl,k1,k2⟩:=gB C.ow
 obtain ⟨rfl,rfl⟩:=List.append_inj (show [iv m.a,iv m.b,.bool m.w.neg,c3,c4,.bool m.dx.neg,c6,c7,.bool m.dy.neg,c9,c10] ++ [.bool y.neg,e1,e2] = a1 ++ a2 from e) k1.len.symm
 have nd:=(List.nodup_append.1 C.nd)
 refine UD ?_ (gQ k2) nd.2.1
 have hm : resolve σ 12 (.agg [iv m.a,iv m.b,.bool m.w.neg,c3,c4,.bool m.dx.neg,c6,c7,.bool m.dy.neg,c9,c10]) = some (.agg m.cells):=Kr 12 (gQ k1) (alD 9 m)
 rw [resolve] at hm
 have hr : [iv m.a,iv m.b,.bool m.w.neg,c3,c4,.bool m.dx.neg,c6,c7,.bool m.dy.neg,c9,c10].mapM (resolve σ 11) = some m.cells:=by
  obtain ⟨w,hw,e⟩:=Option.map_eq_some_iff.1 hm
  rw [hw]
  exact congrArg some (V.agg.inj e)
 show resolve σ (11 + 1) _ = _
 rw [resolve]
 have hl : (A.map Lk.cells ++ ([iv m.a,iv m.b,.bool m.w.neg,c3,c4,.bool m.dx.neg,c6,c7,.bool m.dy.neg,c9,c10] :: B.map Lk.cells)).length = n:=by simp;omega
 simp only [h,Nat.zero_add,hl,Nat.le_refl,if_true,List.drop_zero]
 rw [List.take_of_length_le (by omega),List.mapM_append,List.mapM_cons,hr,qp (vZ A),qp (vZ B)]
 simp
def adT (s : List Lk) (l : Lk) : List (Bool × V):=[(false,bf (((KD s l).map (·.1)).getD [])),(true,aU (((KD s l).map (·.2)).getD R0)),(false,.bool (KD s l).isSome)]
theorem aaA {T : Tb} (h : Dv T) {S : List Lk} {l : Lk} (hw : BU Lk.wf S) (h1 : bg S = true) (h2 : ji l = true) (hz : S.length ≤ 1048576) : PX T 130 [bf S,KO l] (adT S l):=by
 unfold adT
 have hpl:=Me l S
 refine LM (fun x d=>(x == 39 && d == 52) || (x == 140 && d == 59)) h.hT ?_
 simp only [xM,Lz,St.enter,List.length_cons,List.length_nil,Nat.zero_add]
 refine ew ?_
 refine aO (fun x d=>(x == 39 && d == 52) || (x == 140 && d == 59)) (α:=Nat) (fun i=>⟨bF [bf S,.any,.any,.ptr 0 0 0,.any,.ptr 1 0 0,.any,iv (i : Nat)],[some ⟨11,[l.cells]⟩,some ⟨3,[[.bool false,.ak,.ak]]⟩],0,0,[],[]⟩) (fun i=>i ≤ Bl l S) (fun i=>Bl l S - i) rfl 0 ?_ ?_ ?_
 ·omega
 ·(refine aH ?_;exact uT)
 ·intro i hi
  have hT : ∀ k,List.take k (S.map Lk.cells) = (S.take k).map Lk.cells:=fun k=>List.map_take.symm
  have hD : ∀ k,List.drop k (S.map Lk.cells) = (S.drop k).map Lk.cells:=fun k=>List.map_drop.symm
  have hap : (∀ A,A.map Lk.cells ++ [l.cells] = (A ++ [l]).map Lk.cells) ∧ ∀ A B : List Lk,A.map Lk.cells ++ B.map Lk.cells = (A ++ B).map Lk.cells:=⟨fun A=>by simp,fun A B=>by simp⟩
  have hl2 : (List.take i S).length ≤ 1048576:=by rw [List.length_take];omega
  have hl1 : (List.drop i S).length ≤ 1048576:=by rw [List.length_drop];omega
  have hnT : i = 0 → (List.map Lk.cells (List.take i S) = []) = True:=fun h0=>eq_true (by rw [h0];rfl)
  have hnF : 0 < i → (List.map Lk.cells (List.take i S) = []) = False:=fun h0=>eq_false (by intro e;have:=congrArg List.length e;rw [List.length_map,List.length_take] at this;have h9 : ([] : List (List V)).length = 0:=rfl;omega)
  by_cases hc : (i : Int) < (S.length : Nat)
  ·have hil : i < S.length:=by omega
   have hne : ¬ (i : Int) = (S.length : Nat):=by omega
   have hpa:=VO hi hil
   have hrow:=mg (f:=Lk.cells) hil
   have hdF : (List.map Lk.cells (List.drop i S) = []) = False:=eq_false (by intro e;have:=congrArg List.length e;rw [List.length_map,List.length_drop] at this;have h9 : ([] : List (List V)).length = 0:=rfl;omega)
   generalize hx : S.getD i default = x at hpa hrow
   have cl1:=EG h.nK (k:=x) (l:=l)
   rw [hpa] at cl1
   refine sJ @hc @hrow ?_
   refine ah cl1 ?_
   by_cases hip : i < Bl l S
   ·rw [decide_eq_true hip]
    refine ew ?_
    exact ⟨i + 1,by omega,by omega,by (refine aH ?_;exact uT)⟩
   ·rw [decide_eq_false hip]
    have hie : i = Bl l S:=by omega
    have cl2:=EG h.nK (k:=l) (l:=x)
    have Yu : bJ l x = true → KD S l = some (S.take i ++ l :: S.drop i,fH 0):=fun h=>by
     unfold KD
     dsimp only
     rw [← hie,hx]
     exact if_pos (.inr h)
    rcases Nat.eq_zero_or_pos i with h0 | h0
    ·have hn:=hnT h0
     refine yJ @hc @hrow @hT @hn @hne ?_
     refine ah cl2 ?_
     cases hlx : bJ l x
     ·refine yJ @hc @hrow @hT @hn @hne ?_
      have hxo : ji x = true:=hx ▸ mP h1 hil
      have hab : x.a = l.a ∧ x.b = l.b:=by
       rw [decide_eq_false hip] at hpa
       unfold bJ at hpa hlx
       simp at hpa hlx
       omega
      have afP : KD S l = if L9 x l = true then some (S.take i ++ mgL x l :: S.drop (i + 1),L8 x l) else none:=by
       unfold KD
       dsimp only
       rw [← hie,hx,if_neg (by rw [hlx];simp;omega)]
      rw [afP]
      have po:=JF h.Ec (GH hxo) (GH h2)
      refine kP po (by (refine ew ?_;try with_reducible exact True.intro)) (by (refine ew ?_;try with_reducible exact True.intro)) ?_
      cases hg : L9 x l
      ·intro r q os G
       obtain ⟨c3,c4,c6,c7,c9,c10,e1,e2,rfl,hO⟩:=G.abv
       rw [if_neg (by decide),if_neg (by decide)] at hO ⊢
       have L3:=hO.leaf (by rfl)
       simp only [List.all_cons,List.all_nil,Bool.and_true,Bool.and_eq_true] at L3
       have gl : 6 ≤ q.length:=by have:=G.len;simp at this;omega
       have O0:=(G.old 1 (by simp)).trans rfl
       refine sJ @L3 @O0 ?_
       refine ⟨by unfold iW;decide +kernel,?_⟩
       exact .inl VQ
      ·intro r q os G
       obtain ⟨c3,c4,c6,c7,c9,c10,e1,e2,rfl,hO⟩:=G.abv
       rw [if_pos rfl,if_pos rfl] at hO ⊢
       have L3:=hO.leaf (by rfl)
       simp only [List.all_cons,List.all_nil,Bool.and_true,Bool.and_eq_true] at L3
       have gl : 6 ≤ q.length:=by have:=G.len;simp at this;omega
       have O0:=(G.old 1 (by simp)).trans rfl
       refine sJ @L3 @O0 ?_
       refine ⟨by unfold iW;decide +kernel,?_⟩
       have hl3 : (List.drop (i + 1) S).length ≤ 1048576:=by rw [List.length_drop];omega
       have hln : (List.drop (i + 1) S).length = S.length - (i + 1):=by rw [List.length_drop]
       have hb1 : ((i : Int) + 1 ≤ (S.length : Nat)) = True:=eq_true (by omega)
       have hb0 : (0 ≤ (i : Int) + 1) = True:=eq_true (by omega)
       have ht1 : ((i : Int) + 1).toNat = i + 1:=by omega
       have TD:=And.intro @UC (And.intro (And.intro hT hD) (And.intro hb1 (And.intro hb0 ht1)))
       have hti : (List.take i S).length = i:=by rw [List.length_take];omega
       by_cases hde : List.map Lk.cells (List.drop (i + 1) S) = []
       ·have hdz : (List.drop (i + 1) S).length = 0:=by have:=congrArg List.length hde;rw [List.length_map] at this;exact this
        refine Cb @hde @O0 @TD ?_
        refine ⟨by (try simp only [List.length_append,List.length_map,List.length_cons,List.length_nil]);omega,?_⟩
        refine Cb @hde @O0 @TD ?_
        rw [if_pos (by rw [L3.2.2.2.2.2.2.2.2.2.2.2.2.1,L3.2.2.2.2.2.2.2.2.2.2.2.2.2];rfl)]
        refine ⟨?_,?_⟩
        ·have hn0 : 6 ≤ List.length q:=gl
         generalize List.length q = m at hn0 ⊢
         revert m
         refine qH _ _ 6 (fun n hn=>?_) (fun n hn=>?_) ?_
         ·simp only [sh];split <;> omega
         ·simp [SE,sh];try omega
         ·unfold iW;decide +kernel
        have hlt:=hO.lt
        have hfr:=G.fresh
        refine .inl (VR (A:=S.take i) (B:=S.drop (i + 1)) (Cs.frame (⟨hO,G.nd⟩ : Cs q _ _ os) fun o ho=>?_) ?_ ?_)
        ·have k1:=hlt o ho
         have k2:=hfr o ho
         simp only [List.length_cons,List.length_nil] at k2
         simp (disch:=first | omega | (simp;done) | (simp;omega)) only [aI,aQ]
        ·simp (disch:=first | omega | (simp;done) | (simp;omega)) only [aI,bn,aQ]
         rw [show List.map Lk.cells (List.take i S) = [] from of_eq_true hn];first | rfl | (rw [hde];rfl) | simp
        ·(try simp only [List.length_append,List.length_map,List.length_cons,List.length_nil]);omega
       ·refine Cb @hde @O0 @TD ?_
        refine ⟨by (try simp only [List.length_append,List.length_map,List.length_cons,List.length_nil]);omega,?_⟩
        refine Cb @hde @O0 @TD ?_
        refine ⟨by (try simp only [List.length_append,List.length_map,List.length_cons,List.length_nil]);omega,?_⟩
        rw [if_pos (by rw [L3.2.2.2.2.2.2.2.2.2.2.2.2.1,L3.2.2.2.2.2.2.2.2.2.2.2.2.2];rfl)]
        refine ⟨?_,?_⟩
        ·have hn0 : 6 ≤ List.length q:=gl
         generalize List.length q = m at hn0 ⊢
         revert m
         refine qH _ _ 6 (fun n hn=>?_) (fun n hn=>?_) ?_
         ·simp only [sh];split <;> omega
         ·simp [SE,sh];try omega
         ·unfold iW;decide +kernel
        have hlt:=hO.lt
        have hfr:=G.fresh
        refine .inl (VR (A:=S.take i) (B:=S.drop (i + 1)) (Cs.frame (⟨hO,G.nd⟩ : Cs q _ _ os) fun o ho=>?_) ?_ ?_)
        ·have k1:=hlt o ho
         have k2:=hfr o ho
         simp only [List.length_cons,List.length_nil] at k2
         simp (disch:=first | omega | (simp;done) | (simp;omega)) only [aI,aQ]
        ·simp (disch:=first | omega | (simp;done) | (simp;omega)) only [aI,bn,aQ]
         rw [show List.map Lk.cells (List.take i S) = [] from of_eq_true hn];first | rfl | (rw [hde];rfl) | simp
        ·(try simp only [List.length_append,List.length_map,List.length_cons,List.length_nil]);omega
     ·rw [Yu hlx]
      refine vW @hrow @hT @hD @hn @hdF @hap ?_
      refine ⟨by omega,by omega,?_⟩
      refine eH (oU h.bI (n:=0)) (by (refine ew ?_;try with_reducible exact True.intro)) ?_
      intro r q os G
      have gl : 7 ≤ q.length:=by have:=G.len;simp at this;omega
      have hop : aj q 6 = some ⟨11,l.cells :: List.map Lk.cells (List.drop i S)⟩:=(G.old 6 (by simp)).trans rfl
      have ho1:=(G.old 1 (by simp)).trans rfl
      have n1 : 1 ∉ os:=fun hm=>by have:=G.fresh 1 hm;simp at this
      obtain ⟨_,rfl,hQ⟩:=G.ow.dA
      obtain ⟨y1,y2,rfl⟩:=hQ.rat
      have E : Ep q [.bool (fH 0).neg,y1,y2] [.bool (fH 0).neg,ints (fH 0).mag,ints (fH 0).den] os []:=⟨⟨hQ,G.nd⟩,by simp⟩
      have LF:=And.intro (E.leaf 1 rfl rfl) (E.leaf 2 rfl rfl)
      have C:=E.c.set (o:=1) (x:=some ⟨3,[[.bool (fH 0).neg,y1,y2]]⟩) n1
      refine sJ @LF @ho1 ?_
      refine .inl (UD (PG (L:=S.take i ++ l :: S.drop i) ?_ ?_) (gQ C.ow) C.nd)
      ·rw [aI (by decide)]
       refine hop.trans ?_
       rw [h0];simp
      ·rw [h0];simp;omega
    ·have hn:=hnF h0
     refine yJ @hc @hrow @hT @hn @hne ?_
     refine vW @hrow @hT @hD @hn @hdF @hap ?_
     refine ⟨by omega,?_⟩
     refine ah cl2 ?_
     cases hlx : bJ l x
     ·refine BZ @hrow ?_
      have hxo : ji x = true:=hx ▸ mP h1 hil
      have hab : x.a = l.a ∧ x.b = l.b:=by
       rw [decide_eq_false hip] at hpa
       unfold bJ at hpa hlx
       simp at hpa hlx
       omega
      have afP : KD S l = if L9 x l = true then some (S.take i ++ mgL x l :: S.drop (i + 1),L8 x l) else none:=by
       unfold KD
       dsimp only
       rw [← hie,hx,if_neg (by rw [hlx];simp;omega)]
      rw [afP]
      have po:=JF h.Ec (GH hxo) (GH h2)
      refine kP po (by (refine ew ?_;try with_reducible exact True.intro)) (by (refine ew ?_;try with_reducible exact True.intro)) ?_
      cases hg : L9 x l
      ·intro r q os G
       obtain ⟨c3,c4,c6,c7,c9,c10,e1,e2,rfl,hO⟩:=G.abv
       rw [if_neg (by decide),if_neg (by decide)] at hO ⊢
       have L3:=hO.leaf (by rfl)
       simp only [List.all_cons,List.all_nil,Bool.and_true,Bool.and_eq_true] at L3
       have gl : 6 ≤ q.length:=by have:=G.len;simp at this;omega
       have O0:=(G.old 1 (by simp)).trans rfl
       have O3 : aj q 3 = some ⟨11,List.map Lk.cells (List.take i S)⟩:=(G.old 3 (by simp)).trans rfl
       refine sJ @L3 @O0 ?_
       refine ⟨by unfold iW;decide +kernel,?_⟩
       exact .inl VQ
      ·intro r q os G
       obtain ⟨c3,c4,c6,c7,c9,c10,e1,e2,rfl,hO⟩:=G.abv
       rw [if_pos rfl,if_pos rfl] at hO ⊢
       have L3:=hO.leaf (by rfl)
       simp only [List.all_cons,List.all_nil,Bool.and_true,Bool.and_eq_true] at L3
       have gl : 6 ≤ q.length:=by have:=G.len;simp at this;omega
       have O0:=(G.old 1 (by simp)).trans rfl
       have O3 : aj q 3 = some ⟨11,List.map Lk.cells (List.take i S)⟩:=(G.old 3 (by simp)).trans rfl
       refine sJ @L3 @O0 ?_
       refine ⟨by unfold iW;decide +kernel,?_⟩
       have hl3 : (List.drop (i + 1) S).length ≤ 1048576:=by rw [List.length_drop];omega
       have hln : (List.drop (i + 1) S).length = S.length - (i + 1):=by rw [List.length_drop]
       have hb1 : ((i : Int) + 1 ≤ (S.length : Nat)) = True:=eq_true (by omega)
       have hb0 : (0 ≤ (i : Int) + 1) = True:=eq_true (by omega)
       have ht1 : ((i : Int) + 1).toNat = i + 1:=by omega
       have TD:=And.intro @UC (And.intro (And.intro hT hD) (And.intro hb1 (And.intro hb0 ht1)))
       have hti : (List.take i S).length = i:=by rw [List.length_take];omega
       by_cases hde : List.map Lk.cells (List.drop (i + 1) S) = []
       ·have hdz : (List.drop (i + 1) S).length = 0:=by have:=congrArg List.length hde;rw [List.length_map] at this;exact this
        refine Cb @hde ((And.intro O0 O3)) @TD ?_
        refine ⟨by (try simp only [List.length_append,List.length_map,List.length_cons,List.length_nil]);omega,?_⟩
        refine Cb @hde ((And.intro O0 O3)) @TD ?_
        rw [if_pos (by rw [L3.2.2.2.2.2.2.2.2.2.2.2.2.1,L3.2.2.2.2.2.2.2.2.2.2.2.2.2];rfl)]
        refine ⟨?_,?_⟩
        ·have hn0 : 6 ≤ List.length q:=gl
         generalize List.length q = m at hn0 ⊢
         revert m
         refine qH _ _ 6 (fun n hn=>?_) (fun n hn=>?_) ?_
         ·simp only [sh];split <;> omega
         ·simp [SE,sh];try omega
         ·unfold iW;decide +kernel
        have hlt:=hO.lt
        have hfr:=G.fresh
        refine .inl (VR (A:=S.take i) (B:=S.drop (i + 1)) (Cs.frame (⟨hO,G.nd⟩ : Cs q _ _ os) fun o ho=>?_) ?_ ?_)
        ·have k1:=hlt o ho
         have k2:=hfr o ho
         simp only [List.length_cons,List.length_nil] at k2
         simp (disch:=first | omega | (simp;done) | (simp;omega)) only [aI,aQ]
        ·simp (disch:=first | omega | (simp;done) | (simp;omega)) only [aI,bn,aQ]
         first | rfl | (rw [hde];rfl) | (simp;done) | (simp;omega)
        ·(try simp only [List.length_append,List.length_map,List.length_cons,List.length_nil]);omega
       ·refine Cb @hde ((And.intro O0 O3)) @TD ?_
        refine ⟨by (try simp only [List.length_append,List.length_map,List.length_cons,List.length_nil]);omega,?_⟩
        refine Cb @hde ((And.intro O0 O3)) @TD ?_
        refine ⟨by (try simp only [List.length_append,List.length_map,List.length_cons,List.length_nil]);omega,?_⟩
        rw [if_pos (by rw [L3.2.2.2.2.2.2.2.2.2.2.2.2.1,L3.2.2.2.2.2.2.2.2.2.2.2.2.2];rfl)]
        refine ⟨?_,?_⟩
        ·have hn0 : 6 ≤ List.length q:=gl
         generalize List.length q = m at hn0 ⊢
         revert m
         refine qH _ _ 6 (fun n hn=>?_) (fun n hn=>?_) ?_
         ·simp only [sh];split <;> omega
         ·simp [SE,sh];try omega
         ·unfold iW;decide +kernel
        have hlt:=hO.lt
        have hfr:=G.fresh
        refine .inl (VR (A:=S.take i) (B:=S.drop (i + 1)) (Cs.frame (⟨hO,G.nd⟩ : Cs q _ _ os) fun o ho=>?_) ?_ ?_)
        ·have k1:=hlt o ho
         have k2:=hfr o ho
         simp only [List.length_cons,List.length_nil] at k2
         simp (disch:=first | omega | (simp;done) | (simp;omega)) only [aI,aQ]
        ·simp (disch:=first | omega | (simp;done) | (simp;omega)) only [aI,bn,aQ]
         first | rfl | (rw [hde];rfl) | (simp;done) | (simp;omega)
        ·(try simp only [List.length_append,List.length_map,List.length_cons,List.length_nil]);omega
     ·rw [Yu hlx]
      refine vW @hrow @hT @hD @hn @hdF @hap ?_
      refine ⟨by omega,by simp only [List.length_append,List.length_cons,List.length_nil];omega,?_⟩
      refine eH (oU h.bI (n:=0)) (by (refine ew ?_;try with_reducible exact True.intro)) ?_
      intro r q os G
      have gl : 7 ≤ q.length:=by have:=G.len;simp at this;omega
      have hop : aj q 6 = some ⟨11,List.map Lk.cells (List.take i S ++ [l] ++ List.drop i S)⟩:=(G.old 6 (by simp)).trans rfl
      have ho1:=(G.old 1 (by simp)).trans rfl
      have n1 : 1 ∉ os:=fun hm=>by have:=G.fresh 1 hm;simp at this
      obtain ⟨_,rfl,hQ⟩:=G.ow.dA
      obtain ⟨y1,y2,rfl⟩:=hQ.rat
      have E : Ep q [.bool (fH 0).neg,y1,y2] [.bool (fH 0).neg,ints (fH 0).mag,ints (fH 0).den] os []:=⟨⟨hQ,G.nd⟩,by simp⟩
      have LF:=And.intro (E.leaf 1 rfl rfl) (E.leaf 2 rfl rfl)
      have C:=E.c.set (o:=1) (x:=some ⟨3,[[.bool (fH 0).neg,y1,y2]]⟩) n1
      refine sJ @LF @ho1 ?_
      refine .inl (UD (PG (L:=S.take i ++ l :: S.drop i) ?_ ?_) (gQ C.ow) C.nd)
      ·rw [aI (by decide)]
       refine hop.trans ?_
       simp
      ·simp;omega
  ·have hie : i = S.length:=by omega
   have hpe : Bl l S = S.length:=by omega
   have aul : KD S l = some (S ++ [l],fH 0):=by
    unfold KD
    dsimp only
    rw [hpe,if_pos (.inl rfl),List.take_length,List.drop_length]
   have hde : List.map Lk.cells (List.drop i S) = []:=by rw [List.drop_eq_nil_of_le (by omega)];rfl
   have htk : List.take i S = S:=List.take_of_length_le (by omega)
   have hci : ((i : Int) = (S.length : Nat)) = True:=eq_true (by omega)
   rw [aul]
   have hd0 : (List.drop i (List.map Lk.cells S) = []) = True:=eq_true (by rw [List.drop_eq_nil_of_le (by simp;omega)])
   rcases Nat.eq_zero_or_pos i with h0 | h0
   ·have hn : (List.map Lk.cells S = []) = True:=eq_true (by have:=of_eq_true (hnT h0);rw [htk] at this;exact this)
    refine xX @hc @hci @hn @hd0 ?_
    refine ⟨by omega,?_⟩
    refine xX @hc @hci @hn @hd0 ?_
    refine eH (oU h.bI (n:=0)) (by (refine ew ?_;try with_reducible exact True.intro)) ?_
    intro r q os G
    have gl : 6 ≤ q.length:=by have:=G.len;simp at this;omega
    have hop : aj q 5 = some ⟨11,[l.cells]⟩:=(G.old 5 (by simp)).trans rfl
    have ho1:=(G.old 1 (by simp)).trans rfl
    have n1 : 1 ∉ os:=fun hm=>by have:=G.fresh 1 hm;simp at this
    obtain ⟨_,rfl,hQ⟩:=G.ow.dA
    obtain ⟨y1,y2,rfl⟩:=hQ.rat
    have E : Ep q [.bool (fH 0).neg,y1,y2] [.bool (fH 0).neg,ints (fH 0).mag,ints (fH 0).den] os []:=⟨⟨hQ,G.nd⟩,by simp⟩
    have LF:=And.intro (E.leaf 1 rfl rfl) (E.leaf 2 rfl rfl)
    have C:=E.c.set (o:=1) (x:=some ⟨3,[[.bool (fH 0).neg,y1,y2]]⟩) n1
    refine sJ @LF @ho1 ?_
    refine .inl (UD (PG (L:=S ++ [l]) ?_ ?_) (gQ C.ow) C.nd)
    ·rw [aI (by decide)]
     refine hop.trans ?_
     rw [List.map_append,of_eq_true hn];rfl
    ·have:=congrArg List.length (of_eq_true hn);simp at this ⊢;simp [this]
   ·have hn : (List.map Lk.cells S = []) = False:=eq_false (by have:=of_eq_false (hnF h0);rw [htk] at this;exact this)
    refine xX @hc @hci @hn @hd0 ?_
    refine ⟨by omega,?_⟩
    refine xX @hc @hci @hn @hd0 ?_
    refine ⟨by (try simp only [List.length_append,List.length_map,List.length_cons,List.length_nil]);omega,?_⟩
    refine eH (oU h.bI (n:=0)) (by (refine ew ?_;try with_reducible exact True.intro)) ?_
    intro r q os G
    have gl : 6 ≤ q.length:=by have:=G.len;simp at this;omega
    have hop : aj q 5 = some ⟨11,List.map Lk.cells S ++ [l.cells]⟩:=(G.old 5 (by simp)).trans rfl
    have ho1:=(G.old 1 (by simp)).trans rfl
    have n1 : 1 ∉ os:=fun hm=>by have:=G.fresh 1 hm;simp at this
    obtain ⟨_,rfl,hQ⟩:=G.ow.dA
    obtain ⟨y1,y2,rfl⟩:=hQ.rat
    have E : Ep q [.bool (fH 0).neg,y1,y2] [.bool (fH 0).neg,ints (fH 0).mag,ints (fH 0).den] os []:=⟨⟨hQ,G.nd⟩,by simp⟩
    have LF:=And.intro (E.leaf 1 rfl rfl) (E.leaf 2 rfl rfl)
    have C:=E.c.set (o:=1) (x:=some ⟨3,[[.bool (fH 0).neg,y1,y2]]⟩) n1
    refine sJ @LF @ho1 ?_
    refine .inl (UD (PG (L:=S ++ [l]) ?_ ?_) (gQ C.ow) C.nd)
    ·rw [aI (by decide)]
     refine hop.trans ?_
     rw [List.map_append];rfl
    ·simp
theorem VT {α : Type} {f : α → Nat} {k : Nat} : ∀ {l : List α},(∀ x ∈ l,f x ≤ k) → vY f l ≤ l.length * (k + 1)
 | [],_=>by simp [vY]
 |
  x :: l,h=>by
  have h1:=h x (by simp)
  have h2:=VT (f:=f) (k:=k) (l:=l) fun y hy=>h y (by simp [hy])
  unfold vY at h2 ⊢
  simp only [List.length_cons,List.map_cons,List.sum_cons]
  rw [Nat.succ_mul]
  omega
theorem UE {l : List Lk} (h : bg l = true) : ∀ i,i < l.length → (i : Int) ≤ 10 * (l.getD i default).a + (l.getD i default).b
 |
  0,hi=>by
  have:=nO (mP h hi)
  omega
 |
  i + 1,hi=>by
  have k1:=UE h i (by omega)
  have k2:=UA h hi
  have k3:=nO (mP h hi)
  have k4:=nO (mP h (show i < l.length by omega))
  unfold bJ at k2
  simp only [Bool.or_eq_true,Bool.and_eq_true,decide_eq_true_eq] at k2
  omega
theorem FT {l : List Lk} (h : bg l = true) : l.length ≤ 100:=by
 rcases Nat.lt_or_ge 100 l.length with hl | hl
 ·have k1:=UE h (l.length - 1) (by omega)
  have k3:=nO (mP h (show l.length - 1 < l.length by omega))
  omega
 ·exact hl
theorem aiK {s : List Lk} {l : Lk} {t : List Lk} {e : R} (h : KD s l = some (t,e)) (h1 : bg s = true) (h2 : ji l = true) : (∀ x ∈ t,x.w.cn ∧ x.dx.cn ∧ x.dy.cn) ∧ e.cn ∧ t.length ≤ s.length + 1:=by
 unfold KD at h
 dsimp only at h
 have hp:=Me l s
 have hs : ∀ x ∈ s,x.w.cn ∧ x.dx.cn ∧ x.dy.cn:=fun x hx=>GH (rM h1 hx)
 split at h
 ·cases h
  refine ⟨fun x hx=>?_,Gt (by decide),by simp;omega⟩
  simp only [List.mem_append,List.mem_cons] at hx
  rcases hx with hx | rfl | hx
  ·exact hs x (List.mem_of_mem_take hx)
  ·exact GH h2
  ·exact hs x (List.mem_of_mem_drop hx)
 ·rename_i hc
  split at h
  ·cases h
   refine ⟨fun x hx=>?_,aav _ _,by simp;omega⟩
   simp only [List.mem_append,List.mem_cons] at hx
   rcases hx with hx | rfl | hx
   ·exact hs x (List.mem_of_mem_take hx)
   ·exact ⟨NT _ _,aat _ _,aau _ _⟩
   ·exact hs x (List.mem_of_mem_drop hx)
  ·cases h
theorem afQ {x : Lk} (h : x.w.cn ∧ x.dx.cn ∧ x.dy.cn) : x.sz ≤ 144:=by
 have a:=Nw h.1
 have b:=Nw h.2.1
 have c:=Nw h.2.2
 unfold Lk.sz R.sz
 omega
theorem aaB (s : List Lk) (l : Lk) : (∀ x ∈ adV s l,x.w.cn ∧ x.dx.cn ∧ x.dy.cn) ∧ (adE s l).cn ∧ (adV s l).length ≤ 101:=by
 by_cases h : bg s = true ∧ ji l = true
 ·obtain ⟨e1,e2,_⟩:=PE h.1 h.2
  have hl:=FT h.1
  rw [e1,e2]
  cases hr : KD s l with
  | none=>exact ⟨by simp,ae6,by simp⟩
  |
   some p =>
   obtain ⟨k1,k2,k3⟩:=aiK (t:=p.1) (e:=p.2) hr h.1 h.2
   exact ⟨k1,k2,by simp only [Option.map_some,Option.getD_some];omega⟩
 ·obtain ⟨e1,e2,_⟩:=aay h
  rw [e1,e2]
  exact ⟨by simp,ae6,by simp⟩
theorem Ed {σ : Store} {n k : Nat} {w : V} {rows : List (List V)} (h : resolve σ (n + 1) w = some (.sl k rows)) : w.leaf = true:=by
 cases w with
 | bC=>rfl
 | sl=>rfl
 | ptr o r off=>obtain ⟨_,_,e⟩:=aa8 h;cases e
 | agg cs=>simp only [resolve] at h;obtain ⟨_,_,e⟩:=Option.map_eq_some_iff.1 h;cases e
 | eu cs=>simp only [resolve] at h;obtain ⟨_,_,e⟩:=Option.map_eq_some_iff.1 h;cases e
 | _=>simp only [resolve] at h;cases h
theorem afR {α : Type} [Inhabited α] {f : α → Prop} {l : List α} (h : BU f l) {k : Nat} (hk : k < l.length) : f (l.getD k default):=by
 refine h.2 _ ?_
 rw [List.getD_eq_getElem?_getD,List.getElem?_eq_getElem hk];exact List.getElem_mem hk
theorem Ep.renew {s s1 σ2 : Store} {cs ts rs trs : List V} {os os2 : List Nat} {L : List (Nat × Obj)} (E : Ep s cs ts os L) (h1 : ∀ o,o < s.length → aj s1 o = aj s o) (hl : s.length ≤ s1.length) (ho : dX σ2 rs trs os2) (hn : os2.Nodup) (hf : ∀ o ∈ os2,s1.length ≤ o)
  (old : ∀ o,o < s1.length → aj σ2 o = aj s1 o) : Ep σ2 rs trs os2 L :=
 ⟨⟨ho,hn⟩,fun q hq=>⟨(old _ (Nat.lt_of_lt_of_le (E.lt q hq) hl)).trans ((h1 _ (E.lt q hq)).trans (E.l q hq).1),fun hm=>by have:=hf _ hm;have:=E.lt q hq;omega⟩⟩
def rO : Fn:=⟨1,41,[.tmp 2,.cell 3 3 true,.tmp 4],(.seq (rf 1 [oK 2 1 mN,oN 3 (.alloc jK),oK 4 1 mF]) (.seq (rf 1 [oN 12 (.dS 11 Aq 0 []),oK 5 1 (oV 12)]) (.seq (rf 1 [oK 13 1 (.call 36 [(cI 0)]),oN 6 (.alloc jK),⟨none,none,1,.store 3 (.t 6) (.t 13),[]⟩]) (.seq (sr [oW 14 0,oN 15 (ln 14),oN 16 (.bY (cI 0))] (.block 0 (.loop (sr [oN 17 (bt .lss 16 15)] (.seq (cd 17 .skip (.exit 0)) (.seq (.block 1 (.seq (rf 1 [oK 18 1 (ix 11 14 16),oK 19 1 (lT 11 18),oN 8 (.alloc Aq),⟨none,none,1,.store 11 (.t 8) (.t 19),[]⟩]) (.seq (rf 1 [oK 21 1 (oV 5),oK 22 1 (lT 11 8),oK 23 1 (cl 188 [21,22]),oK 20 1 (oV 23),oK 24 1 (ex 0 20),oK 25 1 (ex 1 20),oK 26 1 (ex 2 20),oN 10 (.alloc jK),oK 9 1 (oV 24),⟨none,none,1,.store 3 (.t 10) (.t 25),[]⟩,oK 11 1 (oV 26)]) (.seq (sr [oW 27 11,oN 28 (nt 27)] (cd 28 (sr [oN 29 (.build jK []),oN 2 mN,oS (.store 3 (.t 3) (.t 29)),oN 4 mF] .ret) .skip)) (sr [oW 30 9,oW 5 30] (rg [oN 31 (lT 3 6),oN 32 (lT 3 10),oN 33 (cl 189 [31,32]),oS (.store 3 (.t 6) (.t 33))])))))) (rg [oN 34 (bc .add 16 1),oW 16 34]))))))) (.seq (sr [oN 35 (lT 3 6),oN 36 (cl 100 [35]),oN 37 (nt 36)] (cd 37 (sr [oN 38 (.build jK []),oN 2 mN,oS (.store 3 (.t 3) (.t 38)),oN 4 mF] .ret) .skip)) (.seq (rt 0 [oW 39 5,oN 40 (lT 3 6),oA 2 0 (oV 39) [0,0],⟨none,none,0,.store 3 (.t 3) (.t 40),[1,2,0,1,2]⟩,oA 4 0 mT [3,0,1,2,3]]) .ret))))))⟩
structure yO (T : Tb) : Prop where
 hT : T 179 = some rO
 bQ : ig T
 aX : eU T
 RH : Du T
 dJ : jR T
def rP : Fn:=⟨1,42,[.tmp 2,.cell 3 3 true,.tmp 4],(.seq (rf 1 [oK 2 1 mN,oN 3 (.alloc jK),oK 4 1 mF]) (.seq (rf 1 [oN 12 (.dS 11 Aq 0 []),oK 5 1 (oV 12)]) (.seq (rf 1 [oK 13 1 (.call 39 [(cI 0)]),oN 6 (.alloc jK),⟨none,none,1,.store 3 (.t 6) (.t 13),[]⟩]) (.seq (sr [oW 14 0,oN 15 (ln 14),oN 16 (.bY (cI 0))] (.block 0 (.loop (sr [oN 17 (bt .lss 16 15)] (.seq (cd 17 .skip (.exit 0)) (.seq (.block 1 (.seq (rf 1 [oK 18 1 (ix 11 14 16),oK 19 1 (lT 11 18),oN 8 (.alloc Aq),⟨none,none,1,.store 11 (.t 8) (.t 19),[]⟩]) (.seq (rf 1 [oK 21 1 (oV 5),oK 22 1 (lT 11 8),oK 23 1 (cl 130 [21,22]),oK 20 1 (oV 23),oK 24 1 (ex 0 20),oK 25 1 (ex 1 20),oK 26 1 (ex 2 20),oN 10 (.alloc jK),oK 9 1 (oV 24),⟨none,none,1,.store 3 (.t 10) (.t 25),[]⟩,oK 11 1 (oV 26)]) (sr [oN 27 (lT 3 6),oN 28 (lT 3 10),oN 29 (cl 131 [27,28]),oS (.store 3 (.t 6) (.t 29))] (.seq (sr [oW 30 11,oN 31 (nt 30),oW 32 31,oG 32 false 33 (lT 3 6),oG 32 false 34 (cl 132 [33]),oG 32 false 35 (nt 34),oN 36 (.pick (.t 32) (.c (.bool true)) (.t 35))] (cd 36 (sr [oN 37 (.build jK []),oN 2 mN,oS (.store 3 (.t 3) (.t 37)),oN 4 mF] .ret) .skip)) (rg [oW 38 9,oW 5 38])))))) (rg [oN 39 (bc .add 16 1),oW 16 39]))))))) (.seq (rt 0 [oW 40 5,oN 41 (lT 3 6),oA 2 0 (oV 40) [0,0],⟨none,none,0,.store 3 (.t 3) (.t 41),[1,2,0,1,2]⟩,oA 4 0 mT [3,0,1,2,3]]) .ret)))))⟩
structure yP (T : Tb) : Prop where
 hT : T 109 = some rP
 bI : fF T
 RI : Dv T
 bP : eP T
 aP : fE T
theorem vU {l : List Lk} : bg l = true ↔ (∀ x ∈ l,ji x = true) ∧ l.Pairwise fun k l=>bJ k l = true:=by
 constructor
 ·intro h
  exact ⟨fun x hx=>rM h hx,(Yo h).imp fun h=>h.1⟩
 ·rintro ⟨h1,h2⟩
  unfold bg
  refine ZM fun i hi=>?_
  have a:=h1 (l.getD i default) (getD_mem hi)
  unfold D7
  rw [List.pairwise_iff_getElem] at h2
  rcases Nat.eq_zero_or_pos i with h0 | h0
  ·subst h0;rw [a,decide_eq_true rfl];rfl
  ·have:=h2 (i - 1) i (by omega) hi (by omega)
   have e1 : l.getD (i - 1) default = l[i - 1]:=by rw [List.getD_eq_getElem?_getD,List.getElem?_eq_getElem];rfl
   have e2 : l.getD i default = l[i]:=by rw [List.getD_eq_getElem?_getD,List.getElem?_eq_getElem];rfl
   rw [← e1,← e2] at this
   rw [a,this,Bool.or_true];rfl
theorem aaC {k l : Lk} (h1 : bJ k l = false) (h2 : bJ l k = false) : k.a = l.a ∧ k.b = l.b:=by
 unfold bJ at h1 h2
 simp at h1 h2
 omega
theorem VU {k l m : Lk} (ha : l.a = m.a) (hb : l.b = m.b) : bJ k l = bJ k m ∧ bJ l k = bJ m k:=by
 unfold bJ;rw [ha,hb];exact ⟨rfl,rfl⟩
theorem Yv {l : Lk} : ∀ {s : List Lk} {x : Lk},x ∈ s.take (Bl l s) → bJ x l = true
 | [],x,h=>by simp [Bl] at h
 |
  y :: s,x,h=>by
  unfold Bl at h
  split at h
  ·rename_i hy
   rw [List.take_succ_cons] at h
   rcases List.mem_cons.1 h with rfl | h
   ·exact hy
   ·exact Yv h
  ·simp at h
theorem ac9 {l : Lk} {s : List Lk} (h : s.Pairwise fun k l=>bJ k l = true) : ∀ x ∈ s.drop (Bl l s),bJ x l = false:=by
 induction s with
 | nil=>intro x hx;simp at hx
 |
  cons y s ih =>
  rw [List.pairwise_cons] at h
  intro x hx
  unfold Bl at hx
  split at hx
  ·rw [List.drop_succ_cons] at hx
   exact ih h.2 x hx
  ·rename_i hy
   rw [List.drop_zero] at hx
   have hy : bJ y l = false:=by simpa using hy
   rcases List.mem_cons.1 hx with rfl | hx
   ·exact hy
   ·cases hxl : bJ x l
    ·rfl
    ·have:=GI (h.1 x hx) hxl
     rw [this] at hy;cases hy
theorem afS {A B : List Lk} {m : Lk} (h : (A ++ B).Pairwise fun k l=>bJ k l = true) (h1 : ∀ x ∈ A,bJ x m = true) (h2 : ∀ x ∈ B,bJ m x = true) : (A ++ m :: B).Pairwise fun k l=>bJ k l = true:=by
 rw [List.pairwise_append] at h ⊢
 refine ⟨h.1,List.pairwise_cons.2 ⟨h2,h.2.1⟩,fun x hx y hy=>?_⟩
 rcases List.mem_cons.1 hy with rfl | hy
 ·exact h1 x hx
 ·exact h.2.2 x hx y hy
theorem alN {s : List Lk} {l : Lk} {t : List Lk} {e : R} (h : KD s l = some (t,e)) (h1 : bg s = true) (h2 : ji l = true) : bg t = true:=by
 obtain ⟨hv,hp⟩:=vU.1 h1
 have hpl:=Me l s
 have hpre:=@Yv l s
 have hpost:=ac9 (l:=l) hp
 unfold KD at h
 dsimp only at h
 generalize Bl l s = i at *
 have hsp : s.take i ++ s.drop i = s:=List.take_append_drop i s
 split at h
 ·rename_i hc
  cases h
  refine vU.2 ⟨fun x hx=>?_,afS (by rw [hsp];exact hp) (fun x hx=>hpre hx) fun x hx=>?_⟩
  ·simp only [List.mem_append,List.mem_cons] at hx
   rcases hx with hx | rfl | hx
   ·exact hv x (List.mem_of_mem_take hx)
   ·exact h2
   ·exact hv x (List.mem_of_mem_drop hx)
  ·rcases hc with hc | hc
   ·rw [hc,List.drop_length] at hx;cases hx
   ·by_cases hi : i < s.length
    ·have hd : s.drop i = s.getD i default :: s.drop (i + 1):=by
      rw [List.drop_eq_getElem_cons hi,List.getD_eq_getElem?_getD,List.getElem?_eq_getElem hi];rfl
     rw [hd] at hx
     rcases List.mem_cons.1 hx with rfl | hx
     ·exact hc
     ·have hpd:=hp.drop (i:=i)
      rw [hd,List.pairwise_cons] at hpd
      exact GI hc (hpd.1 x hx)
    ·rw [List.drop_eq_nil_of_le (by omega)] at hx;cases hx
 ·rename_i hc
  split at h
  ·rename_i hg
   cases h
   have hi : i < s.length:=by
    rcases Nat.lt_or_ge i s.length with k | k
    ·exact k
    ·exact absurd (.inl (by omega)) hc
   have hd : s.drop i = s.getD i default :: s.drop (i + 1):=by
    rw [List.drop_eq_getElem_cons hi,List.getD_eq_getElem?_getD,List.getElem?_eq_getElem hi];rfl
   have hx0:=hpost (s.getD i default) (by rw [hd];simp)
   have hxl : bJ l (s.getD i default) = false:=by
    cases hq : bJ l (s.getD i default)
    ·rfl
    ·exact absurd (.inr hq) hc
   have hsm:=getD_mem (l:=s) hi
   generalize s.getD i default = x at *
   obtain ⟨ea,eb⟩:=aaC hx0 hxl
   have hP : mgP x l = true:=by unfold mgP;rw [hv x hsm,h2,decide_eq_true ea,decide_eq_true eb];rfl
   have hm : ji (mgL x l) = true:=by
    rw [Yr hP]
    unfold L9 at hg
    simp only [Bool.and_eq_true] at hg ⊢
    exact hg.1
   have hcg:=fun k=>VU (k:=k) (l:=mgL x l) (m:=x) rfl rfl
   have hp2 : (s.take i ++ x :: s.drop (i + 1)).Pairwise fun k l=>bJ k l = true:=by rw [← hd,hsp];exact hp
   rw [List.pairwise_append] at hp2
   refine vU.2 ⟨fun y hy=>?_,afS ?_ (fun y hy=>?_) fun y hy=>?_⟩
   ·simp only [List.mem_append,List.mem_cons] at hy
    rcases hy with hy | rfl | hy
    ·exact hv y (List.mem_of_mem_take hy)
    ·exact hm
    ·exact hv y (List.mem_of_mem_drop hy)
   ·rw [List.pairwise_append]
    exact ⟨hp2.1,(List.pairwise_cons.1 hp2.2.1).2,fun a ha b hb=>hp2.2.2 a ha b (List.mem_cons_of_mem _ hb)⟩
   ·rw [(hcg y).1];exact hp2.2.2 y hy x (by simp)
   ·rw [(hcg y).2];exact (List.pairwise_cons.1 hp2.2.1).1 y hy
  ·cases h
theorem alO {s : List Lk} {l : Lk} (h : OW s l = true) : bg (adV s l) = true ∧ bg s = true ∧ ji l = true:=by
 unfold OW at h
 simp only [Bool.and_eq_true] at h
 obtain ⟨⟨h1,h2⟩,h3⟩:=h
 refine ⟨?_,h1,h2⟩
 rw [(PE h1 h2).1]
 cases hr : KD s l with
 | none=>rw [hr] at h3;cases h3
 | some p=>exact alN (t:=p.1) (e:=p.2) hr h1 h2
def Ox (l : List Lk) : Nat → Option (List Lk × R)
 | 0=>some ([],fH 0)
 |
  k + 1=>match Ox l k with
  | none=>none
  | some p=>if OW p.1 (l.getD k default) = true then some (adV p.1 (l.getD k default),lQ p.2 (adE p.1 (l.getD k default))) else none
def VW (l : List Lk) : Option (List Lk × R):=match Ox l l.length with
 | none=>none
 | some p=>if p.2.ok = true then some p else none
def Ht (l : List Lk) : Bool:=(VW l).isSome
def VX (l : List Lk) : List Lk:=((VW l).map (·.1)).getD []
def Yw (l : List Lk) : R:=((VW l).map (·.2)).getD R0
theorem Yx {l : List Lk} {k : Nat} (h : Ox l k = none) : ∀ n,k ≤ n → Ox l n = none
 | 0,hn=>by rw [Nat.le_zero.1 hn] at h;exact h
 |
  n + 1,hn=>by
  rcases Nat.lt_or_ge k (n + 1) with hk | hk
  ·simp only [Ox,Yx h n (by omega)]
  ·rw [show n + 1 = k by omega];exact h
theorem Yy {r s : R} (h : r.ok = false) : (lQ r s).ok = false:=by
 rw [uN,ae7,uN.1 h,XM]
theorem abx {l : List Lk} {k : Nat} {p : List Lk × R} (h : Ox l k = some p) (hb : p.2.ok = false) : ∀ n,k ≤ n → ∀ q,Ox l n = some q → q.2.ok = false
 | 0,hn,q,hq=>by rw [Nat.le_zero.1 hn] at h;rw [h] at hq;cases hq;exact hb
 |
  n + 1,hn,q,hq=>by
  rcases Nat.lt_or_ge k (n + 1) with hk | hk
  ·simp only [Ox] at hq
   cases hf : Ox l n with
   | none=>rw [hf] at hq;cases hq
   |
    some r =>
    rw [hf] at hq
    dsimp only at hq
    split at hq
    ·cases hq
     exact Yy (abx h hb n (by omega) r hf)
    ·cases hq
  ·rw [show n + 1 = k by omega] at hq;rw [h] at hq;cases hq;exact hb
theorem VY {l : List Lk} : ∀ {k : Nat} {p : List Lk × R},Ox l k = some p → bg p.1 = true ∧ p.2.cn ∧ (∀ x ∈ p.1,x.w.cn ∧ x.dx.cn ∧ x.dy.cn) ∧ p.1.length ≤ 101
 | 0,p,h=>by cases h;exact ⟨by decide,Gt (by decide),by simp,by simp⟩
 |
  k + 1,p,h=>by
  simp only [Ox] at h
  cases hf : Ox l k with
  | none=>rw [hf] at h;cases h
  |
   some r =>
   rw [hf] at h
   dsimp only at h
   split at h
   ·rename_i hk
    cases h
    have:=aaB r.1 (l.getD k default)
    exact ⟨(alO hk).1,D5 _ _,this.1,this.2.2⟩
   ·cases h
theorem Dw {l : List Lk} (h : VW l = none) : VX l = [] ∧ Yw l = R0 ∧ Ht l = false:=by
 unfold VX Yw Ht;rw [h];exact ⟨rfl,rfl,rfl⟩
theorem Oy {l : List Lk} {k : Nat} (h : Ox l k = none) (hk : k ≤ l.length) : VW l = none:=by
 unfold VW;rw [Yx h l.length hk]
theorem aaD {l : List Lk} {k : Nat} {p : List Lk × R} (h : Ox l k = some p) (hb : p.2.ok = false) (hk : k ≤ l.length) : VW l = none:=by
 unfold VW
 cases hf : Ox l l.length with
 | none=>rfl
 | some q=>dsimp only;rw [if_neg (by rw [abx h hb _ hk q hf];simp)]
theorem aaE {l : List Lk} : (∀ x ∈ VX l,x.w.cn ∧ x.dx.cn ∧ x.dy.cn) ∧ (Yw l).cn ∧ (VX l).length ≤ 101 ∧ bg (VX l) = true:=by
 cases hg : VW l with
 |
  none =>
  obtain ⟨e1,e2,_⟩:=Dw hg
  rw [e1,e2];exact ⟨by simp,ae6,by simp,by decide⟩
 |
  some p =>
  have e1 : VX l = p.1:=by unfold VX;rw [hg];rfl
  have e2 : Yw l = p.2:=by unfold Yw;rw [hg];rfl
  rw [e1,e2]
  unfold VW at hg
  cases hf : Ox l l.length with
  | none=>rw [hf] at hg;cases hg
  |
   some q =>
   rw [hf] at hg
   dsimp only at hg
   split at hg
   ·cases hg
    obtain ⟨a,b,c,d⟩:=VY hf
    exact ⟨c,b,d,a⟩
   ·cases hg
theorem VZ {s : List Lk} (h : ∀ x ∈ s,x.w.cn ∧ x.dx.cn ∧ x.dy.cn) (hl : s.length ≤ 101) : vY Lk.sz s ≤ 20000:=by
 have:=VT (f:=Lk.sz) (k:=144) fun x hx=>afQ (h x hx)
 omega
theorem V3 {s : List Lk} (h : ∀ x ∈ s,x.w.cn ∧ x.dx.cn ∧ x.dy.cn) (hl : s.length ≤ 101) : BU Lk.wf s :=
 ⟨by omega,fun x hx=>⟨dI (h x hx).1,dI (h x hx).2.1,dI (h x hx).2.2⟩⟩
theorem V4 (σ : Store) (r : R) : resolve σ 11 (.agg r.cells) = some (.agg r.cells):=by
 show resolve σ (10 + 1) (.agg r.cells) = _
 rw [resolve,qo (n:=9) (fun v hv=>Xx [r] _ (by simp) v hv)];rfl
theorem V5 {T : Tb} (h : yO T) {l : List Lk} (hw : BU Lk.wf l:=by exact bZ) (hz : vY Lk.sz l ≤ 1048576:=by exact bZ) : PF T 179 [bf l] (.eu [bf (VX l),aU (Yw l),.bool (Ht l)]):=by
 have hl : l.length ≤ 1048576:=by have:=qw Lk.sz l;omega
 refine aK nR h.hT ?_
 simp only [rO,Lz]
 refine ev ?_
 refine ah (jS h.bQ (n:=0)) ?_
 refine ev ?_
 refine aO (fun _ _=>false) (α:=Nat × List Lk × R) (fun q=>⟨bF [bf l,.any,.any,.ptr 0 0 0,.any,bf q.2.1,.ptr 1 0 0,.any,.any,.any,.any,.any,.any,.any,bf l,iv (l.length : Nat),iv (q.1 : Nat)],[some ⟨3,[[.bool false,.ak,.ak]]⟩,some ⟨3,[q.2.2.cells]⟩],0,0,[],[]⟩) (fun q=>q.1 ≤ l.length ∧ Ox l q.1 = some (q.2.1,q.2.2)) (fun q=>l.length - q.1) rfl (0,[],fH 0) ?_ ?_ ?_
 ·exact ⟨by omega,rfl⟩
 ·(refine Qn [(0,_),(2,_)] (by simp) (by intro p hp;simp only [List.mem_cons,List.not_mem_nil,or_false] at hp;rcases hp with rfl | rfl <;> refine ⟨rfl,?_⟩ <;> first | exact nU _ | simp [dR,V.still]) rfl ?_) <;> (try (refine ev ?_;try with_reducible exact True.intro)) <;> (repeat' (first | exact True.intro | omega | exact fZ rfl (by simp) | refine ⟨?_,?_⟩ | exact of_eq_true (Ap _ _ _) | exact iQ rfl (by simp;done) | exact iQ rfl rfl | (refine kS rfl ?_ rfl;simp [aN];done) | (refine kS rfl ?_ rfl;simp [aN];omega) | (refine CP ?_ ?_;(focus ((refine ev ?_;try with_reducible exact True.intro);done));(intro q hq k s0 l0;simp;done))))
 ·rintro ⟨k,S,e⟩ ⟨hk,hf⟩
  dsimp only at hk hf
  obtain ⟨i1,i2,i3,i4⟩:=VY hf
  dsimp only at i1 i2 i3 i4
  by_cases hc : (k : Int) < (l.length : Nat)
  ·have hkl : k < l.length:=by omega
   have hxw:=afR hw hkl
   have hxz:=IJ (f:=Lk.sz) hz (getD_mem hkl)
   have hs : Ox l (k + 1) = if OW S (l.getD k default) = true then some (adV S (l.getD k default),lQ e (adE S (l.getD k default))) else none:=by simp only [Ox,hf]
   have hmx : (l.map Lk.cells).getD k [] = (l.getD k default).cells:=mg hkl
   have hbad : Ox l (k + 1) = none → VW l = none:=fun h=>Oy h (by omega)
   generalize l.getD k default = x at hs hxw hxz hmx
   have ca:=aaz h.RH (s:=S) (l:=x) (V3 i3 i4) hxw (by have:=VZ i3 i4;omega) hxz
   have hac:=aaB S x
   cases ho : OW S x
   ·rw [ho] at hs ca
    obtain ⟨e1,e2,e3⟩:=Dw (hbad hs)
    rw [e1,e2,e3]
    refine iP @hc @hmx ?_
    refine ah ca ?_
    refine ev ?_
    exact Jj
   ·rw [ho,if_pos rfl] at hs
    rw [ho] at ca
    generalize adV S x = S' at hs ca hac
    generalize adE S x = e' at hs ca hac
    refine iP @hc @hmx ?_
    refine ah ca ?_
    refine ev ?_
    refine ah (ru h.dJ (dI i2) (dI hac.2.1)) ?_
    refine ev ?_
    exact ⟨(k + 1,S',lQ e e'),by dsimp only;omega,⟨by dsimp only;omega,hs⟩,by exact afd⟩
  ·have hie : k = l.length:=by omega
   have hg : VW l = if e.ok = true then some (S,e) else none:=by unfold VW;rw [← hie,hf]
   have co:=jh h.aX (dI i2)
   cases hb : e.ok
   ·rw [hb] at co hg
    obtain ⟨e1,e2,e3⟩:=Dw hg
    rw [e1,e2,e3]
    refine ev1 @hc ?_
    refine ah co ?_
    refine ev ?_
    exact Jj
   ·rw [hb,if_pos rfl] at hg
    have e1 : VX l = S:=by unfold VX;rw [hg];rfl
    have e2 : Yw l = e:=by unfold Yw;rw [hg];rfl
    have e3 : Ht l = true:=by unfold Ht;rw [hg];rfl
    rw [e1,e2,e3]
    rw [hb] at co
    refine ev1 @hc ?_
    refine ah co ?_
    refine ev ?_
    refine ⟨by unfold iW;decide +kernel,?_⟩
    rw [V4]
    exact aC _
def Dx (l : List Lk) (a b : Int) : Lk:=if bg l = true then (Tz l a b).getD Lk0 else Lk0
def afT (l : List Lk) (a b : Int) : Bool:=bg l && (Tz l a b).isSome
theorem aiL {l : List Lk} {a b : Int} (h : BU Lk.wf l) : (Dx l a b).wf:=by
 have h0 : Lk0.wf:=by simp [Lk.wf,R.wf]
 unfold Dx
 split
 ·cases hf : Tz l a b with
  | none=>exact h0
  | some x=>exact h.2 x (Yq hf)
 ·exact h0
theorem ada {T : Tb} (h : EN T) {l : List Lk} {a b : Int} (hw : BU Lk.wf l:=by exact bZ) (hz : vY Lk.sz l ≤ 1048576:=by exact bZ) : PF T 225 [bf l,iv a,iv b] (.eu [KO (Dx l a b),.bool (afT l a b)]):=by
 have hl : l.length ≤ 1048576:=by have:=qw Lk.sz l;omega
 have ci:=nM h.cZ hw
 unfold Dx afT
 cases hb : bg l
 ·rw [hb] at ci
  refine aK nR h.hT ?_
  simp only [uo,Lz]
  refine ev ?_
  refine ah ci ?_
  refine ev ?_
  exact Yp NS
 rw [hb] at ci
 simp only [Bool.true_and,if_true]
 refine aK nR h.hT ?_
 simp only [uo,Lz]
 refine ev ?_
 refine ah ci ?_
 refine ev ?_
 refine aO (fun _ _=>false) (α:=Nat) (fun i=>⟨bF [.any,iv a,iv b,.any,.any,.any,.ptr 0 0 0,.any,.any,.any,.any,.any,.any,.any,bf l,iv (l.length : Nat),iv (i : Nat)],[some ⟨11,[[iv 0,iv 0,.bool false,.ak,.ak,.bool false,.ak,.ak,.bool false,.ak,.ak]]⟩],0,0,[],[]⟩) (fun i=>i ≤ l.length ∧ ∀ j,j < i → lkP a b (l.getD j default) = false) (fun i=>l.length - i) rfl 0 ?_ ?_ ?_
 ·exact ⟨by omega,fun j hj=>absurd hj (by omega)⟩
 ·(refine aH ?_;exact wz)
 ·rintro i ⟨hi,hj⟩
  by_cases hc : (i : Int) < (l.length : Nat)
  ·have hil : i < l.length:=by omega
   have hys:=IJ (f:=Lk.sz) hz (getD_mem hil)
   obtain ⟨y,hy⟩ : ∃ y,l.getD i default = y:=⟨_,rfl⟩
   rw [hy] at hys
   have cc:=Cc h.iw hys
   refine vC @hc @mg @hy ?_
   repeat' ((refine afm (fun hb=>?_) fun hb=>?_) <;> (try (refine ev1 @hb ?_;try with_reducible exact True.intro)))
   all_goals simp only [eq_iff_iff,iff_true,iff_false] at *
   all_goals first
    | (exfalso;omega)
    | (
      have
        hn : ∀ j,j < i + 1 → lkP a b (l.getD j default) = false:=fun j hj'=>by
        by_cases e : j = i
        ·rw [e,hy];simp only [lkP,Bool.or_eq_false_iff,Bool.and_eq_false_iff,decide_eq_false_iff_not];omega
        ·exact hj j (by omega)
      exact ⟨i + 1,by omega,⟨by omega,hn⟩,by exact Vl⟩)
    | (
      have hm : lkP a b (l.getD i default) = true:=by rw [hy];simp only [lkP,Bool.or_eq_true,Bool.and_eq_true,decide_eq_true_eq];omega
      rw [alJ hil hj hm,hy]
      simp only [Option.getD_some,Option.isSome_some]
      refine ah cc ?_
      refine ev ?_
      exact aC _)
  ·have : i = l.length:=by omega
   subst this
   rw [alK hj]
   refine ev1 @hc ?_
   simp only [Option.getD_none,Option.isSome_none]
   exact Yp NS
def UF (v : Int) (l : Lk) : Option Pa:=if l.a = v then some ⟨l.b,l.w,negR l.dx,negR l.dy⟩ else if l.b = v then some ⟨l.a,l.w,l.dx,l.dy⟩ else none
def ER (S : List Lk) (v : Int) (k : Nat) : List Pa:=(S.take k).filterMap (UF v)
def pK (S : List Lk) (v : Int) : List Pa:=ER S v S.length
theorem alP (S : List Lk) (v : Int) : ER S v 0 = []:=by simp [ER]
theorem alQ (S : List Lk) (v : Int) {i : Nat} (h : i < S.length) : ER S v (i + 1) = ER S v i ++ (match UF v (S.getD i default) with | some n=>[n] | none=>[]):=by
 unfold ER;rw [take_snoc h,List.filterMap_append,List.filterMap_cons]
 cases UF v (S.getD i default) <;> rfl
theorem Yz (S : List Lk) (v : Int) (k : Nat) : (ER S v k).length ≤ k:=by
 unfold ER
 exact Nat.le_trans (List.length_filterMap_le _ _) (by simp;omega)
def qM (A : List Pa) : R:=DL A A.length
def rQ (t : R) (a : Pa) : Pa:=⟨a.node,vF a.share t,a.dx,a.dy⟩
def fP (v : Int) (A : List Pa) : Cd:=⟨v,qM A,A.map (rQ (qM A))⟩
def IU (t : R) (a b : Pa) : Lk:=⟨a.node,b.node,vF (mulR a.share b.share) t,FB a.dx b.dx,FB a.dy b.dy⟩
def mW (A : List Pa) (i j : Nat) : List Lk:=((A.drop (i + 1)).take j).map (IU (qM A) (A.getD i default))
def iF (A : List Pa) : Nat → List Lk
 | 0=>[]
 | i + 1=>iF A i ++ mW A i (A.length - (i + 1))
def FU (A : List Pa) : List Lk:=iF A A.length
theorem RJ (A : List Pa) : (qM A).cn:=D8 _ _
theorem aby (t : R) (a b : Pa) : (IU t a b).w.cn ∧ (IU t a b).dx.cn ∧ (IU t a b).dy.cn:=⟨D6 _ _,Ph _ _,Ph _ _⟩
theorem PK (A : List Pa) (i : Nat) : mW A i 0 = []:=by simp [mW]
theorem V6 (A : List Pa) {i j : Nat} (h : i + 1 + j < A.length) : mW A i (j + 1) = mW A i j ++ [IU (qM A) (A.getD i default) (A.getD (i + 1 + j) default)]:=by
 unfold mW
 rw [List.take_add_one,List.map_append]
 congr 1
 rw [List.getElem?_drop,List.getElem?_eq_getElem (by omega),List.getD_eq_getElem?_getD (i:=i + 1 + j),List.getElem?_eq_getElem (by omega)]
 rfl
theorem NV (A : List Pa) (i j : Nat) : (mW A i j).length ≤ j:=by unfold mW;simp;omega
theorem Dy (A : List Pa) : ∀ i,(iF A i).length ≤ i * A.length
 | 0=>Nat.zero_le _
 |
  i + 1=>by
  have h1:=Dy A i
  have h2:=NV A i (A.length - (i + 1))
  show (iF A i ++ mW A i (A.length - (i + 1))).length ≤ (i + 1) * A.length
  rw [List.length_append,Nat.succ_mul];omega
theorem UG {A : List Pa} {i j : Nat} {x : Lk} (h : x ∈ mW A i j) : ∃ k,i < k ∧ k < A.length ∧ x = IU (qM A) (A.getD i default) (A.getD k default):=by
 unfold mW at h
 obtain ⟨b,hb,rfl⟩:=List.mem_map.1 h
 have hb:=List.mem_of_mem_take hb
 obtain ⟨q,hq⟩:=List.mem_iff_getElem?.1 hb
 rw [List.getElem?_drop] at hq
 have hl:=(List.getElem?_eq_some_iff.1 hq).1
 exact ⟨i + 1 + q,by omega,hl,by rw [List.getD_eq_getElem?_getD (i:=i + 1 + q),hq];rfl⟩
theorem KE {A : List Pa} {x : Lk} : ∀ {i : Nat},x ∈ iF A i → ∃ p k,p < i ∧ p < k ∧ k < A.length ∧ x = IU (qM A) (A.getD p default) (A.getD k default)
 | 0,h=>by cases h
 |
  i + 1,h=>by
  rcases List.mem_append.1 h with h | h
  ·obtain ⟨p,k,h1,h2⟩:=KE h
   exact ⟨p,k,by omega,h2⟩
  ·obtain ⟨k,h1,h2,h3⟩:=UG h
   exact ⟨i,k,by omega,h1,h2,h3⟩
theorem abz {A : List Pa} : ∀ x ∈ FU A,x.w.cn ∧ x.dx.cn ∧ x.dy.cn:=fun x hx=>by
 obtain ⟨p,k,_,_,_,rfl⟩:=KE hx
 exact aby _ _ _
def afU (A : List Pa) : Prop:=∀ i j,i < j → j < A.length → (A.getD i default).node < (A.getD j default).node
theorem abA {A : List Pa} (h : ∀ i,i + 1 < A.length → (A.getD i default).node < (A.getD (i + 1) default).node) : afU A
 | i,0,hij,_=>absurd hij (Nat.not_lt_zero _)
 |
  i,j + 1,hij,hj=>by
  by_cases e : i = j
  ·subst e;exact h i hj
  ·exact Int.lt_trans (abA h i j (by omega) (by omega)) (h j hj)
theorem YA {A : List Pa} (h : afU A) {i : Nat} : ∀ j,i + 1 + j ≤ A.length → (mW A i j).Pairwise fun k l=>bJ k l = true
 | 0,_=>by rw [PK];exact .nil
 |
  j + 1,hj=>by
  rw [V6 A (by omega),List.pairwise_append]
  refine ⟨YA h j (by omega),by simp,fun x hx y hy=>?_⟩
  rw [List.mem_singleton.1 hy]
  unfold mW at hx
  obtain ⟨b,hb,rfl⟩:=List.mem_map.1 hx
  obtain ⟨q,hq⟩:=List.mem_iff_getElem?.1 hb
  rw [List.getElem?_take] at hq
  split at hq
  ·rw [List.getElem?_drop] at hq
   have e : b = A.getD (i + 1 + q) default:=by rw [List.getD_eq_getElem?_getD,hq];rfl
   rw [yN]
   refine .inr ⟨rfl,?_⟩
   rw [e]
   exact h _ _ (by omega) (by omega)
  ·cases hq
theorem UH {A : List Pa} (h : afU A) : ∀ i,i ≤ A.length → (iF A i).Pairwise fun k l=>bJ k l = true
 | 0,_=>.nil
 |
  i + 1,hi=>by
  show (iF A i ++ mW A i (A.length - (i + 1))).Pairwise _
  rw [List.pairwise_append]
  refine ⟨UH h i (by omega),YA h _ (by omega),fun x hx y hy=>?_⟩
  obtain ⟨p,k,h1,_,_,rfl⟩:=KE hx
  obtain ⟨q,_,_,rfl⟩:=UG hy
  rw [yN]
  exact .inl (h _ _ h1 (by omega))
theorem PL {v : Int} {A : List Pa} {i : Nat} (h : i < A.length) : (fP v A).ps.getD i default = rQ (qM A) (A.getD i default):=by
 show (A.map _).getD i default = _
 rw [List.getD_eq_getElem?_getD,List.getElem?_map,List.getElem?_eq_getElem h,List.getD_eq_getElem?_getD,List.getElem?_eq_getElem h];rfl
theorem afV {v : Int} {A : List Pa} (h : kV (fP v A) = true) : afU A:=by
 have hl : (fP v A).ps.length = A.length:=List.length_map ..
 unfold kV at h
 simp only [Bool.and_eq_true,decide_eq_true_eq] at h
 refine abA fun i hi=>?_
 have:=h.1.1.1.1 (i + 1) (by rw [hl];exact hi)
 unfold xY at this
 rw [PL hi,Nat.add_sub_cancel,PL (by omega)] at this
 simp only [Bool.and_eq_true,Bool.or_eq_true,decide_eq_true_eq] at this
 rcases this.1.1.1.2 with e | e
 ·omega
 ·exact e
theorem alR {v : Int} {A : List Pa} (h : kV (fP v A) = true) : bg (FU A) = (FU A).all ji:=by
 cases ha : (FU A).all ji
 ·cases hb : bg (FU A)
  ·rfl
  ·rw [List.all_eq_true.2 (vU.1 hb).1] at ha;cases ha
 ·exact vU.2 ⟨List.all_eq_true.1 ha,UH (afV h) _ (Nat.le_refl _)⟩
def KQ (S : List Lk) (v : Int) : Bool:=bg S && inB v 1 9 && kV (fP v (pK S v)) && (FU (pK S v)).all ji
def WH (S : List Lk) (v : Int) : Cd:=if KQ S v = true then fP v (pK S v) else ⟨0,R0,[]⟩
def UJ (S : List Lk) (v : Int) : List Lk:=if KQ S v = true then FU (pK S v) else []
theorem TF {S : List Lk} {v : Int} (h : KQ S v = false) : WH S v = ⟨0,R0,[]⟩ ∧ UJ S v = []:=by
 unfold WH UJ;rw [h];exact ⟨rfl,rfl⟩
theorem afW {S : List Lk} {v : Int} (h : KQ S v = true) : WH S v = fP v (pK S v) ∧ UJ S v = FU (pK S v):=by
 unfold WH UJ;rw [h];exact ⟨rfl,rfl⟩
theorem aaF {S : List Lk} (h : bg S = true) {v : Int} {a : Pa} {k : Nat} (ha : a ∈ ER S v k) : a.share.ok = true ∧ a.dx.cn ∧ a.dy.cn ∧ 0 ≤ a.node ∧ a.node ≤ 9:=by
 unfold ER at ha
 obtain ⟨l,hl,e⟩:=List.mem_filterMap.1 ha
 have hk:=rM h (List.mem_of_mem_take hl)
 have h1:=LU hk
 have h2:=nO hk
 unfold UF at e
 split at e
 ·cases e;exact ⟨h1.1,Vt _,Vt _,by dsimp only;omega,by dsimp only;omega⟩
 ·split at e
  ·cases e;exact ⟨h1.1,yg h1.2.1,yg h1.2.2.1,by dsimp only;omega,by dsimp only;omega⟩
  ·cases e
def MB (S : List Lk) (v n : Int) : Pa:=if (Dx S n v).a = v then ⟨n,(Dx S n v).w,negR (Dx S n v).dx,negR (Dx S n v).dy⟩ else ⟨n,(Dx S n v).w,(Dx S n v).dx,(Dx S n v).dy⟩
theorem aiM {S : List Lk} (h : bg S = true) {x y : Lk} (hx : x ∈ S) (hy : y ∈ S) (ha : x.a = y.a) (hb : x.b = y.b) : x = y:=by
 have hp:=(vU.1 h).2
 rw [List.pairwise_iff_getElem] at hp
 obtain ⟨i,hi⟩:=List.mem_iff_getElem?.1 hx
 obtain ⟨j,hj⟩:=List.mem_iff_getElem?.1 hy
 obtain ⟨hil,hie⟩:=List.getElem?_eq_some_iff.1 hi
 obtain ⟨hjl,hje⟩:=List.getElem?_eq_some_iff.1 hj
 rcases Nat.lt_trichotomy i j with k | k | k
 ·have:=hp i j hil hjl k
  rw [hie,hje,yN] at this;omega
 ·subst k;rw [← hie,← hje]
 ·have:=hp j i hjl hil k
  rw [hie,hje,yN] at this;omega
theorem abB {S : List Lk} (h : bg S = true) {x : Lk} (hx : x ∈ S) {a b : Int} (hp : lkP a b x = true) : Tz S a b = some x:=by
 cases hf : Tz S a b with
 |
  none =>
  have:=List.find?_eq_none.1 hf x hx
  exact absurd hp this
 |
  some y =>
  have hy:=Yq hf
  have hq : lkP a b y = true:=List.find?_some hf
  have n1:=nO (rM h hx)
  have n2:=nO (rM h hy)
  unfold lkP at hp hq
  simp only [Bool.or_eq_true,Bool.and_eq_true,decide_eq_true_eq] at hp hq
  rw [aiM h hy hx (by omega) (by omega)]
theorem YB {α β : Type} {f g : α → Option β} : ∀ {l : List α},(∀ x ∈ l,f x = g x) → l.filterMap f = l.filterMap g
 | [],_=>rfl
 | x :: l,h=>by rw [List.filterMap_cons,List.filterMap_cons,h x (by simp),YB fun y hy=>h y (by simp [hy])]
theorem aiN {S : List Lk} (h : bg S = true) (v : Int) : ((nbI S v S.length).map (MB S v)) = pK S v:=by
 unfold nbI pK ER
 rw [List.take_length,List.map_filterMap]
 refine YB fun l hl=>?_
 have n1:=nO (rM h hl)
 unfold aan UF
 by_cases e1 : l.a = v
 ·have hf : Dx S l.b v = l:=by
   unfold Dx
   rw [if_pos h,abB h hl (by unfold lkP;simp only [Bool.or_eq_true,Bool.and_eq_true,decide_eq_true_eq];exact .inr ⟨e1,trivial⟩)];rfl
  rw [if_pos e1,if_pos e1]
  show some (MB S v l.b) = _
  unfold MB
  rw [hf,if_pos e1]
 ·rw [if_neg e1,if_neg e1]
  by_cases e2 : l.b = v
  ·have hf : Dx S l.a v = l:=by
    unfold Dx
    rw [if_pos h,abB h hl (by unfold lkP;simp only [Bool.or_eq_true,Bool.and_eq_true,decide_eq_true_eq];exact .inl ⟨trivial,e2⟩)];rfl
   rw [if_pos e2,if_pos e2]
   show some (MB S v l.a) = _
   unfold MB
   rw [hf,if_neg e1]
  ·rw [if_neg e2,if_neg e2];rfl
section
variable {s s1 σ2 : Store} {a b ta tb rs trs : List V} {os os2 : List Nat} {L : List (Nat × Obj)}
theorem Ep.alS (E : Ep s (a ++ b) (ta ++ tb) os L) (hla : a.length = ta.length) (h1 : ∀ o,o < s.length → aj s1 o = aj s o) (hl : s.length ≤ s1.length) (ho : dX σ2 rs trs os2) (hn : os2.Nodup) (hf : ∀ o ∈ os2,s1.length ≤ o)
  (old : ∀ o,o < s1.length → aj σ2 o = aj s1 o) : ∃ os',Ep σ2 (rs ++ b) (trs ++ tb) os' L ∧ ∀ o ∈ os',o ∈ os ∨ s1.length ≤ o:=by
 obtain ⟨a1,a2,oa,ob,e,rfl,k1,k2⟩:=gB E.c.ow
 obtain ⟨rfl,rfl⟩:=List.append_inj e (by rw [hla];exact k1.len.symm)
 have hlt:=fun o (h : o ∈ oa ++ ob)=>E.c.lt o h
 have nd:=List.nodup_append.1 E.c.nd
 refine ⟨os2 ++ ob,⟨⟨dG ho (k2.frame fun o h=>?_),?_⟩,fun q hq=>⟨(old _ (Nat.lt_of_lt_of_le (E.lt q hq) hl)).trans ((h1 _ (E.lt q hq)).trans (E.l q hq).1),fun hm=>?_⟩⟩,fun o h=>?_⟩
 ·have:=hlt o (List.mem_append_right _ h)
  rw [old o (by omega),h1 o this]
 ·rw [List.nodup_append]
  refine ⟨hn,nd.2.1,fun x hx y hy e=>?_⟩
  have:=hf x hx
  have:=hlt y (List.mem_append_right _ hy)
  omega
 ·rcases List.mem_append.1 hm with hm | hm
  ·have:=hf _ hm;have:=E.lt q hq;omega
  ·exact (E.l q hq).2 (List.mem_append_right _ hm)
 ·rcases List.mem_append.1 h with h | h
  ·exact .inr (hf o h)
  ·exact .inl (List.mem_append_right _ h)
end
theorem Ep.sub {s : Store} {cs ts : List V} {os : List Nat} {L L' : List (Nat × Obj)} (E : Ep s cs ts os L) (h : ∀ q ∈ L',q ∈ L) : Ep s cs ts os L':=⟨E.c,fun q hq=>E.l q (h q hq)⟩
end Go.Ml
end
section
namespace Go.Ml
section
variable {s s1 S σ2 : Store} {a b c ta tb tc rs trs cs ts : List V} {os os2 : List Nat} {L L' : List (Nat × Obj)}
theorem Ep.to (E : Ep s cs ts os L) (ho : ∀ o ∈ os,aj S o = aj s o) (hL : ∀ q ∈ L',(q ∈ L ∧ aj S q.1 = aj s q.1) ∨ (aj S q.1 = some q.2 ∧ q.1 ∉ os)) : Ep S cs ts os L':=by
 refine ⟨E.c.frame ho,fun q hq=>?_⟩
 rcases hL q hq with ⟨h1,h2⟩ | h
 ·exact ⟨h2.trans (E.l q h1).1,(E.l q h1).2⟩
 ·exact h
theorem Ep.V7 (E : Ep s cs ts os L) : ∀ o ∈ os,o < s.length:=fun o h=>E.c.lt o h
theorem Ep.alT (E : Ep s (a ++ (b ++ c)) (ta ++ (tb ++ tc)) os L) (hla : a.length = ta.length) (hlb : b.length = tb.length) (h1 : ∀ o,o < s.length → aj s1 o = aj s o) (hl : s.length ≤ s1.length) (ho : dX σ2 rs trs os2) (hn : os2.Nodup) (hf : ∀ o ∈ os2,s1.length ≤ o)
  (old : ∀ o,o < s1.length → aj σ2 o = aj s1 o) : ∃ os',Ep σ2 (a ++ (rs ++ c)) (ta ++ (trs ++ tc)) os' L ∧ ∀ o ∈ os',o ∈ os ∨ s1.length ≤ o:=by
 obtain ⟨a1,a2,oa,obc,e,rfl,k1,k2⟩:=gB E.c.ow
 obtain ⟨rfl,rfl⟩:=List.append_inj e (by rw [hla];exact k1.len.symm)
 obtain ⟨b1,b2,ob,oc,e,rfl,k3,k4⟩:=gB k2
 obtain ⟨rfl,rfl⟩:=List.append_inj e (by rw [hlb];exact k3.len.symm)
 have hlt:=fun o (h : o ∈ oa ++ (ob ++ oc))=>E.c.lt o h
 have nd:=List.nodup_append.1 E.c.nd
 have nd2:=List.nodup_append.1 nd.2.1
 have fr : ∀ o ∈ oa ++ (ob ++ oc),aj σ2 o = aj s o:=fun o h=>by
  have:=hlt o h
  rw [old o (by omega),h1 o this]
 refine ⟨oa ++ (os2 ++ oc),⟨⟨dG (k1.frame fun o h=>fr o (by simp [h])) (dG ho (k4.frame fun o h=>fr o (by simp [h]))),?_⟩,fun q hq=>⟨(old _ (Nat.lt_of_lt_of_le (E.lt q hq) hl)).trans ((h1 _ (E.lt q hq)).trans (E.l q hq).1),fun hm=>?_⟩⟩,fun o h=>?_⟩
 ·rw [List.nodup_append,List.nodup_append]
  refine ⟨nd.1,⟨hn,nd2.2.1,fun x hx y hy e=>?_⟩,fun x hx y hy e=>?_⟩
  ·have:=hf x hx
   have:=hlt y (by simp [hy])
   omega
  ·rcases List.mem_append.1 hy with hy | hy
   ·have:=hf y hy
    have:=hlt x (by simp [hx])
    omega
   ·exact nd.2.2 x hx y (List.mem_append_right _ hy) e
 ·simp only [List.mem_append] at hm
  rcases hm with hm | hm | hm
  ·exact (E.l q hq).2 (by simp [hm])
  ·have:=hf _ hm;have:=E.lt q hq;omega
  ·exact (E.l q hq).2 (by simp [hm])
 ·simp only [List.mem_append] at h
  rcases h with h | h | h
  ·exact .inl (by simp [h])
  ·exact .inr (hf o h)
  ·exact .inl (by simp [h])
theorem Ep.upd {p : Nat} {ob ob0 : Obj} (E : Ep s (a ++ (b ++ c)) (ta ++ (tb ++ tc)) os L) (hp : (p,ob0) ∈ L) (hla : a.length = ta.length) (hlb : b.length = tb.length) (h1 : ∀ o,o < s.length → aj s1 o = aj s o) (hl : s.length ≤ s1.length) (ho : dX σ2 rs trs os2) (hn : os2.Nodup) (hf : ∀ o ∈ os2,s1.length ≤ o)
  (old : ∀ o,o < s1.length → aj σ2 o = aj s1 o) (hL : ∀ q ∈ L',(q.1 ≠ p ∧ q ∈ L) ∨ q = (p,ob)) (hs : s1.length ≤ σ2.length) : ∃ os',Ep (σ2.set p (some ob)) (a ++ (rs ++ c)) (ta ++ (trs ++ tc)) os' L':=by
 obtain ⟨os',E2,_⟩:=E.alT hla hlb h1 hl ho hn hf old
 have hpl:=E.lt _ hp
 exact ⟨os',E2.FI (E2.l _ hp).2 (by dsimp only at hpl;omega) hL⟩
theorem Ep.cut (E : Ep s (a ++ (b ++ c)) (ta ++ (tb ++ tc)) os L) (hla : a.length = ta.length) (hlb : b.length = tb.length) : ∃ os',Ep s (a ++ c) (ta ++ tc) os' L ∧ ∀ o ∈ os',o ∈ os:=by
 obtain ⟨a1,a2,oa,obc,e,rfl,k1,k2⟩:=gB E.c.ow
 obtain ⟨rfl,rfl⟩:=List.append_inj e (by rw [hla];exact k1.len.symm)
 obtain ⟨b1,b2,ob,oc,e,rfl,k3,k4⟩:=gB k2
 obtain ⟨rfl,rfl⟩:=List.append_inj e (by rw [hlb];exact k3.len.symm)
 have nd:=List.nodup_append.1 E.c.nd
 have nd2:=List.nodup_append.1 nd.2.1
 refine ⟨oa ++ oc,⟨⟨dG k1 k4,?_⟩,fun q hq=>⟨(E.l q hq).1,fun hm=>(E.l q hq).2 ?_⟩⟩,fun o h=>?_⟩
 ·rw [List.nodup_append]
  exact ⟨nd.1,nd2.2.1,fun x hx y hy e=>nd.2.2 x hx y (List.mem_append_right _ hy) e⟩
 ·rcases List.mem_append.1 hm with h | h <;> simp [h]
 ·rcases List.mem_append.1 h with h | h <;> simp [h]
theorem Ep.swap (E : Ep s (a ++ (b ++ c)) (ta ++ (tb ++ tc)) os L) (hla : a.length = ta.length) (hlb : b.length = tb.length) : ∃ os',Ep s (b ++ (a ++ c)) (tb ++ (ta ++ tc)) os' L ∧ ∀ o,o ∈ os' ↔ o ∈ os:=by
 obtain ⟨a1,a2,oa,obc,e,rfl,k1,k2⟩:=gB E.c.ow
 obtain ⟨rfl,rfl⟩:=List.append_inj e (by rw [hla];exact k1.len.symm)
 obtain ⟨b1,b2,ob,oc,e,rfl,k3,k4⟩:=gB k2
 obtain ⟨rfl,rfl⟩:=List.append_inj e (by rw [hlb];exact k3.len.symm)
 have nd:=List.nodup_append.1 E.c.nd
 have nd2:=List.nodup_append.1 nd.2.1
 have hm : ∀ o,o ∈ ob ++ (oa ++ oc) ↔ o ∈ oa ++ (ob ++ oc):=fun o=>by simp only [List.mem_append];constructor <;> rintro (h | h | h) <;> simp [h]
 refine ⟨ob ++ (oa ++ oc),⟨⟨dG k3 (dG k1 k4),?_⟩,fun q hq=>⟨(E.l q hq).1,fun h=>(E.l q hq).2 ((hm _).1 h)⟩⟩,hm⟩
 rw [List.nodup_append,List.nodup_append]
 refine ⟨nd2.1,⟨nd.1,nd2.2.1,fun x hx y hy e=>nd.2.2 x hx y (List.mem_append_right _ hy) e⟩,fun x hx y hy e=>?_⟩
 rcases List.mem_append.1 hy with hy | hy
 ·exact nd.2.2 y hy x (List.mem_append_left _ hx) e.symm
 ·exact nd2.2.2 x hx y hy e
end
theorem YC {σ : Store} {k : Nat} : ∀ {A T : List (List V)} {os : List Nat},(∀ r ∈ A,r.length = k) → (∀ r ∈ T,r.length = k) → A.length = T.length → dX σ A.flatten T.flatten os → kG σ A T os
 |
  [],[],os,_,_,_,h=>by
  simp only [List.flatten_nil,dX] at h
  simp only [kG];exact h
 | [],t :: T,_,_,_,h,_=>by simp at h
 | a :: A,[],_,_,_,h,_=>by simp at h
 |
  a :: A,t :: T,os,ha,ht,hl,h=>by
  simp only [List.flatten_cons] at h
  obtain ⟨v1,v2,o1,o2,e,rfl,h1,h2⟩:=gB h
  have hlen:=h1.len
  have e1:=ha a (by simp)
  have e2:=ht t (by simp)
  obtain ⟨rfl,rfl⟩:=List.append_inj e (by omega)
  simp only [kG]
  exact ⟨a,A,o1,o2,rfl,rfl,h1,YC (fun r hr=>ha r (by simp [hr])) (fun r hr=>ht r (by simp [hr])) (by simpa using hl) h2⟩
section
variable {s : Store} {A T : List (List V)} {a c ta tc : List V} {os : List Nat} {L : List (Nat × Obj)} {n p k : Nat}
theorem Ep.close (E : Ep s (A.flatten ++ c) (T.flatten ++ tc) os L) (hp : (p,⟨n,A⟩) ∈ L) (ha : ∀ r ∈ A,r.length = k) (ht : ∀ r ∈ T,r.length = k) (hl : A.length = T.length) :
  ∃ os',Ep s (.bC p 0 A.length :: c) (.sl n T :: tc) os' (L.filter fun q=>q.1 != p):=by
 have hfl : A.flatten.length = T.flatten.length:=by
  have e1 : ∀ (X : List (List V)),(∀ r ∈ X,r.length = k) → X.flatten.length = X.length * k:=fun X=>by
   induction X with
   | nil=>intro _;simp
   |
    cons x X ih =>
    intro h
    rw [List.flatten_cons,List.length_append,ih fun r hr=>h r (by simp [hr]),h x (by simp),List.length_cons,Nat.succ_mul]
    omega
  rw [e1 A ha,e1 T ht,hl]
 obtain ⟨v1,v2,o1,o2,e,rfl,h1,h2⟩:=gB E.c.ow
 obtain ⟨rfl,rfl⟩:=List.append_inj e (by rw [hfl];exact h1.len.symm)
 have hR:=YC ha ht hl h1
 have hpo:=E.l _ hp
 have nd:=List.nodup_append.1 E.c.nd
 have hv : bD s (.bC p 0 A.length) (.sl n T) (p :: o1):=by
  simp only [bD]
  exact .inr ⟨p,A,o1,by rw [hl],hpo.1,rfl,hR⟩
 refine ⟨(p :: o1) ++ o2,⟨⟨jD hv h2,?_⟩,fun q hq=>?_⟩⟩
 ·simp only [List.cons_append,List.nodup_cons]
  exact ⟨hpo.2,E.c.nd⟩
 ·obtain ⟨hq1,hq2⟩:=List.mem_filter.1 hq
  have hne : q.1 ≠ p:=by simpa using hq2
  refine ⟨(E.l q hq1).1,fun hm=>?_⟩
  simp only [List.cons_append,List.mem_cons] at hm
  rcases hm with hm | hm
  ·exact hne hm
  ·exact (E.l q hq1).2 hm
end
end Go.Ml
end
section
namespace Go.Ml
def Rd2 (s : Store) (v w : V) (X Y : List R) : Prop :=
 (X = [] ∧ Y = [] ∧ v = .ak ∧ w = .ak) ∨ ∃ p q,p ≠ q ∧ v = .bC p 0 X.length ∧ w = .bC q 0 Y.length ∧ aj s p = some ⟨3,X.map R.cells⟩ ∧ aj s q = some ⟨3,Y.map R.cells⟩
theorem Rd2.fr {s s2 : Store} {v w : V} {X Y : List R} (h : Rd2 s v w X Y) (hf : ∀ p,p < s.length → aj s2 p = aj s p) : Rd2 s2 v w X Y:=by
 rcases h with h | ⟨p,q,h1,h2,h3,h4,h5⟩
 ·exact .inl h
 ·exact .inr ⟨p,q,h1,h2,h3,(hf p (aJ h4)).trans h4,(hf q (aJ h5)).trans h5⟩
def LAt (n : Nat) (v : V) (A : List (List V)) (M : List (Nat × Obj)) : Prop:=(A = [] ∧ v = .ak ∧ M = []) ∨ ∃ p,v = .bC p 0 A.length ∧ M = [(p,⟨n,A⟩)]
def afX (x : Nat × List R) : List V:=[.bC x.1 0 x.2.length]
def aaG (s : Store) (v : V) (Z : List (Nat × List R)) : Prop:=((Z = [] ∧ v = .ak) ∨ ∃ q,v = .bC q 0 Z.length ∧ aj s q = some ⟨1,Z.map afX⟩) ∧ ∀ x ∈ Z,aj s x.1 = some ⟨3,x.2.map R.cells⟩
theorem aaG.fr {s s2 : Store} {v : V} {Z : List (Nat × List R)} (h : aaG s v Z) (hf : ∀ p,p < s.length → aj s2 p = aj s p) : aaG s2 v Z :=
 ⟨h.1.imp id fun ⟨q,e,hq⟩=>⟨q,e,(hf q (aJ hq)).trans hq⟩,fun x hx=>(hf _ (aJ (h.2 x hx))).trans (h.2 x hx)⟩
theorem aaG.map {s : Store} {m : Nat} : ∀ {Z : List (Nat × List R)},(∀ x ∈ Z,aj s x.1 = some ⟨3,x.2.map R.cells⟩) → ((Z.map afX).mapM fun r=>r.mapM (resolve s (m + 2))) = some ((Z.map (·.2)).map fun r=>[CS r])
 | [],_=>rfl
 |
  x :: Z,h=>by
  have hx:=h x (by simp)
  have e : resolve s (m + 2) (.bC x.1 0 x.2.length) = some (CS x.2):=by
   have h2:=Xx x.2
   unfold resolve
   simp only [hx]
   rw [if_pos (by simp),List.drop_zero,List.take_of_length_le (by simp),qp (n:=m) h2]
   rfl
  have ih:=aaG.map (m:=m) (Z:=Z) fun y hy=>h y (by simp [hy])
  rw [List.map_cons,List.mapM_cons,ih]
  have : (afX x).mapM (resolve s (m + 2)) = some [CS x.2]:=by
   unfold afX
   rw [List.mapM_cons,e]
   rfl
  rw [this]
  rfl
theorem aaG.res {s : Store} {q : Nat} {Z : List (Nat × List R)} (h : ∀ x ∈ Z,aj s x.1 = some ⟨3,x.2.map R.cells⟩) (hq : aj s q = some ⟨1,Z.map afX⟩) : resolve s FD (.bC q 0 Z.length) = some (J3 (Z.map (·.2))):=by
 show resolve s (9 + 2 + 1) _ = _
 unfold resolve
 simp only [hq]
 rw [if_pos (by simp),List.drop_zero,List.take_of_length_le (by simp),aaG.map h]
 rfl
def alU (s : Store) (n0 : Nat) (v : V) (L : List R) : Prop:=(L = [] ∧ v = .ak) ∨ ∃ p,v = .bC p 0 L.length ∧ n0 ≤ p ∧ aj s p = some ⟨3,L.map R.cells⟩
theorem alU.fr {s s2 : Store} {v : V} {n0 : Nat} {L : List R} (h : alU s n0 v L) (hf : ∀ p,p < s.length → aj s2 p = aj s p) : alU s2 n0 v L :=
 h.imp id fun ⟨q,e,hn,hq⟩=>⟨q,e,hn,(hf q (aJ hq)).trans hq⟩
abbrev nbA (s : List Lk) (x : Int) : List Int:=nbI s x s.length
inductive Rch (s : List Lk) (v : Int) : Int → Prop
 | base : Rch s v v
 | step {a b : Int} : Rch s v a → b ∈ nbA s a → Rch s v b
theorem aiP {s : List Lk} {x b : Int} : b ∈ nbA s x ↔ ∃ l ∈ s,aan x l = some b:=by
 unfold nbA nbI
 rw [List.take_length,List.mem_filterMap]
theorem alV {s : List Lk} (h : bg s = true) {x b : Int} (hb : b ∈ nbA s x) : 0 ≤ b ∧ b < 10 ∧ 0 ≤ x ∧ x < 10:=by
 obtain ⟨l,hl,e⟩:=aiP.1 hb
 have:=nO (rM h hl)
 unfold aan at e
 split at e
 ·cases e;omega
 ·split at e
  ·cases e;omega
  ·cases e
theorem afY {s : List Lk} (h : bg s = true) {v b : Int} (hr : Rch s v b) : b = v ∨ (0 ≤ b ∧ b < 10 ∧ 0 ≤ v ∧ v < 10):=by
 induction hr with
 | base=>exact .inl rfl
 |
  step ha hb ih =>
  have:=alV h hb
  rcases ih with rfl | ih
  ·exact .inr ⟨this.1,this.2.1,this.2.2⟩
  ·exact .inr ⟨this.1,this.2.1,ih.2.2⟩
theorem abC {s : List Lk} (h : bg s = true) {v : Int} {l : List Int} (hn : l.Nodup) (hl : ∀ a ∈ l,Rch s v a) : l.length ≤ 10:=by
 by_cases hv : 0 ≤ v ∧ v < 10
 ·have:=FN (a:=l) (b:=[0,1,2,3,4,5,6,7,8,9]) hn fun a ha=>by
   have hb : 0 ≤ a ∧ a < 10:=by
    rcases afY h (hl a ha) with rfl | k
    ·exact hv
    ·exact ⟨k.1,k.2.1⟩
   simp only [List.mem_cons,List.not_mem_nil,or_false]
   omega
  simpa using this
 ·have:=FN (a:=l) (b:=[v]) hn fun a ha=>by
   rcases afY h (hl a ha) with rfl | k
   ·simp
   ·exact absurd k.2.2 hv
  simp at this
  omega
def abD (s : List Lk) (out : List Int) (x : Int) : List Int:=(nbA s x).foldl Au out
def aiQ (s : List Lk) (out : List Int) : List Int:=out.foldl (abD s) out
def TG (s : List Lk) (v : Int) : Nat → List Int
 | 0=>[v]
 | n + 1=>aiQ s (TG s v n)
theorem YD : ∀ (l out : List Int) (a : Int),a ∈ l.foldl Au out ↔ a ∈ out ∨ a ∈ l
 | [],out,a=>by simp
 |
  x :: l,out,a=>by
  rw [List.foldl_cons,YD l,Dj,List.mem_cons]
  constructor
  ·rintro ((h | h) | h)
   ·exact .inr (.inl h)
   ·exact .inl h
   ·exact .inr (.inr h)
  ·rintro (h | h | h)
   ·exact .inl (.inr h)
   ·exact .inl (.inl h)
   ·exact .inr h
theorem YE : ∀ (l out : List Int),Asc out → Asc (l.foldl Au out)
 | [],out,h=>h
 | x :: l,out,h=>YE l _ (FM h)
theorem Jk {s : List Lk} : ∀ (l out : List Int) (a : Int),a ∈ l.foldl (abD s) out ↔ a ∈ out ∨ ∃ x ∈ l,a ∈ nbA s x
 | [],out,a=>by simp
 |
  x :: l,out,a=>by
  rw [List.foldl_cons,Jk l]
  unfold abD
  rw [YD,or_assoc]
  simp only [List.mem_cons,exists_eq_or_imp]
theorem abE {s : List Lk} : ∀ (l out : List Int),Asc out → Asc (l.foldl (abD s) out)
 | [],out,h=>h
 | x :: l,out,h=>abE l _ (YE _ _ h)
theorem PN (s : List Lk) (v : Int) : ∀ n,Asc (TG s v n)
 | 0=>by unfold Asc TG;simp
 | n + 1=>abE _ _ (PN s v n)
theorem PS (s : List Lk) (v : Int) : ∀ n,∀ a ∈ TG s v n,Rch s v a
 | 0,a,h=>by simp [TG] at h;subst h;exact .base
 |
  n + 1,a,h=>by
  rcases (Jk _ _ _).1 h with h | ⟨x,hx,h⟩
  ·exact PS s v n a h
  ·exact .step (PS s v n x hx) h
theorem YF (s : List Lk) (v : Int) : ∀ n,v ∈ TG s v n
 | 0=>by simp [TG]
 | n + 1=>(Jk _ _ _).2 (.inl (YF s v n))
theorem aiR {s : List Lk} (h : bg s = true) (v : Int) (n : Nat) : (TG s v n).length ≤ 10:=abC h (NQ (PN s v n)) (PS s v n)
def Closed (s : List Lk) (l : List Int) : Prop:=∀ a ∈ l,∀ b ∈ nbA s a,b ∈ l
theorem YG {s : List Lk} (v : Int) : ∀ n,Closed s (TG s v n) ∨ n + 1 ≤ (TG s v n).length
 | 0=>.inr (by simp [TG])
 |
  n + 1=>by
  have hsub : ∀ a ∈ TG s v n,a ∈ TG s v (n + 1):=fun a ha=>(Jk _ _ _).2 (.inl ha)
  rcases Classical.em (Closed s (TG s v n)) with hc | hc
  ·left
   intro a ha b hb
   have ha' : a ∈ TG s v n:=by
    rcases (Jk _ _ _).1 ha with h | ⟨x,hx,h⟩
    ·exact h
    ·exact hc x hx a h
   exact hsub b (hc a ha' b hb)
  ·right
   have hl:=(YG v n).resolve_left hc
   have : ∃ a ∈ TG s v n,∃ b ∈ nbA s a,b ∉ TG s v n:=by
    refine Classical.byContradiction fun hne=>hc fun a ha b hb=>Classical.byContradiction fun hnb=>hne ⟨a,ha,b,hb,hnb⟩
   obtain ⟨a,ha,b,hb,hnb⟩:=this
   have:=FN (a:=b :: TG s v n) (b:=TG s v (n + 1)) (List.nodup_cons.2 ⟨hnb,NQ (PN s v n)⟩) fun x hx=>by
    rcases List.mem_cons.1 hx with rfl | hx
    ·exact (Jk _ _ _).2 (.inr ⟨a,ha,hb⟩)
    ·exact hsub x hx
   simp only [List.length_cons] at this
   omega
theorem aaH {s : List Lk} (h : bg s = true) (v : Int) : Closed s (TG s v 10):=by
 rcases YG (s:=s) v 10 with hc | hc
 ·exact hc
 ·have:=aiR h v 10;omega
def cpV (s : List Lk) (v : Int) : List Int:=TG s v 10
theorem aiS {s : List Lk} (h : bg s = true) {v a : Int} : a ∈ cpV s v ↔ Rch s v a:=by
 constructor
 ·exact PS s v 10 a
 ·intro hr
  induction hr with
  | base=>exact YF s v 10
  | step _ hb ih=>exact aaH h v _ ih _ hb
theorem ade {l : List Int} (hn : l.Nodup) : Asc (Oc l):=by
 have h1 : (Oc l).Pairwise fun a b=>(decide (a ≤ b)) = true:=by
  unfold Oc
  exact List.pairwise_mergeSort (fun a b c h1 h2=>by simp at *;omega) (fun a b=>by simp;omega) l
 have h2 : (Oc l).Nodup:=(List.mergeSort_perm l _).nodup_iff.2 hn
 unfold Asc
 refine (h1.and h2).imp fun ⟨h,hne⟩=>?_
 have : _ ≤ _:=of_decide_eq_true h
 omega
theorem adf {l : List Int} {a : Int} : a ∈ Oc l ↔ a ∈ l:=(List.mergeSort_perm l _).mem_iff
theorem aiT {s : List Lk} (h : bg s = true) {v : Int} {l : List Int} (hn : l.Nodup) (hv : v ∈ l) (hr : ∀ a ∈ l,Rch s v a) (hc : Closed s l) : Oc l = cpV s v:=by
 refine Py (ade hn) (PN s v 10) fun a=>?_
 rw [adf,aiS h]
 constructor
 ·exact hr a
 ·intro hra
  induction hra with
  | base=>exact hv
  | step _ hb ih=>exact hc _ ih _ hb
def addN (l : List Int) (u : Int) : List Int:=if u ∈ l then l else l ++ [u]
theorem afZ {l : List Int} {u a : Int} : a ∈ addN l u ↔ a ∈ l ∨ a = u:=by
 unfold addN
 split
 ·rename_i h
  constructor
  ·exact .inl
  ·rintro (k | rfl)
   ·exact k
   ·exact h
 ·simp
theorem aiU {l : List Int} {u : Int} (h : l.Nodup) : (addN l u).Nodup:=by
 unfold addN
 split
 ·exact h
 ·rename_i hu
  rw [List.nodup_append]
  exact ⟨h,by simp,fun a ha b hb e=>by simp at hb;subst hb;exact hu (e ▸ ha)⟩
theorem YH : ∀ (us l : List Int) (a : Int),a ∈ us.foldl addN l ↔ a ∈ l ∨ a ∈ us
 | [],l,a=>by simp
 |
  u :: us,l,a=>by
  rw [List.foldl_cons,YH us,afZ,List.mem_cons,or_assoc]
theorem abG : ∀ (us l : List Int),l.Nodup → (us.foldl addN l).Nodup
 | [],l,h=>h
 | u :: us,l,h=>abG us _ (aiU h)
theorem YI : ∀ (us l : List Int),∃ r,us.foldl addN l = l ++ r
 | [],l=>⟨[],by simp⟩
 |
  u :: us,l=>by
  obtain ⟨r,e⟩:=YI us (addN l u)
  rw [List.foldl_cons,e]
  unfold addN
  split
  ·exact ⟨r,rfl⟩
  ·exact ⟨u :: r,by simp⟩
structure Bfs (s : List Lk) (v : Int) (i : Nat) (l : List Int) : Prop where
 nd : l.Nodup
 mem : v ∈ l
 rch : ∀ a ∈ l,Rch s v a
 le : i ≤ l.length
 cl : ∀ j,j < i → ∀ b ∈ nbA s (l.getD j 0),b ∈ l
theorem Bfs.start (s : List Lk) (v : Int) : Bfs s v 0 [v]:=⟨by simp,by simp,fun a h=>by simp at h;subst h;exact .base,by simp,fun j h=>absurd h (Nat.not_lt_zero _)⟩
theorem Bfs.next {s : List Lk} {v : Int} {i : Nat} {l : List Int} (h : Bfs s v i l) (hi : i < l.length) : Bfs s v (i + 1) ((nbA s (l.getD i 0)).foldl addN l):=by
 obtain ⟨r,e⟩:=YI (nbA s (l.getD i 0)) l
 have hm:=YH (nbA s (l.getD i 0)) l
 have hli : l.getD i 0 ∈ l:=by rw [List.getD_eq_getElem?_getD,List.getElem?_eq_getElem hi];exact List.getElem_mem hi
 refine ⟨abG _ _ h.nd,(hm v).2 (.inl h.mem),fun a ha=>?_,by rw [e,List.length_append];omega,fun j hj b hb=>?_⟩
 ·rcases (hm a).1 ha with ha | ha
  ·exact h.rch a ha
  ·exact .step (h.rch _ hli) ha
 ·have hjl : j < l.length:=by omega
  have ej : ((nbA s (l.getD i 0)).foldl addN l).getD j 0 = l.getD j 0:=by
   rw [e,List.getD_eq_getElem?_getD,List.getD_eq_getElem?_getD,List.getElem?_append_left hjl]
  rw [ej] at hb
  by_cases hji : j = i
  ·subst hji;exact (hm b).2 (.inr hb)
  ·exact (hm b).2 (.inl (h.cl j (by omega) b hb))
theorem Bfs.len {s : List Lk} (hk : bg s = true) {v : Int} {i : Nat} {l : List Int} (h : Bfs s v i l) : l.length ≤ 10:=abC hk h.nd h.rch
theorem Bfs.fin {s : List Lk} (hk : bg s = true) {v : Int} {l : List Int} (h : Bfs s v l.length l) : Oc l = cpV s v :=
 aiT hk h.nd h.mem h.rch fun a ha b hb=>by
  obtain ⟨j,hj⟩:=List.mem_iff_getElem?.1 ha
  have hjl:=(List.getElem?_eq_some_iff.1 hj).1
  exact h.cl j hjl b (by rw [List.getD_eq_getElem?_getD,hj];exact hb)
def LnA (s : Store) (v : V) (L : List Lk) : Prop:=(L = [] ∧ v = .ak) ∨ ∃ p,v = .bC p 0 L.length ∧ aj s p = some ⟨11,L.map Lk.cells⟩
theorem LnA.fr {s s2 : Store} {v : V} {L : List Lk} (h : LnA s v L) (hf : ∀ p,p < s.length → aj s2 p = aj s p) : LnA s2 v L :=
 h.imp id fun ⟨q,e,hq⟩=>⟨q,e,(hf q (aJ hq)).trans hq⟩
abbrev MF:=Nat → List R
def elF (M : MF) (i j : Nat) : R:=(M i).getD j default
def rrP (M : MF) (k : Nat) : Nat → Nat → Nat
 | 0,p=>p
 | f + 1,p=>if tN (elF M p k) = 0 then rrP M k f (p + 1) else p
def aiW (n : Nat) (M : MF) (k : Nat) : Nat:=rrP M k (n - k) k
def IV (M : MF) (k p : Nat) : MF:=fun i=>if i = p then M k else if i = k then M p else M i
def abH (r : List R) (k : Nat) : List R:=r.map fun x=>vF x (r.getD k default)
def abI (r b : List R) (f : R) : List R:=(List.range r.length).map fun j=>FB (r.getD j default) (mulR (b.getD j default) f)
def af0 (n : Nat) (M : MF) (k : Nat) : MF:=IV M k (aiW n M k)
def abJ (n : Nat) (M : MF) (k : Nat) : MF:=fun i=>if i = k then abH (af0 n M k k) k else af0 n M k i
def abK (M : MF) (k : Nat) : MF:=fun i=>if i = k then M k else abI (M i) (M k) (elF M i k)
def apx (n : Nat) (M : MF) : Bool:=allB n fun i=>(M i).all R.ok
def af2 (n : Nat) (M : MF) (k : Nat) : Option MF :=
 if (decide (aiW n M k < n) && apx n (abK (abJ n M k) k)) = true then some (abK (abJ n M k) k) else none
def YJ (n c : Nat) (M : MF) : Prop:=∀ i,i < n → (M i).length = c ∧ ∀ x ∈ M i,x.cn
theorem YJ.el {n c : Nat} {M : MF} (h : YJ n c M) {i j : Nat} (hi : i < n) (hj : j < c) : (elF M i j).cn:=(h i hi).2 _ (getD_mem (by rw [(h i hi).1];exact hj))
theorem adg (r : List R) (k : Nat) : (abH r k).length = r.length:=by unfold abH;simp
theorem adh (r b : List R) (f : R) : (abI r b f).length = r.length:=by unfold abI;simp
theorem af4 (r : List R) (k : Nat) : ∀ x ∈ abH r k,x.cn:=fun x hx=>by
 obtain ⟨y,_,rfl⟩:=List.mem_map.1 hx;exact D6 _ _
theorem af5 (r b : List R) (f : R) : ∀ x ∈ abI r b f,x.cn:=fun x hx=>by
 obtain ⟨y,_,rfl⟩:=List.mem_map.1 hx;exact Ph _ _
theorem YJ.swap {n c : Nat} {M : MF} (h : YJ n c M) {k p : Nat} (hk : k < n) (hp : p < n) : YJ n c (IV M k p):=fun i hi=>by
 unfold IV
 split
 ·exact h k hk
 ·split
  ·exact h p hp
  ·exact h i hi
theorem YJ.one {n c : Nat} {M : MF} (h : YJ n c M) {k : Nat} (hk : k < n) (hp : aiW n M k < n) : YJ n c (af0 n M k):=h.swap hk hp
theorem YJ.two {n c : Nat} {M : MF} (h : YJ n c M) {k : Nat} (hk : k < n) (hp : aiW n M k < n) : YJ n c (abJ n M k):=fun i hi=>by
 unfold abJ
 split
 ·exact ⟨by rw [adg];exact (h.one hk hp k hk).1,af4 _ _⟩
 ·exact h.one hk hp i hi
theorem YJ.tri {n c : Nat} {M : MF} (h : YJ n c M) {k : Nat} (hk : k < n) : YJ n c (abK M k):=fun i hi=>by
 unfold abK
 split
 ·exact h k hk
 ·exact ⟨by rw [adh];exact (h i hi).1,af5 _ _ _⟩
theorem YJ.step {n c : Nat} {M M' : MF} (h : YJ n c M) {k : Nat} (hk : k < n) (e : af2 n M k = some M') : YJ n c M':=by
 unfold af2 at e
 split at e
 ·rename_i hc
  simp only [Bool.and_eq_true,decide_eq_true_eq] at hc
  cases e
  exact (h.two hk hc.1).tri hk
 ·cases e
def KF {α : Type} (a b : List α) (j : Nat) : List α:=a.take j ++ b.drop j
theorem alX {α : Type} (a b : List α) : KF a b 0 = b:=by simp [KF]
theorem af6 {α : Type} (a b : List α) (h : b.length ≤ a.length) (h2 : a.length ≤ b.length) : KF a b b.length = a:=by
 unfold KF;rw [List.drop_length,List.append_nil,List.take_of_length_le h2]
theorem af7 {α : Type} {a b : List α} {j : Nat} (h : a.length = b.length) : (KF a b j).length = b.length:=by simp [KF];omega
theorem af8 {α : Type} {a b : List α} {j : Nat} {x d : α} (h : a.length = b.length) (hj : j < b.length) (hx : a.getD j d = x) : (KF a b j).set j x = KF a b (j + 1):=by
 have e : (a.take j).length = j:=by simp;omega
 have hja : j < a.length:=by omega
 unfold KF
 rw [List.set_append_right _ _ (by omega),e,Nat.sub_self,List.drop_eq_getElem_cons hj,List.set_cons_zero]
 have e2 : a.take (j + 1) = a.take j ++ [a[j]]:=by rw [List.take_add_one,List.getElem?_eq_getElem hja];rfl
 have e3 : x = a[j]:=by rw [← hx,List.getD_eq_getElem?_getD,List.getElem?_eq_getElem hja];rfl
 rw [e2,List.append_assoc,e3];rfl
def vK (s : Store) (v : V) (l : List Int) : Prop:=v = ints l ∨ ∃ o,v = .bC o 0 l.length ∧ aj s o = some ⟨1,aN l⟩
def Bo (s : Store) (c : List V) (x : R) : Prop:=∃ v1 v2,c = [.bool x.neg,v1,v2] ∧ vK s v1 x.mag ∧ vK s v2 x.den
def FV (s : Store) (A : List (List V)) (r : List R) : Prop:=A.length = r.length ∧ ∀ j,j < r.length → Bo s (A.getD j []) (r.getD j default)
def Kp (s s2 : Store) : Prop:=∀ o l,aj s o = some ⟨1,aN l⟩ → aj s2 o = aj s o
theorem Kp.refl (s : Store) : Kp s s:=fun _ _ _=>rfl
theorem Kp.trans {a b c : Store} (h : Kp a b) (k : Kp b c) : Kp a c:=fun o l e=>(k o l ((h o l e).trans e)).trans (h o l e)
theorem Kp.old {s s2 : Store} (h : ∀ o,o < s.length → aj s2 o = aj s o) : Kp s s2:=fun o l e=>h o (aJ e)
theorem vK.fr {s s2 : Store} {v : V} {l : List Int} (h : vK s v l) (k : Kp s s2) : vK s2 v l:=h.imp id fun ⟨o,e,ho⟩=>⟨o,e,(k o l ho).trans ho⟩
theorem Bo.fr {s s2 : Store} {c : List V} {x : R} (h : Bo s c x) (k : Kp s s2) : Bo s2 c x:=by
 obtain ⟨v1,v2,e,h1,h2⟩:=h;exact ⟨v1,v2,e,h1.fr k,h2.fr k⟩
theorem FV.fr {s s2 : Store} {A : List (List V)} {r : List R} (h : FV s A r) (k : Kp s s2) : FV s2 A r:=⟨h.1,fun j hj=>(h.2 j hj).fr k⟩
theorem vK.leaf {s : Store} {v : V} {l : List Int} (h : vK s v l) : v.leaf = true:=by
 rcases h with rfl | ⟨o,rfl,_⟩ <;> rfl
theorem vK.res {s : Store} {v : V} {l : List Int} (h : vK s v l) (n : Nat) : resolve s (n + 3) v = some (ints l):=by
 rcases h with rfl | ⟨o,rfl,ho⟩
 ·rfl
 ·have:=FQ (n:=n + 1) ho (nU l)
  rwa [AA] at this
theorem YK {s : Store} (l : List Int) : vK s (ints l) l:=.inl rfl
theorem af9 {s : Store} (x : R) : Bo s x.cells x:=⟨_,_,rfl,YK _,YK _⟩
theorem aiX {s : Store} (r : List R) : FV s (r.map R.cells) r:=⟨by simp,fun j hj=>by rw [mg hj];exact af9 _⟩
theorem Bo.mm {s : Store} {c : List V} {x : R} (h : Bo s c x) (n : Nat) : c.mapM (resolve s (n + 3)) = some x.cells:=by
 obtain ⟨v1,v2,rfl,h1,h2⟩:=h
 simp only [List.mapM_cons,List.mapM_nil,h1.res,h2.res]
 rfl
theorem Bo.res {s : Store} {c : List V} {x : R} (h : Bo s c x) : resolve s FD (.agg c) = some (aU x):=by
 show resolve s (8 + 3 + 1) _ = _
 rw [resolve,h.mm 8];rfl
theorem FV.mm {s : Store} {A : List (List V)} {r : List R} (h : FV s A r) (n : Nat) : (A.mapM fun (c : List V)=>c.mapM (resolve s (n + 3))) = some (r.map R.cells):=by
 obtain ⟨hl,h⟩:=h
 induction r generalizing A with
 |
  nil =>
  have : A = []:=List.eq_nil_of_length_eq_zero hl
  subst this;rfl
 |
  cons x r ih =>
  rcases A with _ | ⟨a,A⟩
  ·simp at hl
  have h0:=h 0 (by simp)
  simp only [List.getD_cons_zero] at h0
  rw [List.mapM_cons,h0.mm n,ih (by simpa using hl) fun j hj=>by simpa using h (j + 1) (by simpa using hj)]
  rfl
theorem FV.aiY {s : Store} {A : List (List V)} {r : List R} {p : Nat} (h : FV s A r) (hp : aj s p = some ⟨3,A⟩) (n : Nat) : resolve s (n + 4) (.bC p 0 r.length) = some (CS r):=by
 rw [resolve]
 simp only [hp]
 rw [if_pos (by rw [h.1];omega),List.drop_zero,List.take_of_length_le (by rw [h.1];omega),h.mm n];rfl
theorem FV.res {s : Store} {A : List (List V)} {r : List R} {p : Nat} (h : FV s A r) (hp : aj s p = some ⟨3,A⟩) : resolve s FD (.bC p 0 r.length) = some (CS r):=h.aiY hp 8
theorem abL {s : Store} {v : V} {l : List Int} {os : List Nat} (h : bD s v (ints l) os) : vK s v l ∧ ∀ o ∈ os,∃ l,aj s o = some ⟨1,aN l⟩:=by
 rcases h.wS with ⟨rfl,rfl,rfl⟩ | ⟨o,rfl,ho,rfl⟩
 ·exact ⟨.inl rfl,by simp⟩
 ·exact ⟨.inr ⟨o,rfl,ho⟩,fun q hq=>by rw [List.mem_singleton.1 hq];exact ⟨_,ho⟩⟩
theorem aiZ {s : Store} {c : List V} {x : R} {os : List Nat} (h : dX s c x.cells os) : Bo s c x ∧ ∀ o ∈ os,∃ l,aj s o = some ⟨1,aN l⟩:=by
 obtain ⟨cs,rfl,b⟩:=h.tX
 obtain ⟨v1,cs,o1,o2,rfl,rfl,c,d⟩:=b.inv
 obtain ⟨v2,cs,o3,o4,rfl,rfl,e,f⟩:=d.inv
 obtain ⟨rfl,rfl⟩:=f.Ea
 have k1:=abL c
 have k2:=abL e
 refine ⟨⟨v1,v2,rfl,k1.1,k2.1⟩,fun o ho=>?_⟩
 rcases List.mem_append.1 ho with ho | ho
 ·exact k1.2 o ho
 ·exact k2.2 o (by simpa using ho)
theorem V8 {s : Store} : ∀ {r : List R} {A : List (List V)} {os : List Nat},kG s A (r.map R.cells) os → FV s A r ∧ ∀ o ∈ os,∃ l,aj s o = some ⟨1,aN l⟩
 |
  [],A,os,h=>by
  simp only [List.map_nil,kG] at h
  obtain ⟨rfl,rfl⟩:=h
  exact ⟨⟨rfl,by simp⟩,by simp⟩
 |
  x :: r,A,os,h=>by
  simp only [List.map_cons,kG] at h
  obtain ⟨v,vs',o1,o2,rfl,rfl,h1,h2⟩:=h
  have k1:=aiZ h1
  have k2:=V8 h2
  refine ⟨⟨by simp [k2.1.1],fun j hj=>?_⟩,fun o ho=>?_⟩
  ·cases j with
   | zero=>exact k1.1
   | succ j=>simpa using k2.1.2 j (by simpa using hj)
  ·rcases List.mem_append.1 ho with ho | ho
   ·exact k1.2 o ho
   ·exact k2.2 o ho
def KG (n c : Nat) (rp : Nat → Nat) : List (List V):=(List.range n).map fun i=>[.bC (rp i) 0 c]
theorem MC (n c : Nat) (rp : Nat → Nat) : (KG n c rp).length = n:=by simp [KG]
theorem ai0 {n c : Nat} {rp : Nat → Nat} {i : Nat} (h : i < n) : (KG n c rp)[i]? = some [.bC (rp i) 0 c]:=by
 unfold KG;rw [List.getElem?_map,List.getElem?_range h];rfl
theorem YL {n c : Nat} {rp : Nat → Nat} {i p : Nat} : (KG n c rp).set i [.bC p 0 c] = KG n c fun x=>if x = i then p else rp x:=by
 apply List.ext_getElem?
 intro x
 unfold KG
 rw [List.getElem?_set]
 simp only [List.length_map,List.length_range,List.getElem?_map]
 by_cases h : i = x
 ·subst h
  by_cases hn : i < n
  ·simp [hn]
  ·rw [if_pos rfl,if_neg hn,List.getElem?_eq_none (by simpa using hn)];rfl
 ·rw [if_neg h]
  by_cases hn : x < n
  ·rw [List.getElem?_range hn];simp only [Option.map_some];rw [if_neg fun e : x = i=>h e.symm]
  ·rw [List.getElem?_eq_none (by simpa using hn)];rfl
structure Oz (s : Store) (q n c : Nat) (rp : Nat → Nat) (A : Nat → List (List V)) (M : MF) : Prop where
 inj : ∀ i j,i < n → j < n → rp i = rp j → i = j
 out : aj s q = some ⟨1,KG n c rp⟩
 row : ∀ i,i < n → aj s (rp i) = some ⟨3,A i⟩
 cel : ∀ i,i < n → FV s (A i) (M i)
theorem Oz.lt {s : Store} {q n c : Nat} {rp : Nat → Nat} {A : Nat → List (List V)} {M : MF} (h : Oz s q n c rp A M) : q < s.length ∧ ∀ i,i < n → rp i < s.length:=⟨aJ h.out,fun i hi=>aJ (h.row i hi)⟩
theorem Oz.ne {s : Store} {q n c : Nat} {rp : Nat → Nat} {A : Nat → List (List V)} {M : MF} (h : Oz s q n c rp A M) {i : Nat} (hi : i < n) : rp i ≠ q:=fun e=>by
 have:=h.row i hi
 rw [e,h.out] at this;cases this
theorem Oz.fr {s s2 : Store} {q n c : Nat} {rp : Nat → Nat} {A : Nat → List (List V)} {M : MF} (h : Oz s q n c rp A M) (hf : ∀ p,p < s.length → aj s2 p = aj s p) : Oz s2 q n c rp A M :=
 ⟨h.inj,(hf _ h.lt.1).trans h.out,fun i hi=>(hf _ (h.lt.2 i hi)).trans (h.row i hi),fun i hi=>(h.cel i hi).fr (.old hf)⟩
theorem Oz.res {s : Store} {q n c : Nat} {rp : Nat → Nat} {A : Nat → List (List V)} {M : MF} (h : Oz s q n c rp A M) (hl : ∀ i,i < n → (M i).length = c) : resolve s FD (.bC q 0 n) = some (J3 ((List.range n).map M)):=by
 show resolve s (11 + 1) _ = _
 rw [resolve]
 simp only [h.out]
 rw [if_pos (by rw [MC];omega),List.drop_zero,List.take_of_length_le (by rw [MC];omega)]
 have : ((KG n c rp).mapM fun (r : List V)=>r.mapM (resolve s 11)) = some ((List.range n).map fun i=>[CS (M i)]):=by
  unfold KG
  rw [List.mapM_map]
  refine mapM_some fun i hi=>?_
  have hi:=List.mem_range.1 hi
  have h1:=(h.cel i hi).aiY (h.row i hi) 7
  rw [hl i hi] at h1
  simp only [Function.comp,List.mapM_cons,List.mapM_nil]
  rw [h1];rfl
 rw [this,Option.map_some]
 unfold J3
 rw [List.map_map]
 rfl
theorem Oz.put {s s2 : Store} {q n c k : Nat} {rp : Nat → Nat} {A : Nat → List (List V)} {M : MF} {A2 : List (List V)} {r : List R} (h : Oz s q n c rp A M) (hk : k < n) (hr : aj s2 (rp k) = some ⟨3,A2⟩) (ho : ∀ o,o < s.length → o ≠ rp k → aj s2 o = aj s o) (hok : FV s2 A2 r) :
  Oz s2 q n c rp (fun i=>if i = k then A2 else A i) (fun i=>if i = k then r else M i):=by
 have kp : Kp s s2:=fun o l e=>ho o (aJ e) fun e2=>by rw [e2,h.row k hk] at e;cases e
 refine ⟨h.inj,(ho _ h.lt.1 fun e=>h.ne hk e.symm).trans h.out,fun i hi=>?_,fun i hi=>?_⟩
 ·by_cases e : i = k
  ·subst e;rw [if_pos rfl];exact hr
  ·rw [if_neg e];exact (ho _ (h.lt.2 i hi) fun e2=>e (h.inj i k hi hk e2)).trans (h.row i hi)
 ·by_cases e : i = k
  ·subst e;rw [if_pos rfl,if_pos rfl];exact hok
  ·rw [if_neg e,if_neg e];exact (h.cel i hi).fr kp
theorem Oz.ext {s : Store} {q n c : Nat} {rp : Nat → Nat} {A : Nat → List (List V)} {M M2 : MF} (h : Oz s q n c rp A M) (e : ∀ i,i < n → M i = M2 i) : Oz s q n c rp A M2 :=
 ⟨h.inj,h.out,h.row,fun i hi=>e i hi ▸ h.cel i hi⟩
theorem RN {n c : Nat} {rp : Nat → Nat} (hn : 0 < n) (l : List Int) : KG n c rp ≠ aN l:=fun e=>by
 have h1:=ai0 (c:=c) (rp:=rp) hn
 rw [e] at h1
 cases l with
 | nil=>simp [aN] at h1
 | cons x l=>simp [aN] at h1
theorem Oz.swap {s : Store} {q n c k p : Nat} {rp : Nat → Nat} {A : Nat → List (List V)} {M : MF} (h : Oz s q n c rp A M) (hk : k < n) (hp : p < n) {rows : List (List V)} (hrows : rows = ((KG n c rp).set k [.bC (rp p) 0 c]).set p [.bC (rp k) 0 c]) {s2 : Store} (hq : aj s2 q = some ⟨1,rows⟩) (ho : ∀ o,o ≠ q → o < s.length → aj s2 o = aj s o) :
  Oz s2 q n c (fun x=>if x = p then rp k else if x = k then rp p else rp x) (fun x=>if x = p then A k else if x = k then A p else A x) (IV M k p):=by
 have kp : Kp s s2:=fun o l e=>ho o (fun e2=>by
  rw [e2,h.out] at e
  injection e with e
  injection e with _ e
  exact RN (by omega) l e) (aJ e)
 have hr:=fun i hi=>(ho _ (h.ne hi) (h.lt.2 i hi)).trans (h.row i hi)
 have hc:=fun i hi=>(h.cel i hi).fr kp
 refine ⟨fun i j hi hj e=>?_,?_,fun i hi=>?_,fun i hi=>?_⟩
 ·have inj:=h.inj
  by_cases a1 : i = p <;> by_cases b1 : j = p
  ·omega
  ·rw [if_pos a1,if_neg b1] at e
   by_cases b2 : j = k
   ·rw [if_pos b2] at e
    have:=inj k p hk hp e;omega
   ·rw [if_neg b2] at e
    have:=inj k j hk hj e;omega
  ·rw [if_neg a1,if_pos b1] at e
   by_cases b2 : i = k
   ·rw [if_pos b2] at e
    have:=inj p k hp hk e;omega
   ·rw [if_neg b2] at e
    have:=inj i k hi hk e;omega
  ·rw [if_neg a1,if_neg b1] at e
   by_cases a2 : i = k <;> by_cases b2 : j = k
   ·omega
   ·rw [if_pos a2,if_neg b2] at e
    have:=inj p j hp hj e;omega
   ·rw [if_neg a2,if_pos b2] at e
    have:=inj i p hi hp e;omega
   ·rw [if_neg a2,if_neg b2] at e
    exact inj i j hi hj e
 ·rw [hq,hrows,YL,YL]
 ·split
  ·exact hr k hk
  ·split
   ·exact hr p hp
   ·exact hr i hi
 ·unfold IV
  split
  ·exact hc k hk
  ·split
   ·exact hc p hp
   ·exact hc i hi
structure OwF (s : Store) (A : Nat → List (List V)) (M : MF) (f : Nat → List Nat) (S : Nat → Prop) : Prop where
 ow : ∀ i,S i → kG s (A i) ((M i).map R.cells) (f i)
 nd : ∀ i,S i → (f i).Nodup
 ap : ∀ i j,S i → S j → i ≠ j → ∀ o ∈ f i,o ∉ f j
theorem OwF.kp {s s2 : Store} {A : Nat → List (List V)} {M : MF} {f : Nat → List Nat} {S : Nat → Prop} (h : OwF s A M f S) (k : Kp s s2) : OwF s2 A M f S :=
 ⟨fun i hi=>(h.ow i hi).frame fun o ho=>by obtain ⟨l,hl⟩:=(V8 (h.ow i hi)).2 o ho;exact k o l hl,h.nd,h.ap⟩
theorem OwF.put {s s2 : Store} {A : Nat → List (List V)} {M : MF} {f : Nat → List Nat} {S : Nat → Prop} {k : Nat} {A2 : List (List V)} {r : List R} {os : List Nat} (h : OwF s A M f S) (kp : Kp s s2) (ho : kG s2 A2 (r.map R.cells) os) (hn : os.Nodup) (hf : ∀ o ∈ os,s.length ≤ o) :
  OwF s2 (fun i=>if i = k then A2 else A i) (fun i=>if i = k then r else M i) (fun i=>if i = k then os else f i) (fun i=>S i ∨ i = k):=by
 have h2:=h.kp kp
 have lt : ∀ i,S i → ∀ o ∈ f i,o < s.length:=fun i hi=>(h.ow i hi).lt
 refine ⟨fun i hi=>?_,fun i hi=>?_,fun i j hi hj hne o h1 h3=>?_⟩
 ·by_cases e : i = k
  ·subst e;rw [if_pos rfl,if_pos rfl,if_pos rfl];exact ho
  ·rw [if_neg e,if_neg e,if_neg e];exact h2.ow i (hi.resolve_right e)
 ·by_cases e : i = k
  ·subst e;rw [if_pos rfl];exact hn
  ·rw [if_neg e];exact h.nd i (hi.resolve_right e)
 ·by_cases e : i = k
  ·by_cases e2 : j = k
   ·omega
   ·rw [if_pos e] at h1;rw [if_neg e2] at h3
    have:=hf o h1
    have:=lt j (hj.resolve_right e2) o h3
    omega
  ·rw [if_neg e] at h1
   by_cases e2 : j = k
   ·rw [if_pos e2] at h3
    have:=hf o h3
    have:=lt i (hi.resolve_right e) o h1
    omega
   ·rw [if_neg e2] at h3
    exact h.ap i j (hi.resolve_right e) (hj.resolve_right e2) hne o h1 h3
theorem OwF.ext {s : Store} {A : Nat → List (List V)} {M M2 : MF} {f : Nat → List Nat} {S S2 : Nat → Prop} (h : OwF s A M f S) (e : ∀ i,S2 i → S i ∧ M i = M2 i) : OwF s A M2 f S2 :=
 ⟨fun i hi=>(e i hi).2 ▸ h.ow i (e i hi).1,fun i hi=>h.nd i (e i hi).1,fun i j hi hj=>h.ap i j (e i hi).1 (e j hj).1⟩
theorem OwF.fin {s : Store} {q n c : Nat} {rp : Nat → Nat} {A : Nat → List (List V)} {M : MF} {f : Nat → List Nat} (h : Oz s q n c rp A M) (ho : OwF s A M f fun i=>i < n) (hc : 0 < c) (hl : ∀ i,i < n → (M i).length = c) : Fin s (.bC q 0 n) (J3 ((List.range n).map M)):=by
 have key : ∀ m,m ≤ n → ∃ os,kG s ((List.range m).map fun i=>[.bC (rp i) 0 c]) (((List.range m).map M).map fun r=>[CS r]) os ∧ os.Nodup ∧ ∀ o ∈ os,∃ i,i < m ∧ (o = rp i ∨ o ∈ f i):=by
  intro m
  induction m with
  | zero=>intro _;exact ⟨[],by simp [kG],.nil,by simp⟩
  |
   succ m ih =>
   intro hm
   obtain ⟨os,k1,k2,k3⟩:=ih (by omega)
   have hm' : m < n:=by omega
   have kinds : ∀ i,i < n → ∀ o ∈ f i,∃ l,aj s o = some ⟨1,aN l⟩:=fun i hi=>(V8 (ho.ow i hi)).2
   have hnf : ∀ i j,i < n → j < n → rp i ∉ f j:=fun i j hi hj hm=>by
    obtain ⟨l,hl⟩:=kinds j hj _ hm
    rw [h.row i hi] at hl;cases hl
   have hv : bD s (.bC (rp m) 0 c) (CS (M m)) (rp m :: f m):=by
    unfold CS
    simp only [bD]
    exact .inr ⟨rp m,A m,f m,by rw [List.length_map,hl m hm'],h.row m hm',rfl,ho.ow m hm'⟩
   refine ⟨os ++ (rp m :: f m),?_,?_,fun o ho'=>?_⟩
   ·rw [List.range_succ,List.map_append,List.map_append,List.map_append]
    exact CY k1 (abn (X7 hv))
   ·rw [List.nodup_append,List.nodup_cons]
    refine ⟨k2,⟨hnf m m hm' hm',ho.nd m hm'⟩,fun x hx y hy e=>?_⟩
    subst e
    obtain ⟨i,hi,hi2⟩:=k3 x hx
    rcases List.mem_cons.1 hy with hy | hy
    ·rcases hi2 with hi2 | hi2
     ·have:=h.inj i m (by omega) hm' (hi2.symm.trans hy);omega
     ·rw [hy] at hi2;exact hnf m i hm' (by omega) hi2
    ·rcases hi2 with hi2 | hi2
     ·rw [hi2] at hy;exact hnf i m (by omega) hm' hy
     ·exact ho.ap i m (by omega) hm' (by omega) x hi2 hy
   ·rcases List.mem_append.1 ho' with ho' | ho'
    ·obtain ⟨i,hi,k⟩:=k3 o ho';exact ⟨i,by omega,k⟩
    ·rcases List.mem_cons.1 ho' with rfl | ho'
     ·exact ⟨m,by omega,.inl rfl⟩
     ·exact ⟨m,by omega,.inr ho'⟩
 obtain ⟨os,k1,k2,k3⟩:=key n (Nat.le_refl _)
 refine rY (os:=q :: os) ?_ (List.nodup_cons.2 ⟨fun hm=>?_,k2⟩)
 ·unfold J3
  simp only [bD]
  exact .inr ⟨q,_,os,by simp,h.out,rfl,k1⟩
 ·obtain ⟨i,hi,e | e⟩:=k3 q hm
  ·exact h.ne hi e.symm
  ·obtain ⟨l,hl⟩:=(V8 (ho.ow i hi)).2 _ e
   rw [h.out] at hl
   injection hl with hl
   injection hl with _ hl
   exact RN (by omega) l hl
def RP (g : Nat → Nat) (a : Acc) : Acc:=⟨a.i,a.R.map g,a.W.map g,a.n⟩
section
variable {g : Nat → Nat} {L L0 : Nat} (hinj : ∀ x y,g x = g y ↔ x = y) (hlt : ∀ x,g x < L ↔ x < L0)
include hinj in
theorem V9 (l : List Nat) (p : Nat) : (l.map g).contains (g p) = l.contains p:=by
 rw [Bool.eq_iff_iff,List.contains_iff_mem,List.contains_iff_mem,List.mem_map]
 constructor
 ·rintro ⟨q,h1,h2⟩
  rw [(hinj _ _).1 h2] at h1;exact h1
 ·exact fun h=>⟨p,h,rfl⟩
include hlt in
theorem UK (a b : Acc) : rW L (RP g a) (RP g b) = rW L0 a b:=by
 unfold rW RP
 simp only [List.all_map,Function.comp_def]
 simp only [hlt]
include hinj hlt in
theorem adi (d e : fQ) (a b : Acc) : lC L d e (RP g a) (RP g b) = lC L0 d e a b:=by
 unfold lC
 rw [UK hlt,UK hlt]
 simp only [RP,List.all_map,Function.comp_def]
 simp only [V9 hinj]
 congr 6
 ·congr 1
  funext p
  congr 2
  funext q
  rw [bne,bne]
  congr 1
  rw [Bool.eq_iff_iff,beq_iff_eq,beq_iff_eq];exact hinj _ _
include hinj hlt in
theorem abN {B : Nat → List Nat} {ops : List fQ} : ∀ l : List Acc,okA L B ops (l.map (RP g)) = okA L0 B ops l
 | []=>rfl
 |
  a :: l=>by
  simp only [List.map_cons,okA,List.all_map,Function.comp_def]
  rw [abN l]
  congr 2
  funext b
  have h1 : (RP g a).i = a.i:=rfl
  have h2 : (RP g b).i = b.i:=rfl
  rw [adi hinj hlt,h1,h2]
include hinj hlt in
theorem ai1 {ops : List fQ} {l l0 : List Acc} (he : l = l0.map (RP g)) (hk : iW L0 ops l0) : iW L ops l:=by
 unfold iW at hk ⊢
 rw [he,← List.map_reverse,abN hinj hlt]
 exact hk
end
def gN (l : List Nat) (L x : Nat) : Nat:=match l[x]? with
 | some y=>y
 | none=>L + x
theorem aga {l : List Nat} {L : Nat} (hl : ∀ o ∈ l,o < L) (x : Nat) : gN l L x < L ↔ x < l.length:=by
 unfold gN
 cases h : l[x]? with
 |
  none =>
  have:=List.getElem?_eq_none_iff.1 h
  simp only []
  omega
 |
  some y =>
  have h1:=(List.getElem?_eq_some_iff.1 h).1
  have h2:=hl y (List.mem_of_getElem? h)
  simp only []
  omega
theorem alY {l : List Nat} {L : Nat} (hl : ∀ o ∈ l,o < L) (hn : l.Nodup) (x y : Nat) : gN l L x = gN l L y ↔ x = y:=by
 constructor
 ·intro e
  have hx:=aga hl x
  have hy:=aga hl y
  by_cases h : x < l.length
  ·have h2 : y < l.length:=hy.1 (e ▸ hx.2 h)
   unfold gN at e
   rw [List.getElem?_eq_getElem h,List.getElem?_eq_getElem h2] at e
   exact (List.getElem_inj hn).1 e
  ·have h2 : ¬ y < l.length:=fun k=>h (hx.1 (e ▸ hy.2 k))
   unfold gN at e
   rw [List.getElem?_eq_none (by omega),List.getElem?_eq_none (by omega)] at e
   simp only [] at e
   omega
 ·rintro rfl;rfl
theorem nd2 {a b : Nat} (h : a ≠ b) : [a,b].Nodup:=by simp [h]
theorem nd3 {a b c : Nat} (h : a ≠ b) (h2 : a ≠ c) (h3 : b ≠ c) : [a,b,c].Nodup:=by simp [h,h2,h3]
theorem nd4 {a b c d : Nat} (h : a ≠ b) (h2 : a ≠ c) (h3 : a ≠ d) (h4 : b ≠ c) (h5 : b ≠ d) (h6 : c ≠ d) : [a,b,c,d].Nodup:=by simp [h,h2,h3,h4,h5,h6]
theorem lt2 {a b L : Nat} (h : a < L) (h2 : b < L) : ∀ o ∈ [a,b],o < L:=by simp [h,h2]
end Go.Ml
end
section
namespace Go.Ml
structure Wh (s0 s : Store) (ri : Nat) (box : Obj) (A : List (List V)) (Z : List R) (j : Nat) (N : List (List V)) (os : List Nat) : Prop where
 row : aj s ri = some ⟨3,N ++ A.drop j⟩
 nl : N.length = j
 ow : kG s N ((Z.take j).map R.cells) os
 nd : os.Nodup
 fr : ∀ o ∈ os,s0.length ≤ o
 old : ∀ o,o < s0.length → o ≠ ri → aj s o = aj s0 o
 bx : aj s s0.length = some box
 len : s0.length < s.length
section
variable {s0 s : Store} {ri : Nat} {box : Obj} {A : List (List V)} {Z : List R} {j : Nat} {N : List (List V)} {os : List Nat}
theorem Wh.kp (I : Wh s0 s ri box A Z j N os) (hi : aj s0 ri = some ⟨3,A⟩) : Kp s0 s:=fun o l e=>I.old o (aJ e) fun e2=>by rw [e2,hi] at e;cases e
theorem Wh.at (I : Wh s0 s ri box A Z j N os) (hj : j < A.length) : (N ++ A.drop j)[j]? = some (A.getD j []):=by
 rw [List.getElem?_append_right (by rw [I.nl];exact Nat.le_refl _),I.nl,Nat.sub_self,List.getElem?_drop,Nat.add_zero,List.getD_eq_getElem?_getD,List.getElem?_eq_getElem hj];rfl
theorem Wh.step (I : Wh s0 s ri box A Z j N os) (hri : ri < s0.length) (hj : j < A.length) (hjZ : j < Z.length) {z : R} (hz : Z.getD j default = z) {q3 : Store} {c : List V} {o3 : List Nat} (old : ∀ o,o < s.length → aj q3 o = aj s o) (len : s.length ≤ q3.length)
  (ho : dX q3 c z.cells o3) (nd3 : o3.Nodup) (fr3 : ∀ o ∈ o3,s.length ≤ o) : Wh s0 (q3.set ri (some ⟨3,(N ++ A.drop j).set j c⟩)) ri box A Z (j + 1) (N ++ [c]) (os ++ o3):=by
 have hl:=I.len
 have ne : ∀ o,ri ≠ o → aj (q3.set ri (some ⟨3,(N ++ A.drop j).set j c⟩)) o = aj q3 o:=fun o h=>aI fun e=>h e.symm
 have e1 : (N ++ A.drop j).set j c = (N ++ [c]) ++ A.drop (j + 1):=by
  rw [List.set_append_right _ _ (by rw [I.nl];exact Nat.le_refl _),I.nl,Nat.sub_self,List.drop_eq_getElem_cons hj,List.set_cons_zero,List.append_assoc];rfl
 refine ⟨?_,by simp [I.nl],?_,?_,fun o h=>?_,fun o h1 h2=>?_,?_,by simp;omega⟩
 ·rw [bn (by omega),e1]
 ·rw [take_snoc hjZ,List.map_append,hz]
  refine CY (I.ow.frame fun o h=>?_) (abn (ho.frame fun o h=>?_))
  ·have h1:=I.fr o h
   rw [ne o (by omega),old o (I.ow.lt o h)]
  ·have:=fr3 o h
   rw [ne o (by omega)]
 ·rw [List.nodup_append]
  refine ⟨I.nd,nd3,fun x hx y hy e=>?_⟩
  have:=I.ow.lt x hx
  have:=fr3 y hy
  omega
 ·rcases List.mem_append.1 h with h | h
  ·exact I.fr o h
  ·have:=fr3 o h;omega
 ·rw [ne o (fun e=>h2 e.symm),old o (by omega),I.old o h1 h2]
 ·rw [ne _ (by omega),old _ (by omega),I.bx]
theorem Wh.fin (I : Wh s0 s ri box A Z j N os) (h1 : j = A.length) (h2 : j = Z.length) : aj s ri = some ⟨3,N⟩ ∧ kG s N (Z.map R.cells) os:=by
 have a:=I.row
 have b:=I.ow
 rw [h1,List.drop_length,List.append_nil] at a
 rw [h2,List.take_length] at b
 exact ⟨a,b⟩
end
theorem vK.rch {s : Store} {v : V} {l : List Int} (h : vK s v l) : ∀ n,∀ o ∈ reach s n v,∃ l,aj s o = some ⟨1,aN l⟩:=by
 intro n o ho
 rcases h with rfl | ⟨q,rfl,hq⟩
 ·cases n <;> simp [reach] at ho
 ·cases n with
  | zero=>simp [reach] at ho
  |
   succ n =>
   simp only [reach,hq,List.mem_cons,List.mem_flatMap] at ho
   rcases ho with rfl | ⟨r,hr,c,hc,ho⟩
   ·exact ⟨_,hq⟩
   ·have hs:=nU l r hr c hc
    cases n with
    | zero=>simp [reach] at ho
    | succ n=>rw [DV hs] at ho;cases ho
theorem Bo.rch {s : Store} {c : List V} {x : R} (h : Bo s c x) : ∀ n,∀ o ∈ reach s n (.agg c),∃ l,aj s o = some ⟨1,aN l⟩:=by
 intro n o ho
 obtain ⟨v1,v2,rfl,h1,h2⟩:=h
 cases n with
 | zero=>simp [reach] at ho
 |
  succ n =>
  rw [FK] at ho
  obtain ⟨c,hc,ho⟩:=ho
  simp only [List.mem_cons,List.not_mem_nil,or_false] at hc
  rcases hc with rfl | rfl | rfl
  ·cases n <;> simp [reach] at ho
  ·exact h1.rch n o ho
  ·exact h2.rch n o ho
end Go.Ml
end
section
namespace Go.Ml
theorem auo {α : Type} {l : List (List α)} {j : Nat} (h : j < l.length) : l[j]? = some (l.getD j []):=by
 rw [List.getD_eq_getElem?_getD,List.getElem?_eq_getElem h];rfl
theorem Oz.cell {s : Store} {q n c : Nat} {rp : Nat → Nat} {A : Nat → List (List V)} {M : MF} (h : Oz s q n c rp A M) (hl : ∀ i,i < n → (M i).length = c) {i j : Nat} (hi : i < n) (hj : j < c) : ∃ a1 a2,(A i)[j]? = some [.bool (elF M i j).neg,a1,a2] ∧ vK s a1 (elF M i j).mag ∧ vK s a2 (elF M i j).den:=by
 have hr:=h.cel i hi
 have hjl : j < (M i).length:=by rw [hl i hi];exact hj
 obtain ⟨a1,a2,e,k1,k2⟩:=hr.2 j hjl
 exact ⟨a1,a2,by rw [auo (by rw [hr.1];exact hjl),e];rfl,k1,k2⟩
def RQ (s : Store) (q n c : Nat) (rp : Nat → Nat) (M : MF) : Prop:=Oz s q n c rp (fun x=>(M x).map R.cells) M
def alZ (M : MF) (i : Nat) (r : List R) : MF:=fun x=>if x = i then r else M x
theorem RQ.put {s s2 : Store} {q n c k : Nat} {rp : Nat → Nat} {M : MF} {r : List R} (h : RQ s q n c rp M) (hk : k < n) (hr : aj s2 (rp k) = some ⟨3,r.map R.cells⟩) (ho : ∀ o,o < s.length → o ≠ rp k → aj s2 o = aj s o) : RQ s2 q n c rp (alZ M k r):=by
 have:=Oz.put h hk hr ho (aiX r)
 have e : (fun i=>if i = k then r.map R.cells else (M i).map R.cells) = fun x=>(alZ M k r x).map R.cells:=by
  funext i;unfold alZ;split <;> rfl
 rw [e] at this
 exact this
theorem RQ.swap {s : Store} {q n c k p : Nat} {rp : Nat → Nat} {M : MF} (h : RQ s q n c rp M) (hk : k < n) (hp : p < n) {rows : List (List V)} (hrows : rows = ((KG n c rp).set k [.bC (rp p) 0 c]).set p [.bC (rp k) 0 c]) {s2 : Store} (hq : aj s2 q = some ⟨1,rows⟩) (ho : ∀ o,o ≠ q → o < s.length → aj s2 o = aj s o) :
  RQ s2 q n c (fun x=>if x = p then rp k else if x = k then rp p else rp x) (IV M k p):=by
 have:=Oz.swap h hk hp hrows hq ho
 have e : (fun x=>if x = p then (M k).map R.cells else if x = k then (M p).map R.cells else (M x).map R.cells) = fun x=>(IV M k p x).map R.cells:=by
  funext i;unfold IV;split
  ·rfl
  ·split <;> rfl
 rw [e] at this
 exact this
theorem RQ.ext {s : Store} {q n c : Nat} {rp : Nat → Nat} {M M2 : MF} (h : RQ s q n c rp M) (e : ∀ i,i < n → M i = M2 i) : RQ s q n c rp M2 :=
 ⟨h.inj,h.out,fun i hi=>by rw [← e i hi];exact h.row i hi,fun i hi=>by rw [← e i hi];exact h.cel i hi⟩
theorem RQ.cell {s : Store} {q n c : Nat} {rp : Nat → Nat} {M : MF} (h : RQ s q n c rp M) (hl : ∀ i,i < n → (M i).length = c) {i j : Nat} (hi : i < n) (hj : j < c) : ((M i).map R.cells)[j]? = some (elF M i j).cells:=by
 have hjl : j < (M i).length:=by rw [hl i hi];exact hj
 rw [mg? hjl];rfl
theorem Oz.aiY {s : Store} {q n c : Nat} {rp : Nat → Nat} {A : Nat → List (List V)} {M : MF} (h : Oz s q n c rp A M) (hl : ∀ i,i < n → (M i).length = c) (k : Nat) : resolve s (k + 5) (.bC q 0 n) = some (J3 ((List.range n).map M)):=by
 rw [resolve]
 simp only [h.out]
 rw [if_pos (by rw [MC];omega),List.drop_zero,List.take_of_length_le (by rw [MC];omega)]
 have : ((KG n c rp).mapM fun (r : List V)=>r.mapM (resolve s (k + 4))) = some ((List.range n).map fun i=>[CS (M i)]):=by
  unfold KG
  rw [List.mapM_map]
  refine mapM_some fun i hi=>?_
  have hi:=List.mem_range.1 hi
  have h1:=(h.cel i hi).aiY (h.row i hi) k
  rw [hl i hi] at h1
  simp only [Function.comp,List.mapM_cons,List.mapM_nil]
  rw [h1];rfl
 rw [this,Option.map_some]
 unfold J3
 rw [List.map_map]
 rfl
theorem YM {σ : Store} : ∀ (n : Nat) {A T : List (List V)} {os : List Nat},kG σ A T os → ∃ os',kG σ (A.drop n) (T.drop n) os' ∧ os'.Sublist os
 | 0,A,T,os,h=>⟨os,h,List.Sublist.refl _⟩
 |
  n + 1,A,[],os,h=>by
  simp only [kG] at h
  obtain ⟨rfl,rfl⟩:=h
  exact ⟨[],by simp [kG],List.Sublist.refl _⟩
 |
  n + 1,A,t :: T,os,h=>by
  simp only [kG] at h
  obtain ⟨v,vs',o1,o2,rfl,rfl,h1,h2⟩:=h
  obtain ⟨os',k1,k2⟩:=YM n h2
  exact ⟨os',k1,k2.trans (List.sublist_append_right _ _)⟩
theorem OwF.drop {s : Store} {A : Nat → List (List V)} {M : MF} {f : Nat → List Nat} {n : Nat} (ho : OwF s A M f fun i=>i < n) (d : Nat) : ∃ f',OwF s (fun i=>(A i).drop d) (fun i=>(M i).drop d) f' (fun i=>i < n) ∧ ∀ i,i < n → ∀ o ∈ f' i,o ∈ f i:=by
 have h : ∀ i,∃ os',i < n → kG s ((A i).drop d) (((M i).drop d).map R.cells) os' ∧ os'.Sublist (f i):=fun i=>by
  by_cases hi : i < n
  ·obtain ⟨os',k1,k2⟩:=YM d (ho.ow i hi)
   rw [← List.map_drop] at k1
   exact ⟨os',fun _=>⟨k1,k2⟩⟩
  ·exact ⟨[],fun h=>absurd h hi⟩
 refine ⟨fun i=>Classical.choose (h i),⟨fun i hi=>?_,fun i hi=>?_,fun i j hi hj hne o h1 h2=>?_⟩,fun i hi o h1=>?_⟩
 ·exact (Classical.choose_spec (h i) hi).1
 ·exact (ho.nd i hi).sublist (Classical.choose_spec (h i) hi).2
 ·exact ho.ap i j hi hj hne o ((Classical.choose_spec (h i) hi).2.subset h1) ((Classical.choose_spec (h j) hj).2.subset h2)
 ·exact (Classical.choose_spec (h i) hi).2.subset h1
theorem GK {ops : List fQ} {L : Nat} {acc : List Acc} (l : List Nat) (l0 : List Acc) (hn : l.Nodup) (hl : ∀ o ∈ l,o < L) (he : acc = l0.map (RP (gN l L))) (h : iW l.length ops l0) : iW L ops acc:=ai1 (alY hl hn) (aga hl) he h
def Bq (σ : Store) (p : Nat) (ob : Obj) (os : List Nat) : Store:=(List.range σ.length).map fun k=>if k = p then some ob else if k ∈ os then aj σ k else none
def keepW (σ : Store) (p n : Nat) (os : List Nat) : Jm:=(List.range σ.length).map fun k=>if k = p then some (p,0,n) else if k ∈ os then (aj σ k).map (fun ob=>(k,0,ob.rows.length)) else none
theorem Aw {σ : Store} {p : Nat} {ob : Obj} {os : List Nat} {k : Nat} (hk : k < σ.length) : aj (Bq σ p ob os) k = if k = p then some ob else if k ∈ os then aj σ k else none:=by
 simp only [aj,Bq,List.getElem?_map,List.getElem?_range hk]
 rfl
theorem Dz {σ : Store} {p n : Nat} {os : List Nat} {k : Nat} (hk : k < σ.length) : (keepW σ p n os)[k]? = some (if k = p then some (p,0,n) else if k ∈ os then (aj σ k).map (fun ob=>(k,0,ob.rows.length)) else none):=by
 unfold keepW
 rw [List.getElem?_map,List.getElem?_range hk];rfl
theorem Ce {σ : Store} {p n : Nat} {os : List Nat} {k o s l : Nat} (h : (keepW σ p n os)[k]? = some (some (o,s,l))) : k < σ.length ∧ o = k ∧ s = 0 ∧ ((k = p ∧ l = n) ∨ (k ≠ p ∧ k ∈ os ∧ ∃ ob,aj σ k = some ob ∧ l = ob.rows.length)):=by
 have hk : k < σ.length:=by
  have:=(List.getElem?_eq_some_iff.1 h).1
  unfold keepW at this;simpa using this
 rw [Dz hk] at h
 refine ⟨hk,?_⟩
 by_cases e : k = p
 ·rw [if_pos e] at h
  simp only [Option.some.injEq,Prod.mk.injEq] at h
  exact ⟨by omega,h.2.1.symm,.inl ⟨e,h.2.2.symm⟩⟩
 ·rw [if_neg e] at h
  by_cases m : k ∈ os
  ·rw [if_pos m] at h
   simp only [Option.some.injEq,Option.map_eq_some_iff] at h
   obtain ⟨ob,h1,h2⟩:=h
   simp only [Prod.mk.injEq] at h2
   exact ⟨h2.1.symm,h2.2.1.symm,.inr ⟨e,m,ob,h1,h2.2.2.symm⟩⟩
  ·rw [if_neg m] at h
   cases h
theorem aaI {p n : Nat} {vs : List V} {env : Nat → V} {σ : Store} {b1 b2 : Nat} {r1 r2 m1 m2 : List Nat} {A A' : List (List V)} {os : List Nat} (h : aj σ p = some ⟨n,A⟩) (hl : A'.length = A.length)
  (hs : ∀ o ∈ os,∀ ob,aj σ o = some ob → dR ob.rows)
  (hr : ∀ (i : Nat) (r r2 : List V),A[i]? = some r → A'[i]? = some r2 → Ef (keepW σ p A.length os) σ r r2) (he : AB (keepW σ p A.length os) σ vs 0 env) :
  Fg ⟨bF vs,Bq σ p ⟨n,A'⟩ os,0,b1,r1,m1⟩ ⟨env,σ,0,b2,r2,m2⟩:=by
 refine .re (keepW σ p A.length os) ⟨⟨by unfold Bq keepW;simp,?_,?_,?_⟩,rfl,fun i hi=>absurd hi (Nat.not_lt_zero _),fun t=>by have:=he.at_ t;rwa [Nat.zero_add] at this⟩
 ·intro i j o s l s' l' hi hj
  rw [← (Ce hi).2.1,← (Ce hj).2.1]
 ·intro k o s l hk
  obtain ⟨hlt,rfl,rfl,hk2⟩:=Ce hk
  rcases hk2 with ⟨rfl,rfl⟩ | ⟨e,m,ob,h1,rfl⟩
  ·refine ⟨_,⟨n,A'⟩,h,by simp,by show aj (Bq _ _ _ _) _ = _;rw [Aw hlt,if_pos rfl],rfl,hl,fun i r r2 h1 h2=>hr i r r2 (by simpa using h1) h2⟩
  ·refine ⟨ob,ob,h1,by simp,by show aj (Bq _ _ _ _) _ = _;rw [Aw hlt,if_neg e,if_pos m,h1],rfl,rfl,fun i r r2 h2 h3=>?_⟩
   rw [Nat.zero_add,h3] at h2
   simp only [Option.some.injEq] at h2
   subst h2
   exact CO fun v hv=>hs o m ob h1 r2 (List.mem_of_getElem? h3) v hv
 ·intro k hk
  have hlt : k < σ.length:=by
   have:=(List.getElem?_eq_some_iff.1 hk).1
   unfold keepW at this;simpa using this
  rw [Dz hlt] at hk
  show aj (Bq _ _ _ _) _ = _
  rw [Aw hlt]
  by_cases e : k = p
  ·rw [if_pos e] at hk;cases hk
  ·rw [if_neg e] at hk ⊢
   by_cases m : k ∈ os
   ·rw [if_pos m] at hk ⊢
    cases ho : aj σ k
    ·rfl
    ·rw [ho] at hk;cases hk
   ·rw [if_neg m]
def GnA (n : Nat) (s : Store) (v : V) (A : List (List V)) : Prop:=(A = [] ∧ v = .ak) ∨ ∃ p,v = .bC p 0 A.length ∧ aj s p = some ⟨n,A⟩ ∧ 3 ≤ p ∧ 0 < A.length
theorem GnA.fr {n : Nat} {s s2 : Store} {v : V} {A : List (List V)} (h : GnA n s v A) (hf : ∀ p,3 ≤ p → p < s.length → aj s2 p = aj s p) : GnA n s2 v A:=by
 rcases h with h | ⟨p,h1,h2,h3⟩
 ·exact .inl h
 ·exact .inr ⟨p,h1,(hf p h3.1 (aJ h2)).trans h2,h3⟩
def paZ (a : Pa) : List V:=[iv a.node,.bool false,.ak,.ak] ++ a.dx.cells ++ a.dy.cells
def Pa.wc (a : Pa) : List V:=a.share.cells
structure ElI (s : Store) (v : Int) (X : R) (pv wv : V) (P : List (List V)) (W : List (List V)) : Prop where
 a0 : aj s 0 = some ⟨5,[[iv 0,.bool false,.ak,.ak,.ak]]⟩
 a1 : aj s 1 = some ⟨5,[[iv v,.bool X.neg,ints X.mag,ints X.den,pv]]⟩
 p : GnA 10 s pv P
 w : GnA 3 s wv W
theorem ElI.lt {s : Store} {v : Int} {X : R} {pv wv : V} {P W : List (List V)} (h : ElI s v X pv wv P W) : 2 ≤ s.length:=aJ h.a1
theorem Aj {σ : Store} : dK (Option.map V.eu (match resolve σ 11 (V.agg [V.int .i64 0,V.bool false,V.ak,V.ak,V.ak]) with | some d=>some [d,V.ak,V.bool false] | none=>none)) (bM (V.eu [KP ⟨0,R0,[]⟩,bf [],V.bool false])):=by
 have e : resolve σ 11 (V.agg [V.int .i64 0,V.bool false,V.ak,V.ak,V.ak]) = some (V.agg [V.int .i64 0,V.bool false,V.ak,V.ak,V.ak]):=by simp [resolve]
 rw [e]
 show bM _ _
 simp only [bM,lW]
 exact ⟨_,rfl,_,_,rfl,⟨_,rfl,_,_,rfl,rfl,_,_,rfl,rfl,_,_,rfl,.inl ⟨rfl,.inl rfl⟩,_,_,rfl,.inl ⟨rfl,.inl rfl⟩,_,_,rfl,.inl ⟨rfl,.inl rfl⟩,rfl⟩,_,_,rfl,.inl ⟨rfl,.inl rfl⟩,_,_,rfl,rfl,rfl⟩
theorem yQ {σ : Store} {q n l : Nat} {rows : List (List V)} (h : aj σ q = some ⟨n,rows⟩) (hs : dR rows) : ∀ p ∈ reach σ FD (.bC q 0 l),p = q:=fun p hp=>by
 have hp : p ∈ reach σ (11 + 1) (.bC q 0 l):=hp
 unfold reach at hp
 rcases List.mem_cons.1 hp with e | hp
 ·exact e
 ·exfalso
  dsimp only at hp
  rw [h] at hp
  obtain ⟨r,hr,hp⟩:=List.mem_flatMap.1 hp
  obtain ⟨v,hv,hp⟩:=List.mem_flatMap.1 hp
  rw [show reach σ 11 v = [] from DV (hs r hr v hv)] at hp
  cases hp
theorem RS {A : List Pa} {i : Nat} : ∀ {m : Nat},i ≤ m → ∀ x ∈ iF A i,x ∈ iF A m
 | 0,h,x,hx=>by
           have : i = 0:=by omega
           subst this;exact hx
 |
  m + 1,h,x,hx=>by
  by_cases e : i = m + 1
  ·subst e;exact hx
  ·exact List.mem_append.2 (.inl (RS (m:=m) (by omega) x hx))
theorem agb {A : List Pa} {i k : Nat} (hi : i < k) (hk : k < A.length) : IU (qM A) (A.getD i default) (A.getD k default) ∈ FU A:=by
 refine RS (i:=i + 1) (by omega) _ (List.mem_append.2 (.inr ?_))
 unfold mW
 rw [List.take_of_length_le (by simp)]
 refine List.mem_map.2 ⟨A.getD k default,List.mem_iff_getElem?.2 ⟨k - (i + 1),?_⟩,rfl⟩
 rw [List.getElem?_drop,show i + 1 + (k - (i + 1)) = k by omega,List.getElem?_eq_getElem hk,List.getD_eq_getElem?_getD,List.getElem?_eq_getElem hk];rfl
theorem agc {A : List Pa} {i k : Nat} (hi : i < k) (hk : k < A.length) (h : ji (IU (qM A) (A.getD i default) (A.getD k default)) = false) : (FU A).all ji = false :=
 List.all_eq_false.2 ⟨_,agb hi hk,by rw [h];simp⟩
theorem al0 {s σ : Store} {c : Cd} {cs : List V} {mv : V} {M : List Lk} {o1 : Obj} (he : c.cells = cs) (hst : ∀ v ∈ c.cells,v.still = true) (hL : LnA s mv M) (h1 : aj σ 1 = aj s 1) (hx : aj s 1 = some o1) (hf : ∀ p,p ≠ 0 → aj σ p = aj s p) (h0 : ∃ z,aj s 0 = some ⟨5,z⟩) :
  dK (Option.map V.eu (match resolve σ 11 (V.agg cs) with | some d=>(match (match resolve σ 11 mv with | some d=>some [d,V.bool true] | none=>none) with | some ds=>some (d :: ds) | none=>none) | none=>none)) (bM (V.eu [KP c,bf M,V.bool true])):=by
 subst he
 have e1 : resolve σ 11 (V.agg c.cells) = some (KP c):=by
  show (c.cells.mapM (resolve σ (9 + 1))).map _ = _
  rw [qo hst];rfl
 have e2 : ∃ u,resolve σ 11 mv = some u ∧ bM (bf M) u:=by
  rcases hL with ⟨rfl,rfl⟩ | ⟨p,rfl,hp⟩
  ·exact ⟨.ak,rfl,of_eq_true (fK 11)⟩
  ·have hp0 : p ≠ 0:=fun e=>by
    obtain ⟨z,hz⟩:=h0
    rw [e,hz] at hp;cases hp
   have:=FQ (n:=9) ((hf p hp0).trans hp) (vZ M)
   rw [List.length_map] at this
   exact ⟨_,this,aC _⟩
 obtain ⟨u,e2,e3⟩:=e2
 rw [e1,e2]
 have k : ∀ x y z : V,bM y z → bM (V.eu [x,y,V.bool true]) (V.eu [x,z,V.bool true]):=fun x y z h=>by
  simp only [bM,lW]
  exact ⟨_,rfl,_,_,rfl,aC _,_,_,rfl,h,_,_,rfl,rfl,rfl⟩
 exact k _ _ _ e3
theorem GL (A : List Pa) (a : Pa) : qM (A ++ [a]) = lQ (qM A) a.share:=by
 unfold qM DL
 rw [List.take_length,List.take_length,List.foldl_append];rfl
def jk : Fn:=⟨2,167,[.cell 4 5 true,.tmp 5,.tmp 6],(.seq (rf 1 [oN 4 (.alloc Lh),oK 5 1 mN,oK 6 1 mF]) (.seq (sr [oW 18 1,oN 19 (bc .lss 18 1),oW 20 19,oG 20 false 21 (oV 1),oG 20 false 22 (bc .geq 21 10),oN 23 (.pick (.t 20) (.c (.bool true)) (.t 22))] (cd 23 (sr [oN 24 (.build Lh []),oS (.store 5 (.t 4) (.t 24)),oN 5 mN,oN 6 mF] .ret) .skip)) (.seq (rf 1 [oK 25 1 (oV 1),oK 26 1 (.call 39 [(cI 0)]),oK 27 1 (.build Lh [(0,1,(.t 25)),(1,3,(.t 26))]),oN 7 (.alloc Lh),⟨none,none,1,.store 5 (.t 7) (.t 27),[]⟩]) (.seq (rf 1 [oN 28 (.dS 3 jK 0 []),oK 8 1 (oV 28)]) (.seq (sr [oW 29 0,oN 30 (ln 29),oN 31 (.bY (cI 0))] (.block 0 (.loop (sr [oN 32 (bt .lss 31 30)] (.seq (cd 32 .skip (.exit 0)) (.seq (.block 1 (.seq (rf 1 [oK 33 1 (ix 11 29 31),oK 34 1 (lT 11 33),oN 10 (.alloc Aq),⟨none,none,1,.store 11 (.t 10) (.t 34),[]⟩]) (.seq (sr [oN 35 (fd 0 10),oN 36 (lF 1 35),oW 37 1,oN 38 (bt .eql 36 37)] (cd 38 (rt 2 [oK 39 2 (fd 4 7),oA 40 2 (lF 1 39) [0],oK 41 2 (fd 1 10),oA 42 2 (lF 1 41) [2],oK 43 2 (fd 5 10),oA 44 2 (lT 3 43) [4],oA 45 2 (cl 161 [44]) [5],oK 46 2 (fd 8 10),oA 47 2 (lT 3 46) [7],oA 48 2 (cl 161 [47]) [8,6],oA 49 2 (.build QB [(0,1,(.t 42)),(4,3,(.t 45)),(7,3,(.t 48))]) [3,6,9],oA 50 0 (.dS 10 QB 1 [(0,(.t 49))]) [10],oA 51 1 (.app 10 176 (.t 40) (.t 50)) [1,11,9],oA 52 2 (fd 4 7) [0,1,2,3,4,5,6,7,8,9,10,11,12],⟨none,none,2,.store 1 (.t 52) (.t 51),[13,12,12,0,1,2,3,4,5,6,7,8,9,10,11,12]⟩]) (sr [oN 53 (fd 1 10),oN 54 (lF 1 53),oW 55 1,oN 56 (bt .eql 54 55)] (cd 56 (rf 2 [oK 57 2 (fd 4 7),oK 58 2 (lF 1 57),oK 59 2 (fd 0 10),oK 60 2 (lF 1 59),oK 61 2 (fd 5 10),oK 62 2 (lT 3 61),oK 63 2 (fd 8 10),oK 64 2 (lT 3 63),oK 65 2 (.build QB [(0,1,(.t 60)),(4,3,(.t 62)),(7,3,(.t 64))]),oN 66 (.dS 10 QB 1 [(0,(.t 65))]),oK 67 1 (.app 10 176 (.t 58) (.t 66)),oK 68 2 (fd 4 7),⟨none,none,2,.store 1 (.t 68) (.t 67),[]⟩]) (.exit 1))))) (.seq (rf 2 [oK 69 2 (oV 8),oK 70 2 (fd 2 10),oK 71 2 (lT 3 70),oN 72 (.dS 3 jK 1 [(0,(.t 71))]),oK 73 1 (.app 3 56 (.t 69) (.t 72)),oK 8 2 (oV 73)]) (rg [oN 74 (fd 1 7),oN 75 (lT 3 74),oN 76 (fd 2 10),oN 77 (lT 3 76),oN 78 (cl 131 [75,77]),oN 79 (fd 1 7),oS (.store 3 (.t 79) (.t 78))]))))) (rg [oN 80 (bc .add 31 1),oW 31 80]))))))) (.seq (sr [oN 81 (fd 4 7),oN 82 (lF 1 81),oN 83 (ln 82),oN 84 (.bY (cI 0))] (.block 2 (.loop (sr [oN 85 (bt .lss 84 83)] (.seq (cd 85 .skip (.exit 2)) (.seq (.block 3 (sr [oW 86 84,oW 11 86] (rt 0 [oN 87 (fd 4 7),oA 88 0 (lF 1 87) [0],oW 89 11,oW 90 8,oW 91 11,oA 92 0 (ix 3 90 91) [3,4],oA 93 0 (lT 3 92) [5],oN 94 (fd 1 7),oA 95 0 (lT 3 94) [7],oA 96 0 (cl 156 [93,95]) [6,8],oA 97 0 (ix 10 88 89) [1,2,0,1,2,3,4,5,6,7,8,9],oA 98 0 (fd 1 97) [10,0,1,2,3,4,5,6,7,8,9],⟨none,none,0,.store 3 (.t 98) (.t 96),[11,9,9,0,1,2,3,4,5,6,7,8,9]⟩]))) (rg [oN 99 (bc .add 84 1),oW 84 99]))))))) (.seq (sr [oN 100 (lT 5 7),oN 101 (cl 185 [100]),oN 102 (nt 101)] (cd 102 (sr [oN 103 (.build Lh []),oS (.store 5 (.t 4) (.t 103)),oN 5 mN,oN 6 mF] .ret) .skip)) (.seq (rf 1 [oN 104 (.dS 11 Aq 0 []),oK 12 1 (oV 104)]) (.seq (sr [oN 105 (fd 4 7),oN 106 (lF 1 105),oN 107 (ln 106),oN 108 (.bY (cI 0))] (.block 4 (.loop (sr [oN 109 (bt .lss 108 107)] (.seq (cd 109 .skip (.exit 4)) (.seq (.block 5 (.seq (rf 1 [oK 110 1 (oV 108),oK 111 1 (ix 10 106 108),oK 112 1 (lT 10 111),oN 14 (.alloc QB),oK 13 1 (oV 110),⟨none,none,1,.store 10 (.t 14) (.t 112),[]⟩]) (sr [oW 113 13,oN 114 (bc .add 113 1),oW 15 114] (.block 6 (.loop (.seq (sr [oW 115 15,oN 116 (fd 4 7),oN 117 (lF 1 116),oN 118 (ln 117),oN 119 (bt .lss 115 118)] (cd 119 .skip (.exit 6))) (.seq (.block 7 (.seq (rf 1 [oK 122 1 (fd 4 7),oK 123 1 (lF 1 122),oK 124 1 (oV 15),oK 125 1 (ix 10 123 124),oK 126 1 (lT 10 125),oN 16 (.alloc QB),⟨none,none,1,.store 10 (.t 16) (.t 126),[]⟩]) (.seq (rt 1 [oK 127 1 (fd 0 14),oA 128 1 (lF 1 127) [0],oK 129 1 (fd 0 16),oA 130 1 (lF 1 129) [2],oK 131 1 (oV 8),oK 132 1 (oV 13),oA 133 1 (ix 3 131 132) [4,5],oA 134 1 (lT 3 133) [6],oK 135 1 (oV 8),oK 136 1 (oV 15),oA 137 1 (ix 3 135 136) [8,9],oA 138 1 (lT 3 137) [10],oA 139 1 (cl 157 [134,138]) [7,11],oK 140 1 (fd 1 7),oA 141 1 (lT 3 140) [13],oA 142 1 (cl 156 [139,141]) [12,14,12],oA 143 1 (.build Aq [(0,1,(.t 128)),(1,1,(.t 130)),(2,3,(.t 142))]) [1,3,15],oN 17 (.alloc Aq),⟨none,none,1,.store 11 (.t 17) (.t 143),[17,16,15,0,1,2,3,4,5,6,7,8,9,10,11,12,13,14,15,16,17]⟩]) (sr [oN 144 (fd 4 14),oN 145 (lT 3 144),oN 146 (fd 4 16),oN 147 (lT 3 146),oN 148 (cl 159 [145,147]),oN 149 (fd 5 17),oS (.store 3 (.t 149) (.t 148))] (sr [oN 150 (fd 7 14),oN 151 (lT 3 150),oN 152 (fd 7 16),oN 153 (lT 3 152),oN 154 (cl 159 [151,153]),oN 155 (fd 8 17),oS (.store 3 (.t 155) (.t 154))] (.seq (sr [oN 156 (lT 11 17),oN 157 (cl 84 [156]),oN 158 (nt 157)] (cd 158 (sr [oN 159 (.build Lh []),oS (.store 5 (.t 4) (.t 159)),oN 5 mN,oN 6 mF] .ret) .skip)) (rf 2 [oK 160 2 (oV 12),oK 161 2 (lT 11 17),oN 162 (.dS 11 Aq 1 [(0,(.t 161))]),oK 163 1 (.app 11 184 (.t 160) (.t 162)),oK 12 2 (oV 163)]))))))) (rg [oW 120 15,oN 121 (bc .add 120 1),oW 15 121])))))))) (rg [oN 164 (bc .add 108 1),oW 108 164]))))))) (sr [oN 165 (lT 5 7),oW 166 12,oS (.store 5 (.t 4) (.t 165)),oW 5 166,oN 6 mT] .ret))))))))))⟩
structure qN (T : Tb) : Prop where
 hT : T 182 = some jk
 bI : fF T
 vG : nH T
 bP : eP T
 o8 : lJ T
 fO : jQ T
 uw : tH T
 zI : tC T
 rU : kL T
theorem OX {T : Tb} (h : qN T) {S : List Lk} {v : Int} (hb : bg S = true) (hw : BU Lk.wf S) : PF T 182 [bf S,iv v] (.eu [KP (WH S v),bf (UJ S v),.bool (KQ S v)]):=by
 have hl : S.length ≤ 100:=FT hb
 have c0:=EF h.bI (n:=0)
 by_cases hv : 1 ≤ v ∧ v ≤ 9
 ·have hv1 : ¬ v < 1:=by omega
  have hv2 : ¬ v ≥ 10:=by omega
  refine aK (fun x d=>(x == 39 && d == 999)) h.hT ?_
  simp only [jk,Lz]
  refine ew ?_
  refine sJ @hv1 @hv2 ?_
  refine ah c0 ?_
  refine ew ?_
  refine aO (fun x d=>(x == 39 && d == 999)) (α:=Nat × Store × V × V) (fun q=>⟨bF [bf S,iv v,.any,.any,.ptr 0 0 0,.ak,.bool false,.ptr 1 0 0,q.2.2.2,.any,.any,.any,.any,.any,.any,.any,.any,.any,.any,.any,.any,.any,.any,.any,.any,.any,.any,.any,.any,bf S,iv (S.length : Nat),iv (q.1 : Nat)],q.2.1,0,0,[],[]⟩) (fun q=>q.1 ≤ S.length ∧ ElI q.2.1 v (qM (ER S v q.1)) q.2.2.1 q.2.2.2 ((ER S v q.1).map paZ) ((ER S v q.1).map Pa.wc)) (fun q=>S.length - q.1) rfl (0,[some ⟨5,[[iv 0,.bool false,.ak,.ak,.ak]]⟩,some ⟨5,[[iv v,.bool (fH 0).neg,ints (fH 0).mag,ints (fH 0).den,.ak]]⟩,none],.ak,.ak) ?_ ?_ ?_
  ·exact ⟨Nat.zero_le _,by dsimp only;rw [alP];exact ⟨rfl,rfl,.inl ⟨rfl,rfl⟩,.inl ⟨rfl,rfl⟩⟩⟩
  ·(refine aH ?_;exact uT)
  ·rintro ⟨i,s,pv,wv⟩ ⟨hi,I⟩
   dsimp only at hi I
   have hX:=RJ (ER S v i)
   have hAl:=Yz S v i
   have I0:=I.a0
   have I1:=I.a1
   have hsl:=I.lt
   by_cases hc : (i : Int) < (S.length : Nat)
   ·have hil : i < S.length:=by omega
    have hx : (S.map Lk.cells).getD i [] = (S.getD i default).cells:=mg hil
    have es:=alQ S v hil
    have hlk:=rM hb (getD_mem hil)
    obtain ⟨kw,kx,ky,kp⟩:=LU hlk
    generalize S.getD i default = l at *
    unfold UF at es
    by_cases ha : l.a = v
    ·have f0 : (l.a = v) = True:=eq_true ha
     rw [if_pos ha] at es
     have n1:=Ur h.zI (yg kx)
     have n2:=Ur h.zI (yg ky)
     have ca:=yH h.bP hX (yg kw)
     generalize hXe : qM (ER S v i) = X at *
     generalize ER S v i = A at *
     rcases I.p with ⟨hp,rfl⟩ | ⟨p,rfl,hp,hp3,hpl⟩
     ·have hA : A = []:=List.map_eq_nil_iff.1 hp
      subst hA
      rcases I.w with ⟨_,rfl⟩ | ⟨w,_,hw,_,hwl⟩
      case inr=>exact absurd hwl (by simp)
      refine vW @hc @hx @f0 (And.intro I0 I1) @aB @aS ?_
      refine ah n1 ?_
      refine vW @hc @hx @f0 (And.intro I0 I1) @aB @aS ?_
      refine ah n2 ?_
      refine vW @hc @hx @f0 (And.intro I0 I1) @aB @aS ?_
      refine ⟨by omega,by
       have hn0 : 2 ≤ List.length s:=hsl
       generalize List.length s = m at hn0 ⊢
       revert m
       refine qH _ _ 2 (fun n hn=>?_) (fun n hn=>?_) ?_
       ·simp only [sh];split <;> omega
       ·simp [SE,sh];try omega
       ·unfold iW;decide +kernel,?_⟩
      refine ⟨by omega,?_⟩
      refine ah ca ?_
      refine vW @hc @hx @f0 (And.intro I0 I1) @aB @aS ?_
      refine ⟨(i + 1,?s1,.bC (s.length + 1 + 1) 0 1,.bC (s.length + 4) 0 1),?m1,⟨?a1,?b1⟩,?e1⟩
      case e1=>dsimp only;(refine aH ?_;exact uT)
      case m1=>dsimp only;omega
      case a1=>dsimp only;omega
      case b1 =>
       dsimp only
       rw [es,GL,hXe]
       refine ⟨(show aj _ 0 = aj s 0 by exact rZ).trans I0,?u1,.inr ⟨s.length + 1 + 1,?p1,?q1,by omega,by simp⟩,.inr ⟨s.length + 4,?r1,?t1,by omega,by simp⟩⟩
       case u1=>simp (disch:=first | omega | (simp only [List.length_append,List.length_set,List.length_cons,List.length_nil];omega)) only [DK]
       case p1=>simp
       case r1=>simp
       case q1=>simp (disch:=first | omega | (simp only [List.length_append,List.length_set,List.length_cons,List.length_nil];omega)) only [DK];simp [paZ]
       case t1=>simp (disch:=first | omega | (simp only [List.length_append,List.length_set,List.length_cons,List.length_nil];omega)) only [DK];simp [Pa.wc]

     ·rcases I.w with ⟨hwn,_⟩ | ⟨w,rfl,hw,hw3,hwl⟩
      case inl=>have:=List.map_eq_nil_iff.1 hwn;subst this;exact absurd hpl (by simp)
      have hpq:=aJ hp
      have hwq:=aJ hw
      have hpw : p ≠ w:=fun e=>by rw [e,hw] at hp;cases hp
      simp only [List.length_map] at hpl hwl ⊢
      refine ew7 @hc @hx @f0 (And.intro I0 I1) @aB @aS (And.intro hp hw) ?_
      refine ah n1 ?_
      refine ew7 @hc @hx @f0 (And.intro I0 I1) @aB @aS (And.intro hp hw) ?_
      refine ah n2 ?_
      refine ew7 @hc @hx @f0 (And.intro I0 I1) @aB @aS (And.intro hp hw) ?_
      refine ⟨by omega,GK [1,p,s.length,s.length + 1,s.length + 1 + 1] [⟨14,[0],[0],false⟩,⟨13,[0],[],false⟩,⟨12,[1,3],[1,4],false⟩,⟨11,[],[3],false⟩,⟨10,[],[],false⟩,⟨9,[],[],false⟩,⟨8,[2],[],false⟩,⟨7,[2],[],false⟩,⟨6,[],[],false⟩,⟨5,[2],[],false⟩,⟨4,[2],[],false⟩,⟨3,[2],[],false⟩,⟨2,[2],[],false⟩,⟨1,[0],[],false⟩,⟨0,[0],[],false⟩] ?_ ?_ rfl ?_,?_⟩
      ·generalize List.length s = m at hsl hpq ⊢
       simp;omega
      ·intro o ho;simp at ho;omega
      ·show iW 5 _ _
       unfold iW;rfl
      refine ⟨by omega,?_⟩
      refine ah ca ?_
      refine ew7 @hc @hx @f0 (And.intro I0 I1) @aB @aS (And.intro hp hw) ?_
      refine ⟨(i + 1,?s2,.bC (s.length + 1 + 1) 0 (A.length + 1),.bC (s.length + 4) 0 (A.length + 1)),?m2,⟨?a2,?b2⟩,?e2⟩
      case e2=>dsimp only;(refine aH ?_;exact uT)
      case m2=>dsimp only;omega
      case a2=>dsimp only;omega
      case b2 =>
       dsimp only
       rw [es,GL,hXe]
       refine ⟨(show aj _ 0 = aj s 0 by exact rZ).trans I0,?u2,.inr ⟨s.length + 1 + 1,?p2,?q2,by omega,by simp⟩,.inr ⟨s.length + 4,?r2,?t2,by omega,by simp⟩⟩
       case u2=>simp (disch:=first | omega | (simp only [List.length_append,List.length_set,List.length_cons,List.length_nil];omega)) only [DK]
       case p2=>simp
       case r2=>simp
       case q2=>simp (disch:=first | omega | (simp only [List.length_append,List.length_set,List.length_cons,List.length_nil];omega)) only [DK];simp [paZ]
       case t2=>simp (disch:=first | omega | (simp only [List.length_append,List.length_set,List.length_cons,List.length_nil];omega)) only [DK];simp [Pa.wc]

    ·rw [if_neg ha] at es
     by_cases hb2 : l.b = v
     ·have f0 : (l.a = v) = False:=eq_false ha
      have f1 : (l.b = v) = True:=eq_true hb2
      rw [if_pos hb2] at es
      have ca:=yH h.bP hX (yg kw)
      generalize hXe : qM (ER S v i) = X at *
      generalize ER S v i = A at *
      rcases I.p with ⟨hp,rfl⟩ | ⟨p,rfl,hp,hp3,hpl⟩
      ·have hA : A = []:=List.map_eq_nil_iff.1 hp
       subst hA
       rcases I.w with ⟨_,rfl⟩ | ⟨w,_,hw,_,hwl⟩
       case inr=>exact absurd hwl (by simp)
       refine ew7 @hc @hx @f0 @f1 (And.intro I0 I1) @aB @aS ?_
       refine ⟨by omega,?_⟩
       refine ⟨by omega,?_⟩
       refine ah ca ?_
       refine ew7 @hc @hx @f0 @f1 (And.intro I0 I1) @aB @aS ?_
       refine ⟨(i + 1,?s3,.bC (s.length + 1 + 1) 0 1,.bC (s.length + 4) 0 1),?m3,⟨?a3,?b3⟩,?e3⟩
       case e3=>dsimp only;(refine aH ?_;exact uT)
       case m3=>dsimp only;omega
       case a3=>dsimp only;omega
       case b3 =>
        dsimp only
        rw [es,GL,hXe]
        refine ⟨(show aj _ 0 = aj s 0 by exact rZ).trans I0,?u3,.inr ⟨s.length + 1 + 1,?p3,?q3,by omega,by simp⟩,.inr ⟨s.length + 4,?r3,?t3,by omega,by simp⟩⟩
        case u3=>simp (disch:=first | omega | (simp only [List.length_append,List.length_set,List.length_cons,List.length_nil];omega)) only [DK]
        case p3=>simp
        case r3=>simp
        case q3=>simp (disch:=first | omega | (simp only [List.length_append,List.length_set,List.length_cons,List.length_nil];omega)) only [DK];simp [paZ]
        case t3=>simp (disch:=first | omega | (simp only [List.length_append,List.length_set,List.length_cons,List.length_nil];omega)) only [DK];simp [Pa.wc]

      ·rcases I.w with ⟨hwn,_⟩ | ⟨w,rfl,hw,hw3,hwl⟩
       case inl=>have:=List.map_eq_nil_iff.1 hwn;subst this;exact absurd hpl (by simp)
       have hpq:=aJ hp
       have hwq:=aJ hw
       have hpw : p ≠ w:=fun e=>by rw [e,hw] at hp;cases hp
       simp only [List.length_map] at hpl hwl ⊢
       refine ew8 @hc @hx @f0 @f1 (And.intro I0 I1) @aB @aS (And.intro hp hw) ?_
       refine ⟨by omega,?_⟩
       refine ⟨by omega,?_⟩
       refine ah ca ?_
       refine ew8 @hc @hx @f0 @f1 (And.intro I0 I1) @aB @aS (And.intro hp hw) ?_
       refine ⟨(i + 1,?s4,.bC (s.length + 1 + 1) 0 (A.length + 1),.bC (s.length + 4) 0 (A.length + 1)),?m4,⟨?a4,?b4⟩,?e4⟩
       case e4=>dsimp only;(refine aH ?_;exact uT)
       case m4=>dsimp only;omega
       case a4=>dsimp only;omega
       case b4 =>
        dsimp only
        rw [es,GL,hXe]
        refine ⟨(show aj _ 0 = aj s 0 by exact rZ).trans I0,?u4,.inr ⟨s.length + 1 + 1,?p4,?q4,by omega,by simp⟩,.inr ⟨s.length + 4,?r4,?t4,by omega,by simp⟩⟩
        case u4=>simp (disch:=first | omega | (simp only [List.length_append,List.length_set,List.length_cons,List.length_nil];omega)) only [DK]
        case p4=>simp
        case r4=>simp
        case q4=>simp (disch:=first | omega | (simp only [List.length_append,List.length_set,List.length_cons,List.length_nil];omega)) only [DK];simp [paZ]
        case t4=>simp (disch:=first | omega | (simp only [List.length_append,List.length_set,List.length_cons,List.length_nil];omega)) only [DK];simp [Pa.wc]

     ·have f0 : (l.a = v) = False:=eq_false ha
      have f1 : (l.b = v) = False:=eq_false hb2
      rw [if_neg hb2] at es
      rw [List.append_nil] at es
      refine xX @hc @hx @f0 @f1 ?_
      refine ⟨(i + 1,?s5,pv,wv),?m5,⟨?a5,?b5⟩,?e5⟩
      case e5=>dsimp only;(refine aH ?_;exact uT)
      case m5=>dsimp only;omega
      case a5=>dsimp only;omega
      case b5 =>
       dsimp only
       rw [es]
       exact ⟨(show aj _ 0 = aj s 0 by exact rZ).trans I0,(show aj _ 1 = aj s 1 by exact rZ).trans I1,I.p.fr fun q h1 h2=>by simp (disch:=first | omega | (simp only [List.length_append,List.length_set,List.length_cons,List.length_nil];omega)) only [DK],I.w.fr fun q h1 h2=>by simp (disch:=first | omega | (simp only [List.length_append,List.length_set,List.length_cons,List.length_nil];omega)) only [DK]⟩
   ·have hin : i = S.length:=by omega
    subst hin
    have hAe : ER S v S.length = pK S v:=rfl
    rw [hAe] at hX hAl I
    have hok : ∀ a ∈ pK S v,a.share.ok = true ∧ a.dx.cn ∧ a.dy.cn ∧ 0 ≤ a.node ∧ a.node ≤ 9:=fun a ha=>aaF hb ha
    have hB : KQ S v = (kV (fP v (pK S v)) && (FU (pK S v)).all ji):=by
     unfold KQ inB
     rw [hb,decide_eq_true hv.1,decide_eq_true hv.2];rfl
    have hC : (fP v (pK S v)) = ⟨v,qM (pK S v),(pK S v).map (rQ (qM (pK S v)))⟩:=rfl
    have hT:=@afW S v
    have hF:=@TF S v
    clear hw
    generalize pK S v = A at *
    generalize hXe : qM A = X at hX I hC
    have I1:=I.a1
    rcases I.p with ⟨hp,rfl⟩ | ⟨p,rfl,hp,hp3,hpl⟩
    ·have hA0 : A = []:=List.map_eq_nil_iff.1 hp
     subst hA0
     have hnc : kV (fP v []) = false:=by
      unfold kV
      rw [hC];simp
     rw [hnc] at hB
     have hB : KQ S v = false:=hB
     rw [(hF hB).1,(hF hB).2,hB]
     have wcd : (fP v []).wf:=by
      rw [hC]
      exact ⟨dI hX,by simp,fun x hx=>by cases hx⟩
     have cv:=yh h.rU (c:=fP v []) wcd
     rw [hnc,hC] at cv
     have I0:=I.a0
     refine sJ @hc @I1 ?_
     refine aO (fun x d=>(x == 39 && d == 999)) (α:=Store) (fun s=>⟨bF [.any,iv v,.any,.any,.ptr 0 0 0,.ak,.bool false,.ptr 1 0 0,.any,.any,.any,.any,.any,.any,.any,.any,.any,.any,.any,.any,.any,.any,.any,.any,.any,.any,.any,.any,.any,.any,.any,.any,.any,.any,.any,.any,.any,.any,.any,.any,.any,.any,.any,.any,.any,.any,.any,.any,.any,.any,.any,.any,.any,.any,.any,.any,.any,.any,.any,.any,.any,.any,.any,.any,.any,.any,.any,.any,.any,.any,.any,.any,.any,.any,.any,.any,.any,.any,.any,.any,.any,.any,.any,iv 0,iv 0],s,0,0,[],[]⟩) (fun s=>aj s 0 = some ⟨5,[[iv 0,.bool false,.ak,.ak,.ak]]⟩ ∧ aj s 1 = some ⟨5,[[iv v,.bool X.neg,ints X.mag,ints X.den,.ak]]⟩) (fun s=>0) rfl s ?_ ?_ ?_
     ·exact ⟨I0,I1⟩
     ·(refine aH ?_;exact uT)
     ·clear I I0 I1
      rintro s ⟨I0,I1⟩
      have hz : ¬ (0 : Int) < 0:=by decide
      have h0q:=aJ I0
      have cv2 : PF T 185 [.agg [iv v,.bool X.neg,ints X.mag,ints X.den,.ak]] (.bool false):=by
       refine .Y5 (args:=[KP ⟨v,X,[]⟩]) (r:=.bool false) ?_ cv (aC _)
       have k1:=aC (ints X.mag)
       have k2:=aC (ints X.den)
       simp only [lW,bM] at k1 k2 ⊢
       exact ⟨_,_,rfl,⟨_,rfl,_,_,rfl,rfl,_,_,rfl,rfl,_,_,rfl,k1,_,_,rfl,k2,_,_,rfl,.inl ⟨rfl,.inl rfl⟩,rfl⟩,rfl⟩
      refine sJ @hz @I1 ?_
      refine ah cv2 ?_
      refine sJ @I0 @I1 ?_
      exact Aj (σ:=[])
    ·rcases I.w with ⟨hwn,_⟩ | ⟨w,rfl,hw,hw3,hwl⟩
     case inl=>have:=List.map_eq_nil_iff.1 hwn;subst this;exact absurd hpl (by simp)
     simp only [List.length_map] at hpl hwl I1 ⊢
     have hpq:=aJ hp
     have hwq:=aJ hw
     refine Cb @hc @I1 @hp ?_
     refine aO (fun x d=>(x == 39 && d == 999)) (α:=Nat × Store) (fun q=>⟨bF [.any,iv v,.any,.any,.ptr 0 0 0,.ak,.bool false,.ptr 1 0 0,.bC w 0 A.length,.any,.any,.any,.any,.any,.any,.any,.any,.any,.any,.any,.any,.any,.any,.any,.any,.any,.any,.any,.any,.any,.any,.any,.any,.any,.any,.any,.any,.any,.any,.any,.any,.any,.any,.any,.any,.any,.any,.any,.any,.any,.any,.any,.any,.any,.any,.any,.any,.any,.any,.any,.any,.any,.any,.any,.any,.any,.any,.any,.any,.any,.any,.any,.any,.any,.any,.any,.any,.any,.any,.any,.any,.any,.any,iv (A.length : Nat),iv (q.1 : Nat)],q.2,0,0,[],[]⟩) (fun q=>(q.1 ≤ A.length ∧ aj q.2 0 = some ⟨5,[[iv 0,.bool false,.ak,.ak,.ak]]⟩ ∧ aj q.2 w = some ⟨3,A.map Pa.wc⟩) ∧ (q.1 < A.length → aj q.2 1 = some ⟨5,[[iv v,.bool X.neg,ints X.mag,ints X.den,.bC p 0 A.length]]⟩ ∧ aj q.2 p = some ⟨10,KF (A.map fun a=>(rQ X a).cells) (A.map paZ) q.1⟩) ∧ (q.1 = A.length → aj q.2 1 = some ⟨5,[(fP v A).cells]⟩)) (fun q=>A.length - q.1) rfl (0,s) ?_ ?_ ?_
     ·exact ⟨⟨Nat.zero_le _,I.a0,hw⟩,fun _=>⟨I1,by dsimp only;rw [alX];exact hp⟩,fun e=>by dsimp only at e;omega⟩
     ·(refine aH ?_;exact uT)
     ·clear I I1 I0 hp hw hpq hwq
      rintro ⟨j,s⟩ ⟨⟨hj,I0,hw⟩,hM,hE⟩
      dsimp only at hj I0 hw hM hE
      have hwq:=aJ hw
      by_cases hc2 : (j : Int) < (A.length : Nat)
      ·have hjl : j < A.length:=by omega
       obtain ⟨I1,hp⟩:=hM hjl
       have hpq:=aJ hp
       have hpw : p ≠ w:=fun e=>by rw [e,hw] at hp;cases hp
       have hpA:=hok _ (getD_mem hjl)
       have hg : (A.map fun a=>(rQ X a).cells).getD j [] = (rQ X (A.getD j default)).cells:=mg hjl
       have hrow : (KF (A.map fun a=>(rQ X a).cells) (A.map paZ) j)[j]? = some (paZ (A.getD j default)):=by
        unfold KF
        rw [List.getElem?_append_right (by simp;omega)]
        simp only [List.length_take,List.length_map,List.getElem?_drop]
        rw [show j + (j - min j A.length) = j by omega,mg? hjl]
       have hml : (KF (A.map fun a=>(rQ X a).cells) (A.map paZ) j).length = A.length:=by rw [af7 (by simp)];simp
       have hst:=af8 (a:=A.map fun a=>(rQ X a).cells) (b:=A.map paZ) (j:=j) (d:=[]) (x:=(rQ X (A.getD j default)).cells) (by simp) (by simpa using hjl) hg
       have hgw : (A.map Pa.wc)[j]? = some (A.getD j default).wc:=mg? hjl
       have cd:=Uo h.o8 (r:=(A.getD j default).share) (s:=X) (yg hpA.1) hX
       generalize A.getD j default = a at *
       generalize KF (A.map fun a=>(rQ X a).cells) (A.map paZ) j = M at *
       have hgw : (A.map Pa.wc)[j]? = some [.bool a.share.neg,ints a.share.mag,ints a.share.den]:=hgw
       have hrow : M[j]? = some [iv a.node,.bool false,.ak,.ak,.bool a.dx.neg,ints a.dx.mag,ints a.dx.den,.bool a.dy.neg,ints a.dy.mag,ints a.dy.den]:=hrow
       refine ew7 @hc2 @I1 @hp @hw (And.intro hrow hml) @hgw (And.intro aB aS) ?_
       refine ah cd ?_
       refine ew7 @hc2 @I1 @hp @hw (And.intro hrow hml) @hgw (And.intro aB aS) ?_
       refine ⟨GK [1,w,p] [⟨12,[2],[2],false⟩,⟨11,[2],[],false⟩,⟨10,[2],[],false⟩,⟨9,[],[],false⟩,⟨8,[0],[],false⟩,⟨7,[0],[],false⟩,⟨6,[1],[],false⟩,⟨5,[1],[],false⟩,⟨4,[],[],false⟩,⟨3,[],[],false⟩,⟨2,[],[],false⟩,⟨1,[0],[],false⟩,⟨0,[0],[],false⟩] ?_ ?_ rfl ?_,?_⟩
       ·have : 1 ≠ w ∧ 1 ≠ p ∧ w ≠ p:=by omega
        simp [this]
       ·intro o ho;simp at ho;omega
       ·show iW 3 _ _
        unfold iW;rfl
       by_cases hj1 : j + 1 < A.length
       ·refine ⟨(j + 1,?s6),?m6,⟨⟨?a6,?b6,?c6⟩,fun _=>⟨?d6,?f6⟩,fun e=>absurd e (by dsimp only;omega)⟩,?e6⟩
        case e6=>dsimp only;(refine aH ?_;exact uT)
        case m6=>dsimp only;omega
        case a6=>dsimp only;omega
        case b6=>exact (show aj _ 0 = aj s 0 by exact rZ).trans I0
        case c6=>exact (show aj _ w = aj s w by exact rZ).trans hw
        case d6=>exact (show aj _ 1 = aj s 1 by exact rZ).trans I1
        case f6=>dsimp only;rw [← hst];exact bn hpq
       ·have hjn : j + 1 = A.length:=by omega
        have hrows : KF (A.map fun a=>(rQ X a).cells) (A.map paZ) A.length = (fP v A).ps.map Pa.cells:=by
         have:=af6 (A.map fun a=>(rQ X a).cells) (A.map paZ) (by simp) (by simp)
         rw [List.length_map] at this
         rw [this,hC,List.map_map];rfl
        rw [hjn,hrows] at hst
        obtain ⟨s2,hs2⟩ : ∃ s2,s.set p (some ⟨10,M.set j (rQ X a).cells⟩) = s2:=⟨_,rfl⟩
        have k0 : aj s2 0 = some ⟨5,[[iv 0,.bool false,.ak,.ak,.ak]]⟩:=by rw [← hs2,aI (by omega)];exact I0
        have k1 : aj s2 1 = some ⟨5,[[iv v,.bool X.neg,ints X.mag,ints X.den,.bC p 0 A.length]]⟩:=by rw [← hs2,aI (by omega)];exact I1
        have kw : aj s2 w = some ⟨3,A.map Pa.wc⟩:=by rw [← hs2,aI (by omega)];exact hw
        have kp : aj s2 p = some ⟨10,(fP v A).ps.map Pa.cells⟩:=by rw [← hs2,bn hpq,hst]
        have hl2 : s2.length = s.length:=by rw [← hs2];simp
        have hres : resolve s2 FD (.bC p 0 A.length) = some (kK (fP v A).ps):=by
         have:=FQ (n:=10) kp (Io _)
         rw [List.length_map,hC,List.length_map] at this
         rw [hC];exact this
        refine ⟨(j + 1,Bq s2 1 ⟨5,[(fP v A).cells]⟩ [0,w]),?m7,⟨⟨?a7,?b7,?c7⟩,fun e=>absurd e (by dsimp only;omega),fun _=>?d7⟩,?e7⟩
        case e7 =>
         dsimp only
         show Fg _ ⟨_,s.set p (some ⟨10,M.set j (rQ X a).cells⟩),_,_,_,_⟩
         rw [hs2]
         refine aaI (p:=1) (n:=5) (A:=[[iv v,.bool X.neg,ints X.mag,ints X.den,.bC p 0 A.length]]) k1 rfl ?_ ?_ ?_
         ·intro o ho ob hob
          rcases List.mem_cons.1 ho with rfl | ho
          ·rw [k0] at hob;cases hob;simp [dR,V.still]
          ·rw [List.mem_singleton.1 ho,kw] at hob;cases hob
           have:=Xx (A.map (·.share))
           rw [List.map_map] at this
           exact this
         ·intro i r r2 h1 h2
          cases i with
          | succ i=>cases h1
          |
           zero =>
           cases h1;cases h2
           rw [hC] at hres ⊢
           simp only [Ef,qh]
           refine ⟨_,_,rfl,rfl,_,_,rfl,rfl,_,_,rfl,aC _,_,_,rfl,aC _,_,_,rfl,.inr (.inr ⟨hres,fun q hq k s0 l0 hk=>?_⟩),rfl⟩
           have:=yQ kp (Io _) q hq
           have:=Ce hk
           simp at this
           omega
         ·refine ew ?_
          refine ⟨fZ (n:=1) ?_ (by omega),fZ (n:=1) ?_ (by omega),kS (n:=A.length) ?_ (Nat.le_refl _) rfl,by omega⟩
          ·rw [Dz (by omega),if_neg (by omega),if_pos (by simp),k0];rfl
          ·rw [Dz (by omega),if_pos rfl]
          ·rw [Dz (by omega),if_neg (by omega),if_pos (by simp),kw];simp
        case m7=>dsimp only;omega
        case a7=>dsimp only;omega
        case b7=>dsimp only;rw [Aw (by omega),if_neg (by omega),if_pos (by simp)];exact k0
        case c7=>dsimp only;rw [Aw (by omega),if_neg (by omega),if_pos (by simp)];exact kw
        case d7=>dsimp only;rw [Aw (by omega),if_pos rfl]
      ·have hjn : j = A.length:=by omega
       have I1:=hE hjn
       subst hjn
       have wcd : (fP v A).wf:=by
        rw [hC]
        exact ⟨dI hX,by simp;omega,fun x hx=>by
         obtain ⟨a,ha,rfl⟩:=List.mem_map.1 hx
         have:=hok a ha
         exact ⟨dI (D6 _ _),dI this.2.1,dI this.2.2.1⟩⟩
       have cv:=yh h.rU (c:=fP v A) wcd
       have hres : ∀ σ : Store,resolve σ FD (KP (fP v A)) = some (KP (fP v A)):=fun σ=>zZ (Jz [fP v A] _ (by simp))
       clear hM hE
       refine sJ @hc2 @I1 ?_
       refine ah cv ?_
       cases hcd : kV (fP v A)
       ·rw [hcd] at hB
        have hB : KQ S v = false:=hB
        rw [(hF hB).1,(hF hB).2,hB]
        refine sJ @I1 @I0 ?_
        first | exact Aj | exact Aj (σ:=[])
       ·rw [hcd,Bool.true_and] at hB
        have hcc : (fP v A).cells = [iv v,.bool X.neg,ints X.mag,ints X.den,kK (fP v A).ps]:=by rw [hC]
        rw [hcc] at I1
        have hpl2 : (fP v A).ps.length = A.length:=by rw [hC];simp
        refine sJ @I1 @hpl2 ?_
        refine aO (fun x d=>(x == 39 && d == 999)) (α:=Nat × Store × V) (fun q=>⟨bF [.any,iv v,.any,.any,.ptr 0 0 0,.ak,.bool false,.ptr 1 0 0,.bC w 0 A.length,.any,.any,.any,q.2.2,.any,.any,.any,.any,.any,.any,.any,.any,.any,.any,.any,.any,.any,.any,.any,.any,.any,.any,.any,.any,.any,.any,.any,.any,.any,.any,.any,.any,.any,.any,.any,.any,.any,.any,.any,.any,.any,.any,.any,.any,.any,.any,.any,.any,.any,.any,.any,.any,.any,.any,.any,.any,.any,.any,.any,.any,.any,.any,.any,.any,.any,.any,.any,.any,.any,.any,.any,.any,.any,.any,.any,.any,.any,.any,.any,.any,.any,.any,.any,.any,.any,.any,.any,.any,.any,.any,.any,.any,.any,.any,.any,.any,.any,kK (fP v A).ps,iv (A.length : Nat),iv (q.1 : Nat)],q.2.1,0,0,[],[]⟩) (fun q=>(q.1 ≤ A.length ∧ aj q.2.1 0 = some ⟨5,[[iv 0,.bool false,.ak,.ak,.ak]]⟩ ∧ aj q.2.1 w = some ⟨3,A.map Pa.wc⟩ ∧ aj q.2.1 1 = some ⟨5,[[iv v,.bool X.neg,ints X.mag,ints X.den,kK (fP v A).ps]]⟩) ∧ LnA q.2.1 q.2.2 (iF A q.1) ∧ ∀ x ∈ iF A q.1,ji x = true) (fun q=>A.length - q.1) rfl (0,s ++ [none],.ak) ?_ ?_ ?_
        ·exact ⟨⟨Nat.zero_le _,(aQ (by omega)).trans I0,(aQ hwq).trans hw,(aQ (by omega)).trans I1⟩,.inl ⟨rfl,rfl⟩,fun x hx=>by cases hx⟩
        ·(refine aH ?_;exact uT)
        ·clear I0 I1 hw hwq
         rintro ⟨i,s,mv⟩ ⟨⟨hi,I0,hw,I1⟩,hL,hall⟩
         dsimp only at hi I0 hw I1 hL hall
         have hwq:=aJ hw
         have Wi:=aJ I1
         have hLl:=Dy A i
         by_cases hc3 : (i : Int) < (A.length : Nat)
         ·have hil : i < A.length:=by omega
          have hg : ((fP v A).ps.map Pa.cells).getD i [] = (rQ X (A.getD i default)).cells:=by
           have:=mg (l:=(fP v A).ps) (f:=Pa.cells) (j:=i) (by rw [hpl2];exact hil)
           rw [PL hil,hXe] at this;exact this
          have hiA:=hok _ (getD_mem hil)
          refine Cb @hc3 @hg @hpl2 ?_
          obtain ⟨qc,hqc⟩ : ∃ qc,List.length s = qc:=⟨_,rfl⟩
          have hq3 : 3 ≤ qc:=by omega
          refine aO (fun x d=>(x == 39 && d == 999)) (α:=Nat × Store × V) (fun q=>⟨bF [.any,iv v,.any,.any,.ptr 0 0 0,.ak,.bool false,.ptr 1 0 0,.bC w 0 A.length,.any,.any,.any,q.2.2,iv (i : Nat),.ptr qc 0 0,iv ((i : Nat) + 1 + (q.1 : Nat)),.any,.any,.any,.any,.any,.any,.any,.any,.any,.any,.any,.any,.any,.any,.any,.any,.any,.any,.any,.any,.any,.any,.any,.any,.any,.any,.any,.any,.any,.any,.any,.any,.any,.any,.any,.any,.any,.any,.any,.any,.any,.any,.any,.any,.any,.any,.any,.any,.any,.any,.any,.any,.any,.any,.any,.any,.any,.any,.any,.any,.any,.any,.any,.any,.any,.any,.any,.any,.any,.any,.any,.any,.any,.any,.any,.any,.any,.any,.any,.any,.any,.any,.any,.any,.any,.any,.any,.any,.any,.any,kK (fP v A).ps,iv (A.length : Nat),iv (i : Nat)],q.2.1,0,0,[],[]⟩) (fun q=>(i + 1 + q.1 ≤ A.length ∧ aj q.2.1 0 = some ⟨5,[[iv 0,.bool false,.ak,.ak,.ak]]⟩ ∧ aj q.2.1 w = some ⟨3,A.map Pa.wc⟩ ∧ aj q.2.1 1 = some ⟨5,[[iv v,.bool X.neg,ints X.mag,ints X.den,kK (fP v A).ps]]⟩ ∧ aj q.2.1 qc = some ⟨10,[(rQ X (A.getD i default)).cells]⟩) ∧ LnA q.2.1 q.2.2 (iF A i ++ mW A i q.1) ∧ ∀ x ∈ iF A i ++ mW A i q.1,ji x = true) (fun q=>A.length - q.1) rfl (0,s ++ [some ⟨10,[(rQ X (A.getD i default)).cells]⟩],mv) ?_ ?_ ?_
          ·refine ⟨⟨by dsimp only;omega,(aQ (by omega)).trans I0,(aQ hwq).trans hw,(aQ Wi).trans I1,by dsimp only;rw [← hqc];exact qG _ _⟩,?_,?_⟩
           ·dsimp only
            rw [PK,List.append_nil]
            exact hL.fr fun p hp=>aQ hp
           ·dsimp only
            rw [PK,List.append_nil];exact hall
          ·subst hqc
           (refine aH ?_;exact uT)
          ·clear I0 I1 hw hwq Wi hL hall hqc
           rintro ⟨j,s,mv⟩ ⟨⟨hj,I0,hw,I1,Iq⟩,hL,hall⟩
           dsimp only at hj I0 hw I1 Iq hL hall
           have hwq:=aJ hw
           have Wi:=aJ I1
           have hqq:=aJ Iq
           have hRl:=NV A i j
           by_cases hc4 : (i : Int) + 1 + j < (A.length : Nat)
           ·have hkl : i + 1 + j < A.length:=by omega
            have hg2 : ((fP v A).ps.map Pa.cells).getD (i + 1 + j) [] = (rQ X (A.getD (i + 1 + j) default)).cells:=by
             have:=mg (l:=(fP v A).ps) (f:=Pa.cells) (j:=i + 1 + j) (by rw [hpl2];exact hkl)
             rw [PL hkl,hXe] at this;exact this
            have hkA:=hok _ (getD_mem hkl)
            have ht : ((i : Int) + 1 + (j : Nat)).toNat = i + 1 + j:=by omega
            have hwi : (A.map Pa.wc)[i]? = some (A.getD i default).wc:=mg? hil
            have hwk : (A.map Pa.wc)[i + 1 + j]? = some (A.getD (i + 1 + j) default).wc:=mg? hkl
            have es:=V6 A hkl
            have hbad:=@agc A i (i + 1 + j) (by omega) hkl
            rw [hXe] at es hbad
            obtain ⟨a,ha⟩ : ∃ a,A.getD i default = a:=⟨_,rfl⟩
            obtain ⟨b,hb'⟩ : ∃ b,A.getD (i + 1 + j) default = b:=⟨_,rfl⟩
            rw [ha] at hiA es hbad Iq hwi
            rw [hb'] at hkA es hbad hg2 hwk
            have hwi : (A.map Pa.wc)[i]? = some [.bool a.share.neg,ints a.share.mag,ints a.share.den]:=hwi
            have hwk : (A.map Pa.wc)[i + 1 + j]? = some [.bool b.share.neg,ints b.share.mag,ints b.share.den]:=hwk
            have cm:=vT h.fO (r:=a.share) (s:=b.share) (yg hiA.1) (yg hkA.1)
            have cd:=Uo h.o8 (r:=mulR a.share b.share) (s:=X) (Pj _ _) hX
            have cx:=Jd h.uw hiA.2.1 hkA.2.1
            have cy:=Jd h.uw hiA.2.2.1 hkA.2.2.1
            have hcn:=aby X a b
            have civ:=Iu h.vG (l:=IU X a b) ⟨dI hcn.1,dI hcn.2.1,dI hcn.2.2⟩
            refine ew7 @hc4 (And.intro hg2 ht) @hpl2 (And.intro I1 Iq) @hw (And.intro hwi hwk) (And.intro aB aS) ?_
            refine ah cm ?_
            refine Cb (And.intro I1 Iq) @hw (And.intro aB aS) ?_
            refine ah cd ?_
            refine Cb (And.intro I1 Iq) @hw (And.intro aB aS) ?_
            have aw0 : w ≠ qc:=fun e=>by rw [e,Iq] at hw;cases hw
            refine ⟨GK [1,w,qc,s.length,s.length + 1] [⟨18,[4],[4],false⟩,⟨17,[],[4],false⟩,⟨16,[],[],false⟩,⟨15,[],[],false⟩,⟨14,[0],[],false⟩,⟨13,[0],[],false⟩,⟨12,[],[],false⟩,⟨11,[1],[],false⟩,⟨10,[1],[],false⟩,⟨9,[],[],false⟩,⟨8,[],[],false⟩,⟨7,[1],[],false⟩,⟨6,[1],[],false⟩,⟨5,[],[],false⟩,⟨4,[],[],false⟩,⟨3,[3],[],false⟩,⟨2,[3],[],false⟩,⟨1,[2],[],false⟩,⟨0,[2],[],false⟩] ?_ ?_ rfl ?_,?_⟩
            ·clear I0 hw I1 Iq hL hall
             generalize List.length s = m at hwq Wi hqq ⊢
             have : 1 ≠ w ∧ 1 ≠ qc ∧ w ≠ qc ∧ 1 ≠ m ∧ 1 ≠ m + 1 ∧ w ≠ m ∧ w ≠ m + 1 ∧ qc ≠ m ∧ qc ≠ m + 1:=by omega
             simp [this];omega
            ·intro o ho;simp at ho;omega
            ·show iW 5 _ _
             unfold iW;rfl
            refine Cb (And.intro I1 Iq) @hw (And.intro aB aS) ?_
            refine ah cx ?_
            refine Cb (And.intro I1 Iq) @hw (And.intro aB aS) ?_
            refine ah cy ?_
            refine Cb (And.intro I1 Iq) @hw (And.intro aB aS) ?_
            refine ah civ ?_
            cases hlk : ji (IU X a b)
            ·have hB2 : KQ S v = false:=by rw [hB];exact hbad hlk
             rw [(hF hB2).1,(hF hB2).2,hB2]
             refine sJ @I0 (And.intro aB aS) ?_
             exact Aj (σ:=[])
            ·have en : iF A i ++ mW A i (j + 1) = (iF A i ++ mW A i j) ++ [IU X a b]:=by rw [es,List.append_assoc]
             have ajJ : ∀ x ∈ iF A i ++ mW A i (j + 1),ji x = true:=fun x hx=>by
              rw [en] at hx
              rcases List.mem_append.1 hx with hx | hx
              ·exact hall x hx
              ·rw [List.mem_singleton.1 hx];exact hlk
             have hMl : (iF A i ++ mW A i j).length ≤ 20000:=by
              rw [List.length_append]
              have : i * A.length ≤ 100 * 100:=Nat.mul_le_mul (by omega) (by omega)
              omega
             generalize iF A i ++ mW A i j = Ms at *
             rcases hL with ⟨rfl,rfl⟩ | ⟨m2,rfl,hm2⟩
             ·refine BZ (And.intro aB aS) ?_
              refine ⟨by omega,(j + 1,?s8,.bC (s.length + 1 + 1 + 1) 0 1),?m8,⟨⟨?a8,?b8,?c8,?d8,?f8⟩,.inr ⟨s.length + 1 + 1 + 1,?g8,?h8⟩,ajJ⟩,?e8⟩
              case e8=>dsimp only;(refine aH ?_;exact uT)
              case m8=>dsimp only;omega
              case a8=>dsimp only;omega
              case b8=>exact (show aj _ 0 = aj s 0 by exact rZ).trans I0
              case c8=>exact (show aj _ w = aj s w by exact rZ).trans hw
              case d8=>exact (show aj _ 1 = aj s 1 by exact rZ).trans I1
              case f8=>dsimp only;rw [ha];exact (show aj _ qc = aj s qc by exact rZ).trans Iq
              case g8=>dsimp only;rw [en];simp
              case h8 =>
               dsimp only
               rw [en]
               simp (disch:=first | omega | (simp only [List.length_append,List.length_set,List.length_cons,List.length_nil];omega)) only [DK]
               simp [IU,rQ]
             ·have apA:=aJ hm2
              have n1 : m2 ≠ 1:=fun e=>by rw [e,I1] at hm2;cases hm2
              have n2 : m2 ≠ w:=fun e=>by rw [e,hw] at hm2;cases hm2
              have n3 : m2 ≠ qc:=fun e=>by rw [e,Iq] at hm2;cases hm2
              have n0 : m2 ≠ 0:=fun e=>by rw [e,I0] at hm2;cases hm2
              refine sJ (And.intro aB aS) @hm2 ?_
              refine ⟨by omega,(j + 1,?s9,.bC (s.length + 1 + 1 + 1) 0 (Ms.length + 1)),?m9,⟨⟨?a9,?b9,?c9,?d9,?f9⟩,.inr ⟨s.length + 1 + 1 + 1,?g9,?h9⟩,ajJ⟩,?e9⟩
              case e9=>dsimp only;(refine aH ?_;exact uT)
              case m9=>dsimp only;omega
              case a9=>dsimp only;omega
              case b9=>exact (show aj _ 0 = aj s 0 by exact rZ).trans I0
              case c9=>exact (show aj _ w = aj s w by exact rZ).trans hw
              case d9=>exact (show aj _ 1 = aj s 1 by exact rZ).trans I1
              case f9=>dsimp only;rw [ha];exact (show aj _ qc = aj s qc by exact rZ).trans Iq
              case g9=>dsimp only;rw [en];simp
              case h9 =>
               dsimp only
               rw [en]
               simp (disch:=first | omega | (simp only [List.length_append,List.length_set,List.length_cons,List.length_nil];omega)) only [DK]
               simp [IU,rQ]
           ·have hjn : j = A.length - (i + 1):=by omega
            refine yJ @hc4 @hpl2 (And.intro I1 Iq) @hw (And.intro aB aS) ?_
            refine ⟨(i + 1,s,mv),?mA,⟨⟨?aA,I0,hw,I1⟩,?bA,?cA⟩,?eA⟩
            case eA=>dsimp only;(refine aH ?_;exact uT)
            case mA=>dsimp only;omega
            case aA=>dsimp only;omega
            case bA=>dsimp only;rw [hjn] at hL;exact hL
            case cA=>dsimp only;rw [hjn] at hall;exact hall
         ·have hin : i = A.length:=by omega
          subst hin
          have hB2 : KQ S v = true:=by rw [hB];exact List.all_eq_true.2 hall
          rw [(hT hB2).1,(hT hB2).2,hB2]
          refine sJ @hc3 (And.intro I1 I0) ?_
          refine al0 (s:=s) (c:=fP v A) hcc (Jz [fP v A] _ (by simp)) hL ?_ I1 ?_ ⟨_,I0⟩
          ·exact rZ
          ·intro q hq0
           exact rZ
 ·have hB : KQ S v = false:=by
   unfold KQ inB
   rcases Int.lt_or_le v 1 with k | k
   ·rw [decide_eq_false (show ¬ 1 ≤ v by omega)];simp
   ·rw [decide_eq_false (show ¬ v ≤ 9 by omega)];simp
  rw [(TF hB).1,(TF hB).2,hB]
  refine aK (fun x d=>(x == 39 && d == 999)) h.hT ?_
  simp only [jk,Lz]
  refine ew ?_
  by_cases hv1 : v < 1
  ·refine BZ @hv1 ?_
   exact Aj (σ:=[])
  ·have hv2 : v ≥ 10:=by omega
   refine sJ @hv1 @hv2 ?_
   exact Aj (σ:=[])
theorem Ep.aaJ {s : Store} {cs cs' ts ts' : List V} {os : List Nat} {L : List (Nat × Obj)} (E : Ep s cs ts os L) (h1 : cs' = cs) (h2 : ts' = ts) : Ep s cs' ts' os L:=by
 subst h1;subst h2;exact E
theorem KH {T : Tb} (h : nN T) {c : Cd} (hn : 0 < c.ps.length) (hz : c.total.sz ≤ 1048576 ∧ ∀ a ∈ c.ps,a.sz ≤ 1048576) (hl : c.ps.length ≤ 1048576) : PO T 183 [KP c] (KP c):=by
 refine eX (fun x d=>x == 145) h.hT ?_
 simp only [jP,Lz,St.enter,List.length_cons,List.length_nil,Nat.zero_add]
 refine ew ?_
 refine kP (Gz h.xq (r:=c.total) hz.1) (by (refine ew ?_;try with_reducible exact True.intro)) (by (refine ew ?_;try with_reducible exact True.intro)) ?_
 intro r q1 o1 G
 obtain ⟨_,rfl,hQ⟩:=G.ow.dA
 obtain ⟨x1,x2,rfl⟩:=hQ.rat
 have lx:=dX.leaf hQ rfl
 simp only [List.all_cons,List.all_nil,Bool.and_true,Bool.and_eq_true] at lx
 have gl:=G.len
 simp only [List.length_cons,List.length_nil,List.length_append] at gl
 have P0 : aj q1 0 = some ⟨5,[c.cells]⟩:=G.old 0 (by simp)
 have P1 : aj q1 1 = some ⟨5,[[iv 0,.bool false,.ak,.ak,.ak]]⟩:=G.old 1 (by simp)
 have hf : ∀ o ∈ o1,3 ≤ o:=fun o ho=>by have:=G.fresh o ho;simpa using this
 refine xX (And.intro P0 P1) @lx @gl @List.set_set.{0} ?_
 refine ⟨by unfold iW;decide +kernel,?_⟩
 refine xX (And.intro P0 P1) @lx @gl @List.set_set.{0} ?_
 have E : Ep q1 [iv c.node,.bool c.total.neg,x1,x2] [iv c.node,.bool c.total.neg,ints c.total.mag,ints c.total.den] o1 [(1,⟨5,[[iv 0,.bool false,.ak,.ak,.ak]]⟩)]:=by
  have E0 : Ep [some ⟨5,[c.cells]⟩,some ⟨5,[[iv 0,.bool false,.ak,.ak,.ak]]⟩,none] [] [] [] [(1,⟨5,[[iv 0,.bool false,.ak,.ak,.ak]]⟩)]:=⟨QZ,by simp [aj]⟩
  have:=E0.got (s1:=[some ⟨5,[c.cells]⟩,some ⟨5,[[iv 0,.bool false,.ak,.ak,.ak]]⟩,none]) (fun _ _=>rfl) (Nat.le_refl _) (D9 (q:=.i64) (n:=c.node) hQ) G.nd (by simpa using G.fresh) (by simpa using G.old)
  simpa using this
 have E1:=E.FI (p:=2) (ob:=⟨5,[[iv c.node,.bool c.total.neg,x1,x2,.ak]]⟩) (L':=[(1,⟨5,[[iv 0,.bool false,.ak,.ak,.ak]]⟩),(2,⟨5,[[iv c.node,.bool c.total.neg,x1,x2,.ak]]⟩)]) (fun hm=>by have:=hf 2 hm;omega) (by omega) (by simp)
 clear E G P0 P1 hQ hf gl
 refine aO (fun x d=>x == 145) (α:=Nat × Store × V × List (List V) × List Nat) (fun q=>⟨bF [.any,.any,.ptr 1 0 0,.ptr 2 0 0,.any,.any,.any,.any,.any,.any,.any,.any,.any,.any,kK c.ps,iv (c.ps.length : Nat),iv (q.1 : Nat)],q.2.1,0,0,[],[]⟩) (fun q=>(q.1 ≤ c.ps.length ∧ q.2.2.2.1.length = q.1 ∧ ∀ r ∈ q.2.2.2.1,r.length = 10) ∧ ∃ M,LAt 10 q.2.2.1 q.2.2.2.1 M ∧ Ep q.2.1 ([iv c.node,.bool c.total.neg,x1,x2] ++ q.2.2.2.1.flatten) ([iv c.node,.bool c.total.neg,ints c.total.mag,ints c.total.den] ++ ((c.ps.take q.1).map Pa.cells).flatten) q.2.2.2.2 ([(1,⟨5,[[iv 0,.bool false,.ak,.ak,.ak]]⟩),(2,⟨5,[[iv c.node,.bool c.total.neg,x1,x2,q.2.2.1]]⟩)] ++ M)) (fun q=>c.ps.length - q.1) rfl (0,q1.set 2 (some ⟨5,[[iv c.node,.bool c.total.neg,x1,x2,.ak]]⟩),.ak,[],o1) ?_ ?_ ?_
 ·exact ⟨⟨Nat.zero_le _,rfl,fun r hr=>by cases hr⟩,[],.inl ⟨rfl,rfl,rfl⟩,by simpa using E1⟩
 ·(refine aH ?_;exact uT)
 ·clear E1
  rintro ⟨i,s,pv,A,os⟩ ⟨⟨hi,hAl,hA10⟩,M,hLA,E⟩
  dsimp only at hi hAl hA10 hLA E
  have L1:=E.at0 (p:=1) (ob:=⟨5,[[iv 0,.bool false,.ak,.ak,.ak]]⟩) (by simp)
  have L2:=E.at0 (p:=2) (ob:=⟨5,[[iv c.node,.bool c.total.neg,x1,x2,pv]]⟩) (by simp)
  by_cases hc : (i : Int) < (c.ps.length : Nat)
  ·have hil : i < c.ps.length:=by omega
   have hx : (c.ps.map Pa.cells).getD i [] = (c.ps.getD i default).cells:=mg hil
   have hza:=hz.2 _ (getD_mem hil)
   have ets : (c.ps.take (i + 1)).map Pa.cells = (c.ps.take i).map Pa.cells ++ [(c.ps.getD i default).cells]:=by rw [take_snoc hil,List.map_append];rfl
   generalize c.ps.getD i default = a at *
   unfold Pa.sz at hza
   refine sJ @hc @hx ?_
   have hq0 : ∀ o,o < s.length → aj (s ++ [some ⟨10,[a.cells]⟩] ++ [none]) o = aj s o:=fun o ho=>by simp only [List.append_assoc];exact eY ho
   have hqe : aj (s ++ [some ⟨10,[a.cells]⟩] ++ [none]) s.length = some ⟨10,[a.cells]⟩:=(aQ (by simp)).trans (qG _ _)
   have hs1 : (s ++ [some (⟨10,[a.cells]⟩ : Obj)] ++ [none]).length = s.length + 1 + 1:=by simp
   refine kP (Gz h.xq (r:=a.share) (by omega)) (by (refine ew ?_;try with_reducible exact True.intro)) (by (refine ew ?_;try with_reducible exact True.intro)) ?_
   intro r q2 o2 G
   obtain ⟨_,rfl,hQ⟩:=G.ow.dA
   obtain ⟨y1,y2,rfl⟩:=hQ.rat
   have lq:=dX.leaf hQ rfl
   simp only [List.all_cons,List.all_nil,Bool.and_true,Bool.and_eq_true] at lq
   have E2:=E.got (s1:=s ++ [some ⟨10,[a.cells]⟩] ++ [none]) hq0 (by omega) (D9 (q:=.i64) (n:=a.node) hQ) G.nd G.fresh G.old
   have he2 : aj q2 s.length = some ⟨10,[a.cells]⟩:=(G.old s.length (by omega)).trans hqe
   have ll2 : s.length + 1 + 1 ≤ q2.length:=by have:=G.len;omega
   have fr2 : ∀ o ∈ o2,s.length + 2 ≤ o:=fun o ho=>by have:=G.fresh o ho;simp at this;omega
   have lf2:=lq
   clear G hQ lq
   refine sJ (And.intro he2 ll2) @lf2 ?_
   refine kP (Gz h.xq (r:=a.dx) (by omega)) (by (refine sJ (And.intro he2 ll2) @lf2 ?_;try with_reducible exact True.intro)) (by (refine sJ (And.intro he2 ll2) @lf2 ?_;try with_reducible exact True.intro)) ?_
   intro r q3 o3 G
   obtain ⟨_,rfl,hQ⟩:=G.ow.dA
   obtain ⟨y3,y4,rfl⟩:=hQ.rat
   have lq:=dX.leaf hQ rfl
   simp only [List.all_cons,List.all_nil,Bool.and_true,Bool.and_eq_true] at lq
   have E3:=E2.got (s1:=q2) (fun _ _=>rfl) (Nat.le_refl _) (hQ) G.nd G.fresh G.old
   have he3 : aj q3 s.length = some ⟨10,[a.cells]⟩:=(G.old s.length (by omega)).trans he2
   have ll3 : s.length + 1 + 1 ≤ q3.length:=by have:=G.len;omega
   have fr3 : ∀ o ∈ o3,s.length + 2 ≤ o:=fun o ho=>by have:=G.fresh o ho;omega
   have lf3:=And.intro lf2 lq
   clear G hQ lq
   refine sJ (And.intro he3 ll3) @lf3 ?_
   refine kP (Gz h.xq (r:=a.dy) (by omega)) (by (refine sJ (And.intro he3 ll3) @lf3 ?_;try with_reducible exact True.intro)) (by (refine sJ (And.intro he3 ll3) @lf3 ?_;try with_reducible exact True.intro)) ?_
   intro r q4 o4 G
   obtain ⟨_,rfl,hQ⟩:=G.ow.dA
   obtain ⟨y5,y6,rfl⟩:=hQ.rat
   have lq:=dX.leaf hQ rfl
   simp only [List.all_cons,List.all_nil,Bool.and_true,Bool.and_eq_true] at lq
   have E4:=E3.got (s1:=q3) (fun _ _=>rfl) (Nat.le_refl _) (hQ) G.nd G.fresh G.old
   have he4 : aj q4 s.length = some ⟨10,[a.cells]⟩:=(G.old s.length (by omega)).trans he3
   have ll4 : s.length + 1 + 1 ≤ q4.length:=by have:=G.len;omega
   have fr4 : ∀ o ∈ o4,s.length + 2 ≤ o:=fun o ho=>by have:=G.fresh o ho;omega
   have lf4:=And.intro lf3 lq
   clear G hQ lq
   refine sJ (And.intro he4 ll4) @lf4 ?_
   refine ⟨by
    have hn0 : 0 ≤ List.length s:=Nat.zero_le _
    generalize List.length s = m at hn0 ⊢
    revert m
    refine qH _ _ 0 (fun n hn=>?_) (fun n hn=>?_) ?_
    ·simp only [sh];split <;> omega
    ·simp [SE,sh];try omega
    ·unfold iW;decide +kernel,?_⟩
   have L22:=E4.at0 (p:=2) (ob:=⟨5,[[iv c.node,.bool c.total.neg,x1,x2,pv]]⟩) (by simp)
   have L11:=E4.at0 (p:=1) (ob:=⟨5,[[iv 0,.bool false,.ak,.ak,.ak]]⟩) (by simp)
   have hf5 : s.length + 1 ∉ ((os ++ o2) ++ o3) ++ o4:=by
    intro hm
    simp only [List.mem_append] at hm
    rcases hm with ((hm | hm) | hm) | hm
    ·have:=E.V7 _ hm;omega
    ·have:=fr2 _ hm;omega
    ·have:=fr3 _ hm;omega
    ·have:=fr4 _ hm;omega
   have hf2:=(E4.l (2,⟨5,[[iv c.node,.bool c.total.neg,x1,x2,pv]]⟩) (by simp)).2
   have hf1:=(E4.l (1,⟨5,[[iv 0,.bool false,.ak,.ak,.ak]]⟩) (by simp)).2
   have hs3 : 2 < s.length:=L2.2
   rcases hLA with ⟨rfl,rfl,rfl⟩ | ⟨p,rfl,rfl⟩
   ·refine xX @L22 (And.intro he4 ll4) @lf4 @List.set_set.{0} ?_
    refine ⟨by omega,(i + 1,?s1,.bC (q4.length + 1) 0 1,[] ++ [[iv a.node,.bool a.share.neg,y1,y2,.bool a.dx.neg,y3,y4,.bool a.dy.neg,y5,y6]],((os ++ o2) ++ o3) ++ o4),?m1,⟨⟨?a1,?b1,?c1⟩,[(q4.length + 1,⟨10,[] ++ [[iv a.node,.bool a.share.neg,y1,y2,.bool a.dx.neg,y3,y4,.bool a.dy.neg,y5,y6]]⟩)],.inr ⟨q4.length + 1,?d1,rfl⟩,?f1⟩,?e1⟩
    case e1=>dsimp only;(refine aH ?_;exact uT)
    case m1=>dsimp only;omega
    case a1=>dsimp only;omega
    case b1=>dsimp only;simp at hAl ⊢;omega
    case c1 =>
     intro r hr
     rcases List.mem_append.1 hr with hr | hr
     ·exact hA10 r hr
     ·rw [List.mem_singleton.1 hr];rfl
    case d1=>dsimp only;simp
    case f1 =>
     dsimp only
     rw [ets]
     refine Ep.aaJ (E4.to ?_ ?_) ?_ ?_
     ·intro o ho
      have a1:=E4.V7 o ho
      have a2 : o ≠ s.length + 1:=fun e=>hf5 (e ▸ ho)
      have a3 : o ≠ 2:=fun e=>hf2 (e ▸ ho)
      exact rZ
     ·intro q hq
      simp only [List.cons_append,List.nil_append,List.mem_cons,List.not_mem_nil,or_false] at hq
      rcases hq with rfl | rfl | rfl
      ·refine .inl ⟨by simp,?_⟩
       show aj _ 1 = aj q4 1
       exact rZ
      ·refine .inr ⟨?_,hf2⟩
       show aj _ 2 = _
       exact rZ
      ·refine .inr ⟨?_,fun hm=>by have:=E4.V7 _ hm;omega⟩
       show aj _ (q4.length + 1) = _
       exact rZ
     ·simp
     ·simp
   ·have L33:=E4.at0 (p:=p) (ob:=⟨10,A⟩) (by simp)
    have hps : p < s.length:=(E.at0 (p:=p) (ob:=⟨10,A⟩) (by simp)).2
    have hp2 : p ≠ 2:=fun e=>by have:=L33.1;rw [e,L22.1] at this;cases this
    refine yJ @L22 @L33 (And.intro he4 ll4) @lf4 @List.set_set.{0} ?_
    have hfp:=(E4.l (p,⟨10,A⟩) (by simp)).2
    have hp1 : p ≠ 1:=fun e=>by have:=L33.1;rw [e,L11.1] at this;cases this
    refine ⟨by omega,(i + 1,?s2,.bC (q4.length + 1) 0 (A.length + 1),A ++ [[iv a.node,.bool a.share.neg,y1,y2,.bool a.dx.neg,y3,y4,.bool a.dy.neg,y5,y6]],((os ++ o2) ++ o3) ++ o4),?m2,⟨⟨?a2,?b2,?c2⟩,[(q4.length + 1,⟨10,A ++ [[iv a.node,.bool a.share.neg,y1,y2,.bool a.dx.neg,y3,y4,.bool a.dy.neg,y5,y6]]⟩)],.inr ⟨q4.length + 1,?d2,rfl⟩,?f2⟩,?e2⟩
    case e2=>dsimp only;(refine aH ?_;exact uT)
    case m2=>dsimp only;omega
    case a2=>dsimp only;omega
    case b2=>dsimp only;simp;omega
    case c2 =>
     intro r hr
     rcases List.mem_append.1 hr with hr | hr
     ·exact hA10 r hr
     ·rw [List.mem_singleton.1 hr];rfl
    case d2=>dsimp only;simp
    case f2 =>
     dsimp only
     rw [ets]
     refine Ep.aaJ (E4.to ?_ ?_) ?_ ?_
     ·intro o ho
      have a1:=E4.V7 o ho
      have a2 : o ≠ s.length + 1:=fun e=>hf5 (e ▸ ho)
      have a3 : o ≠ 2:=fun e=>hf2 (e ▸ ho)
      have a4 : o ≠ p:=fun e=>hfp (e ▸ ho)
      exact rZ
     ·intro q hq
      simp only [List.cons_append,List.nil_append,List.mem_cons,List.not_mem_nil,or_false] at hq
      rcases hq with rfl | rfl | rfl
      ·refine .inl ⟨by simp,?_⟩
       show aj _ 1 = aj q4 1
       exact rZ
      ·refine .inr ⟨?_,hf2⟩
       show aj _ 2 = _
       exact rZ
      ·refine .inr ⟨?_,fun hm=>by have:=E4.V7 _ hm;omega⟩
       show aj _ (q4.length + 1) = _
       exact rZ
     ·simp
     ·simp
  ·have hin : i = c.ps.length:=by omega
   subst hin
   rcases hLA with ⟨rfl,rfl,rfl⟩ | ⟨p,rfl,rfl⟩
   ·simp at hAl;omega
   ·have L33:=E.at0 (p:=p) (ob:=⟨10,A⟩) (by simp)
    rw [List.take_length] at E
    refine sJ @hc (And.intro L1 L2) ?_
    rw [if_pos (by rw [lx.2.1,lx.2.2];rfl)]
    have hf1:=(E.l (1,⟨5,[[iv 0,.bool false,.ak,.ak,.ak]]⟩) (by simp)).2
    have hp1 : p ≠ 1:=fun e=>by have:=L33.1;rw [e,L1.1] at this;cases this
    have Es:=E.FI (p:=1) (ob:=⟨5,[[iv c.node,.bool c.total.neg,x1,x2,.bC p 0 A.length]]⟩) (L':=[(p,⟨10,A⟩)]) hf1 L1.2 (fun q hq=>.inl (by rw [List.mem_singleton.1 hq];exact ⟨hp1,by simp⟩))
    have hA' : A.length = (c.ps.map Pa.cells).length:=by rw [List.length_map];exact hAl
    have apC : ∀ r ∈ c.ps.map Pa.cells,r.length = 10:=fun r hr=>by obtain ⟨x,_,rfl⟩:=List.mem_map.1 hr;rfl
    have hfl : A.flatten.length = (c.ps.map Pa.cells).flatten.length:=by
     have e1 : ∀ (X : List (List V)),(∀ r ∈ X,r.length = 10) → X.flatten.length = X.length * 10:=fun X=>by
      induction X with
      | nil=>intro _;rfl
      | cons r X ih=>intro h;rw [List.flatten_cons,List.length_append,ih fun r hr=>h r (by simp [hr]),h r (by simp),List.length_cons];omega
     rw [e1 A hA10,e1 _ apC,hA']
    obtain ⟨os1,E2,_⟩:=(Ep.aaJ (cs':=[iv c.node,.bool c.total.neg,x1,x2] ++ (A.flatten ++ [])) (ts':=[iv c.node,.bool c.total.neg,ints c.total.mag,ints c.total.den] ++ ((c.ps.map Pa.cells).flatten ++ [])) Es (by simp) (by simp)).swap rfl hfl
    obtain ⟨os2,E3⟩:=E2.close (p:=p) (n:=10) (k:=10) (by simp) hA10 apC hA'
    obtain ⟨os3,E4,_⟩:=(Ep.aaJ (cs':=[V.bC p 0 A.length] ++ ([iv c.node,.bool c.total.neg,x1,x2] ++ [])) (ts':=[kK c.ps] ++ ([iv c.node,.bool c.total.neg,ints c.total.mag,ints c.total.den] ++ [])) E3 (by simp) (by simp)).swap rfl rfl
    refine rY (os:=os3) ?_ E4.c.nd
    show bD _ (.agg ([iv c.node,.bool c.total.neg,x1,x2] ++ ([V.bC p 0 A.length] ++ []))) (.agg ([iv c.node,.bool c.total.neg,ints c.total.mag,ints c.total.den] ++ ([kK c.ps] ++ []))) os3
    simp only [bD]
    exact ⟨_,rfl,E4.c.ow⟩
theorem ai3 {A : List Pa} (h : afU A) (hb : ∀ a ∈ A,0 ≤ a.node ∧ a.node ≤ 9) : A.length ≤ 10:=by
 have key : ∀ i,i < A.length → (i : Int) ≤ (A.getD i default).node:=fun i=>by
  induction i with
  | zero=>intro hi;exact (hb _ (getD_mem hi)).1
  |
   succ i ih =>
   intro hi
   have h1:=ih (by omega)
   have h2:=h i (i + 1) (by omega) hi
   omega
 rcases Nat.lt_or_ge 10 A.length with h1 | h1
 ·have h2:=key 10 h1
  have h3:=(hb _ (getD_mem (l:=A) (i:=10) h1)).2
  omega
 ·exact h1
structure apD (c : Cd) (M : List Lk) : Prop where
 ne : 0 < c.ps.length
 len : c.ps.length ≤ 10
 cn : c.total.cn ∧ ∀ a ∈ c.ps,a.share.cn ∧ a.dx.cn ∧ a.dy.cn
 ms : ∀ x ∈ M,x.w.cn ∧ x.dx.cn ∧ x.dy.cn
 ml : M.length ≤ 101
theorem ajL {S : List Lk} {v : Int} (h : KQ S v = true) : apD (WH S v) (UJ S v):=by
 rw [(afW h).1,(afW h).2]
 unfold KQ at h
 simp only [Bool.and_eq_true] at h
 obtain ⟨⟨⟨hb,_⟩,hc⟩,_⟩:=h
 have hok : ∀ a ∈ pK S v,a.share.ok = true ∧ a.dx.cn ∧ a.dy.cn ∧ 0 ≤ a.node ∧ a.node ≤ 9:=fun a ha=>aaF hb ha
 have hl:=ai3 (afV hc) fun a ha=>⟨(hok a ha).2.2.2.1,(hok a ha).2.2.2.2⟩
 have hpl : (fP v (pK S v)).ps.length = (pK S v).length:=List.length_map ..
 refine ⟨?_,by omega,⟨RJ _,fun x hx=>?_⟩,abz,?_⟩
 ·rcases Nat.eq_zero_or_pos (fP v (pK S v)).ps.length with e | e
  ·exfalso
   have : (fP v (pK S v)).ps = []:=List.eq_nil_of_length_eq_zero e
   unfold kV at hc
   rw [this] at hc
   simp at hc
  ·exact e
 ·obtain ⟨a,ha,rfl⟩:=List.mem_map.1 hx
  exact ⟨D6 _ _,(hok a ha).2.1,(hok a ha).2.2.1⟩
 ·have h1:=Dy (pK S v) (pK S v).length
  have h2 : (pK S v).length * (pK S v).length ≤ 10 * 10:=Nat.mul_le_mul hl hl
  show (iF _ _).length ≤ _
  omega
theorem ES {r : R} (h : r.cn) : r.sz ≤ 1000:=by
 have:=Nw h
 unfold R.sz;omega
theorem NW (S : List Lk) (v : Int) : ((WH S v).sz ≤ 40000 ∧ (WH S v).ps.length ≤ 10 ∧ vY Lk.sz (UJ S v) ≤ 20000) ∧ (WH S v).wf ∧ BU Lk.wf (UJ S v):=by
 cases hB : KQ S v
 ·rw [(TF hB).1,(TF hB).2]
  exact ⟨⟨by decide,by decide,by decide⟩,⟨⟨by decide,by decide⟩,by decide,by simp⟩,by decide,by simp⟩
 ·have O:=ajL hB
  have h1:=ES O.cn.1
  have h2:=VT (f:=Pa.sz) (k:=3000) (l:=(WH S v).ps) fun a ha=>by
   have h:=O.cn.2 a ha
   have:=ES h.1;have:=ES h.2.1;have:=ES h.2.2
   unfold Pa.sz;omega
  have h3:=O.len
  refine ⟨⟨?_,h3,VZ O.ms O.ml⟩,⟨dI O.cn.1,by omega,fun a ha=>?_⟩,V3 O.ms O.ml⟩
  ·unfold Cd.sz;omega
  ·have h:=O.cn.2 a ha
   exact ⟨dI h.1,dI h.2.1,dI h.2.2⟩
def xO : Fn:=⟨2,53,[.tmp 4],(sr [oN 4 mN] (.seq (rf 1 [oN 11 (.dS 10 QB 0 []),oK 5 1 (oV 11)]) (.seq (sr [oW 12 0,oW 13 1,oN 14 (cl 238 [12,13]),oN 15 (ln 14),oN 16 (.bY (cI 0))] (.block 0 (.loop (sr [oN 17 (bt .lss 16 15)] (.seq (cd 17 .skip (.exit 0)) (.seq (.block 1 (sr [oN 18 (ix 1 14 16),oN 19 (lF 1 18),oW 7 19] (.seq (rf 1 [oK 21 1 (oV 0),oK 22 1 (oV 7),oK 23 1 (oV 1),oK 24 1 (cl 225 [21,22,23]),oK 20 1 (oV 24),oK 25 1 (ex 0 20),oK 26 1 (ex 1 20),oN 8 (.alloc Aq),⟨none,none,1,.store 11 (.t 8) (.t 25),[]⟩,oK 9 1 (oV 26)]) (.seq (rf 1 [oK 27 1 (oV 7),oK 28 1 (fd 2 8),oK 29 1 (lT 3 28),oK 30 1 (fd 5 8),oK 31 1 (lT 3 30),oK 32 1 (fd 8 8),oK 33 1 (lT 3 32),oK 34 1 (.build QB [(0,1,(.t 27)),(1,3,(.t 29)),(4,3,(.t 31)),(7,3,(.t 33))]),oN 10 (.alloc QB),⟨none,none,1,.store 10 (.t 10) (.t 34),[]⟩]) (.seq (sr [oN 35 (fd 0 8),oN 36 (lF 1 35),oW 37 1,oN 38 (bt .eql 36 37)] (cd 38 (sr [oN 39 (fd 5 8),oN 40 (lT 3 39),oN 41 (cl 399 [40]),oN 42 (fd 4 10),oS (.store 3 (.t 42) (.t 41))] (rg [oN 43 (fd 8 8),oN 44 (lT 3 43),oN 45 (cl 399 [44]),oN 46 (fd 7 10),oS (.store 3 (.t 46) (.t 45))])) .skip)) (rf 2 [oK 47 2 (oV 5),oK 48 2 (lT 10 10),oN 49 (.dS 10 QB 1 [(0,(.t 48))]),oK 50 1 (.app 10 176 (.t 47) (.t 49)),oK 5 2 (oV 50)])))))) (rg [oN 51 (bc .add 16 1),oW 16 51]))))))) (sr [oW 52 5,oW 4 52] .ret))))⟩
structure DC (T : Tb) : Prop where
 hT : T 397 = some xO
 TI : EN T
 RU : Dp T
 JG : ED T
theorem apE {a b : St} (h : Fg a b:=by
 (simp only [List.map_append,List.map_cons,List.map_nil];refine BD (k:=3) (by simp only [Pv,LK,Pq,and_true,true_and];(repeat' (first | exact Io _ | exact afo _ | refine ⟨?_,?_⟩))) rfl ?_;(try (refine ev ?_;try with_reducible exact True.intro));(repeat' (first | exact True.intro | omega | exact qV (by simp) (by simp) (by simp) | refine ⟨?_,?_⟩ | exact iQ rfl (by simp))))) : Fg a b:=h
theorem ajM {a b : St} (h : Fg a b:=by
 (simp only [List.map_append,List.map_cons,List.map_nil];refine BD (k:=4) (by simp only [Pv,LK,Pq,and_true,true_and];(repeat' (first | exact Io _ | exact afo _ | refine ⟨?_,?_⟩))) rfl ?_;(try (refine ev ?_;try with_reducible exact True.intro));(repeat' (first | exact True.intro | omega | exact qV (by simp) (by simp) (by simp) | refine ⟨?_,?_⟩ | exact iQ rfl (by simp))))) : Fg a b:=h
theorem adl {T : Tb} (h : DC T) {S : List Lk} {v : Int} (hb : bg S = true) (hw : BU Lk.wf S) (hz : vY Lk.sz S ≤ 1048576) : PF T 397 [bf S,iv v] (kK (pK S v)):=by
 have hl : S.length ≤ 1048576:=by have:=qw Lk.sz S;omega
 have cn:=ac5 h.RU (v:=v) hw hl hb
 have hnl : (nbI S v S.length).length ≤ 1048576:=Nat.le_trans (List.length_filterMap_le _ _) (by simp;omega)
 rw [← aiN hb]
 generalize nbI S v S.length = nb at *
 refine aK nR h.hT ?_
 simp only [xO,Lz]
 refine ev ?_
 refine ev ?_
 refine ah cn ?_
 refine ev ?_
 refine aO (fun _ _=>false) (α:=Nat × List Pa) (fun q=>⟨bF [bf S,iv v,.any,.any,.any,ZF q.2.length,.any,.any,.any,.any,.any,.any,.any,.any,ints nb,iv (nb.length : Nat),iv (q.1 : Nat)],WE 10 (q.2.map Pa.cells),0,0,[],[]⟩) (fun q=>q.1 ≤ nb.length ∧ q.2 = (nb.take q.1).map (MB S v)) (fun q=>nb.length - q.1) rfl (0,[]) ?_ ?_ ?_
 ·exact ⟨Nat.zero_le _,by simp⟩
 ·exact Lj
 ·rintro ⟨i,ys⟩ ⟨hi,hy⟩
  dsimp only at hi hy
  have hyl : ys.length ≤ 1048576:=by rw [hy];simp;omega
  by_cases hc : (i : Int) < (nb.length : Nat)
  ·have hil : i < nb.length:=by omega
   have es : (nb.take (i + 1)).map (MB S v) = ys ++ [MB S v (nb.getD i 0)]:=by
    rw [List.take_add_one,List.map_append,← hy,List.getElem?_eq_getElem hil,List.getD_eq_getElem?_getD,List.getElem?_eq_getElem hil];rfl
   have cl:=ada h.TI (l:=S) (a:=nb.getD i 0) (b:=v) hw hz
   have hlw:=aiL (a:=nb.getD i 0) (b:=v) hw
   obtain ⟨n,hn⟩ : ∃ n,nb.getD i 0 = n:=⟨_,rfl⟩
   rw [hn] at es cl hlw
   have hA : MB S v n = if (Dx S n v).a = v then ⟨n,(Dx S n v).w,negR (Dx S n v).dx,negR (Dx S n v).dy⟩ else ⟨n,(Dx S n v).w,(Dx S n v).dx,(Dx S n v).dy⟩:=rfl
   generalize Dx S n v = l at *
   generalize afT S n v = b at *
   have c1:=Un h.JG hlw.2.1
   have c2:=Un h.JG hlw.2.2
   by_cases e : l.a = v
   ·rw [if_pos e] at hA
    rw [hA] at es
    have f0 : (l.a = v) = True:=eq_true e
    rcases ys with _ | ⟨y,ys⟩ <;> simp only [List.length_nil,List.length_cons,jX,jB,List.map_nil,List.map_cons,XA,Um] at hyl ⊢
    ·refine vC @hc @hil @hn ?_
     refine ah cl ?_
     refine ev1 @f0 ?_
     refine ah c1 ?_
     refine ev ?_
     refine ah c2 ?_
     refine ev ?_
     exact ⟨by omega,(i + 1,([]) ++ [⟨n,l.w,negR l.dx,negR l.dy⟩]),by dsimp only;omega,⟨by dsimp only;omega,es.symm⟩,by exact apE⟩
    ·refine vC @hc @hil @hn ?_
     refine ah cl ?_
     refine ev1 @f0 ?_
     refine ah c1 ?_
     refine ev ?_
     refine ah c2 ?_
     refine ev ?_
     exact ⟨by omega,(i + 1,(y :: ys) ++ [⟨n,l.w,negR l.dx,negR l.dy⟩]),by dsimp only;omega,⟨by dsimp only;omega,es.symm⟩,by exact ajM⟩
   ·rw [if_neg e] at hA
    rw [hA] at es
    rcases ys with _ | ⟨y,ys⟩ <;> simp only [List.length_nil,List.length_cons,jX,jB,List.map_nil,List.map_cons,XA,Um] at hyl ⊢
    ·refine vC @hc @hil @hn ?_
     refine ah cl ?_
     refine ev1 @e ?_
     exact ⟨by omega,(i + 1,([]) ++ [⟨n,l.w,l.dx,l.dy⟩]),by dsimp only;omega,⟨by dsimp only;omega,es.symm⟩,by exact apE⟩
    ·refine vC @hc @hil @hn ?_
     refine ah cl ?_
     refine ev1 @e ?_
     exact ⟨by omega,(i + 1,(y :: ys) ++ [⟨n,l.w,l.dx,l.dy⟩]),by dsimp only;omega,⟨by dsimp only;omega,es.symm⟩,by exact ajM⟩
  ·have hin : i = nb.length:=by omega
   subst hin
   rw [List.take_length] at hy
   rw [← hy]
   rcases ys with _ | ⟨y,ys⟩ <;> simp only [List.length_nil,List.length_cons,jX,jB,List.map_nil,List.map_cons,XA,Um] at hyl ⊢
   ·refine ev1 @hc ?_
    exact of_eq_true (fK 10)
   ·refine ev1 @hc ?_
    have:=BA (σ:=[some ⟨10,y.cells :: List.map Pa.cells ys⟩]) (Io (y :: ys)) (s:=0) (l:=ys.length + 1) (n:=10) (by simp)
    rw [List.drop_zero,List.take_of_length_le (by simp)] at this
    rw [show Nq [some ⟨10,y.cells :: List.map Pa.cells ys⟩] 0 (ys.length + 1) (some ⟨10,y.cells :: List.map Pa.cells ys⟩) = some (kK (y :: ys)) from this]
    exact aC _
def gI : Fn:=⟨2,126,[.cell 4 5 true,.tmp 5,.tmp 6],(.seq (rf 1 [oN 4 (.alloc Lh),oK 5 1 mN,oK 6 1 mF]) (.seq (sr [oW 19 0,oN 20 (cl 193 [19]),oN 21 (nt 20),oW 22 21,oG 22 false 23 (oV 1),oG 22 false 24 (.call 35 [(.t 23),(cI 1),(cI 9)]),oG 22 false 25 (nt 24),oN 26 (.pick (.t 22) (.c (.bool true)) (.t 25))] (cd 26 (sr [oN 27 (.build Lh []),oS (.store 5 (.t 4) (.t 27)),oN 5 mN,oN 6 mF] .ret) .skip)) (sr [oW 28 0,oW 29 1,oN 30 (cl 397 [28,29]),oW 7 30] (.seq (rf 1 [oK 31 1 (.call 36 [(cI 0)]),oN 8 (.alloc jK),⟨none,none,1,.store 3 (.t 8) (.t 31),[]⟩]) (.seq (sr [oW 32 7,oN 33 (ln 32),oN 34 (.bY (cI 0))] (.block 0 (.loop (sr [oN 35 (bt .lss 34 33)] (.seq (cd 35 .skip (.exit 0)) (.seq (.block 1 (.seq (rf 1 [oK 36 1 (ix 10 32 34),oK 37 1 (lT 10 36),oN 10 (.alloc QB),⟨none,none,1,.store 10 (.t 10) (.t 37),[]⟩]) (rg [oN 38 (lT 3 8),oN 39 (fd 1 10),oN 40 (lT 3 39),oN 41 (cl 189 [38,40]),oS (.store 3 (.t 8) (.t 41))]))) (rg [oN 42 (bc .add 34 1),oW 34 42]))))))) (.seq (rf 1 [oK 43 1 (oV 1),oK 44 1 (lT 3 8),oK 45 1 (.build Lh [(0,1,(.t 43)),(1,3,(.t 44))]),oN 11 (.alloc Lh),⟨none,none,1,.store 5 (.t 11) (.t 45),[]⟩]) (.seq (sr [oW 46 7,oN 47 (ln 46),oN 48 (.bY (cI 0))] (.block 2 (.loop (sr [oN 49 (bt .lss 48 47)] (.seq (cd 49 .skip (.exit 2)) (.seq (.block 3 (.seq (rf 1 [oK 50 1 (ix 10 46 48),oK 51 1 (lT 10 50),oN 13 (.alloc QB),⟨none,none,1,.store 10 (.t 13) (.t 51),[]⟩]) (rt 2 [oK 52 2 (fd 4 11),oA 53 2 (lF 1 52) [0],oK 54 2 (fd 0 13),oA 55 2 (lF 1 54) [2],oK 56 2 (fd 1 13),oA 57 2 (lT 3 56) [4],oK 58 2 (lT 3 8),oA 59 2 (cl 200 [57,58]) [5,6],oK 60 2 (fd 4 13),oA 61 2 (lT 3 60) [8],oA 62 2 (cl 204 [61]) [9,7],oK 63 2 (fd 7 13),oA 64 2 (lT 3 63) [11],oA 65 2 (cl 204 [64]) [12,10],oA 66 2 (.build QB [(0,1,(.t 55)),(1,3,(.t 59)),(4,3,(.t 62)),(7,3,(.t 65))]) [3,7,10,13],oA 67 0 (.dS 10 QB 1 [(0,(.t 66))]) [14],oA 68 1 (.app 10 176 (.t 53) (.t 67)) [1,15,13],oA 69 2 (fd 4 11) [0,1,2,3,4,5,6,7,8,9,10,11,12,13,14,15,16],⟨none,none,2,.store 1 (.t 69) (.t 68),[17,16,16,0,1,2,3,4,5,6,7,8,9,10,11,12,13,14,15,16]⟩]))) (rg [oN 70 (bc .add 48 1),oW 48 70]))))))) (.seq (rf 1 [oN 71 (.dS 11 Aq 0 []),oK 14 1 (oV 71)]) (.seq (sr [oW 72 7,oN 73 (ln 72),oN 74 (.bY (cI 0))] (.block 4 (.loop (sr [oN 75 (bt .lss 74 73)] (.seq (cd 75 .skip (.exit 4)) (.seq (.block 5 (.seq (rf 1 [oK 76 1 (oV 74),oK 77 1 (ix 10 72 74),oK 78 1 (lT 10 77),oN 16 (.alloc QB),oK 15 1 (oV 76),⟨none,none,1,.store 10 (.t 16) (.t 78),[]⟩]) (sr [oW 79 7,oW 80 15,oN 81 (bc .add 80 1),oN 82 (.slice 10 (.t 79) (some (.t 81)) none),oN 83 (ln 82),oN 84 (.bY (cI 0))] (.block 6 (.loop (sr [oN 85 (bt .lss 84 83)] (.seq (cd 85 .skip (.exit 6)) (.seq (.block 7 (.seq (rf 1 [oK 86 1 (ix 10 82 84),oK 87 1 (lT 10 86),oN 18 (.alloc QB),⟨none,none,1,.store 10 (.t 18) (.t 87),[]⟩]) (rt 2 [oK 88 2 (oV 14),oK 89 2 (fd 0 16),oA 90 2 (lF 1 89) [1],oK 91 2 (fd 0 18),oA 92 2 (lF 1 91) [3],oK 93 2 (fd 1 16),oA 94 2 (lT 3 93) [5],oK 95 2 (fd 1 18),oA 96 2 (lT 3 95) [7],oA 97 2 (cl 201 [94,96]) [6,8],oK 98 2 (lT 3 8),oA 99 2 (cl 200 [97,98]) [9,10,9],oK 100 2 (fd 4 16),oA 101 2 (lT 3 100) [12],oK 102 2 (fd 4 18),oA 103 2 (lT 3 102) [14],oA 104 2 (cl 203 [101,103]) [13,15,11],oK 105 2 (fd 7 16),oA 106 2 (lT 3 105) [17],oK 107 2 (fd 7 18),oA 108 2 (lT 3 107) [19],oA 109 2 (cl 203 [106,108]) [18,20,16],oA 110 2 (.build Aq [(0,1,(.t 90)),(1,1,(.t 92)),(2,3,(.t 99)),(5,3,(.t 104)),(8,3,(.t 109))]) [2,4,11,16,21],oA 111 0 (.dS 11 Aq 1 [(0,(.t 110))]) [22],oA 112 1 (.app 11 184 (.t 88) (.t 111)) [0,23,21],oA 14 2 (oV 112) [24,24,0,1,2,3,4,5,6,7,8,9,10,11,12,13,14,15,16,17,18,19,20,21,22,23,24]]))) (rg [oN 113 (bc .add 84 1),oW 84 113]))))))))) (rg [oN 114 (bc .add 74 1),oW 74 114]))))))) (.seq (sr [oN 115 (lT 5 11),oN 116 (cl 294 [115]),oN 117 (nt 116),oW 118 117,oG 118 false 119 (oV 14),oG 118 false 120 (cl 193 [119]),oG 118 false 121 (nt 120),oN 122 (.pick (.t 118) (.c (.bool true)) (.t 121))] (cd 122 (sr [oN 123 (.build Lh []),oS (.store 5 (.t 4) (.t 123)),oN 5 mN,oN 6 mF] .ret) .skip)) (sr [oN 124 (lT 5 11),oW 125 14,oS (.store 5 (.t 4) (.t 124)),oW 5 125,oN 6 mT] .ret)))))))))))⟩
structure qO (T : Tb) : Prop where
 hT : T 389 = some gI
 nC : qX T
 bQ : ig T
 dJ : jR T
 cZ : gu T
 oZ : zQ T
 fM : tK T
 uq : zO T
 mV : xH T
 DN : kM T
 RV : DC T
theorem agf {S : List Lk} {v : Int} (hv : ¬ (1 ≤ v ∧ v ≤ 9)) : KQ S v = false:=by
 unfold KQ inB
 rcases Int.lt_or_le v 1 with k | k
 ·rw [decide_eq_false (show ¬ 1 ≤ v by omega)];simp
 ·rw [decide_eq_false (show ¬ v ≤ 9 by omega)];simp
theorem ajN {r : R} (h : r.cn) : r.sz ≤ 1048576:=by
 have:=Nw h
 unfold R.sz;omega
theorem abO {σ : Store} {p n k : Nat} {os : List Nat} {ob : Obj} (hk : k ≠ p) (hm : k ∈ os) (h : aj σ k = some ob) : (keepW σ p n os)[k]? = some (some (k,0,ob.rows.length)):=by
 rw [Dz (aJ h),if_neg hk,if_pos hm,h];rfl
theorem apF {σ : Store} {p n : Nat} {os : List Nat} {ob : Obj} (h : aj σ p = some ob) : (keepW σ p n os)[p]? = some (some (p,0,n)):=by
 rw [Dz (aJ h),if_pos rfl]
theorem ai4 {σ : Store} {p : Nat} {ob o1 : Obj} {os : List Nat} (h : aj σ p = some o1) : aj (Bq σ p ob os) p = some ob:=by
 rw [Aw (aJ h),if_pos rfl]
theorem OA {σ : Store} {p k : Nat} {ob o1 : Obj} {os : List Nat} (h : aj σ k = some o1) (hk : k ≠ p) (hm : k ∈ os) : aj (Bq σ p ob os) k = some o1:=by
 rw [Aw (aJ h),if_neg hk,if_pos hm,h]
theorem aaK {σ : Store} {cN : Nat} {v : Int} {X Y : R} {ps : List Pa} {pv : V} {vs : List V} {env : Nat → V} {b1 b2 : Nat} {r1 r2 m1 m2 : List Nat} (hcN : 2 ≤ cN)
  (h0 : aj σ 0 = some ⟨5,[[iv 0,.bool false,.ak,.ak,.ak]]⟩) (h1 : aj σ 1 = some ⟨3,[Y.cells]⟩) (hc : aj σ cN = some ⟨5,[[iv v,.bool X.neg,ints X.mag,ints X.den,pv]]⟩)
  (hp : (ps = [] ∧ pv = .ak) ∨ ∃ p,pv = .bC p 0 ps.length ∧ aj σ p = some ⟨10,ps.map Pa.cells⟩) (he : ∀ W : Jm,W = keepW σ cN 1 [0,1] → W[0]? = some (some (0,0,1)) → W[1]? = some (some (1,0,1)) → W[cN]? = some (some (cN,0,1)) → AB W σ vs 0 env) :
  Fg ⟨bF vs,Bq σ cN ⟨5,[[iv v,.bool X.neg,ints X.mag,ints X.den,kK ps]]⟩ [0,1],0,b1,r1,m1⟩ ⟨env,σ,0,b2,r2,m2⟩:=by
 refine aaI (p:=cN) (n:=5) (A:=[[iv v,.bool X.neg,ints X.mag,ints X.den,pv]]) hc rfl ?_ ?_ (he _ rfl (abO (by omega) (by simp) h0) (abO (by omega) (by simp) h1) (apF hc))
 ·intro o ho ob hob
  rcases List.mem_cons.1 ho with rfl | ho
  ·rw [h0] at hob;cases hob;simp [dR,V.still]
  ·rw [List.mem_singleton.1 ho,h1] at hob;cases hob;exact Xx [Y]
 ·intro i r r2 g1 g2
  cases i with
  | succ i=>cases g1
  |
   zero =>
   cases g1;cases g2
   simp only [Ef]
   refine ⟨_,_,rfl,vk rfl,_,_,rfl,vk rfl,_,_,rfl,vk rfl,_,_,rfl,vk rfl,_,_,rfl,?_,rfl⟩
   rcases hp with ⟨rfl,rfl⟩ | ⟨p,rfl,hp⟩
   ·simp only [qh];exact .inr ⟨10,rfl⟩
   ·have hres : resolve σ FD (.bC p 0 ps.length) = some (kK ps):=by
     have:=FQ (n:=10) hp (Io _)
     rw [List.length_map] at this;exact this
    simp only [qh]
    refine .inr (.inr ⟨hres,fun q hq k s0 l0 hk=>?_⟩)
    have e:=yQ hp (Io _) q hq
    have hk:=Ce hk
    have n0 : p ≠ 0:=fun e=>by rw [e,h0] at hp;cases hp
    have n1 : p ≠ 1:=fun e=>by rw [e,h1] at hp;cases hp
    have n2 : p ≠ cN:=fun e=>by rw [e,hc] at hp;cases hp
    simp at hk
    omega
theorem ai5 {σ : Store} {c : Cd} {M : List Lk} : dK (Option.map V.eu (match resolve σ 11 (V.agg c.cells) with | some d=>some [d,bf M,V.bool true] | none=>none)) (bM (V.eu [KP c,bf M,V.bool true])):=by
 have e1 : resolve σ 11 (V.agg c.cells) = some (KP c):=by
  show (c.cells.mapM (resolve σ (9 + 1))).map _ = _
  rw [qo (fun v hv=>Jz [c] _ (by simp) v hv)];rfl
 rw [e1]
 exact aC _
theorem al2 {σ : Store} {cN : Nat} {X : R} {c : Cd} {vs : List V} {env : Nat → V} {b1 b2 : Nat} {r1 r2 m1 m2 : List Nat} (hcN : 2 ≤ cN)
  (h0 : aj σ 0 = some ⟨5,[[iv 0,.bool false,.ak,.ak,.ak]]⟩) (h1 : aj σ 1 = some ⟨3,[X.cells]⟩) (hc : aj σ cN = some ⟨5,[c.cells]⟩)
  (he : ∀ W : Jm,(∀ (mv : V) (L : List Lk),LnA σ mv L → Ho W σ (bf L) mv) → W[0]? = some (some (0,0,1)) → W[1]? = some (some (1,0,1)) → W[cN]? = some (some (cN,0,1)) → AB W σ vs 0 env) :
  Fg ⟨bF vs,Bq σ cN ⟨5,[c.cells]⟩ [0,1],0,b1,r1,m1⟩ ⟨env,σ,0,b2,r2,m2⟩:=by
 refine aaI (p:=cN) (n:=5) (A:=[c.cells]) hc rfl ?_ ?_ (he _ ?_ (abO (by omega) (by simp) h0) (abO (by omega) (by simp) h1) (apF hc))
 ·intro o ho ob hob
  rcases List.mem_cons.1 ho with rfl | ho
  ·rw [h0] at hob;cases hob;simp [dR,V.still]
  ·rw [List.mem_singleton.1 ho,h1] at hob;cases hob;exact Xx [X]
 ·intro i r r2 g1 g2
  cases i with
  | succ i=>cases g1
  |
   zero =>
   cases g1;cases g2
   exact CO fun v hv=>Jz [c] _ (by simp) v hv
 ·intro mv L hL
  rcases hL with ⟨rfl,rfl⟩ | ⟨p,rfl,hp⟩
  ·exact of_eq_true (Ap _ _ _)
  ·have hres : resolve σ FD (.bC p 0 L.length) = some (bf L):=by
    have:=FQ (n:=10) hp (vZ _)
    rw [List.length_map] at this;exact this
   refine CP hres fun q hq k s0 l0 hk=>?_
   have e:=yQ hp (vZ _) q hq
   have hk:=Ce hk
   have n0 : p ≠ 0:=fun e=>by rw [e,h0] at hp;cases hp
   have n1 : p ≠ 1:=fun e=>by rw [e,h1] at hp;cases hp
   have n2 : p ≠ cN:=fun e=>by rw [e,hc] at hp;cases hp
   simp at hk
   omega
theorem NY {T : Tb} (h : qO T) {S : List Lk} {v : Int} (hw : BU Lk.wf S) (hz : vY Lk.sz S ≤ 1048576) : PF T 389 [bf S,iv v] (.eu [KP (WH S v),bf (UJ S v),.bool (KQ S v)]):=by
 have hl : S.length ≤ 1048576:=by have:=qw Lk.sz S;omega
 have ci:=nM h.cZ hw
 cases hb : bg S
 ·rw [hb] at ci
  have hB : KQ S v = false:=by unfold KQ;rw [hb];rfl
  rw [(TF hB).1,(TF hB).2,hB]
  refine aK (fun x d=>(x == 36 && d == 999)) h.hT ?_
  simp only [gI,Lz]
  refine ew ?_
  refine ah ci ?_
  refine ew ?_
  exact Aj (σ:=[])
 rw [hb] at ci
 have cl:=Pg h.nC (a:=v) (b:=1) (c:=9)
 by_cases hv : 1 ≤ v ∧ v ≤ 9
 ·rw [decide_eq_true hv.1,decide_eq_true hv.2] at cl
  have ca:=adl h.RV (v:=v) hb hw hz
  have c0:=jS h.bQ (n:=0)
  have hAl:=Yz S v S.length
  have hl1 : S.length ≤ 100:=FT hb
  have hAe : ER S v S.length = pK S v:=rfl
  rw [hAe] at hAl
  have hok : ∀ a ∈ pK S v,a.share.ok = true ∧ a.dx.cn ∧ a.dy.cn ∧ 0 ≤ a.node ∧ a.node ≤ 9:=fun a ha=>aaF hb ha
  have hX:=RJ (pK S v)
  have hB : KQ S v = (kV (fP v (pK S v)) && (FU (pK S v)).all ji):=by
   unfold KQ inB
   rw [hb,decide_eq_true hv.1,decide_eq_true hv.2];rfl
  have hC : (fP v (pK S v)) = ⟨v,qM (pK S v),(pK S v).map (rQ (qM (pK S v)))⟩:=rfl
  have hT:=@afW S v
  have hF:=@TF S v
  clear hAe hz hw
  generalize pK S v = A at *
  refine aK (fun x d=>(x == 36 && d == 999)) h.hT ?_
  simp only [gI,Lz]
  refine ew ?_
  refine ah ci ?_
  refine ew ?_
  refine ah cl ?_
  refine ew ?_
  refine ah ca ?_
  refine ew ?_
  refine ah c0 ?_
  refine ew ?_
  refine aO (fun x d=>(x == 36 && d == 999)) (α:=Nat × Store) (fun q=>⟨bF [.any,iv v,.any,.any,.ptr 0 0 0,.ak,.bool false,kK A,.ptr 1 0 0,.any,.any,.any,.any,.any,.any,.any,.any,.any,.any,.any,.any,.any,.any,.any,.any,.any,.any,.any,.any,.any,.any,.any,kK A,iv (A.length : Nat),iv (q.1 : Nat)],q.2,0,0,[],[]⟩) (fun q=>q.1 ≤ A.length ∧ aj q.2 0 = some ⟨5,[[iv 0,.bool false,.ak,.ak,.ak]]⟩ ∧ aj q.2 1 = some ⟨3,[(DL A q.1).cells]⟩) (fun q=>A.length - q.1) rfl (0,[some ⟨5,[[iv 0,.bool false,.ak,.ak,.ak]]⟩,some ⟨3,[[.bool (fH 0).neg,ints (fH 0).mag,ints (fH 0).den]]⟩]) ?_ ?_ ?_
  ·exact ⟨Nat.zero_le _,rfl,by dsimp only;rw [ZN];rfl⟩
  ·(refine aH ?_;exact uT)
  ·rintro ⟨i,s⟩ ⟨hi,I0,I1⟩
   dsimp only at hi I0 I1
   have Wi:=aJ I1
   have hsc:=D8 A i
   by_cases hc : (i : Int) < (A.length : Nat)
   ·have hil : i < A.length:=by omega
    have hx : (A.map Pa.cells).getD i [] = (A.getD i default).cells:=mg hil
    have es:=ZO A hil
    have hiA:=hok _ (getD_mem hil)
    have Iw:=ru h.dJ (r:=DL A i) (s:=(A.getD i default).share) (dI hsc) (dI (yg hiA.1))
    rw [← es] at Iw
    generalize A.getD i default = a at *
    generalize DL A i = Y at *
    refine Cb @hc @hx (And.intro I0 I1) ?_
    refine ah Iw ?_
    refine sJ (And.intro I0 I1) (And.intro aB aS) ?_
    refine ⟨(i + 1,?s1),?m1,⟨?a1,?b1,?c1⟩,?e1⟩
    case e1=>dsimp only;(refine aH ?_;exact uT)
    case m1=>dsimp only;omega
    case a1=>dsimp only;omega
    case b1=>exact (show aj _ 0 = aj s 0 by exact rZ).trans I0
    case c1=>dsimp only;simp (disch:=first | omega | (simp only [List.length_append,List.length_set,List.length_cons,List.length_nil];omega)) only [DK]
   ·have hin : i = A.length:=by omega
    subst hin
    rw [show DL A A.length = qM A from rfl] at I1 hsc
    generalize hXe : qM A = X at hX hC I1
    clear hsc
    refine sJ @hc (And.intro I0 I1) ?_
    obtain ⟨cN,hcN⟩ : ∃ cN,List.length s = cN:=⟨_,rfl⟩
    have hc2 : 2 ≤ cN:=by omega
    obtain ⟨s1,hs1⟩ : ∃ s1,s ++ [some ⟨5,[[iv v,.bool X.neg,ints X.mag,ints X.den,.ak]]⟩] = s1:=⟨_,rfl⟩
    have k0 : aj s1 0 = some ⟨5,[[iv 0,.bool false,.ak,.ak,.ak]]⟩:=by rw [← hs1];exact (aQ (by omega)).trans I0
    have k1 : aj s1 1 = some ⟨3,[X.cells]⟩:=by rw [← hs1];exact (aQ (by omega)).trans I1
    have kc : aj s1 cN = some ⟨5,[[iv v,.bool X.neg,ints X.mag,ints X.den,.ak]]⟩:=by rw [← hs1,← hcN];exact qG _ _
    have hsl1 : s1.length = cN + 1:=by rw [← hs1];simp;omega
    clear I0 I1 Wi
    refine aO (fun x d=>(x == 36 && d == 999)) (α:=Nat × Store × V) (fun q=>⟨bF [.any,iv v,.any,.any,.ptr 0 0 0,.ak,.bool false,kK A,.ptr 1 0 0,.any,.any,.ptr cN 0 0,.any,.any,.any,.any,.any,.any,.any,.any,.any,.any,.any,.any,.any,.any,.any,.any,.any,.any,.any,.any,.any,.any,.any,.any,.any,.any,.any,.any,.any,.any,.any,.any,.any,.any,kK A,iv (A.length : Nat),iv (q.1 : Nat)],q.2.1,0,0,[],[]⟩) (fun q=>(q.1 ≤ A.length ∧ aj q.2.1 0 = some ⟨5,[[iv 0,.bool false,.ak,.ak,.ak]]⟩ ∧ aj q.2.1 1 = some ⟨3,[X.cells]⟩) ∧ (q.1 < A.length → aj q.2.1 cN = some ⟨5,[[iv v,.bool X.neg,ints X.mag,ints X.den,q.2.2]]⟩ ∧ GnA 10 q.2.1 q.2.2 ((A.take q.1).map fun a=>(rQ X a).cells)) ∧ (q.1 = A.length → aj q.2.1 cN = some ⟨5,[(fP v A).cells]⟩)) (fun q=>A.length - q.1) rfl (0,if A.length = 0 then Bq s1 cN ⟨5,[(fP v A).cells]⟩ [0,1] else s1,.ak) ?_ ?_ ?_
    ·dsimp only
     by_cases hA0 : A.length = 0
     ·rw [if_pos hA0]
      exact ⟨⟨Nat.zero_le _,OA k0 (by omega) (by simp),OA k1 (by omega) (by simp)⟩,fun e=>by omega,fun _=>ai4 kc⟩
     ·rw [if_neg hA0]
      exact ⟨⟨Nat.zero_le _,k0,k1⟩,fun _=>⟨kc,.inl ⟨by simp,rfl⟩⟩,fun e=>by omega⟩
    ·dsimp only
     rw [hcN,hs1]
     by_cases hA0 : A.length = 0
     ·rw [if_pos hA0]
      have hA : A = []:=List.eq_nil_of_length_eq_zero hA0
      rw [show (fP v A).cells = [iv v,.bool X.neg,ints X.mag,ints X.den,kK (fP v A).ps] by rw [hC]]
      refine aaK (Y:=X) (pv:=.ak) hc2 k0 k1 kc (.inl ⟨by rw [hC,hA];rfl,rfl⟩) ?_
      intro W _ w0 w1 wc
      refine ew ?_
      exact ⟨fZ w0 (by omega),fZ w1 (by omega),fZ wc (by omega),rfl⟩
     ·rw [if_neg hA0]
      (refine aH ?_;exact uT)
    ·clear k0 k1 kc hsl1 hs1 hcN
     rintro ⟨i,s,pv⟩ ⟨⟨hi,I0,I1⟩,hM,hE⟩
     dsimp only at hi I0 I1 hM hE
     have Wi:=aJ I1
     by_cases hc3 : (i : Int) < (A.length : Nat)
     ·have hil : i < A.length:=by omega
      obtain ⟨Ic,hP⟩:=hM hil
      have hcq:=aJ Ic
      have hx : (A.map Pa.cells).getD i [] = (A.getD i default).cells:=mg hil
      have hiA:=hok _ (getD_mem hil)
      have ets : (A.take (i + 1)).map (fun a=>(rQ X a).cells) = (A.take i).map (fun a=>(rQ X a).cells) ++ [(rQ X (A.getD i default)).cells]:=by rw [take_snoc hil,List.map_append];rfl
      have apH : ((A.take i).map fun a=>(rQ X a).cells).length = i:=by simp;omega
      have cd:=FC h.oZ (r:=(A.getD i default).share) (s:=X) (dI (yg hiA.1)) (dI hX)
      have c1:=FP h.mV (r:=(A.getD i default).dx) (ajN hiA.2.1)
      have c2:=FP h.mV (r:=(A.getD i default).dy) (ajN hiA.2.2.1)
      generalize A.getD i default = a at *
      generalize (A.take i).map (fun a=>(rQ X a).cells) = P at *
      rcases hP with ⟨rfl,rfl⟩ | ⟨p,rfl,hp,hp3,hpl⟩
      ·refine xX @hc3 @hx (And.intro I0 (And.intro I1 Ic)) (And.intro aB aS) ?_
       refine ah cd ?_
       refine sJ (And.intro I0 (And.intro I1 Ic)) (And.intro aB aS) ?_
       refine ah c1 ?_
       refine sJ (And.intro I0 (And.intro I1 Ic)) (And.intro aB aS) ?_
       refine ah c2 ?_
       refine sJ (And.intro I0 (And.intro I1 Ic)) (And.intro aB aS) ?_
       have hpq:=Wi
       have hp0:=Wi
       refine ⟨by omega,GK [1,cN,s.length,s.length + 1,s.length + 1 + 1] [⟨18,[1],[1],false⟩,⟨17,[1],[],false⟩,⟨16,[3],[4],false⟩,⟨15,[],[3],false⟩,⟨14,[],[],false⟩,⟨13,[],[],false⟩,⟨12,[2],[],false⟩,⟨11,[2],[],false⟩,⟨10,[],[],false⟩,⟨9,[2],[],false⟩,⟨8,[2],[],false⟩,⟨7,[],[],false⟩,⟨6,[0],[],false⟩,⟨5,[2],[],false⟩,⟨4,[2],[],false⟩,⟨3,[2],[],false⟩,⟨2,[2],[],false⟩,⟨1,[1],[],false⟩,⟨0,[1],[],false⟩] ?_ ?_ rfl ?_,?_⟩
       ·clear hp0 I0 I1 Ic hE hM ca ci c0 cl
        generalize List.length s = m at Wi hcq hpq ⊢
        simp;omega
       ·intro o ho;simp at ho;omega
       ·show iW 5 _ _
        unfold iW;rfl
       by_cases hi1 : i + 1 < A.length
       ·refine ⟨(i + 1,?s2,.bC (s.length + 1 + 1) 0 1),?m2,⟨⟨?a2,?b2,?c2⟩,fun _=>⟨?d2,?f2⟩,fun e=>absurd e (by dsimp only;omega)⟩,?e2⟩
        case e2=>dsimp only;(refine aH ?_;exact uT)
        case m2=>dsimp only;omega
        case a2=>dsimp only;omega
        case b2=>exact (show aj _ 0 = aj s 0 by exact rZ).trans I0
        case c2=>exact (show aj _ 1 = aj s 1 by exact rZ).trans I1
        case d2=>dsimp only;simp (disch:=first | omega | (simp only [List.length_append,List.length_set,List.length_cons,List.length_nil];omega)) only [DK]
        case f2 =>
         dsimp only
         rw [ets]
         refine .inr ⟨s.length + 1 + 1,?g2,?h2,by omega,by simp⟩
         case g2=>simp
         case h2=>simp (disch:=first | omega | (simp only [List.length_append,List.length_set,List.length_cons,List.length_nil];omega)) only [DK];simp [rQ]
       ·have hin : i + 1 = A.length:=by omega
        have eps : (fP v A).ps.map Pa.cells = [] ++ [(rQ X a).cells]:=by
         rw [← ets,hin,List.take_length,hC,List.map_map];rfl
        refine ⟨(i + 1,Bq ?s2x cN ⟨5,[[iv v,.bool X.neg,ints X.mag,ints X.den,kK (fP v A).ps]]⟩ [0,1],.ak),?m2x,⟨⟨?a2x,?b2x,?c2x⟩,fun e=>absurd e (by dsimp only;omega),fun _=>?d2x⟩,?e2x⟩
        case e2x =>
         dsimp only
         refine aaK (Y:=X) (pv:=.bC (s.length + 1 + 1) 0 1) hc2 ?z0 ?z1 ?zc ?zp ?ze
         case z0=>exact (show aj _ 0 = aj s 0 by exact rZ).trans I0
         case z1=>exact (show aj _ 1 = aj s 1 by exact rZ).trans I1
         case zc=>simp (disch:=first | omega | (simp only [List.length_append,List.length_set,List.length_cons,List.length_nil];omega)) only [DK]
         case zp =>
          refine .inr ⟨s.length + 1 + 1,?_,?_⟩
          ·rw [show (fP v A).ps.length = A.length by rw [hC];simp,← hin,← apH];try rfl
          ·rw [eps];simp (disch:=first | omega | (simp only [List.length_append,List.length_set,List.length_cons,List.length_nil];omega)) only [DK];simp [rQ]
         case ze =>
          intro W _ w0 w1 wc
          refine ew ?_
          exact ⟨fZ w0 (by omega),fZ w1 (by omega),fZ wc (by omega),by omega⟩
        case m2x=>dsimp only;omega
        case a2x=>dsimp only;omega
        case b2x=>exact OA ((show aj _ 0 = aj s 0 by exact rZ).trans I0) (by omega) (by simp)
        case c2x=>exact OA ((show aj _ 1 = aj s 1 by exact rZ).trans I1) (by omega) (by simp)
        case d2x =>
         rw [show (fP v A).cells = [iv v,.bool X.neg,ints X.mag,ints X.den,kK (fP v A).ps] by rw [hC]]
         refine ai4 (o1:=⟨5,[[iv v,.bool X.neg,ints X.mag,ints X.den,.bC (s.length + 1 + 1) 0 1]]⟩) ?_
         exact rZ
      ·have hpq:=aJ hp
       have hpc : p ≠ cN:=fun e=>by rw [e,Ic] at hp;cases hp
       refine yJ @hc3 @hx (And.intro I0 (And.intro I1 Ic)) @hp (And.intro aB aS) ?_
       refine ah cd ?_
       refine Cb (And.intro I0 (And.intro I1 Ic)) @hp (And.intro aB aS) ?_
       refine ah c1 ?_
       refine Cb (And.intro I0 (And.intro I1 Ic)) @hp (And.intro aB aS) ?_
       refine ah c2 ?_
       refine Cb (And.intro I0 (And.intro I1 Ic)) @hp (And.intro aB aS) ?_
       have hp0:=Wi
       refine ⟨by omega,GK [1,cN,s.length,s.length + 1,s.length + 1 + 1,p] [⟨18,[1],[1],false⟩,⟨17,[1],[],false⟩,⟨16,[5,3],[5,4],false⟩,⟨15,[],[3],false⟩,⟨14,[],[],false⟩,⟨13,[],[],false⟩,⟨12,[2],[],false⟩,⟨11,[2],[],false⟩,⟨10,[],[],false⟩,⟨9,[2],[],false⟩,⟨8,[2],[],false⟩,⟨7,[],[],false⟩,⟨6,[0],[],false⟩,⟨5,[2],[],false⟩,⟨4,[2],[],false⟩,⟨3,[2],[],false⟩,⟨2,[2],[],false⟩,⟨1,[1],[],false⟩,⟨0,[1],[],false⟩] ?_ ?_ rfl ?_,?_⟩
       ·clear hp0 hp I0 I1 Ic hE hM ca ci c0 cl
        generalize List.length s = m at Wi hcq hpq ⊢
        simp;omega
       ·intro o ho;simp at ho;omega
       ·show iW 6 _ _
        unfold iW;rfl
       by_cases hi1 : i + 1 < A.length
       ·refine ⟨(i + 1,?s3,.bC (s.length + 1 + 1) 0 (P.length + 1)),?m3,⟨⟨?a3,?b3,?c3⟩,fun _=>⟨?d3,?f3⟩,fun e=>absurd e (by dsimp only;omega)⟩,?e3⟩
        case e3=>dsimp only;(refine aH ?_;exact uT)
        case m3=>dsimp only;omega
        case a3=>dsimp only;omega
        case b3=>exact (show aj _ 0 = aj s 0 by exact rZ).trans I0
        case c3=>exact (show aj _ 1 = aj s 1 by exact rZ).trans I1
        case d3=>dsimp only;simp (disch:=first | omega | (simp only [List.length_append,List.length_set,List.length_cons,List.length_nil];omega)) only [DK]
        case f3 =>
         dsimp only
         rw [ets]
         refine .inr ⟨s.length + 1 + 1,?g3,?h3,by omega,by simp⟩
         case g3=>simp
         case h3=>simp (disch:=first | omega | (simp only [List.length_append,List.length_set,List.length_cons,List.length_nil];omega)) only [DK];simp [rQ]
       ·have hin : i + 1 = A.length:=by omega
        have eps : (fP v A).ps.map Pa.cells = P ++ [(rQ X a).cells]:=by
         rw [← ets,hin,List.take_length,hC,List.map_map];rfl
        refine ⟨(i + 1,Bq ?s3x cN ⟨5,[[iv v,.bool X.neg,ints X.mag,ints X.den,kK (fP v A).ps]]⟩ [0,1],.ak),?m3x,⟨⟨?a3x,?b3x,?c3x⟩,fun e=>absurd e (by dsimp only;omega),fun _=>?d3x⟩,?e3x⟩
        case e3x =>
         dsimp only
         refine aaK (Y:=X) (pv:=.bC (s.length + 1 + 1) 0 (P.length + 1)) hc2 ?z0 ?z1 ?zc ?zp ?ze
         case z0=>exact (show aj _ 0 = aj s 0 by exact rZ).trans I0
         case z1=>exact (show aj _ 1 = aj s 1 by exact rZ).trans I1
         case zc=>simp (disch:=first | omega | (simp only [List.length_append,List.length_set,List.length_cons,List.length_nil];omega)) only [DK]
         case zp =>
          refine .inr ⟨s.length + 1 + 1,?_,?_⟩
          ·rw [show (fP v A).ps.length = A.length by rw [hC];simp,← hin,← apH];try rfl
          ·rw [eps];simp (disch:=first | omega | (simp only [List.length_append,List.length_set,List.length_cons,List.length_nil];omega)) only [DK];simp [rQ]
         case ze =>
          intro W _ w0 w1 wc
          refine ew ?_
          exact ⟨fZ w0 (by omega),fZ w1 (by omega),fZ wc (by omega),by omega⟩
        case m3x=>dsimp only;omega
        case a3x=>dsimp only;omega
        case b3x=>exact OA ((show aj _ 0 = aj s 0 by exact rZ).trans I0) (by omega) (by simp)
        case c3x=>exact OA ((show aj _ 1 = aj s 1 by exact rZ).trans I1) (by omega) (by simp)
        case d3x =>
         rw [show (fP v A).cells = [iv v,.bool X.neg,ints X.mag,ints X.den,kK (fP v A).ps] by rw [hC]]
         refine ai4 (o1:=⟨5,[[iv v,.bool X.neg,ints X.mag,ints X.den,.bC (s.length + 1 + 1) 0 (P.length + 1)]]⟩) ?_
         exact rZ
     ·have hin : i = A.length:=by omega
      have Ic:=hE hin
      subst hin
      have hcq:=aJ Ic
      have hcc : (fP v A).cells = [iv v,.bool X.neg,ints X.mag,ints X.den,kK (fP v A).ps]:=by rw [hC]
      clear hM hE
      refine BZ @hc3 ?_
      obtain ⟨s1,hs1⟩ : ∃ s1,s ++ [none] = s1:=⟨_,rfl⟩
      have k0 : aj s1 0 = some ⟨5,[[iv 0,.bool false,.ak,.ak,.ak]]⟩:=by rw [← hs1];exact (aQ (by omega)).trans I0
      have k1 : aj s1 1 = some ⟨3,[X.cells]⟩:=by rw [← hs1];exact (aQ (by omega)).trans I1
      have kc : aj s1 cN = some ⟨5,[(fP v A).cells]⟩:=by rw [← hs1];exact (aQ (by omega)).trans Ic
      clear I0 I1 Ic hcq Wi
      refine aO (fun x d=>(x == 36 && d == 999)) (α:=Nat × Store × V) (fun q=>⟨bF [.any,iv v,.any,.any,.ptr 0 0 0,.ak,.bool false,kK A,.ptr 1 0 0,.any,.any,.ptr cN 0 0,.any,.any,q.2.2,.any,.any,.any,.any,.any,.any,.any,.any,.any,.any,.any,.any,.any,.any,.any,.any,.any,.any,.any,.any,.any,.any,.any,.any,.any,.any,.any,.any,.any,.any,.any,.any,.any,.any,.any,.any,.any,.any,.any,.any,.any,.any,.any,.any,.any,.any,.any,.any,.any,.any,.any,.any,.any,.any,.any,.any,.any,kK A,iv (A.length : Nat),iv (q.1 : Nat)],q.2.1,0,0,[],[]⟩) (fun q=>(q.1 ≤ A.length ∧ aj q.2.1 0 = some ⟨5,[[iv 0,.bool false,.ak,.ak,.ak]]⟩ ∧ aj q.2.1 1 = some ⟨3,[X.cells]⟩ ∧ aj q.2.1 cN = some ⟨5,[(fP v A).cells]⟩) ∧ (q.1 < A.length → LnA q.2.1 q.2.2 (iF A q.1)) ∧ (q.1 = A.length → q.2.2 = bf (FU A))) (fun q=>A.length - q.1) rfl (0,s1,if A.length = 0 then bf [] else .ak) ?_ ?_ ?_
      ·dsimp only
       refine ⟨⟨Nat.zero_le _,k0,k1,kc⟩,fun e=>.inl ⟨rfl,if_neg (by omega)⟩,fun e=>?_⟩
       rw [if_pos e.symm]
       unfold FU
       rw [← e];rfl
      ·dsimp only
       rw [hs1]
       by_cases hA0 : A.length = 0
       ·rw [if_pos hA0]
        refine aH ?_
        refine ew ?_
        (repeat' (first | exact jJ _ | exact jI (by omega) | refine ⟨?_,?_⟩ | exact lZ rfl | rfl))
       ·rw [if_neg hA0]
        (refine aH ?_;exact uT)
      ·clear k0 k1 kc hs1
       rintro ⟨i,s,mv⟩ ⟨⟨hi,I0,I1,Ic⟩,hM,hE⟩
       dsimp only at hi I0 I1 Ic hM hE
       have Wi:=aJ I1
       have hcq:=aJ Ic
       by_cases hc4 : (i : Int) < (A.length : Nat)
       ·have hil : i < A.length:=by omega
        have hL:=hM hil
        have hx : (A.map Pa.cells).getD i [] = (A.getD i default).cells:=mg hil
        have hiA:=hok _ (getD_mem hil)
        have hLl:=Dy A i
        have ht : ((i : Int) + 1).toNat = i + 1:=by omega
        have hdr : (A.map Pa.cells).drop (i + 1) = (A.drop (i + 1)).map Pa.cells:=(List.map_drop ..).symm
        have hdl : (A.drop (i + 1)).length = A.length - (i + 1):=by simp
        refine yJ @hc4 @hx @ht @hdr (And.intro I0 (And.intro I1 Ic)) ?_
        obtain ⟨qc,hqc⟩ : ∃ qc,List.length s = qc:=⟨_,rfl⟩
        refine aO (fun x d=>(x == 36 && d == 999)) (α:=Nat × Store × V) (fun q=>⟨bF [.any,iv v,.any,.any,.ptr 0 0 0,.ak,.bool false,kK A,.ptr 1 0 0,.any,.any,.ptr cN 0 0,.any,.any,q.2.2,iv (i : Nat),.ptr qc 0 0,.any,.any,.any,.any,.any,.any,.any,.any,.any,.any,.any,.any,.any,.any,.any,.any,.any,.any,.any,.any,.any,.any,.any,.any,.any,.any,.any,.any,.any,.any,.any,.any,.any,.any,.any,.any,.any,.any,.any,.any,.any,.any,.any,.any,.any,.any,.any,.any,.any,.any,.any,.any,.any,.any,.any,kK A,iv (A.length : Nat),iv (i : Nat),.any,.any,.any,.any,.any,.any,.any,kK (A.drop (i + 1)),iv ((A.drop (i + 1)).length : Nat),iv (q.1 : Nat)],q.2.1,0,0,[],[]⟩) (fun q=>(i + 1 + q.1 ≤ A.length ∧ aj q.2.1 0 = some ⟨5,[[iv 0,.bool false,.ak,.ak,.ak]]⟩ ∧ aj q.2.1 1 = some ⟨3,[X.cells]⟩ ∧ aj q.2.1 cN = some ⟨5,[(fP v A).cells]⟩ ∧ aj q.2.1 qc = some ⟨10,[(A.getD i default).cells]⟩) ∧ LnA q.2.1 q.2.2 (iF A i ++ mW A i q.1)) (fun q=>A.length - q.1) rfl (0,s ++ [some ⟨10,[(A.getD i default).cells]⟩],mv) ?_ ?_ ?_
        ·refine ⟨⟨by dsimp only;omega,(aQ (by omega)).trans I0,(aQ Wi).trans I1,(aQ hcq).trans Ic,by dsimp only;rw [← hqc];exact qG _ _⟩,?_⟩
         dsimp only
         rw [PK,List.append_nil]
         exact hL.fr fun p hp=>aQ hp
        ·subst hqc
         (refine aH ?_;exact uT)
        ·have hq3 : 3 ≤ qc:=by omega
         clear I0 I1 Ic Wi hcq hL hM hE hqc
         rintro ⟨j,s,mv⟩ ⟨⟨hj,I0,I1,Ic,Iq⟩,hL⟩
         dsimp only at hj I0 I1 Ic Iq hL
         have Wi:=aJ I1
         have hcq:=aJ Ic
         have hqq:=aJ Iq
         have hRl:=NV A i j
         by_cases hc5 : (j : Int) < ((A.drop (i + 1)).length : Nat)
         ·have hkl : i + 1 + j < A.length:=by omega
          have hg2 : ((A.drop (i + 1)).map Pa.cells).getD j [] = (A.getD (i + 1 + j) default).cells:=by
           rw [mg (by omega),List.getD_eq_getElem?_getD,List.getElem?_drop,← List.getD_eq_getElem?_getD]
          have hkA:=hok _ (getD_mem hkl)
          have es:=V6 A hkl
          rw [hXe] at es
          obtain ⟨a,ha⟩ : ∃ a,A.getD i default = a:=⟨_,rfl⟩
          obtain ⟨b,hb'⟩ : ∃ b,A.getD (i + 1 + j) default = b:=⟨_,rfl⟩
          rw [ha] at hiA es Iq
          rw [hb'] at hkA es hg2
          have cm:=rC h.fM (r:=a.share) (s:=b.share) (dI (yg hiA.1)) (dI (yg hkA.1))
          have cd:=FC h.oZ (r:=mulR a.share b.share) (s:=X) (dI (Pj _ _)) (dI hX)
          have cx:=Jc h.uq (r:=a.dx) (s:=b.dx) (dI hiA.2.1) (dI hkA.2.1)
          have cy:=Jc h.uq (r:=a.dy) (s:=b.dy) (dI hiA.2.2.1) (dI hkA.2.2.1)
          have en : iF A i ++ mW A i (j + 1) = (iF A i ++ mW A i j) ++ [IU X a b]:=by rw [es,List.append_assoc]
          have hMl : (iF A i ++ mW A i j).length ≤ 20000:=by
           rw [List.length_append]
           have : i * A.length ≤ 100 * 100:=Nat.mul_le_mul (by omega) (by omega)
           omega
          generalize iF A i ++ mW A i j = Ms at *
          rcases hL with ⟨rfl,rfl⟩ | ⟨m2,rfl,hm2⟩
          ·refine xX @hc5 @hg2 (And.intro I1 Iq) (And.intro aB aS) ?_
           refine ah cm ?_
           refine sJ (And.intro I1 Iq) (And.intro aB aS) ?_
           refine ah cd ?_
           refine sJ (And.intro I1 Iq) (And.intro aB aS) ?_
           refine ah cx ?_
           refine sJ (And.intro I1 Iq) (And.intro aB aS) ?_
           refine ah cy ?_
           refine sJ (And.intro I1 Iq) (And.intro aB aS) ?_
           refine ⟨by omega,GK [1,qc,s.length,s.length + 1,s.length + 1 + 1] [⟨25,[],[],false⟩,⟨24,[3],[4],false⟩,⟨23,[],[3],false⟩,⟨22,[],[],false⟩,⟨21,[],[],false⟩,⟨20,[2],[],false⟩,⟨19,[2],[],false⟩,⟨18,[1],[],false⟩,⟨17,[1],[],false⟩,⟨16,[],[],false⟩,⟨15,[2],[],false⟩,⟨14,[2],[],false⟩,⟨13,[1],[],false⟩,⟨12,[1],[],false⟩,⟨11,[],[],false⟩,⟨10,[0],[],false⟩,⟨9,[],[],false⟩,⟨8,[2],[],false⟩,⟨7,[2],[],false⟩,⟨6,[1],[],false⟩,⟨5,[1],[],false⟩,⟨4,[2],[],false⟩,⟨3,[2],[],false⟩,⟨2,[1],[],false⟩,⟨1,[1],[],false⟩,⟨0,[],[],false⟩] ?_ ?_ rfl ?_,?_⟩
           ·clear I0 I1 Ic Iq ca ci c0 cl
            generalize List.length s = m at Wi hcq hqq ⊢
            simp;omega
           ·intro o ho;simp at ho;omega
           ·show iW 5 _ _
            unfold iW;rfl
           refine ⟨(j + 1,?s6,.bC (s.length + 1 + 1) 0 1),?m6,⟨⟨?a6,?b6,?c6,?d6,?f6⟩,.inr ⟨s.length + 1 + 1,?g6,?h6⟩⟩,?e6⟩
           case e6=>dsimp only;(refine aH ?_;exact uT)
           case m6=>dsimp only;omega
           case a6=>dsimp only;omega
           case b6=>exact (show aj _ 0 = aj s 0 by exact rZ).trans I0
           case c6=>exact (show aj _ 1 = aj s 1 by exact rZ).trans I1
           case d6=>exact (show aj _ cN = aj s cN by exact rZ).trans Ic
           case f6=>dsimp only;rw [ha];exact (show aj _ qc = aj s qc by exact rZ).trans Iq
           case g6=>dsimp only;rw [en];simp
           case h6 =>
            dsimp only
            rw [en]
            simp (disch:=first | omega | (simp only [List.length_append,List.length_set,List.length_cons,List.length_nil];omega)) only [DK]
            simp [IU]
          ·have apA:=aJ hm2
           have n1 : m2 ≠ 1:=fun e=>by rw [e,I1] at hm2;cases hm2
           have n2 : m2 ≠ cN:=fun e=>by rw [e,Ic] at hm2;cases hm2
           have n3 : m2 ≠ qc:=fun e=>by rw [e,Iq] at hm2;cases hm2
           have n0 : m2 ≠ 0:=fun e=>by rw [e,I0] at hm2;cases hm2
           refine yJ @hc5 @hg2 (And.intro I1 Iq) (And.intro aB aS) @hm2 ?_
           refine ah cm ?_
           refine Cb (And.intro I1 Iq) (And.intro aB aS) @hm2 ?_
           refine ah cd ?_
           refine Cb (And.intro I1 Iq) (And.intro aB aS) @hm2 ?_
           refine ah cx ?_
           refine Cb (And.intro I1 Iq) (And.intro aB aS) @hm2 ?_
           refine ah cy ?_
           refine Cb (And.intro I1 Iq) (And.intro aB aS) @hm2 ?_
           refine ⟨by omega,GK [1,qc,s.length,s.length + 1,s.length + 1 + 1,m2] [⟨25,[],[],false⟩,⟨24,[5,3],[5,4],false⟩,⟨23,[],[3],false⟩,⟨22,[],[],false⟩,⟨21,[],[],false⟩,⟨20,[2],[],false⟩,⟨19,[2],[],false⟩,⟨18,[1],[],false⟩,⟨17,[1],[],false⟩,⟨16,[],[],false⟩,⟨15,[2],[],false⟩,⟨14,[2],[],false⟩,⟨13,[1],[],false⟩,⟨12,[1],[],false⟩,⟨11,[],[],false⟩,⟨10,[0],[],false⟩,⟨9,[],[],false⟩,⟨8,[2],[],false⟩,⟨7,[2],[],false⟩,⟨6,[1],[],false⟩,⟨5,[1],[],false⟩,⟨4,[2],[],false⟩,⟨3,[2],[],false⟩,⟨2,[1],[],false⟩,⟨1,[1],[],false⟩,⟨0,[],[],false⟩] ?_ ?_ rfl ?_,?_⟩
           ·clear I0 I1 Ic Iq ca ci c0 cl hm2
            generalize List.length s = m at Wi hcq hqq apA ⊢
            simp;omega
           ·intro o ho;simp at ho;omega
           ·show iW 6 _ _
            unfold iW;rfl
           refine ⟨(j + 1,?s7,.bC (s.length + 1 + 1) 0 (Ms.length + 1)),?m7,⟨⟨?a7,?b7,?c7,?d7,?f7⟩,.inr ⟨s.length + 1 + 1,?g7,?h7⟩⟩,?e7⟩
           case e7=>dsimp only;(refine aH ?_;exact uT)
           case m7=>dsimp only;omega
           case a7=>dsimp only;omega
           case b7=>exact (show aj _ 0 = aj s 0 by exact rZ).trans I0
           case c7=>exact (show aj _ 1 = aj s 1 by exact rZ).trans I1
           case d7=>exact (show aj _ cN = aj s cN by exact rZ).trans Ic
           case f7=>dsimp only;rw [ha];exact (show aj _ qc = aj s qc by exact rZ).trans Iq
           case g7=>dsimp only;rw [en];simp
           case h7 =>
            dsimp only
            rw [en]
            simp (disch:=first | omega | (simp only [List.length_append,List.length_set,List.length_cons,List.length_nil];omega)) only [DK]
            simp [IU]
         ·have hjn : j = A.length - (i + 1):=by omega
          have hL2 : LnA s mv (iF A (i + 1)):=by
           rw [hjn] at hL;exact hL
          refine BZ @hc5 ?_
          by_cases hi1 : i + 1 < A.length
          ·refine ⟨(i + 1,s,mv),by dsimp only;omega,⟨⟨by dsimp only;omega,I0,I1,Ic⟩,fun _=>hL2,fun e=>absurd e (by dsimp only;omega)⟩,?_⟩
           dsimp only
           (refine aH ?_;exact uT)
          ·have hin : i + 1 = A.length:=by omega
           have hms : iF A (i + 1) = FU A:=by unfold FU;rw [hin]
           rw [hms] at hL2
           refine ⟨(i + 1,Bq s cN ⟨5,[(fP v A).cells]⟩ [0,1],bf (FU A)),by dsimp only;omega,⟨⟨by dsimp only;omega,OA I0 (by omega) (by simp),OA I1 (by omega) (by simp),ai4 Ic⟩,fun e=>absurd e (by dsimp only;omega),fun _=>rfl⟩,?_⟩
           dsimp only
           refine al2 hc2 I0 I1 Ic ?_
           intro W hW w0 w1 wc
           refine ew ?_
           exact ⟨fZ w0 (by omega),fZ w1 (by omega),fZ wc (by omega),hW _ _ hL2,by omega⟩
       ·have hin : i = A.length:=by omega
        have hmv:=hE hin
        subst hin
        subst hmv
        have wcd : (fP v A).wf:=by
         rw [hC]
         exact ⟨dI hX,by simp;omega,fun x hx=>by
          obtain ⟨a,ha,rfl⟩:=List.mem_map.1 hx
          have:=hok a ha
          exact ⟨dI (D6 _ _),dI this.2.1,dI this.2.2.1⟩⟩
        have hml:=Dy A A.length
        have axg : A.length * A.length ≤ 100 * 100:=Nat.mul_le_mul (by omega) (by omega)
        have wms : BU Lk.wf (FU A):=⟨by show (iF A A.length).length ≤ _;omega,fun x hx=>by
         have:=abz x hx
         exact ⟨dI this.1,dI this.2.1,dI this.2.2⟩⟩
        have cv:=Hq h.DN (c:=fP v A) wcd
        have cs:=nM h.cZ (l:=FU A) wms
        refine sJ @hc4 (And.intro I0 (And.intro I1 Ic)) ?_
        refine ah cv ?_
        cases hcd : kV (fP v A)
        ·rw [hcd] at hB
         have hB : KQ S v = false:=hB
         rw [(hF hB).1,(hF hB).2,hB]
         refine BZ @I0 ?_
         exact Aj (σ:=[])
        ·rw [hcd,Bool.true_and] at hB
         rw [alR hcd] at cs
         refine BZ @I0 ?_
         refine ah cs ?_
         cases ha : (FU A).all ji
         ·rw [ha] at hB
          rw [(hF hB).1,(hF hB).2,hB]
          refine BZ @I0 ?_
          exact Aj (σ:=[])
         ·rw [ha] at hB
          rw [(hT hB).1,(hT hB).2,hB]
          refine BZ (And.intro I0 (And.intro I1 Ic)) ?_
          exact ai5 (σ:=List.set s 0 (some ⟨5,[(fP v A).cells]⟩))
 ·have hB:=agf (S:=S) hv
  have hcl : (decide ((1 : Int) ≤ v) && decide (v ≤ 9)) = false:=by
   rcases Int.lt_or_le v 1 with k | k
   ·rw [decide_eq_false (show ¬ 1 ≤ v by omega)];rfl
   ·rw [decide_eq_false (show ¬ v ≤ 9 by omega)];simp
  rw [hcl] at cl
  rw [(TF hB).1,(TF hB).2,hB]
  refine aK (fun x d=>(x == 36 && d == 999)) h.hT ?_
  simp only [gI,Lz]
  refine ew ?_
  refine ah ci ?_
  refine ew ?_
  refine ah cl ?_
  refine ew ?_
  exact Aj (σ:=[])
end Go.Ml
end
