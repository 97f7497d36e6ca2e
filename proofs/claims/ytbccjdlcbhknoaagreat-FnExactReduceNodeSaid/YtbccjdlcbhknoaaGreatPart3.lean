/- A small language for the functions of this claim, its soundness, contracts. -/
import Derived.Test.YtbccjdlcbhknoaaGreatPart2
set_option linter.unusedSimpArgs false
set_option linter.unusedVariables false
set_option maxRecDepth 100000
set_option maxHeartbeats 16000000
section
namespace Go.Ml
def aoq (σ : Store) (r : V) (ts : List (Bool × V)) : Prop:=∃ W σ2 vs os,ReS W σ σ2 ∧ pJ W σ r (.eF vs) ∧ Oo σ2 vs ts os ∧ os.Nodup
theorem La {T : Tb} {f : Nat} {F : Fn} {args : List V} {ts : List (Bool × V)} (rf : Nat → Nat → Bool) (hT : T f = some F)
  (h : wp T rf F.body (fun e st=>endW F.res e (fun r σ=>Zg σ r ts ∨ aoq σ r ts) st) (St.enter args [])) (hl : args.length = F.nargs:=by rfl) (hk : F.body.VJ = true:=by rfl) : PX T f args ts:=by
 obtain ⟨r,σ',h1,h2⟩:=run_end rf hT h hl hk
 rcases h2 with ⟨vs,os,h2,h3,h4⟩ | ⟨W,σ2,vs,os,h2,h3,h4,h5⟩
 ·exact ⟨vs,σ',os,.Yq (qF _) h1 h2,h3,h4⟩
 ·exact ⟨vs,σ2,os,.reF W (qF _) h1 h2 h3,h4,h5⟩
theorem ahv {σ : Store} {v w t u : V} {os : List Nat} (h : bD σ v t os) (hn : os.Nodup) (hr : resolve σ FD w = some u) : Zg σ (.eF [v,w]) [(true,t),(false,u)]:=by
 refine ⟨[v,w],os,aC _,?_,hn⟩
 simp only [Oo,if_true,Bool.false_eq_true,if_false]
 exact ⟨v,[w],os,[],rfl,by simp,h,w,[],[],[],rfl,rfl,⟨hr,rfl⟩,rfl,rfl⟩
theorem TK (l : List Int) : trim l = l.take (trim l).length ∧ (trim l).length ≤ l.length:=by
 have h:=WG l l.length
 have e2 : (trim l).length = mP l l.length:=by unfold trim;rw [List.length_take];omega
 exact ⟨by rw [e2];rfl,by omega⟩
theorem ahw {Q : List Int} {n : Nat} (h : n ≤ Q.length) : ReS [some (0,0,n)] [some ⟨1,aN Q⟩] [some ⟨1,aN (Q.take n)⟩]:=by
 refine ⟨rfl,fun i j o s l s' l' h1 h2=>?_,fun k o s l hk=>?_,fun k hk=>?_⟩
 ·cases i with
  |
   zero=>cases j with
   | zero=>rfl
   | succ j=>simp at h2
  | succ i=>simp at h1
 ·cases k with
  | succ k=>simp at hk
  |
   zero =>
   simp only [List.getElem?_cons_zero,Option.some.injEq,Prod.mk.injEq] at hk
   obtain ⟨rfl,rfl,rfl⟩:=hk
   refine ⟨⟨1,aN Q⟩,⟨1,aN (Q.take n)⟩,rfl,by rw [Ak];omega,rfl,rfl,by rw [Ak,List.length_take];omega,fun i r r2 h1 h2=>?_⟩
   have hi : i < n:=by
    have:=(List.getElem?_eq_some_iff.1 h2).1
    rw [Ak,List.length_take] at this;omega
   have e : r2 = r:=by
    rw [Nat.zero_add] at h1
    simp only [aN,List.getElem?_map] at h1 h2
    rw [List.getElem?_take_of_lt hi,h1] at h2
    exact (Option.some.inj h2).symm
   subst e
   refine BZ fun v hv=>nN Q r2 ?_ v hv
   exact List.mem_of_getElem? h1
 ·cases k <;> simp at hk
theorem aew {Q : List Int} {n : Nat} {t u : V} (h : n ≤ Q.length) (ht : t = ints (Q.take n)) (hu : u.still = true) : aoq [some ⟨1,aN Q⟩] (.eF [.bC 0 0 n,u]) [(true,t),(false,u)]:=by
 subst ht
 refine ⟨[some (0,0,n)],[some ⟨1,aN (Q.take n)⟩],[.bC 0 0 n,u],[0],ahw h,?_,?_,by simp⟩
 ·simp only [pJ,DU]
  exact ⟨_,rfl,_,_,rfl,.inl ⟨0,0,n,rfl,Nat.le_refl _,by omega,rfl⟩,_,_,rfl,uM hu,rfl⟩
 ·simp only [Oo,if_true,Bool.false_eq_true,if_false]
  refine ⟨_,[u],[0],[],rfl,rfl,?_,u,[],[],[],rfl,rfl,⟨MK (n:=11) hu,rfl⟩,rfl,rfl⟩
  have:=Ik (σ:=[some ⟨1,aN (Q.take n)⟩]) (o:=0) (l:=Q.take n) rfl
  rwa [List.length_take,Nat.min_eq_left h] at this
theorem Nc (g : Nat → Option Nat) (l : List Int) : iH g ⟨1,aN l⟩ = ⟨1,aN l⟩:=by
 unfold iH
 congr 1
 simp only [aN,List.map_map]
 rfl
theorem Nh {T : Tb} {f : Nat} {as : List Src} {dst : Option Nat} {env : Nat → V} {σ : Store} {kp bs : Nat} {rs ms : List Nat} {k : St → Prop} {ρ : List Nat} {as' : List V} {r : V} {σ' : Store} (hn : ρ.Nodup)
  (hρ : ∀ o,o ∈ ρ → ∃ l,aj σ o = some ⟨1,aN l⟩) (ha : (as.map fun s=>aY (place ρ) (s.ev env)) = as') (hr : Run T (.fn f as' (Eu ρ σ)) (.fn r σ'))
  (hold : ∀ q,q < ρ.length → aj σ' q = aj (Eu ρ σ) q) (hk : ∀ σ2 : Store,(∀ q,q < σ.length → aj σ2 q = aj σ q) → σ.length ≤ σ2.length → k ⟨dV env dst (aY (back ρ σ.length) r),σ2,kp,bs,rs,ms⟩) :
  Jz T f as dst ⟨env,σ,kp,bs,rs,ms⟩ k:=by
 subst ha
 refine ⟨_,.ref ρ hn (fun o ho=>by obtain ⟨l,h⟩:=hρ o ho;rw [h];rfl) hr,?_⟩
 refine hk _ (fun q hq=>?_) (by simp [kR])
 have e1 : aj (kR ρ σ σ') q = ((σ.mapIdx fun o ob=>match place ρ o with
   | some j=>(aj σ' j).map (iH (back ρ σ.length))
   | none=>ob)[q]?).getD none:=by
  show ((kR ρ σ σ')[q]?).getD none = _
  unfold kR
  rw [List.getElem?_append_left (by simpa using hq)]
  rfl
 show aj (kR ρ σ σ') q = _
 rw [e1,List.getElem?_mapIdx,List.getElem?_eq_getElem hq]
 simp only [Option.map_some,Option.getD_some]
 cases hp : place ρ q with
 | none=>simp [aj,List.getElem?_eq_getElem hq]
 |
  some j =>
  have hj:=iK hp
  have hlt:=(List.getElem?_eq_some_iff.1 hj).1
  simp only []
  rw [hold j hlt,Ez,hj]
  obtain ⟨l,hl⟩:=hρ q (List.mem_of_getElem? hj)
  simp only [hl,Option.map_some,Nc]
end Go.Ml
namespace Go.Ml
theorem U7 {L : Nat} {d e : fP} {i : Nat} {R : List Nat} {b : Acc} (hw : ∀ w ∈ b.W,w ∉ R) (h : lD L d e ⟨i,[],[],true⟩ b = true) : lD L d e ⟨i,R,[],true⟩ b = true:=by
 simp only [lD,Bool.and_eq_true] at h ⊢
 obtain ⟨⟨⟨⟨h1,h2⟩,h3⟩,h4⟩,h5⟩:=h
 refine ⟨⟨⟨⟨h1,h2⟩,?_⟩,h4⟩,?_⟩
 ·rw [List.all_eq_true]
  intro w hw'
  simpa using hw w hw'
 ·unfold rC at h5 ⊢
  simpa using h5
theorem U8 {L : Nat} {d e : fP} {i : Nat} {R : List Nat} {b : Acc} (hw : ∀ w ∈ b.W,w ∉ R) (h : lD L d e b ⟨i,[],[],true⟩ = true) : lD L d e b ⟨i,R,[],true⟩ = true:=by
 simp only [lD,Bool.and_eq_true] at h ⊢
 obtain ⟨⟨⟨⟨h1,h2⟩,h3⟩,h4⟩,h5⟩:=h
 refine ⟨⟨⟨⟨h1,?_⟩,h3⟩,?_⟩,h5⟩
 ·rw [List.all_eq_true]
  intro w hw'
  simpa using hw w hw'
 ·unfold rC at h4 ⊢
  simpa using h4
theorem Xu {L : Nat} {B : Nat → List Nat} {ops : List fP} {i : Nat} {R : List Nat} : ∀ (pre post : List Acc),(∀ b ∈ pre ++ post,∀ w ∈ b.W,w ∉ R) → okA L B ops (pre ++ ⟨i,[],[],true⟩ :: post) = true → okA L B ops (pre ++ ⟨i,R,[],true⟩ :: post) = true
 |
  [],post,hw,h=>by
  simp only [List.nil_append,okA,Bool.and_eq_true,List.all_eq_true,Bool.or_eq_true] at h ⊢
  refine ⟨fun b hb=>?_,h.2⟩
  rcases h.1 b hb with k | k
  ·exact .inl k
  ·exact .inr (U7 (hw b (by simpa using hb)) k)
 |
  a :: pre,post,hw,h=>by
  simp only [List.cons_append,okA,Bool.and_eq_true,List.all_eq_true,Bool.or_eq_true] at h ⊢
  refine ⟨fun b hb=>?_,Xu pre post (fun b hb=>hw b (by simp only [List.cons_append,List.mem_cons];exact .inr hb)) h.2⟩
  rcases List.mem_append.1 hb with hb | hb
  ·exact h.1 b (List.mem_append_left _ hb)
  ·rcases List.mem_cons.1 hb with rfl | hb
   ·rcases h.1 ⟨i,[],[],true⟩ (by simp) with k | k
    ·exact .inl k
    ·exact .inr (U8 (hw a (by simp)) k)
   ·exact h.1 b (List.mem_append_right _ (List.mem_cons_of_mem _ hb))
theorem aex {L : Nat} {ops : List fP} {i : Nat} {R : List Nat} (pre post : List Acc) (hw : ∀ b ∈ pre ++ post,∀ w ∈ b.W,w ∉ R) (h : jl L ops (pre ++ ⟨i,[],[],true⟩ :: post)) : jl L ops (pre ++ ⟨i,R,[],true⟩ :: post):=by
 unfold jl at h ⊢
 simp only [List.reverse_append,List.reverse_cons,List.append_assoc,List.singleton_append] at h ⊢
 exact Xu _ _ (fun b hb=>hw b (by rcases List.mem_append.1 hb with h | h <;> simp at h <;> simp [h])) h
theorem Zi {σ : Store} {v : V} {l : List Int} {os : List Nat} (h : bD σ v (ints l) os) : ∀ n,∀ o ∈ reach σ n v,o ∈ os:=by
 intro n o ho
 rcases h.wH with ⟨_,rfl,_⟩ | ⟨q,rfl,h1,rfl⟩
 ·cases n <;> simp [reach] at ho
 ·cases n with
  | zero=>simp [reach] at ho
  |
   succ n =>
   simp only [reach,h1,List.mem_cons,List.mem_flatMap] at ho
   rcases ho with rfl | ⟨r,hr,c,hc,ho⟩
   ·simp
   ·have hs:=nN l r hr c hc
    cases n with
    | zero=>simp [reach] at ho
    | succ n=>rw [Du hs] at ho;cases ho
theorem EX {σ : Store} {n : Nat} {cs : List V} {o : Nat} : o ∈ reach σ (n + 1) (.agg cs) ↔ ∃ c ∈ cs,o ∈ reach σ n c:=by
 simp [reach,List.mem_flatMap]
theorem IZ {T : Tb} {f : Nat} {as : List Src} {dst : Option Nat} {env : Nat → V} {σ : Store} {kp bs : Nat} {rs ms : List Nat} {k : List Nat → List Nat → Bool → St → Prop} {as' : List V} {t : V} (P : Nat → Prop) (h : PO T f as' t)
  (ha : EC env σ as (· = as')) (hr : ∀ o ∈ dh env σ as,P o) (hk : ∀ R r σ2 os,(∀ o ∈ R,P o) → Got σ σ2 r t os → k R [] true ⟨dV env dst r,σ2,kp,bs,rs,ms⟩) : YE T f as dst ⟨env,σ,kp,bs,rs,ms⟩ k :=
 KU h ha fun r σ2 os g=>hk _ r σ2 os hr g
end Go.Ml
namespace Go.Ml
theorem Xv {L L' : Nat} (hL : L' ≤ L) {d e : fP} {a b : Acc} (h : lD L' d e a b = true) : lD L d e a b = true:=by
 have hb : ∀ a b : Acc,rC L' a b = true → rC L a b = true:=by
  intro a b h
  unfold rC at h ⊢
  simp only [Bool.or_eq_true,Bool.and_eq_true,Bool.not_eq_true',List.all_eq_true,decide_eq_true_eq] at h ⊢
  rcases h with h | ⟨⟨h1,h2⟩,h3⟩
  ·exact .inl h
  ·exact .inr ⟨⟨h1,fun o ho=>Nat.lt_of_lt_of_le (h2 o ho) hL⟩,fun o ho=>Nat.lt_of_lt_of_le (h3 o ho) hL⟩
 simp only [lD,Bool.and_eq_true] at h ⊢
 exact ⟨⟨h.1.1,hb _ _ h.1.2⟩,hb _ _ h.2⟩
theorem Xw {L L' : Nat} (hL : L' ≤ L) {B : Nat → List Nat} {ops : List fP} : ∀ l : List Acc,okA L' B ops l = true → okA L B ops l = true
 | [],_=>rfl
 |
  a :: l,h=>by
  simp only [okA,Bool.and_eq_true,List.all_eq_true,Bool.or_eq_true] at h ⊢
  refine ⟨fun b hb=>?_,Xw hL l h.2⟩
  rcases h.1 b hb with k | k
  ·exact .inl k
  ·exact .inr (Xv hL k)
theorem qp {L L' : Nat} {ops : List fP} {l : List Acc} (hL : L' ≤ L) (h : jl L' ops l) : jl L ops l:=Xw hL _ h
theorem I4 {L : Nat} {ops : List fP} (aF : List Nat → List Acc) (Q : List Nat → Prop) (m i : Nat) (h1 : (aF [])[m]? = some ⟨i,[],[],true⟩) (h2 : ∀ R,aF R = (aF []).set m ⟨i,R,[],true⟩)
  (hw : ∀ R,Q R → ∀ b ∈ aF [],∀ w ∈ b.W,w ∉ R) (h : jl L ops (aF [])) : ∀ R,Q R → jl L ops (aF R):=by
 intro R hR
 have hlt:=(List.getElem?_eq_some_iff.1 h1).1
 have e : aF [] = (aF []).take m ++ ⟨i,[],[],true⟩ :: (aF []).drop (m + 1):=by
  conv=>lhs;rw [← List.take_append_drop m (aF []),List.drop_eq_getElem_cons hlt]
  rw [(List.getElem?_eq_some_iff.1 h1).2]
 have e2 : aF R = (aF []).take m ++ ⟨i,R,[],true⟩ :: (aF []).drop (m + 1):=by
  rw [h2,List.set_eq_take_append_cons_drop,if_pos hlt]
 rw [e2]
 refine aex _ _ (fun b hb=>hw R hR b ?_) (e ▸ h)
 rcases List.mem_append.1 hb with h | h
 ·exact List.mem_of_mem_take h
 ·exact List.mem_of_mem_drop h
theorem Ep.push {s : Store} {cs ts : List V} {os : List Nat} {L : List (Nat × Obj)} {ob : Obj} (E : Ep s cs ts os L) : Ep (s ++ [some ob]) cs ts os (L ++ [(s.length,ob)]):=by
 refine ⟨E.c.snoc,fun q hq=>?_⟩
 rcases List.mem_append.1 hq with hq | hq
 ·exact E.snoc.l q hq
 ·simp only [List.mem_cons,List.not_mem_nil,or_false] at hq
  subst hq
  exact ⟨nD _ _,fun hm=>absurd (E.c.lt _ hm) (Nat.lt_irrefl _)⟩
theorem Ep.reach {s : Store} {cs ts : List V} {os : List Nat} {L : List (Nat × Obj)} (E : Ep s cs ts os L) (c : Nat) {v : V} {l : List Int} (hv : cs[c]? = some v) (ht : ts[c]? = some (ints l)) (n : Nat) : ∀ o ∈ reach s n v,o ∈ os:=by
 intro o ho
 obtain ⟨vc,oc,j1,j2,_,j4,_⟩:=E.c.ow.focus c _ E.c.nd ht
 rw [hv] at j1
 cases j1
 exact j4 o (Zi j2 n o ho)
def sO : Fn:=⟨1,22,[.tmp 2],(sr [oN 2 mN] (.seq (rf 1 [oK 5 1 (oV 0),oK 6 1 (ln 5),oN 7 (.make FU 8 (.t 6)),oK 3 1 (oV 7)]) (.seq (sr [oN 4 (.bZ (cI 0))] (.block 0 (.loop (.seq (sr [oW 8 4,oW 9 0,oN 10 (ln 9),oN 11 (bt .lss 8 10)] (cd 11 .skip (.exit 0))) (.seq (.block 1 (rg [oW 14 3,oW 15 4,oW 16 0,oW 17 4,oN 18 (ix 1 16 17),oN 19 (lF 1 18),oN 20 (ix 1 14 15),oS (.store 1 (.t 20) (.t 19))])) (rg [oW 12 4,oN 13 (bc .add 12 1),oW 4 13])))))) (sr [oW 21 3,oW 2 21] .ret))))⟩
structure sQ (T : Tb) : Prop where
 hT : T 6 = some sO
def zS : Fn:=⟨2,26,[.tmp 4],(sr [oN 4 mF] (.seq (sr [oW 6 0,oN 7 (ln 6),oW 8 1,oN 9 (ln 8),oN 10 (bt .neq 7 9)] (cd 10 (sr [oN 4 mF] .ret) .skip)) (.seq (sr [oN 5 (.bZ (cI 0))] (.block 0 (.loop (.seq (sr [oW 11 5,oW 12 0,oN 13 (ln 12),oN 14 (bt .lss 11 13)] (cd 14 .skip (.exit 0))) (.seq (.block 1 (.seq (rt 0 [oW 17 0,oW 18 5,oA 19 0 (ix 1 17 18) [0,1],oA 20 0 (lF 1 19) [2],oW 21 1,oW 22 5,oA 23 0 (ix 1 21 22) [4,5],oA 24 0 (lF 1 23) [6],oA 25 0 (bt .neq 20 24) [3,7]]) (cd 25 (sr [oN 4 mF] .ret) .skip))) (rg [oW 15 5,oN 16 (bc .add 15 1),oW 5 16])))))) (sr [oN 4 mT] .ret))))⟩
structure zT (T : Tb) : Prop where
 hT : T 8 = some zS
def zU : Fn:=⟨2,12,[.tmp 4],(sr [oN 4 (.bZ (cI 0))] (sr [oW 5 1,oW 6 0,oN 7 (ln 6),oN 8 (bt .sub 5 7),oW 1 8] (.seq (sr [oW 9 1,oN 10 (bc .lss 9 0)] (cd 10 (sr [oN 4 (.bZ (cI (-1)))] .ret) .skip)) (sr [oW 11 1,oW 4 11] .ret))))⟩
structure zV (T : Tb) : Prop where
 hT : T 61 = some zU
def uD : Fn:=⟨2,12,[.tmp 4],(.seq (rf 1 [oN 2 (.box (.t 0)),oK 4 1 (.bZ (cI 0))]) (sr [oN 5 (fd 1 2),oN 6 (lF 1 5),oW 7 1,oN 8 (cl 61 [6,7]),oW 1 8] (.seq (sr [oW 9 1,oN 10 (bc .lss 9 0)] (cd 10 (sr [oN 4 (.bZ (cI (-1)))] .ret) .skip)) (sr [oW 11 1,oW 4 11] .ret))))⟩
structure AX (T : Tb) : Prop where
 hT : T 60 = some uD
 Ed : zV T
def BG : Fn:=⟨2,18,[.tmp 4],(.seq (rf 1 [oN 2 (.box (.t 0)),oK 4 1 (.bZ (cI 0))]) (sr [oN 5 (fd 0 2),oN 6 (lT 2 5),oW 7 1,oN 8 (cl 60 [6,7]),oW 1 8] (.seq (sr [oW 9 1,oN 10 (bc .lss 9 0)] (cd 10 (sr [oN 4 (.bZ (cI (-1)))] .ret) .skip)) (sr [oN 11 (fd 2 2),oN 12 (lF 1 11),oW 13 1,oN 14 (cl 61 [12,13]),oW 1 14] (.seq (sr [oW 15 1,oN 16 (bc .lss 15 0)] (cd 16 (sr [oN 4 (.bZ (cI (-1)))] .ret) .skip)) (sr [oW 17 1,oW 4 17] .ret))))))⟩
structure F8 (T : Tb) : Prop where
 hT : T 46 = some BG
 Oq : AX T
 Ed : zV T
def nU : Fn:=⟨1,12,[.cell 2 2 true],(.seq (rf 2 [oN 1 (.box (.t 0)),oK 2 1 (.alloc Ro)]) (.seq (rf 1 [oN 3 (.alloc Ro)]) (sr [oN 4 (fd 0 1),oN 5 (lF 1 4),oN 6 (fd 0 3),oS (.store 1 (.t 6) (.t 5))] (sr [oN 7 (fd 1 1),oN 8 (lF 1 7),oN 9 (cl 6 [8]),oN 10 (fd 1 3),oS (.store 1 (.t 10) (.t 9))] (sr [oN 11 (lT 2 3),oS (.store 2 (.t 2) (.t 11))] .ret)))))⟩
structure uF (T : Tb) : Prop where
 hT : T 63 = some nU
 sS : sQ T
def wK : Fn:=⟨1,13,[.cell 2 3 true],(.seq (rf 2 [oN 1 (.box (.t 0)),oK 2 1 (.alloc kK)]) (.seq (rf 1 [oN 3 (.alloc kK)]) (sr [oN 4 (fd 0 1),oN 5 (lT 2 4),oN 6 (cl 63 [5]),oN 7 (fd 0 3),oS (.store 2 (.t 7) (.t 6))] (sr [oN 8 (fd 2 1),oN 9 (lF 1 8),oN 10 (cl 6 [9]),oN 11 (fd 2 3),oS (.store 1 (.t 11) (.t 10))] (sr [oN 12 (lT 3 3),oS (.store 3 (.t 2) (.t 12))] .ret)))))⟩
structure BH (T : Tb) : Prop where
 hT : T 48 = some wK
 sS : sQ T
 GU : uF T
def uG : Fn:=⟨2,16,[.tmp 4],(.seq (rf 2 [oN 2 (.box (.t 0)),oK 3 1 (.box (.t 1)),oK 4 2 mF]) (.seq (sr [oN 5 (fd 0 2),oN 6 (lF 1 5),oN 7 (fd 0 3),oN 8 (lF 1 7),oN 9 (.beq true (.t 6) (.t 8))] (cd 9 (sr [oN 4 mF] .ret) .skip)) (.seq (sr [oN 10 (fd 1 2),oN 11 (lF 1 10),oN 12 (fd 1 3),oN 13 (lF 1 12),oN 14 (cl 8 [11,13]),oN 15 (nt 14)] (cd 15 (sr [oN 4 mF] .ret) .skip)) (sr [oN 4 mT] .ret))))⟩
structure AY (T : Tb) : Prop where
 hT : T 55 = some uG
 Ee : zT T
def BI : Fn:=⟨2,17,[.tmp 4],(.seq (rf 2 [oN 2 (.box (.t 0)),oK 3 1 (.box (.t 1)),oK 4 2 mF]) (.seq (sr [oN 5 (fd 0 2),oN 6 (lT 2 5),oN 7 (fd 0 3),oN 8 (lT 2 7),oN 9 (cl 55 [6,8]),oN 10 (nt 9)] (cd 10 (sr [oN 4 mF] .ret) .skip)) (.seq (sr [oN 11 (fd 2 2),oN 12 (lF 1 11),oN 13 (fd 2 3),oN 14 (lF 1 13),oN 15 (cl 8 [12,14]),oN 16 (nt 15)] (cd 16 (sr [oN 4 mF] .ret) .skip)) (sr [oN 4 mT] .ret))))⟩
structure qN (T : Tb) : Prop where
 hT : T 40 = some BI
 Ee : zT T
 Ot : AY T
theorem Xx {T : Tb} (h : zV T) {l : List Int} {left : Int} (hl : l.length ≤ 9223372036854775807:=by exact dD) (h0 : 0 ≤ left ∧ left ≤ 1048576:=by exact dD) : PF T 61 [ints l,iv left] (iv (szr left l.length)):=by
 refine aT nR h.hT ?_
 simp only [zU,Lz]
 refine ev ?_
 refine aG (fun hb=>?_) fun hb=>?_ <;> (refine ev1 @hb ?_;try with_reducible exact True.intro)
 ·simp [szr];omega
 ·simp [szr];omega
theorem Xy {T : Tb} (h : sQ T) {l : List Int} (hl : l.length ≤ 1048576:=by exact dD) : PF T 6 [ints l] (ints l):=by
 refine aT nR h.hT ?_
 simp only [sO,Lz]
 refine ev ?_
 refine ⟨by omega,?_⟩
 rw [FN]
 refine aQ (fun _ _=>false) (α:=Nat) (fun i=>⟨bM [ints l,.any,.any,.bC 0 0 l.length,iv (i : Nat)],[some ⟨1,aN (Ci l 0 i)⟩],0,0,[],[]⟩) (fun i=>i ≤ l.length) (fun i=>l.length - i) rfl 0 ?_ ?_ ?_
 ·omega
 ·(refine aI ?_) <;> (try (refine ev1 @NR ?_;try with_reducible exact True.intro)) <;> (repeat' (first | refine ⟨?_,?_⟩ | exact kE (by omega) | exact mV (by simp) | exact kF _))
 ·intro i hi
  have e1:=Qa l 0 hi
  refine ev1 @e1 ?_
  refine aG (fun hb=>?_) fun hb=>?_ <;> (refine iW @hb @e1 ?_;try with_reducible exact True.intro)
  ·have e2:=Qb l 0 (i:=i) (by omega)
   have e3 : (default : Int) = 0:=rfl
   rw [e3] at e2
   rw [e2]
   exact ⟨i + 1,by omega,by omega,by (refine aI ?_;exact yB)⟩
  ·have : i = l.length:=by omega
   subst this
   rw [P9]
theorem Xz {T : Tb} (h : zT T) {a b : List Int} (hl : a.length ≤ 9223372036854775807:=by exact dD) (hb : b.length ≤ 9223372036854775807:=by exact dD) : PF T 8 [ints a,ints b] (.bool (decide (a = b))):=by
 refine aT nR h.hT ?_
 simp only [zS,Lz]
 refine ev ?_
 refine aG (fun h1=>?_) fun h1=>?_ <;> (refine ev1 @h1 ?_;try with_reducible exact True.intro)
 ·have h1 : a.length = b.length:=by omega
  refine aQ (fun _ _=>false) (α:=Nat) (fun i=>⟨bM [ints a,ints b,.any,.any,.any,iv (i : Nat)],[],0,0,[],[]⟩) (fun i=>i ≤ a.length ∧ ∀ j,j < i → a.getD j 0 = b.getD j 0) (fun i=>a.length - i) rfl 0 ?_ ?_ ?_
  ·exact ⟨by omega,by intro j hj;omega⟩
  ·(refine aI ?_;exact yB)
  ·rintro i ⟨hi,hj⟩
   refine ev ?_
   refine aG (fun h2=>?_) fun h2=>?_ <;> (refine ev1 @h2 ?_;try with_reducible exact True.intro)
   ·refine aG (fun h3=>?_) fun h3=>?_ <;> (refine ev1 @h3 ?_;try with_reducible exact True.intro)
    ·refine ⟨i + 1,by omega,⟨by omega,fun j hj'=>?_⟩,by (refine aI ?_;exact yB)⟩
     by_cases e : j = i
     ·subst e;exact h3
     ·exact hj j (by omega)
    ·have : ¬ a = b:=fun e=>h3 (by rw [e])
     simp [this]
   ·have : a = b:=EJ h1 fun j h=>hj j (by omega)
    simp [this]
 ·have : ¬ a = b:=fun e=>h1 (by rw [e])
  simp [this]
theorem Zj {T : Tb} (h : AX T) {z : Bi} {left : Int} (hl : z.mag.length ≤ 9223372036854775807:=by exact dD) (h0 : 0 ≤ left ∧ left ≤ 1048576:=by exact dD) : PF T 60 [Ie z,iv left] (iv (szr left z.mag.length)):=by
 refine aT nR h.hT ?_
 simp only [uD,Lz]
 refine ev ?_
 refine ah (Xx h.Ed) ?_
 refine ev ?_
 refine aG (fun hb=>?_) fun hb=>?_ <;> (refine ev1 @hb ?_;try with_reducible exact True.intro)
 unfold szr at hb ⊢
 split at hb
 ·rename_i k;simp [k]
 ·omega
theorem U9 {T : Tb} (h : F8 T) {r : R} {left : Int} (hw : r.wf:=by exact dD) (h0 : 0 ≤ left ∧ left ≤ 1048576:=by exact dD) : PF T 46 [aU r,iv left] (iv (szr left r.sz)):=by
 obtain ⟨w1,w2⟩:=hw
 refine aT nR h.hT ?_
 simp only [BG,Lz]
 refine ev ?_
 refine ah (Zj h.Oq (z:=r.num)) ?_
 refine ev ?_
 have k1:=@P6 left r.mag.length
 refine aG (fun hb=>?_) fun hb=>?_ <;> (refine ev1 @hb ?_;try with_reducible exact True.intro)
 ·simp only [R.sz,OG hb h0.1]
 ·refine ah (Xx h.Ed) ?_
  refine ev ?_
  rw [UH hb]
  refine aG (fun hb2=>?_) fun hb2=>?_ <;> (refine ev1 @hb2 ?_;try with_reducible exact True.intro)
  ·simp only [R.sz]
   unfold szr at hb2 ⊢
   split at hb2
   ·rename_i k;rw [if_pos k]
   ·omega
  ·rfl
theorem Zk {T : Tb} (h : uF T) {z : Bi} (hl : z.mag.length ≤ 1048576:=by exact dD) : PF T 63 [Ie z] (Ie z):=by
 refine aT nR h.hT ?_
 simp only [nU,Lz]
 refine ev ?_
 refine ah (Xy h.sS) ?_
 (refine ev ?_;try with_reducible exact True.intro)
theorem Va {T : Tb} (h : BH T) {r : R} (hl : r.sz ≤ 1048576:=by exact dD) : PF T 48 [aU r] (aU r):=by
 unfold R.sz at hl
 refine aT nR h.hT ?_
 simp only [wK,Lz]
 refine ev ?_
 refine ah (Zk h.GU (z:=r.num)) ?_
 refine ev ?_
 refine ah (Xy h.sS) ?_
 (refine ev ?_;try with_reducible exact True.intro)
theorem Zl {T : Tb} (h : AY T) {y z : Bi} (hy : y.mag.length ≤ 9223372036854775807:=by exact dD) (hz : z.mag.length ≤ 9223372036854775807:=by exact dD) : PF T 55 [Ie y,Ie z] (.bool (decide (y = z))):=by
 refine aT nR h.hT ?_
 simp only [uG,Lz]
 refine ev ?_
 refine aG (fun hb=>?_) fun hb=>?_ <;> (refine ev1 @hb ?_;try with_reducible exact True.intro)
 ·refine ah (Xz h.Ee) ?_
  refine ev ?_
  refine aG (fun hc=>?_) fun hc=>?_ <;> (refine ev1 @hc ?_;try with_reducible exact True.intro)
  ·cases y;cases z;simp_all
  ·cases y;cases z;simp_all
 ·cases y;cases z;simp_all
theorem zW {T : Tb} (h : qN T) {y z : R} (hy : y.wf:=by exact dD) (hz : z.wf:=by exact dD) : PF T 40 [aU y,aU z] (.bool (decide (y = z))):=by
 obtain ⟨w1,w2⟩:=hy
 obtain ⟨w3,w4⟩:=hz
 refine aT nR h.hT ?_
 simp only [BI,Lz]
 refine ev ?_
 refine ah (Zl h.Ot (y:=y.num) (z:=z.num)) ?_
 refine ev ?_
 refine aG (fun hb=>?_) fun hb=>?_ <;> (refine ev1 @hb ?_;try with_reducible exact True.intro)
 ·refine ah (Xz h.Ee) ?_
  refine ev ?_
  refine aG (fun hc=>?_) fun hc=>?_ <;> (refine ev1 @hc ?_;try with_reducible exact True.intro)
  ·cases y;cases z;simp_all
  ·cases y;cases z;simp_all
 ·cases y;cases z;simp_all
def nV : Fn:=⟨2,19,[.tmp 4],(sr [oN 4 (.bZ (cI 0))] (.seq (sr [oN 5 (.bZ (cI 0))] (.block 0 (.loop (.seq (sr [oW 6 5,oW 7 0,oN 8 (ln 7),oN 9 (bt .lss 6 8)] (cd 9 .skip (.exit 0))) (.seq (.block 1 (sr [oW 12 0,oW 13 5,oW 14 1,oN 15 (ix 1 12 13),oS (.store 1 (.t 15) (.t 14))] (rg [oW 16 1,oN 17 (bc .add 16 1),oW 1 17]))) (rg [oW 10 5,oN 11 (bc .add 10 1),oW 5 11])))))) (sr [oW 18 1,oW 4 18] .ret)))⟩
structure kP (T : Tb) : Prop where
 hT : T 57 = some nV
def uH : Fn:=⟨2,21,[.tmp 4],(sr [oN 4 (.bZ (cI 0))] (.seq (sr [oN 5 (.bZ (cI 0))] (.block 0 (.loop (.seq (sr [oW 6 5,oW 7 0,oN 8 (ln 7),oN 9 (bt .lss 6 8)] (cd 9 .skip (.exit 0))) (.seq (.block 1 (.seq (sr [oW 12 0,oW 13 5,oN 14 (ix 1 12 13),oN 15 (lF 1 14),oW 16 1,oN 17 (bt .neq 15 16)] (cd 17 (sr [oN 4 (.bZ (cI (-1)))] .ret) .skip)) (rg [oW 18 1,oN 19 (bc .add 18 1),oW 1 19]))) (rg [oW 10 5,oN 11 (bc .add 10 1),oW 5 11])))))) (sr [oW 20 1,oW 4 20] .ret)))⟩
structure kQ (T : Tb) : Prop where
 hT : T 59 = some uH
theorem NW {T : Tb} (h : kN T) {l : List Int} (hl : l.length ≤ 1048576:=by exact dD) : PO T 139 [ints l] (ints l):=by
 refine dX nR h.hT ?_
 simp only [nS,Lz,St.enter,List.length_cons,List.length_nil,Nat.zero_add]
 refine ew ?_
 exact ⟨fun e=>abO e,fun _=>⟨by omega,QA rfl⟩⟩
theorem TL {T : Tb} (h : sQ T) {l : List Int} (hl : l.length ≤ 1048576:=by exact dD) : PO T 6 [ints l] (ints l):=by
 refine dX nR h.hT ?_
 simp only [sO,Lz,St.enter,List.length_cons,List.length_nil,Nat.zero_add]
 refine ew ?_
 refine ⟨by omega,?_⟩
 rw [FN]
 refine aQ (fun _ _=>false) (α:=Nat) (fun i=>⟨bM [ints l,.any,.any,.bC 0 0 l.length,iv (i : Nat)],[some ⟨1,aN (Ci l 0 i)⟩],0,0,[],[]⟩) (fun i=>i ≤ l.length) (fun i=>l.length - i) rfl 0 ?_ ?_ ?_
 ·omega
 ·(refine aI ?_) <;> (try (refine CJ @NR ?_;try with_reducible exact True.intro)) <;> (repeat' (first | refine ⟨?_,?_⟩ | exact kE (by omega) | exact mV (by simp) | exact kF _))
 ·intro i hi
  have e1:=Qa l 0 hi
  refine CJ @e1 ?_
  refine aG (fun hb=>?_) fun hb=>?_ <;> (refine sK @hb @e1 ?_;try with_reducible exact True.intro)
  ·have e2:=Qb l 0 (i:=i) (by omega)
   have e3 : (default : Int) = 0:=rfl
   rw [e3] at e2
   rw [e2]
   exact ⟨i + 1,by omega,by omega,by (refine aI ?_;exact wI)⟩
  ·have : i = l.length:=by omega
   subst this
   rw [P9]
   exact QA rfl
def cnt (n : Nat) (k : Int) : List Int:=(List.range n).map fun i=>k + ((i : Nat) : Int)
theorem Lc (n : Nat) (k : Int) : (cnt n k).length = n:=by simp [cnt]
theorem akF {n i : Nat} (k : Int) (h : i < n) : (cnt n k).getD i 0 = k + (i : Nat):=by
 simp [cnt,List.getD_eq_getElem?_getD,h]
def Io (l : List Int) (k : Int) (i : Nat) : List Int:=cnt i k ++ l.drop i
theorem ahx (l : List Int) (k : Int) : Io l k 0 = l:=by simp [Io,cnt]
theorem abQ (l : List Int) (k : Int) : Io l k l.length = cnt l.length k:=by simp [Io]
theorem abR (l : List Int) (k : Int) {i : Nat} (h : i ≤ l.length) : (Io l k i).length = l.length:=by simp [Io,Lc];omega
theorem abS (l : List Int) (k : Int) {i : Nat} (h : i < l.length) : (Io l k i).set i (k + (i : Nat)) = Io l k (i + 1):=by
 unfold Io
 rw [List.set_append_right _ _ (by rw [Lc];exact Nat.le_refl _),Lc,Nat.sub_self,List.drop_eq_getElem_cons h,List.set_cons_zero]
 unfold cnt
 rw [List.range_succ,List.map_append]
 simp
theorem fE {T : Tb} (h : kP T) {l : List Int} {k : Int} (hl : l.length ≤ 1000000000:=by exact dD) (hk : 0 ≤ k ∧ k ≤ 1000000000000:=by exact dD) :
  Mk T 57 (ints l) k (ints (cnt l.length k)) (k + l.length):=by
 refine mk_iff fun σ v os ho hn=>?_
 rcases ho.wH with ⟨rfl,rfl,rfl⟩ | ⟨o,rfl,h1,rfl⟩
 ·have : ∃ r σ',Run T (.fn 57 [.sl 1 [],iv k] σ) (.fn r σ') ∧ (r = iv k ∧ σ' = σ):=by
   refine run_end nR h.hT ?_
   simp only [nV,Lz,St.enter,List.length_cons,List.length_nil,Nat.zero_add]
   refine ew ?_
   refine aQ (fun _ _=>false) (α:=Nat) (fun i=>⟨bM [.sl 1 [],iv k,.any,.any,.any,iv 0],σ,σ.length,0,[],[]⟩) (fun i=>i = 0) (fun i=>i) rfl 0 ?_ ?_ ?_
   ·rfl
   ·(refine aI ?_;exact wI)
   ·rintro i rfl
    refine ew ?_
    refine aG (fun hc=>absurd hc (by omega)) fun hc=>?_
    (refine ew ?_;try with_reducible exact True.intro)
  obtain ⟨r,σ',h2,rfl,rfl⟩:=this
  exact ⟨σ',by simpa using h2,ho,Fr.refl _ _⟩
 ·have hlt:=aJ h1
  have : ∃ r σ',Run T (.fn 57 [.bC o 0 l.length,iv k] σ) (.fn r σ') ∧ (r = iv (k + l.length) ∧ aj σ' o = some ⟨1,aN (cnt l.length k)⟩ ∧ Fr [o] σ σ'):=by
   refine run_end nR h.hT ?_
   simp only [nV,Lz,St.enter,List.length_cons,List.length_nil,Nat.zero_add]
   refine ew ?_
   refine aQ (fun _ _=>false) (α:=Nat × Store) (fun q=>⟨bM [.bC o 0 l.length,iv (k + (q.1 : Nat)),.any,.any,.any,iv (q.1 : Nat)],q.2,σ.length,0,[],[]⟩) (fun q=>q.1 ≤ l.length ∧ aj q.2 o = some ⟨1,aN (Io l k q.1)⟩ ∧ Fr [o] σ q.2) (fun q=>l.length - q.1) rfl (0,σ) ?_ ?_ ?_
   ·exact ⟨by omega,by rw [ahx];exact h1,Fr.refl _ _⟩
   ·(refine aI ?_;exact wI)
   ·rintro ⟨i,s⟩ ⟨hi,h2,h3⟩
    dsimp only at hi h2 h3
    have e1:=abR l k hi
    have hls:=h3.len
    refine CJ @h2 ?_
    refine aG (fun hc=>?_) fun hc=>?_ <;> (refine CO @hc @h2 @e1 ?_;try with_reducible exact True.intro)
    ·have e2:=abS l k (i:=i) (by omega)
     rw [e2]
     refine ⟨(i + 1,s.set o (some ⟨1,aN (Io l k (i + 1))⟩)),by dsimp only;omega,⟨by dsimp only;omega,?_,?_⟩,by (refine aI ?_;exact wI)⟩
     ·dsimp only;exact aX (by omega)
     ·dsimp only;exact h3.trans (JV (by simp))
    ·have : i = l.length:=by omega
     subst this
     exact ⟨rfl,by rw [abQ],h3⟩
  obtain ⟨r,σ',h2,rfl,h3,h4⟩:=this
  have:=Ik h3
  rw [Lc] at this
  exact ⟨σ',h2,this,h4⟩
theorem iw {T : Tb} (h : kQ T) {n : Nat} {k : Int} (hl : n ≤ 1000000000:=by exact dD) (hk : 0 ≤ k ∧ k ≤ 1000000000000:=by exact dD) :
  PF T 59 [ints (cnt n k),iv k] (iv (k + n)):=by
 have hcl:=Lc n k
 refine aT nR h.hT ?_
 simp only [uH,Lz]
 refine ev ?_
 refine aQ (fun _ _=>false) (α:=Nat) (fun i=>⟨bM [ints (cnt n k),iv (k + (i : Nat)),.any,.any,.any,iv (i : Nat)],[],0,0,[],[]⟩) (fun i=>i ≤ n) (fun i=>n - i) rfl 0 ?_ ?_ ?_
 ·omega
 ·(refine aI ?_;exact yB)
 ·intro i hi
  refine ev1 @hcl ?_
  refine aG (fun hc=>?_) fun hc=>?_ <;> (refine iW @hc @hcl ?_;try with_reducible exact True.intro)
  ·have:=akF k (show i < n by omega)
   refine ev1 @this ?_
   exact ⟨i + 1,by omega,by omega,by (refine aI ?_;exact yB)⟩
  ·have : i = n:=by omega
   subst this
   rfl
theorem aiH {a b : St} (h : Fg a b:=by
 (refine PU [] (by simp) (by intro p hp;cases hp) rfl ?_) <;> (try (refine ew ?_;try with_reducible exact True.intro)) <;> (repeat' (first | exact True.intro | omega | exact fV rfl (by simp) | refine ⟨?_,?_⟩ | exact of_eq_true (Ag _ _ _) | exact jm rfl (by simp;done) | exact jm rfl rfl | (refine kS rfl ?_ rfl;simp [aN];done) | (refine kS rfl ?_ rfl;simp [aN];omega) | (refine Cb ?_ ?_;(focus ((refine ew ?_;try with_reducible exact True.intro);done));(intro q hq k s0 l0;simp;done))))) : Fg a b:=h
theorem Gf {T : Tb} (h : jS T) {n : Int} (hn : 0 ≤ n ∧ n < 18446744073709551616:=by exact dD) : PO T 69 [.int .u64 n] (ints (mk n.toNat)):=by
 have hlen : (mk n.toNat).length ≤ 3:=aZ.2 (by omega)
 refine dX nR h.hT ?_
 simp only [lY,Lz,St.enter,List.length_cons,List.length_nil,Nat.zero_add]
 refine ew ?_
 refine aQ (fun _ _=>false) (α:=Nat × List Int) (fun q=>⟨bM [.int .u64 (q.1 : Nat),.any,.any,slV q.2.length],Yk 1 (aN q.2),0,0,[],[]⟩) (fun q=>q.2 ++ mk q.1 = mk n.toNat ∧ q.1 ≤ n.toNat) (fun q=>q.1) rfl (n.toNat,[]) ?_ ?_ ?_
 ·exact ⟨rfl,Nat.le_refl _⟩
 ·first | ((refine aI ?_;exact wI);done) | (exact aiH;done)
 ·rintro ⟨m,xs⟩ ⟨hm,hle⟩
  dsimp only at hm hle
  have hx : xs.length ≤ 3:=by
   have:=congrArg List.length hm
   simp at this;omega
  have e1 : ((m : Int).tmod 1000000000) = ((m % 1000000000 : Nat) : Int):=by rw [JI (by omega)];omega
  have e2 : ((m : Int).tdiv 1000000000) = ((m / 1000000000 : Nat) : Int):=by rw [JJ (by omega)];omega
  have key : 0 < m → (xs ++ [((m % 1000000000 : Nat) : Int)]) ++ mk (m / 1000000000) = mk n.toNat:=fun h=>by
   rw [← hm,mk_pos (n:=m) (by omega)];simp
  (rcases xs with _ | ⟨x,xs⟩ <;> simp only [List.length_nil,List.length_cons,kT,jW,gI,dW] at hx ⊢)
  ·refine ew ?_
   refine aG (fun hb=>?_) fun hb=>?_ <;> (refine CO @hb @e1 @e2 ?_;try with_reducible exact True.intro)
   ·exact ⟨by omega,(m / 1000000000,[] ++ [((m % 1000000000 : Nat) : Int)]),by dsimp only;omega,⟨key (by omega),by dsimp only;omega⟩,by (simp only [← Cj];refine Dv (k:=1) (Dw _ _) rfl ?_;(try (refine ew ?_;try with_reducible exact True.intro));(repeat' (first | exact True.intro | omega | exact vC (by simp) (by simp) (by simp) | refine ⟨?_,?_⟩ | exact jm rfl (by simp))))⟩
   ·have e : mk n.toNat = []:=by rw [← hm,show m = 0 by omega,mk_zero];rfl
    rw [e];exact U0
  ·refine ew ?_
   refine aG (fun hb=>?_) fun hb=>?_ <;> (refine CO @hb @e1 @e2 ?_;try with_reducible exact True.intro)
   ·refine ⟨by omega,(m / 1000000000,(x :: xs) ++ [((m % 1000000000 : Nat) : Int)]),by dsimp only;omega,⟨key (by omega),by dsimp only;omega⟩,by (simp only [← Cj];refine Dv (k:=2) (Dw _ _) rfl ?_;(try (refine ew ?_;try with_reducible exact True.intro));(repeat' (first | exact True.intro | omega | exact vC (by simp) (by simp) (by simp) | refine ⟨?_,?_⟩ | exact jm rfl (by simp))))⟩
   ·have e : x :: xs = mk n.toNat:=by rw [← hm,show m = 0 by omega,mk_zero];simp
    rw [← e];exact QA (o:=0) (l:=x :: xs) rfl
theorem Zm {T : Tb} (h : lZ T) {l : List Int} {σ : Store} {o : Nat} (h0 : aj σ o = some ⟨1,aN l⟩) (hl : l.length ≤ 1048576:=by exact dD) :
  Run T (.fn 151 [.bC o 0 l.length] σ) (.fn (.bC o 0 (trim l).length) σ):=by
 have : ∃ r σ',Run T (.fn 151 [.bC o 0 l.length] σ) (.fn r σ') ∧ (r = .bC o 0 (trim l).length ∧ σ' = σ):=by
  have htl : ∀ n,n ≤ l.length → mP l l.length = mP l n → (n = 0 ∨ l.getD (n - 1) 0 ≠ 0) → (trim l).length = n:=by
   intro n hn h1 h2
   unfold trim
   rw [h1,List.length_take]
   cases n with
   | zero=>simp [mP]
   |
    succ m =>
    simp only [Nat.add_sub_cancel] at h2
    simp only [mP]
    rw [if_neg (by omega)]
    omega
  refine run_end nR h.hT ?_
  simp only [pW,Lz,St.enter,List.length_cons,List.length_nil,Nat.zero_add]
  refine ew ?_
  refine CJ @h0 ?_
  refine aQ (fun _ _=>false) (α:=Nat) (fun n=>⟨bM [.bC o 0 l.length,.any,.any,iv (n : Nat)],σ,σ.length,0,[],[]⟩) (fun n=>n ≤ l.length ∧ mP l l.length = mP l n) (fun n=>n) rfl l.length ?_ ?_ ?_
  ·exact ⟨by omega,rfl⟩
  ·(refine aI ?_;exact wI)
  ·rintro n ⟨hn,ht⟩
   refine CJ @h0 ?_
   refine aG (fun hb=>?_) fun hb=>?_
   ·obtain ⟨m,rfl⟩ : ∃ m,n = m + 1:=⟨n - 1,by omega⟩
    have e1 : ((m + 1 : Nat) : Int) - 1 = (m : Nat):=by omega
    refine CO @h0 @e1 @hb ?_
    refine aG (fun hc=>?_) fun hc=>?_ <;> (refine sK @hc @h0 ?_;try with_reducible exact True.intro)
    ·refine ⟨m,by omega,⟨by omega,?_⟩,by (refine aI ?_;exact wI)⟩
     rw [ht];simp only [mP,hc,if_true]
    ·rw [htl (m + 1) hn ht (by simp only [Nat.add_sub_cancel];omega)]
   ·have : n = 0:=by omega
    subst this
    rw [htl 0 hn ht (by omega)]
    (refine sK @h0 @hb ?_;try with_reducible exact True.intro)
 obtain ⟨r,σ',h1,rfl,rfl⟩:=this
 exact h1
theorem QD {T : Tb} (h : eH T) {neg : Bool} {n : Nat} {σ : Store} {o : Nat} (h0 : aj σ o = some ⟨1,aN (mk n)⟩) (hn : 0 < n) (hl : (mk n).length ≤ 60:=by exact dD) :
  ∃ σ',Run T (.fn 68 [.bool neg,.bC o 0 (mk n).length] σ) (.fn (.agg [.bool neg,.bC o 0 (mk n).length]) σ') ∧ (∀ q,q < σ.length → aj σ' q = aj σ q) ∧ σ.length ≤ σ'.length:=by
 have : ∃ r σ',Run T (.fn 68 [.bool neg,.bC o 0 (mk n).length] σ) (.fn r σ') ∧ (r = .agg [.bool neg,.bC o 0 (mk n).length] ∧ (∀ q,q < σ.length → aj σ' q = aj σ q) ∧ σ.length ≤ σ'.length):=by
  have hp:=Au.2 hn
  refine run_end nR h.hT ?_
  simp only [jX,Lz,St.enter,List.length_cons,List.length_nil,Nat.zero_add]
  refine ew ?_
  have hlt:=aJ h0
  have c1 : ¬ (((mk n).length : Nat) : Int) = 0:=by omega
  have c2 : ¬ (60 : Int) < ((mk n).length : Nat):=by omega
  refine yF @h0 @hlt @c1 @c2 ?_
  exact ⟨fun q hq=>aO hq,by omega⟩
 obtain ⟨r,σ',h1,rfl,h2,h3⟩:=this
 exact ⟨σ',h1,h2,h3⟩
theorem aey {a b : St} (h : Fg a b:=by
 (refine PU [(0,_)] (by simp) (by intro p hp;simp only [List.mem_cons,List.not_mem_nil,or_false] at hp;rcases hp with rfl <;> refine ⟨rfl,?_⟩ <;> first | exact nN _ | simp [dO,V.still]) rfl ?_) <;> (try (refine ew ?_;try with_reducible exact True.intro)) <;> (repeat' (first | exact True.intro | omega | exact fV rfl (by simp) | refine ⟨?_,?_⟩ | exact of_eq_true (Ag _ _ _) | exact jm rfl (by simp;done) | exact jm rfl rfl | (refine kS rfl ?_ rfl;simp [aN];done) | (refine kS rfl ?_ rfl;simp [aN];omega) | (refine Cb ?_ ?_;(focus ((refine ew ?_;try with_reducible exact True.intro);done));(intro q hq k s0 l0;simp;done))))) : Fg a b:=h
theorem TM {T : Tb} (h : rO T) {m n : Nat} (hn : 0 < n) (la : (mk m).length ≤ 900:=by exact dD) (lb : (mk n).length ≤ 900:=by exact dD) :
  PX T 138 [ints (mk m),ints (mk n)] [(true,ints (mk (m / n))),(false,ints (mk (m % n)))]:=by
 obtain ⟨A,hA⟩ : ∃ A,mk m = A:=⟨_,rfl⟩
 obtain ⟨B,hB⟩ : ∃ B,mk n = B:=⟨_,rfl⟩
 have hva : val A = m:=by rw [← hA,val_mk]
 have hbA : Lb A:=hA ▸ kH m
 have hbB : Lb B:=hB ▸ kH n
 rw [hA] at la ⊢
 rw [hB] at lb ⊢
 refine La (fun x d=>(x == 69 && d == 28) || (x == 151 && d == 74)) h.hT ?_
 simp only [rM,Lz,St.enter,List.length_cons,List.length_nil,Nat.zero_add]
 refine ew ?_
 have cas : (((A.length : Nat) : Int) ≤ 2 ∧ ((B.length : Nat) : Int) ≤ 2) ∨ ((((A.length : Nat) : Int) ≤ 2 ∧ ¬ ((B.length : Nat) : Int) ≤ 2) ∨ ¬ ((A.length : Nat) : Int) ≤ 2):=by omega
 rcases cas with ⟨c1,c2⟩ | big
 ·have sm : m < 1000000000000000000:=by
   have:=oP hbA
   rw [hva] at this
   exact Nat.lt_of_lt_of_le this (Nat.le_trans (Nat.pow_le_pow_right (by omega) (show A.length ≤ 2 by omega)) (by omega))
  have sn : n < 1000000000000000000:=by
   have:=oP hbB
   rw [← hB,val_mk] at this
   exact Nat.lt_of_lt_of_le this (Nat.le_trans (Nat.pow_le_pow_right (by omega) (show (mk n).length ≤ 2 by rw [hB];omega)) (by omega))
  have cs:=yC h.jB sm
  have ct:=yC h.jB sn
  rw [hA] at cs
  rw [hB] at ct
  have e1 : ((m : Nat) : Int).tdiv (n : Nat) = ((m / n : Nat) : Int):=by rw [Int.tdiv_eq_ediv_of_nonneg (by omega),Int.natCast_ediv]
  have e2 : ((m : Nat) : Int).tmod (n : Nat) = ((m % n : Nat) : Int):=by rw [Int.tmod_eq_emod_of_nonneg (by omega),Int.natCast_emod]
  have d1 : m / n ≤ m:=Nat.div_le_self ..
  have d2 : m % n ≤ m:=Nat.mod_le ..
  have nz : ¬ ((n : Nat) : Int) = 0:=by omega
  generalize m / n = q at *
  generalize m % n = r at *
  have c3:=pX h.cO (n:=((q : Nat) : Int)) (by omega)
  have c4:=pX h.cO (n:=((r : Nat) : Int)) (by omega)
  rw [Int.toNat_natCast] at c3 c4
  refine sK @c1 @c2 ?_
  refine ah cs ?_
  refine ew ?_
  refine ah ct ?_
  refine CO @nz @e1 @e2 ?_
  have p3:=Gf h.cO (n:=((q : Nat) : Int)) (by omega)
  rw [Int.toNat_natCast] at p3
  refine iO p3 (by (refine ew ?_;try with_reducible exact True.intro)) (by (refine ew ?_;try with_reducible exact True.intro)) ?_
  intro v1 s1 o1 g
  refine CO @nz @e1 @e2 ?_
  refine ah c4 ?_
  refine ew ?_
  refine ⟨by unfold jl;decide +kernel,?_⟩
  exact .inl (ahv g.ow g.nd rfl)
 rcases big with ⟨c1,c2⟩ | c1
 case' inl=>(refine sK @c1 @c2 ?_;try with_reducible exact True.intro)
 case' inr=>(refine CJ @c1 ?_;try with_reducible exact True.intro)
 all_goals
  refine ⟨by omega,?_⟩
  rw [FN]
  refine aQ (fun x d=>(x == 69 && d == 28) || (x == 151 && d == 74)) (α:=Nat × List Int × Nat) (fun q=>⟨bM [ints A,ints B,.any,.any,.any,.any,.any,.any,.bC 0 0 A.length,ints (mk q.2.2),iv ((q.1 : Nat) - 1)],[some ⟨1,aN q.2.1⟩],0,0,[],[]⟩) (fun q=>q.1 ≤ A.length ∧ q.2.1.length = A.length ∧ Lb q.2.1 ∧ (∀ j,j < q.1 → q.2.1.getD j 0 = 0) ∧ q.2.2 < n ∧ val (A.drop q.1) = val (q.2.1.drop q.1) * n + q.2.2) (fun q=>q.1) rfl (A.length,List.replicate A.length 0,0) ?_ ?_ ?_
  ·exact ⟨by omega,by simp,JE _,by intro j _;simp [List.getD_eq_getElem?_getD,List.getElem?_replicate];split <;> rfl,hn,by dsimp only;rw [bW (Nat.le_refl _),bW (by simp)];simp⟩
  ·rw [mk_zero]
   exact aey
  ·rintro ⟨k,Q,x⟩ ⟨hk,hQ,hQb,hz,hx,hv⟩
   dsimp only at hk hQ hQb hz hx hv
   by_cases k0 : k = 0
   ·subst k0
    rw [List.drop_zero,List.drop_zero,hva] at hv
    obtain ⟨q1,q2⟩:=FW hv hx
    have e0 : ¬ (0 : Int) ≤ ((0 : Nat) : Int) - 1:=by omega
    refine CJ @e0 ?_
    have hr:=Zm h.jc (l:=Q) (σ:=[some ⟨1,aN Q⟩]) (o:=0) rfl (by omega)
    rw [hQ] at hr
    refine gQ hr rfl (Nat.le_refl _) (by simp) ?_
    refine ew ?_
    rw [← q1,← q2]
    exact .inr (aew (by have:=(TK Q).2;omega) (by rw [← (TK Q).1,tN hQb]) rfl)
   ·obtain ⟨i,rfl⟩ : ∃ i,k = i + 1:=⟨k - 1,by omega⟩
    have e0 : (((i + 1 : Nat) : Int) - 1) = (i : Nat):=by omega
    have e1 : ((i : Nat) : Int) < (A.length : Nat):=by omega
    have e2 : (0 : Int) ≤ (i : Nat):=by omega
    rw [e0]
    have ga:=kJ hbA i
    have hvi:=fZ A i
    obtain ⟨t,ht⟩ : ∃ t,(A.getD i 0).toNat + 1000000000 * x = t:=⟨_,rfl⟩
    have htn : t < n * 1000000000:=by omega
    have lt' : (A.getD i 0 :: mk x).length ≤ 1048576:=by
     have : (mk x).length ≤ B.length:=by rw [aZ];exact Nat.lt_trans hx (by have:=oP hbB;rw [← hB,val_mk,hB] at this;exact this)
     simp only [List.length_cons];omega
    have tr : trim (A.getD i 0 :: mk x) = mk t:=by
     rw [tN (by intro y hy;rcases List.mem_cons.1 hy with rfl | hy;exact ga;exact kH x y hy),← ht,val,val_mk]
    have ct:=EM h.jc (l:=A.getD i 0 :: mk x) lt'
    rw [tr] at ct
    have ely : ∀ y,y ≤ t → (mk y).length ≤ 901:=by
     intro y hy
     have : (mk y).length ≤ B.length + 1:=by
      rw [aZ,Nat.pow_succ]
      have:=oP hbB
      rw [← hB,val_mk,hB] at this
      exact Nat.lt_of_lt_of_le (Nat.lt_of_le_of_lt hy htn) (Nat.mul_le_mul_right _ (Nat.le_of_lt this))
     omega
    have lx:=ely
    refine sK @e2 @e1 ?_
    refine ⟨fun e3=>?_,fun e3=>?_⟩
    case' refine_1 =>
     have x0 : mk x = []:=by cases hm : mk x with | nil=>rfl | cons a l=>rw [hm] at e3;cases e3
     rw [x0] at ct
     rw [show [[V.int IntKind.i64 (A.getD i 0)]] = aN [A.getD i 0] from rfl]
     (refine ew ?_;try with_reducible exact True.intro)
    case' refine_2 =>
     refine CJ @e3 ?_
     rw [show [V.int IntKind.i64 (A.getD i 0)] :: aN (mk x) = aN (A.getD i 0 :: mk x) from rfl]
     refine ew ?_
     have lm:=lt'
     simp only [List.length_cons] at lm
     refine ⟨by omega,?_⟩
    all_goals
     clear lt'
     refine ah ct ?_
     refine ew ?_
     refine aQ (fun x d=>(x == 69 && d == 28) || (x == 151 && d == 74)) (α:=List Int × Nat) (fun q=>⟨bM [ints A,ints B,.any,.any,.any,.any,.any,.any,.bC 0 0 A.length,ints (mk q.2),iv (i : Nat)],[some ⟨1,aN q.1⟩],0,0,[],[]⟩) (fun q=>q.1.length = A.length ∧ Lb q.1 ∧ (∀ j,j < i → q.1.getD j 0 = 0) ∧ q.1.drop (i + 1) = Q.drop (i + 1) ∧ q.2 + (q.1.getD i 0).toNat * n = t) (fun q=>q.2) rfl (Q,t) ?_ ?_ ?_
     ·exact ⟨hQ,hQb,fun j hj=>hz j (by omega),rfl,by dsimp only;rw [hz i (by omega)];simp⟩
     ·exact aey
     ·rintro ⟨P,y⟩ ⟨hP,hPb,hzP,hd,hy⟩
      dsimp only at hP hPb hzP hd hy
      have yt : y ≤ t:=by omega
      have ly:=ely y yt
      have cc:=Qh h.zh (lG y) (lG n) (by omega) (by rw [hB];omega)
      rw [val_mk,val_mk,hB] at cc
      refine ew ?_
      refine ah cc ?_
      refine ew ?_
      refine aG (fun c3=>?_) fun c3=>?_ <;> (refine CJ @c3 ?_;try with_reducible exact True.intro)
      ·have hny : n ≤ y:=mQ.1 c3
       obtain ⟨d,pg,d0,d1,d2⟩:=Qk h.GI hn hny (by omega) (by omega) (by rw [hB];omega)
       rw [hB] at pg
       have pm:=Qi h.zi (m:=n) (n:=d) (by rw [hB];omega) (by rw [mk_one d0 d1];simp)
       have dn : n * d ≤ y:=by rw [Nat.mul_comm];exact d2
       have lnd:=ely (n * d) (by omega)
       have ps:=KH h.rP dn (by omega) (by omega)
       rw [hB,mk_one d0 d1] at pm
       have gp:=kJ hPb i
       have y2 : y - n * d + ((P.getD i 0).toNat + d) * n = t:=by rw [Nat.add_mul,Nat.mul_comm d n];omega
       have gp2 : P.getD i 0 + d < 1000000000:=by
        have : ((P.getD i 0).toNat + d) * n < 1000000000 * n:=by rw [Nat.mul_comm 1000000000];omega
        have:=Nat.lt_of_mul_lt_mul_right this
        omega
       have d0' : 0 < n * d:=Nat.mul_pos hn d0
       have k1:=FT (l:=P) (i:=i) (d:=P.getD i 0 + d) (by omega) gp2 hPb
       have k2 : ∀ j,j < i → (P.set i (P.getD i 0 + d)).getD j 0 = 0:=by
        intro j hj
        rw [iP,if_neg (by omega)]
        exact hzP j hj
       have k3 : (P.set i (P.getD i 0 + d)).drop (i + 1) = Q.drop (i + 1):=by rw [List.drop_set_of_lt (by omega),hd]
       have k4 : ((P.set i (P.getD i 0 + d)).getD i 0) = P.getD i 0 + d:=by rw [iP,if_pos ⟨rfl,by omega⟩]
       have k5 : y - n * d + ((P.set i (P.getD i 0 + d)).getD i 0).toNat * n = t:=by
        rw [k4,show (P.getD i 0 + (d : Int)).toNat = (P.getD i 0).toNat + d by omega];exact y2
       have k6 : y - n * d < y:=by omega
       clear y2 hy htn ht hvi k4 hzP hd d2 lx ely hv hz hx
       refine ah pg ?_
       refine ew ?_
       rw [show [[V.int IntKind.i64 (d : Int)]] = aN [(d : Int)] from rfl]
       refine ew ?_
       refine ah pm ?_
       refine ew ?_
       refine ah ps ?_
       refine sK @e1 @hP ?_
       exact ⟨(P.set i (P.getD i 0 + d),y - n * d),k6,⟨by simp [hP],k1,k2,k3,k5⟩,by exact aey⟩
      ·have hny : y < n:=by
        have:=@mQ y n
        omega
       have k1:=fZ P i
       rw [hd] at k1
       have k2 : val (A.drop i) = val (P.drop i) * n + y:=by
        rw [hvi,hv,k1,Nat.add_mul,Nat.mul_add,← Nat.mul_assoc];omega
       exact ⟨(i,P,y),by dsimp only;omega,⟨by dsimp only;omega,hP,hPb,hzP,hny,k2⟩,by (refine aI ?_;exact wI)⟩
theorem QE {σ : Store} {b : Bool} {v : V} {l : List Int} {os : List Nat} (h : bD σ v (ints l) os) : bD σ (.agg [.bool b,v]) (.agg [.bool b,ints l]) os:=fD (jG (by simpa using jh h iq))
theorem OT {σ : Store} {b : Bool} {v w : V} {l m : List Int} {o1 o2 : List Nat} (h : bD σ v (ints l) o1) (k : bD σ w (ints m) o2) : bD σ (.agg [.bool b,v,w]) (.agg [.bool b,ints l,ints m]) (o1 ++ o2) :=
 fD (jG (jh h (by simpa using jh k iq)))
theorem aez {σ : Store} : bD σ (aU R0) (aU R0) []:=OT (o1:=[]) (o2:=[]) eX eX
theorem Gg {σ : Store} : Fin σ (.agg [.bool false,.ak,.ak]) (aU R0):=⟨_,[],jq,aez,.nil⟩
theorem bD.aor {σ : Store} {v : V} {l : List Int} {os : List Nat} (h : bD σ v (ints l) os) : lenOf σ v = some l.length:=by
 rcases h.wH with ⟨rfl,rfl,_⟩ | ⟨o,rfl,h1,_⟩
 ·rfl
 ·simp [lenOf,h1]
theorem Ip {T : Tb} (h : eH T) {neg : Bool} {σ : Store} {v : V} {os : List Nat} (h0 : bD σ v (ints []) os) :
  ∃ σ',Run T (.fn 68 [.bool neg,v] σ) (.fn (.agg [.bool false,.ak]) σ') ∧ (∀ q,q < σ.length → aj σ' q = aj σ q) ∧ σ.length ≤ σ'.length:=by
 have : ∃ r σ',Run T (.fn 68 [.bool neg,v] σ) (.fn r σ') ∧ (r = .agg [.bool false,.ak] ∧ (∀ q,q < σ.length → aj σ' q = aj σ q) ∧ σ.length ≤ σ'.length):=by
  rcases h0.wH with ⟨_,rfl,_⟩ | ⟨o,rfl,h1,_⟩
  ·have hz : ((0 : Nat) : Int) = 0:=rfl
   refine run_end nR h.hT ?_
   simp only [jX,Lz,St.enter,List.length_cons,List.length_nil,Nat.zero_add]
   refine ew ?_
   refine CJ @hz ?_
   exact ⟨fun q hq=>aO hq,by omega⟩
  ·have hlt:=aJ h1
   have hz : ((0 : Nat) : Int) = 0:=rfl
   simp only [List.length_nil]
   refine run_end nR h.hT ?_
   simp only [jX,Lz,St.enter,List.length_cons,List.length_nil,Nat.zero_add]
   refine ew ?_
   refine CO @h1 @hlt @hz ?_
   exact ⟨fun q hq=>aO hq,by omega⟩
 obtain ⟨r,σ',h1,rfl,h2,h3⟩:=this
 exact ⟨σ',h1,h2,h3⟩
theorem XA {T : Tb} (h : eH T) {as : List Src} {dst : Option Nat} {env : Nat → V} {σ : Store} {kp bs : Nat} {rs ms : List Nat} {k : St → Prop} {neg : Bool} {n o : Nat}
  (h0 : aj σ o = some ⟨1,aN (mk n)⟩) (hn : 0 < n) (ha : (as.map fun s=>s.ev env) = [.bool neg,.bC o 0 (mk n).length]) (hl : (mk n).length ≤ 60)
  (hk : ∀ σ2 : Store,(∀ q,q < σ.length → aj σ2 q = aj σ q) → σ.length ≤ σ2.length → k ⟨dV env dst (.agg [.bool neg,.bC o 0 (mk n).length]),σ2,kp,bs,rs,ms⟩) : Jz T 68 as dst ⟨env,σ,kp,bs,rs,ms⟩ k:=by
 have e1 : Eu [o] σ = [some ⟨1,aN (mk n)⟩]:=by simp [Eu,h0,Nc]
 obtain ⟨σ',hr,hold,hlen⟩:=QD h (neg:=neg) (n:=n) (σ:=Eu [o] σ) (o:=0) (by rw [e1];rfl) hn hl
 refine Nh (ρ:=[o]) (by simp) (fun q hq=>⟨_,by simp at hq;subst hq;exact h0⟩) ?_ hr (fun q hq=>hold q (by rw [e1];exact hq)) ?_
 ·have:=congrArg (List.map (aY (place [o]))) ha
  rw [List.map_map] at this
  refine Eq.trans this ?_
  simp [aY,place]
 ·intro σ2 h1 h2
  have:=hk σ2 h1 h2
  simpa [aY,aY.DT,back] using this
theorem abT {T : Tb} (h : eH T) {as : List Src} {dst : Option Nat} {env : Nat → V} {σ : Store} {kp bs : Nat} {rs ms : List Nat} {k : St → Prop} {neg : Bool} {v : V} {os : List Nat}
  (h0 : bD σ v (ints []) os) (ha : (as.map fun s=>s.ev env) = [.bool neg,v])
  (hk : ∀ σ2 : Store,(∀ q,q < σ.length → aj σ2 q = aj σ q) → σ.length ≤ σ2.length → k ⟨dV env dst (.agg [.bool false,.ak]),σ2,kp,bs,rs,ms⟩) : Jz T 68 as dst ⟨env,σ,kp,bs,rs,ms⟩ k:=by
 rcases h0.wH with ⟨_,rfl,_⟩ | ⟨o,rfl,h1,_⟩
 ·obtain ⟨σ',hr,hold,hlen⟩:=Ip h (neg:=neg) (σ:=Eu [] σ) (v:=.sl 1 []) (os:=[]) eX
  refine Nh (ρ:=[]) (by simp) (by simp) ?_ hr (fun q hq=>by simp at hq) ?_
  ·have:=congrArg (List.map (aY (place []))) ha
   rw [List.map_map] at this
   refine Eq.trans this ?_
   simp [aY,place]
  ·intro σ2 h1 h2
   have:=hk σ2 h1 h2
   simpa [aY,aY.DT,back] using this
 ·have e1 : Eu [o] σ = [some ⟨1,aN []⟩]:=by simp [Eu,h1,Nc]
  obtain ⟨σ',hr,hold,hlen⟩:=Ip h (neg:=neg) (σ:=Eu [o] σ) (v:=.bC 0 0 ([] : List Int).length) (os:=[0]) (Ik (by rw [e1];rfl))
  refine Nh (ρ:=[o]) (by simp) (fun q hq=>⟨_,by simp at hq;subst hq;exact h1⟩) ?_ hr (fun q hq=>hold q (by rw [e1];exact hq)) ?_
  ·have:=congrArg (List.map (aY (place [o]))) ha
   rw [List.map_map] at this
   refine Eq.trans this ?_
   simp [aY,place]
  ·intro σ2 h1 h2
   have:=hk σ2 h1 h2
   simpa [aY,aY.DT,back] using this
theorem JX {T : Tb} (h : l7 T) {n d : Int} (ln : (mk n.natAbs).length ≤ 60:=by exact dD) (ld : (mk d.natAbs).length ≤ 60:=by exact dD) :
  PO T 144 [Ie (bi n),Ie (bi d)] (aU (Q.raw (Kt n d))):=by
 by_cases hd : d = 0
 ·subst hd
  have e : Kt n 0 = none:=rfl
  rw [e]
  refine dX nR h.hT ?_
  simp only [jZ,Lz,St.enter,List.length_cons,List.length_nil,Nat.zero_add]
  refine ew ?_
  have c1 : (((mk (0 : Int).natAbs).length : Nat) : Int) = 0:=by
   show (((mk 0).length : Nat) : Int) = 0
   rw [UK];rfl
  refine CJ @c1 ?_
  exact Gg
 ·rw [UM hd]
  have hg : 0 < Nat.gcd n.natAbs d.natAbs:=Nat.gcd_pos_of_pos_right _ (by omega)
  have cg:=Qm h.zC (m:=n.natAbs) (n:=d.natAbs) (by omega) (by omega)
  have lg : (mk (Nat.gcd n.natAbs d.natAbs)).length ≤ 60:=Nat.le_trans (FY (Nat.le_of_dvd (by omega) (Nat.gcd_dvd_right _ _))) ld
  have l1:=MR n.natAbs (Nat.gcd n.natAbs d.natAbs)
  have l2:=MR d.natAbs (Nat.gcd n.natAbs d.natAbs)
  have cn:=TM h.nZ (m:=n.natAbs) hg (by omega) (by omega)
  have cd:=TM h.nZ (m:=d.natAbs) hg (by omega) (by omega)
  have c1 : ¬ (((mk d.natAbs).length : Nat) : Int) = 0:=by have:=@abI d.natAbs;omega
  clear hg lg
  generalize n.natAbs / Nat.gcd n.natAbs d.natAbs = u at *
  generalize d.natAbs / Nat.gcd n.natAbs d.natAbs = v at *
  generalize n.natAbs % Nat.gcd n.natAbs d.natAbs = u2 at *
  generalize d.natAbs % Nat.gcd n.natAbs d.natAbs = v2 at *
  refine dX (fun x d=>x == 138 || x == 68) h.hT ?_
  simp only [jZ,Lz,St.enter,List.length_cons,List.length_nil,Nat.zero_add]
  refine ew ?_
  refine CJ @c1 ?_
  refine ah cg ?_
  refine ew ?_
  refine Nb cn (by (refine ew ?_;try with_reducible exact True.intro)) (by (refine ew ?_;try with_reducible exact True.intro)) ?_
  intro vs q1 o1 g
  obtain ⟨x,x2,rfl,hx2,g⟩:=g.of1
  have B0:=g.at 0 (by simp) rfl
  have B1:=g.at 1 (by simp) rfl
  have B2:=g.at 2 (by simp) rfl
  have lq : 3 ≤ q1.length:=g.len
  have f1 : ∀ o ∈ o1,3 ≤ o:=g.fresh
  have k1:=g.ow
  have n1:=g.nd
  clear g
  refine yF @B0 @B1 @B2 @lq ?_
  refine Nb cd (by (refine ew ?_;try with_reducible exact True.intro)) (by (refine ew ?_;try with_reducible exact True.intro)) ?_
  intro vs q2 o2 g
  obtain ⟨y,y2,rfl,hy2,g⟩:=g.of1
  replace B0:=(g.old 0 (by omega)).trans B0
  replace B1:=(g.old 1 (by omega)).trans B1
  replace B2:=(g.old 2 (by omega)).trans B2
  have lq2:=g.len
  have atc:=k1.lt
  replace k1:=k1.frame (σ':=q2) fun o ho=>g.old o (k1.lt o ho)
  have k2:=g.ow
  have n2:=g.nd
  have dj : ∀ o ∈ o1,∀ p ∈ o2,o ≠ p:=fun o ho p hp e=>by
   have:=atc o ho
   have:=g.fresh p hp
   omega
  have f2 : ∀ o ∈ o2,3 ≤ o:=fun o ho=>by have:=g.fresh o ho;omega
  replace lq : 3 ≤ q2.length:=by omega
  clear g lq2
  have e1:=k1.aor
  have e2:=k2.aor
  have lfy:=k2.leaf rfl
  have fcy:=KW lfy
  have ate : (o1 ++ o2).Nodup:=by
   rw [List.nodup_append];exact ⟨n1,n2,dj⟩
  by_cases c2 : (24 : Int) < ((mk u).length : Nat)
  ·refine ew7 @B0 @B1 @B2 @lq @e1 @e2 @c2 ?_
   rw [if_neg (by omega)]
   exact Gg
  by_cases c3 : (24 : Int) < ((mk v).length : Nat)
  ·refine ew8 @B0 @B1 @B2 @lq @e1 @e2 @c2 @c3 ?_
   rw [if_neg (by omega)]
   exact Gg
  refine ew8 @B0 @B1 @B2 @lq @e1 @e2 @c2 @c3 ?_
  rw [if_pos (by omega),← KL]
  have key:=EP (!decide (decide (n < 0) = decide (d < 0))) u
  by_cases hu : u = 0
  ·subst hu
   rw [mk_zero] at k1
   obtain ⟨q3,hr,hold,hlen⟩:=Ip h.bG (neg:=!decide (decide (n < 0) = decide (d < 0))) k1
   refine gQ hr rfl hlen (by simp) ?_
   replace B2:=(hold 2 (by omega)).trans B2
   have lq3 : 3 ≤ q3.length:=by omega
   refine yF @B2 @lq3 @lfy @fcy ?_
   rw [KJ,mk_zero]
   have k2':=k2.frame (σ':=q3.set 2 (some ⟨3,[[.bool false,.ak,y]]⟩)) fun o ho=>by
    have:=f2 o ho
    rw [aH (by omega),hold o (k2.lt o ho)]
   refine ⟨.agg [.bool false,.sl 1 [],y],o2,?_,OT (o1:=[]) eX k2',n2⟩
   simp only [Ih,MQ,MP,EK,gZ,true_and,and_true]
   exact aC _
  ·rcases k1.wH with ⟨h1,_,_⟩ | ⟨o,rfl,h1,_⟩
   ·have:=Au.2 (Nat.pos_of_ne_zero hu)
    rw [h1] at this;simp at this
   ·obtain ⟨q3,hr,hold,hlen⟩:=QD h.bG (neg:=!decide (decide (n < 0) = decide (d < 0))) h1 (Nat.pos_of_ne_zero hu) (by omega)
    refine gQ hr rfl hlen (by simp) ?_
    replace B2:=(hold 2 (by omega)).trans B2
    have lq3 : 3 ≤ q3.length:=by omega
    refine yF @B2 @lq3 @lfy @fcy ?_
    have hb:=congrArg Bi.neg (ad3 (!decide (decide (n < 0) = decide (d < 0))) u (Nat.pos_of_ne_zero hu))
    have hb : decide (sg (!decide (decide (n < 0) = decide (d < 0))) u < 0) = !decide (decide (n < 0) = decide (d < 0)):=hb
    rw [hb]
    generalize (!decide (decide (n < 0) = decide (d < 0))) = ng
    have fr : ∀ p,p ∈ o1 ++ o2 → aj (q3.set 2 (some ⟨3,[[.bool ng,.bC o 0 (mk u).length,y]]⟩)) p = aj q2 p:=fun p hp=>by
     have h3 : 3 ≤ p ∧ p < q2.length:=by
      rcases List.mem_append.1 hp with hp | hp
      ·exact ⟨f1 p hp,k1.lt p hp⟩
      ·exact ⟨f2 p hp,k2.lt p hp⟩
     rw [aH (by omega),hold p h3.2]
    exact rF (OT (k1.frame fun p hp=>fr p (List.mem_append_left _ hp)) (k2.frame fun p hp=>fr p (List.mem_append_right _ hp))) ate
theorem abU {T : Tb} (h : fH T) {a b : Q} (ha : a.ok:=by assumption) (hb : b.ok:=by assumption) : PO T 131 [aU (Q.raw a),aU (Q.raw b)] (aU (Q.raw (JF a b))):=by
 cases a with
 |
  none =>
  refine dX (fun x d=>x == 144) h.hT ?_
  simp only [iQ,Lz,St.enter,List.length_cons,List.length_nil,Nat.zero_add]
  refine ew ?_
  refine ah (oZ h.aP) ?_
  refine ew ?_
  exact Gg
 |
  some q=>cases b with
  |
   none =>
   refine dX (fun x d=>x == 144) h.hT ?_
   simp only [iQ,Lz,St.enter,List.length_cons,List.length_nil,Nat.zero_add]
   refine ew ?_
   refine ah (jr h.aP) ?_
   refine ew ?_
   refine ah (oZ h.aP) ?_
   refine ew ?_
   exact Gg
  |
   some s =>
   obtain ⟨l1,l2⟩:=ER ha
   obtain ⟨l3,l4⟩:=ER hb
   have e : JF (some q) (some s) = Kt (q.num * s.den + s.num * q.den) (q.den * s.den):=(UE q s).symm
   rw [e]
   have t1:=gJ q.num s.den
   have t2:=gJ s.num q.den
   have t3:=gJ q.den s.den
   have t5:=gJ q.num s.num
   have t4:=Dx (q.num * s.den) (s.num * q.den)
   have n1 : (mk (q.den : Int).natAbs).length ≤ 24:=by rw [Int.natAbs_natCast];exact l2
   have n2 : (mk (s.den : Int).natAbs).length ≤ 24:=by rw [Int.natAbs_natCast];exact l4
   refine dX (fun x d=>x == 144) h.hT ?_
   simp only [iQ,Lz,St.enter,List.length_cons,List.length_nil,Nat.zero_add]
   refine ew ?_
   refine ah (jr h.aP) ?_
   refine ew ?_
   refine ah (jr h.aP) ?_
   refine ew ?_
   refine ah (rE h.bV (q:=s)) ?_
   refine ew ?_
   refine ah (kU h.bY (x:=q.num) (y:=s.den) (by omega) (by omega)) ?_
   refine ew ?_
   refine ah (rE h.bV (q:=q)) ?_
   refine ew ?_
   refine ah (kU h.bY (x:=s.num) (y:=q.den) (by omega) (by omega)) ?_
   refine ew ?_
   refine ah (WV h.Ji (x:=q.num * s.den) (y:=s.num * q.den) (by omega) (by omega)) ?_
   refine ew ?_
   refine ⟨by unfold jl;decide +kernel,?_⟩
   refine ah (rE h.bV (q:=q)) ?_
   refine ew ?_
   refine ah (rE h.bV (q:=s)) ?_
   refine ew ?_
   refine ah (kU h.bY (x:=q.den) (y:=s.den) (by omega) (by omega)) ?_
   refine ew ?_
   refine iO (JX h.jf (n:=q.num * s.den + s.num * q.den) (d:=q.den * s.den) (by omega) (by omega)) (by (refine ew ?_;try with_reducible exact True.intro)) (by (refine ew ?_;try with_reducible exact True.intro)) ?_
   intro v q os g
   have g0:=g
   obtain ⟨a0,d0,_,_,rfl,_,k1,k2⟩:=g.ow.BF
   have B2:=g0.at 2 (by simp) rfl
   have lq : 3 ≤ q.length:=by have:=g0.len;simp at this;omega
   have la:=k1.leaf rfl
   have ld:=k2.leaf rfl
   have EY:=And.intro la ld
   have fc:=fun b k=>iC (cs:=[.bool b,a0,d0]) (by simp [la,ld,show ∀ b,V.leaf (.bool b) = true from fun _=>rfl]) k
   refine yF @B2 @lq @EY @fc ?_
   refine ⟨by unfold jl;decide +kernel,?_⟩
   refine yF @B2 @lq @EY @fc ?_
   exact g0.Zh (by simp)
theorem abV {T : Tb} (h : jQ T) {a b : Q} (ha : a.ok:=by assumption) (hb : b.ok:=by assumption) : PO T 157 [aU (Q.raw a),aU (Q.raw b)] (aU (Q.raw (PY a b))):=by
 cases a with
 |
  none =>
  refine dX (fun x d=>x == 144) h.hT ?_
  simp only [iR,Lz,St.enter,List.length_cons,List.length_nil,Nat.zero_add]
  refine ew ?_
  refine ah (oZ h.aP) ?_
  refine ew ?_
  exact Gg
 |
  some q=>cases b with
  |
   none =>
   refine dX (fun x d=>x == 144) h.hT ?_
   simp only [iR,Lz,St.enter,List.length_cons,List.length_nil,Nat.zero_add]
   refine ew ?_
   refine ah (jr h.aP) ?_
   refine ew ?_
   refine ah (oZ h.aP) ?_
   refine ew ?_
   exact Gg
  |
   some s =>
   obtain ⟨l1,l2⟩:=ER ha
   obtain ⟨l3,l4⟩:=ER hb
   have e : PY (some q) (some s) = Kt (q.num * s.num) (q.den * s.den):=(UF q s).symm
   rw [e]
   have t1:=gJ q.num s.den
   have t2:=gJ s.num q.den
   have t3:=gJ q.den s.den
   have t5:=gJ q.num s.num
   have t4:=Dx (q.num * s.den) (s.num * q.den)
   have n1 : (mk (q.den : Int).natAbs).length ≤ 24:=by rw [Int.natAbs_natCast];exact l2
   have n2 : (mk (s.den : Int).natAbs).length ≤ 24:=by rw [Int.natAbs_natCast];exact l4
   refine dX (fun x d=>x == 144) h.hT ?_
   simp only [iR,Lz,St.enter,List.length_cons,List.length_nil,Nat.zero_add]
   refine ew ?_
   refine ah (jr h.aP) ?_
   refine ew ?_
   refine ah (jr h.aP) ?_
   refine ew ?_
   refine ah (kU h.bY (x:=q.num) (y:=s.num) (by omega) (by omega)) ?_
   refine ew ?_
   refine ah (rE h.bV (q:=q)) ?_
   refine ew ?_
   refine ah (rE h.bV (q:=s)) ?_
   refine ew ?_
   refine ah (kU h.bY (x:=q.den) (y:=s.den) (by omega) (by omega)) ?_
   refine ew ?_
   refine iO (JX h.jf (n:=q.num * s.num) (d:=q.den * s.den) (by omega) (by omega)) (by (refine ew ?_;try with_reducible exact True.intro)) (by (refine ew ?_;try with_reducible exact True.intro)) ?_
   intro v q os g
   have g0:=g
   obtain ⟨a0,d0,_,_,rfl,_,k1,k2⟩:=g.ow.BF
   have B2:=g0.at 2 (by simp) rfl
   have lq : 3 ≤ q.length:=by have:=g0.len;simp at this;omega
   have la:=k1.leaf rfl
   have ld:=k2.leaf rfl
   have EY:=And.intro la ld
   have fc:=fun b k=>iC (cs:=[.bool b,a0,d0]) (by simp [la,ld,show ∀ b,V.leaf (.bool b) = true from fun _=>rfl]) k
   refine yF @B2 @lq @EY @fc ?_
   refine ⟨by unfold jl;decide +kernel,?_⟩
   refine yF @B2 @lq @EY @fc ?_
   exact g0.Zh (by simp)
theorem abW {T : Tb} (h : lK T) {a b : Q} (ha : a.ok:=by assumption) (hb : b.ok:=by assumption) : PO T 156 [aU (Q.raw a),aU (Q.raw b)] (aU (Q.raw (PZ a b))):=by
 cases a with
 |
  none =>
  refine dX (fun x d=>x == 144) h.hT ?_
  simp only [iT,Lz,St.enter,List.length_cons,List.length_nil,Nat.zero_add]
  refine ew ?_
  refine ah (oZ h.aP) ?_
  refine ew ?_
  exact Gg
 |
  some q=>cases b with
  |
   none =>
   refine dX (fun x d=>x == 144) h.hT ?_
   simp only [iT,Lz,St.enter,List.length_cons,List.length_nil,Nat.zero_add]
   refine ew ?_
   refine ah (jr h.aP) ?_
   refine ew ?_
   refine ah (oZ h.aP) ?_
   refine ew ?_
   exact Gg
  |
   some s =>
   obtain ⟨l1,l2⟩:=ER ha
   obtain ⟨l3,l4⟩:=ER hb
   have e : PZ (some q) (some s) = Kt (q.num * s.den) (s.num * q.den):=(UG q s).symm
   rw [e]
   have t1:=gJ q.num s.den
   have t2:=gJ s.num q.den
   have t3:=gJ q.den s.den
   have t5:=gJ q.num s.num
   have t4:=Dx (q.num * s.den) (s.num * q.den)
   have n1 : (mk (q.den : Int).natAbs).length ≤ 24:=by rw [Int.natAbs_natCast];exact l2
   have n2 : (mk (s.den : Int).natAbs).length ≤ 24:=by rw [Int.natAbs_natCast];exact l4
   refine dX (fun x d=>x == 144) h.hT ?_
   simp only [iT,Lz,St.enter,List.length_cons,List.length_nil,Nat.zero_add]
   refine ew ?_
   refine ah (jr h.aP) ?_
   refine ew ?_
   refine ah (jr h.aP) ?_
   refine ew ?_
   refine ah (rE h.bV (q:=s)) ?_
   refine ew ?_
   refine ah (kU h.bY (x:=q.num) (y:=s.den) (by omega) (by omega)) ?_
   refine ew ?_
   refine ah (rE h.bV (q:=q)) ?_
   refine ew ?_
   refine ah (kU h.bY (x:=s.num) (y:=q.den) (by omega) (by omega)) ?_
   refine ew ?_
   refine iO (JX h.jf (n:=q.num * s.den) (d:=s.num * q.den) (by omega) (by omega)) (by (refine ew ?_;try with_reducible exact True.intro)) (by (refine ew ?_;try with_reducible exact True.intro)) ?_
   intro v q os g
   have g0:=g
   obtain ⟨a0,d0,_,_,rfl,_,k1,k2⟩:=g.ow.BF
   have B2:=g0.at 2 (by simp) rfl
   have lq : 3 ≤ q.length:=by have:=g0.len;simp at this;omega
   have la:=k1.leaf rfl
   have ld:=k2.leaf rfl
   have EY:=And.intro la ld
   have fc:=fun b k=>iC (cs:=[.bool b,a0,d0]) (by simp [la,ld,show ∀ b,V.leaf (.bool b) = true from fun _=>rfl]) k
   refine yF @B2 @lq @EY @fc ?_
   refine ⟨by unfold jl;decide +kernel,?_⟩
   refine yF @B2 @lq @EY @fc ?_
   exact g0.Zh (by simp)
theorem QF {T : Tb} (h : fH T) {r s : R} (hr : r.cn:=by exact KQ) (hs : s.cn:=by exact KQ) : PO T 131 [aU r,aU s] (aU (qj r s)):=by
 have:=abU h (a:=r.q) (b:=s.q) (Ib r) (Ib s)
 rw [hr,hs] at this;exact this
theorem Zn {T : Tb} (h : jQ T) {r s : R} (hr : r.cn:=by exact KQ) (hs : s.cn:=by exact KQ) : PO T 157 [aU r,aU s] (aU (mulR r s)):=by
 have:=abV h (a:=r.q) (b:=s.q) (Ib r) (Ib s)
 rw [hr,hs] at this;exact this
theorem JY {T : Tb} (h : lK T) {r s : R} (hr : r.cn:=by exact KQ) (hs : s.cn:=by exact KQ) : PO T 156 [aU r,aU s] (aU (uP r s)):=by
 have:=abW h (a:=r.q) (b:=s.q) (Ib r) (Ib s)
 rw [hr,hs] at this;exact this
theorem XB {T : Tb} (h : uq T) {n : Int} (hn : -1000000000000000000 < n ∧ n < 1000000000000000000:=by exact dD) : PO T 54 [iv n] (Ie (bi n)):=by
 have hl : (mk n.natAbs).length ≤ 2:=Qu (by omega)
 by_cases hneg : n < 0
 ·have c1:=Gf h.cO (n:=-(n + 1) + 1) (by omega)
  rw [show (-(n + 1) + 1).toNat = n.natAbs by omega] at c1
  have e : bi n = ⟨true,mk n.natAbs⟩:=by unfold bi;rw [decide_eq_true hneg]
  rw [e]
  refine dX (fun x d=>x == 69 || x == 68) h.hT ?_
  simp only [jD,Lz,St.enter,List.length_cons,List.length_nil,Nat.zero_add]
  refine ew ?_
  refine CJ @hneg ?_
  rw [show (0 : Int) - (n + 1) + 1 = -(n + 1) + 1 by omega]
  refine fJ c1 (by (refine ew ?_;try with_reducible exact True.intro)) ?_
  intro v q1 o1 g
  have B0:=g.at 0 (by simp) rfl
  have lq : 1 ≤ q1.length:=g.len
  have f1 : ∀ o ∈ o1,1 ≤ o:=g.fresh
  have k1:=g.ow
  have n1:=g.nd
  clear g
  refine sK @B0 @lq ?_
  rcases k1.wH with ⟨h1,_,_⟩ | ⟨o,rfl,h1,_⟩
  ·have:=Au.2 (show 0 < n.natAbs by omega)
   rw [h1] at this;simp at this
  refine XA h.bG (neg:=true) h1 (by omega) rfl (by omega) ?_
  intro q3 hold hlen
  replace B0:=(hold 0 (by omega)).trans B0
  have lq3 : 1 ≤ q3.length:=by omega
  refine sK @B0 @lq3 ?_
  refine rF (QE (k1.frame fun p hp=>?_)) n1
  have:=f1 p hp
  rw [aH (by omega),hold p (k1.lt p hp)]
 ·have c1:=Gf h.cO (n:=n) (by omega)
  rw [show n.toNat = n.natAbs by omega] at c1
  have e : bi n = ⟨false,mk n.natAbs⟩:=by unfold bi;rw [decide_eq_false hneg]
  rw [e]
  refine dX (fun x d=>x == 69 || x == 68) h.hT ?_
  simp only [jD,Lz,St.enter,List.length_cons,List.length_nil,Nat.zero_add]
  refine ew ?_
  refine CJ @hneg ?_
  refine fJ c1 (by (refine ew ?_;try with_reducible exact True.intro)) ?_
  intro v q1 o1 g
  have B0:=g.at 0 (by simp) rfl
  have lq : 1 ≤ q1.length:=g.len
  have f1 : ∀ o ∈ o1,1 ≤ o:=g.fresh
  have k1:=g.ow
  have n1:=g.nd
  clear g
  refine sK @B0 @lq ?_
  by_cases h0 : n.natAbs = 0
  ·rw [h0,mk_zero] at k1 ⊢
   refine abT h.bG (neg:=false) k1 rfl ?_
   intro q3 hold hlen
   replace B0:=(hold 0 (by omega)).trans B0
   have lq3 : 1 ≤ q3.length:=by omega
   refine sK @B0 @lq3 ?_
   exact ⟨.agg [.bool false,.sl 1 []],[],UL,QE (eX),.nil⟩
  rcases k1.wH with ⟨h1,_,_⟩ | ⟨o,rfl,h1,_⟩
  ·have:=Au.2 (show 0 < n.natAbs by omega)
   rw [h1] at this;simp at this
  refine XA h.bG (neg:=false) h1 (by omega) rfl (by omega) ?_
  intro q3 hold hlen
  replace B0:=(hold 0 (by omega)).trans B0
  have lq3 : 1 ≤ q3.length:=by omega
  refine sK @B0 @lq3 ?_
  refine rF (QE (k1.frame fun p hp=>?_)) n1
  have:=f1 p hp
  rw [aH (by omega),hold p (k1.lt p hp)]
theorem sU {T : Tb} (h : ig T) {n : Int} (hn : -1000000000000000000 < n ∧ n < 1000000000000000000:=by exact dD) : PO T 39 [iv n] (aU (iU n)):=by
 rw [Qv]
 refine dX (fun x d=>x == 54) h.hT ?_
 simp only [kV,Lz,St.enter,List.length_cons,List.length_nil,Nat.zero_add]
 refine ew ?_
 refine fJ (XB h.GR hn) (by (refine ew ?_;try with_reducible exact True.intro)) ?_
 intro v q1 o1 g
 obtain ⟨v1,rfl,k1⟩:=g.ow.aei
 have B0:=g.at 0 (by simp) rfl
 have B1:=g.at 1 (by simp) rfl
 have lq : 2 ≤ q1.length:=g.len
 have f1 : ∀ o ∈ o1,2 ≤ o:=g.fresh
 have n1:=g.nd
 have la:=k1.leaf rfl
 have fc:=fun b k=>iC (cs:=[.bool b,v1]) (by simp [la,show ∀ b,V.leaf (.bool b) = true from fun _=>rfl]) k
 clear g
 refine vJ @B0 @B1 @lq @la @fc ?_
 refine rF (OT (o1:=o1) (o2:=[1]) (k1.frame fun p hp=>?_) (Ik (l:=[1]) ?_)) ?_
 ·have:=f1 p hp
  rw [aH (by omega),aH (by omega)]
 ·rw [aH (by omega),aX (by omega)];rfl
 ·rw [List.nodup_append]
  refine ⟨n1,by simp,fun a ha b hb e=>?_⟩
  have:=f1 a ha
  simp at hb
  omega
theorem XC {T : Tb} (h : uF T) {z : Bi} (hl : z.mag.length ≤ 1048576:=by exact dD) : PO T 63 [Ie z] (Ie z):=by
 refine dX (fun x d=>x == 6) h.hT ?_
 simp only [nU,Lz,St.enter,List.length_cons,List.length_nil,Nat.zero_add]
 refine ew ?_
 refine fJ (TL h.sS (l:=z.mag) (by omega)) (by (refine ew ?_;try with_reducible exact True.intro)) ?_
 intro r σ2 os g
 have g1:=g.at 1 (by simp) rfl
 have g2:=g.at 2 (by simp) rfl
 have gl : 3 ≤ σ2.length:=g.len
 have lf:=g.lf rfl
 have lb:=g.lfb rfl
 have fr : ∀ o ∈ os,3 ≤ o:=g.fresh
 refine yF @g1 @g2 @lf @lb ?_
 refine rF (fD (jG (jh (g.ow.frame fun o ho=>?_) iq))) (by simpa using g.nd)
 have:=fr o ho
 rw [aH (by omega),aH (by omega)]
theorem QG {T : Tb} (h : BH T) {r : R} (hl : r.mag.length + r.den.length ≤ 1048576:=by exact dD) : PO T 48 [aU r] (aU r):=by
 refine dX (fun x d=>x == 6 || x == 63) h.hT ?_
 simp only [wK,Lz,St.enter,List.length_cons,List.length_nil,Nat.zero_add]
 refine ew ?_
 refine fJ (XC h.GU (z:=r.num) (by show r.mag.length ≤ _;omega)) (by (refine ew ?_;try with_reducible exact True.intro)) ?_
 intro r1 σ1 o1 g
 obtain ⟨v1,rfl,k1⟩:=g.ow.aei
 have a0:=g.at 0 (by simp) rfl
 have a1:=g.at 1 (by simp) rfl
 have a2:=g.at 2 (by simp) rfl
 have gl : 3 ≤ σ1.length:=g.len
 have lf:=KW (k1.leaf rfl)
 have lb:=k1.leaf rfl
 have f1 : ∀ o ∈ o1,3 ≤ o:=g.fresh
 refine vJ @a0 @a1 @a2 @lf @lb ?_
 refine fJ (TL h.sS (l:=r.den) (by omega)) (by (refine ew ?_;try with_reducible exact True.intro)) ?_
 intro v2 σ2 o2 g2
 have b1:=g2.old 1 (by simp;omega)
 have b2:=g2.old 2 (by simp;omega)
 have gl2 : σ1.length ≤ σ2.length:=by simpa using g2.len
 have lf2:=KW (g2.ow.leaf rfl)
 have lb2:=g2.ow.leaf rfl
 have f2 : ∀ o ∈ o2,σ1.length ≤ o:=by simpa using g2.fresh
 refine xQ @b1 @b2 @a1 @lf2 @lb2 @lb ?_
 refine rF (fD (jG (jh (k1.frame fun o ho=>?_) (jh (g2.ow.frame fun o ho=>?_) iq)))) ?_
 ·have:=f1 o ho
  have:=k1.lt o ho
  rw [aH (by omega),aH (by omega),g2.old o (by simp;omega),aH (by omega)]
 ·have:=f2 o ho
  rw [aH (by omega),aH (by omega)]
 ·rw [List.append_nil,List.nodup_append]
  refine ⟨by simpa using g.nd,g2.nd,fun a ha b hb e=>?_⟩
  have:=k1.lt a ha
  have:=f2 b hb
  omega
def aos (z : List V) (bytes sz f : Nat) : Fn:=⟨1,23,[.tmp 2],(.seq (.reg false 0 [oN 2 (.bZ (.c (.ak)))]) (.seq (.reg false 1 [oK 5 1 (oV 0),oK 6 1 (.len (.t 5)),oN 7 (.make z bytes (.t 6)),oK 3 1 (oV 7)]) (.seq (.seq (.reg false 0 [oN 4 (.bZ (cI 0))]) (.block 0 (.loop (.seq (.seq (.reg false 0 [oN 8 (oV 4),oN 9 (oV 0),oN 10 (.len (.t 9)),oN 11 (.bin .lss (.t 8) (.t 10))]) (.cond (.t 11) .skip (.exit 0))) (.seq (.block 1 (.reg false 0 [oN 14 (oV 3),oN 15 (oV 4),oN 16 (oV 0),oN 17 (oV 4),oN 18 (.idx sz (.t 16) (.t 17)),oN 19 (.load sz true (.t 18)),oN 20 (.call f [(.t 19)]),oN 21 (.idx sz (.t 14) (.t 15)),oS (.store sz (.t 21) (.t 20))])) (.reg false 0 [oN 12 (oV 4),oN 13 (.bin .add (.t 12) (cI 1)),oN 4 (oV 13)])))))) (.seq (.reg false 0 [oN 22 (oV 3),oN 2 (oV 22)]) .ret))))⟩
theorem ahz {α : Type} (A : List α) (z : α) {n i : Nat} (ha : A.length = i) (h : i < n) : (A ++ List.replicate (n - i) z)[i]? = some z:=by
 rw [List.getElem?_append_right (by omega),ha,Nat.sub_self,show n - i = (n - (i + 1)) + 1 by omega,List.replicate_succ];rfl
theorem ahA {α : Type} (A : List α) (z x : α) {n i : Nat} (ha : A.length = i) (h : i < n) : (A ++ List.replicate (n - i) z).set i x = (A ++ [x]) ++ List.replicate (n - (i + 1)) z:=by
 rw [List.set_append_right _ _ (by omega),ha,Nat.sub_self,show n - i = (n - (i + 1)) + 1 by omega,List.replicate_succ];simp
theorem Jk {α : Type} [Inhabited α] (cl : α → List V) (l : List α) {i : Nat} (h : i < l.length) : (l.take (i + 1)).map cl = (l.take i).map cl ++ [cl (l.getD i default)]:=by
 rw [List.take_add_one,List.getElem?_eq_getElem h,List.getD_eq_getElem?_getD,List.getElem?_eq_getElem h,List.map_append];rfl
theorem QH {σ : Store} : ∀ {cs : List V},(∀ v ∈ cs,v.still = true) → Oc σ cs = some cs
 | [],_=>rfl
 |
  c :: cs,h=>by
  simp only [Oc]
  rw [MK (n:=10) (h c (by simp)),QH fun v hv=>h v (by simp [hv])]
theorem zX {σ : Store} {cs : List V} (h : ∀ v ∈ cs,v.still = true) : resolve σ FD (.agg cs) = some (.agg cs):=by
 show (cs.mapM (resolve σ 11)).map V.agg = _
 rw [pU (n:=10) h];rfl
theorem akG {T : Tb} {n f bytes : Nat} {z : List V} {α : Type} [Inhabited α] {cl : α → List V} {l : List α} (hT : T n = some (aos z bytes z.length f)) (hb : bytes ≤ 1024) (hl : l.length ≤ 1048576)
  (hcl : ∀ x ∈ l,(cl x).length = z.length ∧ (∀ v ∈ cl x,v.still = true) ∧ (cl x).all V.leaf = true) (hpo : ∀ x ∈ l,PO T f [.agg (cl x)] (.agg (cl x))) : PO T n [.sl z.length (l.map cl)] (.sl z.length (l.map cl)):=by

 refine dX (fun x _=>x == f) hT ?_
 dsimp only [aos,oN,oS,oG,oK,oA,oH,oV,cI]
 refine ew ?_
 have hbl : l.length * bytes ≤ 1048576 * 1024:=Nat.mul_le_mul hl hb
 refine ⟨by omega,?_⟩
 refine aQ (fun x _=>x == f) (α:=Nat × Store × List (List V)) (fun q=>⟨bM [.sl z.length (l.map cl),.any,.any,.bC 0 0 l.length,iv (q.1 : Nat)],q.2.1,0,0,[],[]⟩) (fun q=>q.1 ≤ l.length ∧ q.2.2.length = q.1 ∧ aj q.2.1 0 = some ⟨z.length,q.2.2 ++ List.replicate (l.length - q.1) z⟩ ∧ RQ 1 q.2.1 q.2.2 ((l.take q.1).map cl) ∧ 1 ≤ q.2.1.length) (fun q=>l.length - q.1) rfl (0,[some ⟨z.length,List.replicate l.length z⟩],[]) ?_ ?_ ?_
 ·exact ⟨by omega,rfl,rfl,by simpa using aej,by simp⟩
 ·(refine aI ?_;exact wI)
 ·rintro ⟨i,s,A⟩ ⟨hi,hA,h0,hO,hs⟩
  dsimp only at hi hA h0 hO hs
  refine CJ @h0 ?_
  refine aG (fun hc=>?_) fun hc=>?_ <;> (refine CO @hc @mg @h0 ?_;try with_reducible exact True.intro)
  ·have hil : i < l.length:=by omega
   have hx:=getD_mem hil
   obtain ⟨x,hxe⟩ : ∃ x,l.getD i default = x:=⟨_,rfl⟩
   have hts:=Jk cl l hil
   rw [hxe] at hx hts ⊢
   obtain ⟨e1,e2,e3⟩:=hcl x hx
   have e4 : ∀ σ : Store,Oc σ (cl x) = some (cl x):=fun σ=>QH e2
   have e5 : ∀ σ : Store,resolve σ FD (.agg (cl x)) = some (.agg (cl x)):=fun σ=>zX e2
   have eb : (f == f) = true:=by simp
   refine CO @e1 @e4 @eb ?_
   refine fJ (hpo x hx) (by (refine CJ @e5 ?_;try with_reducible exact True.intro)) ?_
   intro r σ2 os g
   obtain ⟨cs,rfl,k1⟩:=g.ow.bP
   have g0:=g.at 0 (by omega) h0
   have gl:=g.len
   have lf:=iC (k1.leaf e3)
   have cl1 : cs.length = z.length:=by rw [k1.len,e1]
   have r1:=ahz A z hA hil
   have r2:=ahA A z cs hA hil
   refine vJ @g0 @lf @cl1 @r1 @List.drop_length.{0} ?_
   rw [r2]
   refine ⟨(i + 1,σ2.set 0 (some ⟨z.length,(A ++ [cs]) ++ List.replicate (l.length - (i + 1)) z⟩),A ++ [cs]),by dsimp only;omega,⟨by dsimp only;omega,by simp [hA],?_,?_,by simp;omega⟩,by (refine aI ?_;exact wI)⟩
   ·dsimp only;exact aX (by omega)
   ·dsimp only
    rw [hts]
    exact (hO.got g hs).set (by omega)
  ·have ei : i = l.length:=by omega
   subst ei
   rw [Nat.sub_self,List.replicate_zero,List.append_nil] at h0
   rw [List.take_length] at hO
   have:=hO.fin h0 (by omega)
   rw [List.length_map] at this
   exact this
def zY : Fn:=⟨2,24,[.tmp 4],(.seq (rf 1 [oN 2 (.box (.t 0)),oK 4 1 (.bZ (cI 0))]) (sr [oN 5 (fd 2 2),oN 6 (lT 3 5),oW 7 1,oN 8 (cl 46 [6,7]),oW 1 8] (.seq (sr [oW 9 1,oN 10 (bc .lss 9 0)] (cd 10 (sr [oN 4 (.bZ (cI (-1)))] .ret) .skip)) (sr [oN 11 (fd 5 2),oN 12 (lT 3 11),oW 13 1,oN 14 (cl 46 [12,13]),oW 1 14] (.seq (sr [oW 15 1,oN 16 (bc .lss 15 0)] (cd 16 (sr [oN 4 (.bZ (cI (-1)))] .ret) .skip)) (sr [oN 17 (fd 8 2),oN 18 (lT 3 17),oW 19 1,oN 20 (cl 46 [18,19]),oW 1 20] (.seq (sr [oW 21 1,oN 22 (bc .lss 21 0)] (cd 22 (sr [oN 4 (.bZ (cI (-1)))] .ret) .skip)) (sr [oW 23 1,oW 4 23] .ret))))))))⟩
structure Ef (T : Tb) : Prop where
 hT : T 43 = some zY
 Gh : F8 T
def sV : Fn:=⟨1,23,[.cell 2 11 true],(.seq (rf 2 [oN 1 (.box (.t 0)),oK 2 1 (.alloc xW)]) (.seq (rf 1 [oN 3 (.alloc xW)]) (sr [oN 4 (fd 0 1),oN 5 (lF 1 4),oN 6 (fd 0 3),oS (.store 1 (.t 6) (.t 5))] (sr [oN 7 (fd 1 1),oN 8 (lF 1 7),oN 9 (fd 1 3),oS (.store 1 (.t 9) (.t 8))] (sr [oN 10 (fd 2 1),oN 11 (lT 3 10),oN 12 (cl 48 [11]),oN 13 (fd 2 3),oS (.store 3 (.t 13) (.t 12))] (sr [oN 14 (fd 5 1),oN 15 (lT 3 14),oN 16 (cl 48 [15]),oN 17 (fd 5 3),oS (.store 3 (.t 17) (.t 16))] (sr [oN 18 (fd 8 1),oN 19 (lT 3 18),oN 20 (cl 48 [19]),oN 21 (fd 8 3),oS (.store 3 (.t 21) (.t 20))] (sr [oN 22 (lT 11 3),oS (.store 11 (.t 2) (.t 22))] .ret))))))))⟩
structure zZ (T : Tb) : Prop where
 hT : T 44 = some sV
 qO : BH T
def Aa : Fn:=⟨2,33,[.tmp 4],(.seq (rf 2 [oN 2 (.box (.t 0)),oK 3 1 (.box (.t 1)),oK 4 2 mF]) (.seq (sr [oN 5 (fd 0 2),oN 6 (lF 1 5),oN 7 (fd 0 3),oN 8 (lF 1 7),oN 9 (bt .neq 6 8)] (cd 9 (sr [oN 4 mF] .ret) .skip)) (.seq (sr [oN 10 (fd 1 2),oN 11 (lF 1 10),oN 12 (fd 1 3),oN 13 (lF 1 12),oN 14 (bt .neq 11 13)] (cd 14 (sr [oN 4 mF] .ret) .skip)) (.seq (sr [oN 15 (fd 2 2),oN 16 (lT 3 15),oN 17 (fd 2 3),oN 18 (lT 3 17),oN 19 (cl 40 [16,18]),oN 20 (nt 19)] (cd 20 (sr [oN 4 mF] .ret) .skip)) (.seq (sr [oN 21 (fd 5 2),oN 22 (lT 3 21),oN 23 (fd 5 3),oN 24 (lT 3 23),oN 25 (cl 40 [22,24]),oN 26 (nt 25)] (cd 26 (sr [oN 4 mF] .ret) .skip)) (.seq (sr [oN 27 (fd 8 2),oN 28 (lT 3 27),oN 29 (fd 8 3),oN 30 (lT 3 29),oN 31 (cl 40 [28,30]),oN 32 (nt 31)] (cd 32 (sr [oN 4 mF] .ret) .skip)) (sr [oN 4 mT] .ret)))))))⟩
structure Eh (T : Tb) : Prop where
 hT : T 16 = some Aa
 fA : qN T
def wL : Fn:=⟨2,27,[.tmp 4],(sr [oN 4 (.bZ (cI 0))] (sr [oW 6 1,oW 7 0,oN 8 (ln 7),oN 9 (bt .sub 6 8),oW 1 9] (.seq (sr [oW 10 1,oN 11 (bc .lss 10 0)] (cd 11 (sr [oN 4 (.bZ (cI (-1)))] .ret) .skip)) (.seq (sr [oN 5 (.bZ (cI 0))] (.block 0 (.loop (.seq (sr [oW 12 5,oW 13 0,oN 14 (ln 13),oN 15 (bt .lss 12 14)] (cd 15 .skip (.exit 0))) (.seq (.block 1 (sr [oW 18 0,oW 19 5,oN 20 (ix 11 18 19),oN 21 (lT 11 20),oW 22 1,oN 23 (cl 43 [21,22]),oW 1 23] (sr [oW 24 1,oN 25 (bc .lss 24 0)] (cd 25 (sr [oN 4 (.bZ (cI (-1)))] .ret) .skip)))) (rg [oW 16 5,oN 17 (bc .add 16 1),oW 5 17])))))) (sr [oW 26 1,oW 4 26] .ret)))))⟩
structure CQ (T : Tb) : Prop where
 hT : T 19 = some wL
 RS : Ef T
def wM : Fn:=⟨1,23,[.tmp 2],(sr [oN 2 mN] (.seq (rf 1 [oK 5 1 (oV 0),oK 6 1 (ln 5),oN 7 (.make xW 184 (.t 6)),oK 3 1 (oV 7)]) (.seq (sr [oN 4 (.bZ (cI 0))] (.block 0 (.loop (.seq (sr [oW 8 4,oW 9 0,oN 10 (ln 9),oN 11 (bt .lss 8 10)] (cd 11 .skip (.exit 0))) (.seq (.block 1 (rg [oW 14 3,oW 15 4,oW 16 0,oW 17 4,oN 18 (ix 11 16 17),oN 19 (lT 11 18),oN 20 (cl 44 [19]),oN 21 (ix 11 14 15),oS (.store 11 (.t 21) (.t 20))])) (rg [oW 12 4,oN 13 (bc .add 12 1),oW 4 13])))))) (sr [oW 22 3,oW 2 22] .ret))))⟩
structure wO (T : Tb) : Prop where
 hT : T 21 = some wM
 Jl : zZ T
def wP : Fn:=⟨2,27,[.tmp 4],(sr [oN 4 mF] (.seq (sr [oW 6 0,oN 7 (ln 6),oW 8 1,oN 9 (ln 8),oN 10 (bt .neq 7 9)] (cd 10 (sr [oN 4 mF] .ret) .skip)) (.seq (sr [oN 5 (.bZ (cI 0))] (.block 0 (.loop (.seq (sr [oW 11 5,oW 12 0,oN 13 (ln 12),oN 14 (bt .lss 11 13)] (cd 14 .skip (.exit 0))) (.seq (.block 1 (.seq (rt 0 [oW 17 0,oW 18 5,oA 19 0 (ix 11 17 18) [0,1],oA 20 0 (lT 11 19) [2],oW 21 1,oW 22 5,oA 23 0 (ix 11 21 22) [4,5],oA 24 0 (lT 11 23) [6],oA 25 0 (cl 16 [20,24]) [3,7],oA 26 0 (nt 25) [8]]) (cd 26 (sr [oN 4 mF] .ret) .skip))) (rg [oW 15 5,oN 16 (bc .add 15 1),oW 5 16])))))) (sr [oN 4 mT] .ret))))⟩
structure CS (T : Tb) : Prop where
 hT : T 23 = some wP
 RU : Eh T
theorem aeB {T : Tb} (h : Ef T) {x : Lk} {left : Int} (hw : x.wf:=by exact dD) (h0 : 0 ≤ left ∧ left ≤ 1048576:=by exact dD) : PF T 43 [IL x,iv left] (iv (szr left x.sz)):=by
 obtain ⟨w0,w1,w2⟩:=hw
 refine aT nR h.hT ?_
 simp only [zY,Lz]
 refine ev ?_
 refine ah (U9 h.Gh (r:=x.w) w0 ⟨by omega,by omega⟩) ?_
 refine ev ?_
 have k0:=@P6 left (x.w.sz)
 refine aG (fun hb0=>?_) fun hb0=>?_ <;> (refine ev1 @hb0 ?_;try with_reducible exact True.intro)
 ·rw [show x.sz = (x.w.sz) + (x.dx.sz + x.dy.sz) from by (unfold Lk.sz;omega),OG hb0 h0.1]
 refine ah (U9 h.Gh (r:=x.dx) w1 ⟨by omega,by omega⟩) ?_
 refine ev ?_
 rw [UH hb0]
 have k1:=@P6 left (x.w.sz + x.dx.sz)
 refine aG (fun hb1=>?_) fun hb1=>?_ <;> (refine ev1 @hb1 ?_;try with_reducible exact True.intro)
 ·rw [show x.sz = (x.w.sz + x.dx.sz) + (x.dy.sz) from by (unfold Lk.sz;omega),OG hb1 h0.1]
 refine ah (U9 h.Gh (r:=x.dy) w2 ⟨by omega,by omega⟩) ?_
 refine ev ?_
 rw [UH hb1]
 have k2:=@P6 left (x.w.sz + x.dx.sz + x.dy.sz)
 refine aG (fun hb2=>?_) fun hb2=>?_ <;> (refine ev1 @hb2 ?_;try with_reducible exact True.intro)
 ·rw [show x.sz = x.w.sz + x.dx.sz + x.dy.sz from rfl,ady hb2 h0.1]
 ·rfl
theorem aeC {T : Tb} (h : zZ T) {x : Lk} (hl : x.sz ≤ 1048576:=by exact dD) : PF T 44 [IL x] (IL x):=by
 unfold Lk.sz at hl
 refine aT nR h.hT ?_
 simp only [sV,Lz]
 refine ev ?_
 refine ah (Va h.qO (r:=x.w) (by omega)) ?_
 refine ev ?_
 refine ah (Va h.qO (r:=x.dx) (by omega)) ?_
 refine ev ?_
 refine ah (Va h.qO (r:=x.dy) (by omega)) ?_
 (refine ev ?_;try with_reducible exact True.intro)
theorem aeD {T : Tb} (h : Eh T) {x y : Lk} (hx : x.wf:=by exact dD) (hy : y.wf:=by exact dD) : PF T 16 [IL x,IL y] (.bool (decide (x = y))):=by
 obtain ⟨w0,w1,w2⟩:=hx
 obtain ⟨v0,v1,v2⟩:=hy
 refine aT nR h.hT ?_
 simp only [Aa,Lz]
 refine ev ?_
 refine aG (fun hb0=>?_) fun hb0=>?_ <;> (refine ev1 @hb0 ?_;try with_reducible exact True.intro)
 rotate_left
 ·cases x;cases y;simp_all
 refine aG (fun hb1=>?_) fun hb1=>?_ <;> (refine ev1 @hb1 ?_;try with_reducible exact True.intro)
 rotate_left
 ·cases x;cases y;simp_all
 refine ah (zW h.fA (y:=x.w) (z:=y.w) w0 v0) ?_
 refine ev ?_
 refine aG (fun hb2=>?_) fun hb2=>?_ <;> (refine ev1 @hb2 ?_;try with_reducible exact True.intro)
 rotate_left
 ·cases x;cases y;simp_all
 refine ah (zW h.fA (y:=x.dx) (z:=y.dx) w1 v1) ?_
 refine ev ?_
 refine aG (fun hb3=>?_) fun hb3=>?_ <;> (refine ev1 @hb3 ?_;try with_reducible exact True.intro)
 rotate_left
 ·cases x;cases y;simp_all
 refine ah (zW h.fA (y:=x.dy) (z:=y.dy) w2 v2) ?_
 refine ev ?_
 refine aG (fun hb4=>?_) fun hb4=>?_ <;> (refine ev1 @hb4 ?_;try with_reducible exact True.intro)
 rotate_left
 ·cases x;cases y;simp_all
 ·cases x;cases y;simp_all
theorem abX {T : Tb} (h : CQ T) {l : List Lk} {left : Int} (hw : Hl Lk.wf l:=by exact dD) (h0 : 0 ≤ left ∧ left ≤ 1048576:=by exact dD) : PF T 19 [bf l,iv left] (iv (szr left (Aq Lk.sz l))):=by
 have hlen:=hw.1
 refine aT nR h.hT ?_
 simp only [wL,Lz]
 refine ev ?_
 refine aG (fun hb=>?_) fun hb=>?_ <;> (refine ev1 @hb ?_;try with_reducible exact True.intro)
 ·rw [adA (by rw [rD];omega)]
 refine aQ (fun _ _=>false) (α:=Nat) (fun i=>⟨bM [bf l,iv (left - (l.length : Nat) - (sumTo Lk.sz l i : Nat)),.any,.any,.any,iv (i : Nat)],[],0,0,[],[]⟩) (fun i=>i ≤ l.length ∧ (l.length : Int) + (sumTo Lk.sz l i : Nat) ≤ left) (fun i=>l.length - i) rfl 0 ?_ ?_ ?_
 ·rw [P7];omega
 ·(refine aI ?_) <;> (try (refine ev1 @P7 ?_;try with_reducible exact True.intro)) <;> (repeat' (first | refine ⟨?_,?_⟩ | exact kE (by omega) | exact mV (by simp) | exact kF _))
 ·rintro i ⟨hi,hs⟩
  refine ev ?_
  refine aG (fun hc=>?_) fun hc=>?_ <;> (refine iW @hc @mg ?_;try with_reducible exact True.intro)
  ·refine ah (aeB h.RS (x:=l.getD i default) (hw.at_ (by omega)) ⟨by omega,by omega⟩) ?_
   refine ev ?_
   have k1:=P8 Lk.sz (l:=l) (i:=i) (by omega)
   have k2:=JH Lk.sz (l:=l) (i:=i) (by omega)
   refine aG (fun hd=>?_) fun hd=>?_ <;> (refine ev1 @hd ?_;try with_reducible exact True.intro)
   ·have:=aj9 hd (by omega)
    rw [adA (left:=left) (by rw [rD];omega)]
   ·have e1 : szr (left - (l.length : Nat) - (sumTo Lk.sz l i : Nat)) (Lk.sz (l.getD i default)) = left - (l.length : Nat) - (sumTo Lk.sz l (i + 1) : Nat):=by
     rw [adz (aah hd)];omega
    rw [show (l.getD i default).sz = Lk.sz (l.getD i default) from rfl,e1] at hd ⊢
    exact ⟨i + 1,by omega,⟨by omega,by omega⟩,by (refine aI ?_;exact yB)⟩
  ·have : i = l.length:=by omega
   subst this
   rw [abv] at hs ⊢
   rw [adz (by rw [rD];omega)];rw [rD]
   congr 1;omega
theorem Nj {T : Tb} (h : wO T) {l : List Lk} (hl : Aq Lk.sz l ≤ 1048576:=by exact dD) : PF T 21 [bf l] (bf l):=by
 rw [rD] at hl
 refine aT nR h.hT ?_
 simp only [wM,Lz]
 refine ev ?_
 refine ⟨by omega,?_⟩
 refine aQ (fun _ _=>false) (α:=Nat) (fun i=>⟨bM [bf l,.any,.any,.bC 0 0 l.length,iv (i : Nat)],[some ⟨11,GH Lk.cells l [iv 0,iv 0,.bool false,.ak,.ak,.bool false,.ak,.ak,.bool false,.ak,.ak] i⟩],0,0,[],[]⟩) (fun i=>i ≤ l.length) (fun i=>l.length - i) rfl 0 ?_ ?_ ?_
 ·omega
 ·(refine aI ?_) <;> (try (refine ev1 @YT ?_;try with_reducible exact True.intro)) <;> (repeat' (first | refine ⟨?_,?_⟩ | exact kE (by omega) | exact mV (by simp) | exact kF _))
 ·intro i hi
  have e1:=abx Lk.cells l [iv 0,iv 0,.bool false,.ak,.ak,.bool false,.ak,.ak,.bool false,.ak,.ak] hi
  refine ev1 @e1 ?_
  refine aG (fun hb=>?_) fun hb=>?_ <;> (refine uO @hb @e1 @mg ?_;try with_reducible exact True.intro)
  ·have k1:=P8 Lk.sz (l:=l) (i:=i) (by omega)
   refine ah (aeC h.Jl (x:=l.getD i default) (by first | omega | (change Lk.sz _ ≤ _;omega))) ?_
   have e0:=abz Lk.cells l [iv 0,iv 0,.bool false,.ak,.ak,.bool false,.ak,.ak,.bool false,.ak,.ak] (i:=i) (by omega)
   refine iW @e0 @e1 ?_
   have e2:=aby Lk.cells l [iv 0,iv 0,.bool false,.ak,.ak,.bool false,.ak,.ak,.bool false,.ak,.ak] (i:=i) (by omega)
   refine ⟨i + 1,by omega,by omega,agz ?_ (by rw [← e2])⟩
   refine ev ?_
   repeat' (first | refine ⟨?_,?_⟩ | exact kE (by omega) | exact mV (by simp))
  ·have : i = l.length:=by omega
   subst this
   rw [abw,Bj (yA (f:=Lk.cells) (l:=l) (by intro x _ v hv;simp at hv;rcases hv with rfl | rfl | rfl | rfl | rfl | rfl | rfl | rfl | rfl | rfl | rfl <;> rfl)) (by simp),List.drop_zero,List.take_of_length_le (by simp)];rfl
theorem I5 {T : Tb} (h : CS T) {a b : List Lk} (ha : Hl Lk.wf a:=by exact dD) (hb : Hl Lk.wf b:=by exact dD) : PF T 23 [bf a,bf b] (.bool (decide (a = b))):=by
 have l1:=ha.1
 have l2:=hb.1
 refine aT nR h.hT ?_
 simp only [wP,Lz]
 refine ev ?_
 refine aG (fun h1=>?_) fun h1=>?_ <;> (refine ev1 @h1 ?_;try with_reducible exact True.intro)
 ·have h1 : a.length = b.length:=by omega
  refine aQ (fun _ _=>false) (α:=Nat) (fun i=>⟨bM [bf a,bf b,.any,.any,.any,iv (i : Nat)],[],0,0,[],[]⟩) (fun i=>i ≤ a.length ∧ ∀ j,j < i → a.getD j default = b.getD j default) (fun i=>a.length - i) rfl 0 ?_ ?_ ?_
  ·exact ⟨by omega,by intro j hj;omega⟩
  ·(refine aI ?_;exact yB)
  ·rintro i ⟨hi,hj⟩
   refine ev ?_
   refine aG (fun h2=>?_) fun h2=>?_ <;> (refine iW @h2 @mg ?_;try with_reducible exact True.intro)
   ·refine ah (aeD h.RU (x:=a.getD i default) (y:=b.getD i default) (ha.at_ (by omega)) (hb.at_ (by omega))) ?_
    refine ev ?_
    refine aG (fun h3=>?_) fun h3=>?_ <;> (refine ev1 @h3 ?_;try with_reducible exact True.intro)
    ·refine ⟨i + 1,by omega,⟨by omega,fun j hj'=>?_⟩,by (refine aI ?_;exact yB)⟩
     by_cases e : j = i
     ·subst e;exact h3
     ·exact hj j (by omega)
    ·have : ¬ a = b:=fun e=>h3 (by rw [e])
     simp [this]
   ·have : a = b:=EJ h1 fun j h=>hj j (by omega)
    simp [this]
 ·have : ¬ a = b:=fun e=>h1 (by rw [e])
  simp [this]
def uI : Fn:=⟨2,28,[.tmp 4],(.seq (rf 2 [oN 2 (.box (.t 0)),oK 3 1 (.box (.t 1)),oK 4 2 mF]) (.seq (sr [oN 5 (fd 0 2),oN 6 (lF 1 5),oN 7 (fd 0 3),oN 8 (lF 1 7),oN 9 (bt .neq 6 8)] (cd 9 (sr [oN 4 mF] .ret) .skip)) (.seq (sr [oN 10 (fd 1 2),oN 11 (lT 3 10),oN 12 (fd 1 3),oN 13 (lT 3 12),oN 14 (cl 40 [11,13]),oN 15 (nt 14)] (cd 15 (sr [oN 4 mF] .ret) .skip)) (.seq (sr [oN 16 (fd 4 2),oN 17 (lT 3 16),oN 18 (fd 4 3),oN 19 (lT 3 18),oN 20 (cl 40 [17,19]),oN 21 (nt 20)] (cd 21 (sr [oN 4 mF] .ret) .skip)) (.seq (sr [oN 22 (fd 7 2),oN 23 (lT 3 22),oN 24 (fd 7 3),oN 25 (lT 3 24),oN 26 (cl 40 [23,25]),oN 27 (nt 26)] (cd 27 (sr [oN 4 mF] .ret) .skip)) (sr [oN 4 mT] .ret))))))⟩
structure AZ (T : Tb) : Prop where
 hT : T 65 = some uI
 fA : qN T
def qP : Fn:=⟨2,27,[.tmp 4],(sr [oN 4 mF] (.seq (sr [oW 6 0,oN 7 (ln 6),oW 8 1,oN 9 (ln 8),oN 10 (bt .neq 7 9)] (cd 10 (sr [oN 4 mF] .ret) .skip)) (.seq (sr [oN 5 (.bZ (cI 0))] (.block 0 (.loop (.seq (sr [oW 11 5,oW 12 0,oN 13 (ln 12),oN 14 (bt .lss 11 13)] (cd 14 .skip (.exit 0))) (.seq (.block 1 (.seq (rt 0 [oW 17 0,oW 18 5,oA 19 0 (ix 10 17 18) [0,1],oA 20 0 (lT 10 19) [2],oW 21 1,oW 22 5,oA 23 0 (ix 10 21 22) [4,5],oA 24 0 (lT 10 23) [6],oA 25 0 (cl 65 [20,24]) [3,7],oA 26 0 (nt 25) [8]]) (cd 26 (sr [oN 4 mF] .ret) .skip))) (rg [oW 15 5,oN 16 (bc .add 15 1),oW 5 16])))))) (sr [oN 4 mT] .ret))))⟩
structure yG (T : Tb) : Prop where
 hT : T 50 = some qP
 Ou : AZ T
def kX : Fn:=⟨2,22,[.tmp 4],(.seq (rf 2 [oN 2 (.box (.t 0)),oK 3 1 (.box (.t 1)),oK 4 2 mF]) (.seq (sr [oN 5 (fd 0 2),oN 6 (lF 1 5),oN 7 (fd 0 3),oN 8 (lF 1 7),oN 9 (bt .neq 6 8)] (cd 9 (sr [oN 4 mF] .ret) .skip)) (.seq (sr [oN 10 (fd 1 2),oN 11 (lT 3 10),oN 12 (fd 1 3),oN 13 (lT 3 12),oN 14 (cl 40 [11,13]),oN 15 (nt 14)] (cd 15 (sr [oN 4 mF] .ret) .skip)) (.seq (sr [oN 16 (fd 4 2),oN 17 (lF 1 16),oN 18 (fd 4 3),oN 19 (lF 1 18),oN 20 (cl 50 [17,19]),oN 21 (nt 20)] (cd 21 (sr [oN 4 mF] .ret) .skip)) (sr [oN 4 mT] .ret)))))⟩
structure qw (T : Tb) : Prop where
 hT : T 28 = some kX
 fA : qN T
 Nk : yG T
theorem Zo {T : Tb} (h : AZ T) {x y : Pa} (hx : x.wf:=by exact dD) (hy : y.wf:=by exact dD) : PF T 65 [paV x,paV y] (.bool (decide (x = y))):=by
 obtain ⟨w0,w1,w2⟩:=hx
 obtain ⟨v0,v1,v2⟩:=hy
 refine aT nR h.hT ?_
 simp only [uI,Lz]
 refine ev ?_
 refine aG (fun hb0=>?_) fun hb0=>?_ <;> (refine ev1 @hb0 ?_;try with_reducible exact True.intro)
 rotate_left
 ·cases x;cases y;simp_all
 refine ah (zW h.fA (y:=x.share) (z:=y.share) w0 v0) ?_
 refine ev ?_
 refine aG (fun hb1=>?_) fun hb1=>?_ <;> (refine ev1 @hb1 ?_;try with_reducible exact True.intro)
 rotate_left
 ·cases x;cases y;simp_all
 refine ah (zW h.fA (y:=x.dx) (z:=y.dx) w1 v1) ?_
 refine ev ?_
 refine aG (fun hb2=>?_) fun hb2=>?_ <;> (refine ev1 @hb2 ?_;try with_reducible exact True.intro)
 rotate_left
 ·cases x;cases y;simp_all
 refine ah (zW h.fA (y:=x.dy) (z:=y.dy) w2 v2) ?_
 refine ev ?_
 refine aG (fun hb3=>?_) fun hb3=>?_ <;> (refine ev1 @hb3 ?_;try with_reducible exact True.intro)
 rotate_left
 ·cases x;cases y;simp_all
 ·cases x;cases y;simp_all
theorem XD {T : Tb} (h : yG T) {a b : List Pa} (ha : Hl Pa.wf a:=by exact dD) (hb : Hl Pa.wf b:=by exact dD) : PF T 50 [dZ a,dZ b] (.bool (decide (a = b))):=by
 have l1:=ha.1
 have l2:=hb.1
 refine aT nR h.hT ?_
 simp only [qP,Lz]
 refine ev ?_
 refine aG (fun h1=>?_) fun h1=>?_ <;> (refine ev1 @h1 ?_;try with_reducible exact True.intro)
 ·have h1 : a.length = b.length:=by omega
  refine aQ (fun _ _=>false) (α:=Nat) (fun i=>⟨bM [dZ a,dZ b,.any,.any,.any,iv (i : Nat)],[],0,0,[],[]⟩) (fun i=>i ≤ a.length ∧ ∀ j,j < i → a.getD j default = b.getD j default) (fun i=>a.length - i) rfl 0 ?_ ?_ ?_
  ·exact ⟨by omega,by intro j hj;omega⟩
  ·(refine aI ?_;exact yB)
  ·rintro i ⟨hi,hj⟩
   refine ev ?_
   refine aG (fun h2=>?_) fun h2=>?_ <;> (refine iW @h2 @mg ?_;try with_reducible exact True.intro)
   ·refine ah (Zo h.Ou (x:=a.getD i default) (y:=b.getD i default) (ha.at_ (by omega)) (hb.at_ (by omega))) ?_
    refine ev ?_
    refine aG (fun h3=>?_) fun h3=>?_ <;> (refine ev1 @h3 ?_;try with_reducible exact True.intro)
    ·refine ⟨i + 1,by omega,⟨by omega,fun j hj'=>?_⟩,by (refine aI ?_;exact yB)⟩
     by_cases e : j = i
     ·subst e;exact h3
     ·exact hj j (by omega)
    ·have : ¬ a = b:=fun e=>h3 (by rw [e])
     simp [this]
   ·have : a = b:=EJ h1 fun j h=>hj j (by omega)
    simp [this]
 ·have : ¬ a = b:=fun e=>h1 (by rw [e])
  simp [this]
theorem Ba {T : Tb} (h : qw T) {x y : Cd} (hx : x.wf:=by exact dD) (hy : y.wf:=by exact dD) : PF T 28 [Hg x,Hg y] (.bool (decide (x = y))):=by
 obtain ⟨w0,w1⟩:=hx
 obtain ⟨v0,v1⟩:=hy
 refine aT nR h.hT ?_
 simp only [kX,Lz]
 refine ev ?_
 refine aG (fun hb0=>?_) fun hb0=>?_ <;> (refine ev1 @hb0 ?_;try with_reducible exact True.intro)
 rotate_left
 ·cases x;cases y;simp_all
 refine ah (zW h.fA (y:=x.total) (z:=y.total) w0 v0) ?_
 refine ev ?_
 refine aG (fun hb1=>?_) fun hb1=>?_ <;> (refine ev1 @hb1 ?_;try with_reducible exact True.intro)
 rotate_left
 ·cases x;cases y;simp_all
 refine ah (XD h.Nk (a:=x.ps) (b:=y.ps) w1 v1) ?_
 refine ev ?_
 refine aG (fun hb2=>?_) fun hb2=>?_ <;> (refine ev1 @hb2 ?_;try with_reducible exact True.intro)
 rotate_left
 ·cases x;cases y;simp_all
 ·cases x;cases y;simp_all
def mD : Fn:=⟨2,111,[.tmp 4],(sr [oN 4 (.bZ (cI 0))] (.seq (sr [oN 5 (.bZ (cI 0))] (.block 0 (.loop (.seq (sr [oW 6 5,oW 7 0,oN 8 (ln 7),oN 9 (bt .lss 6 8)] (cd 9 .skip (.exit 0))) (.seq (.block 1 (sr [oW 12 0,oW 13 5,oW 14 1,oN 15 (ix 11 12 13),oN 16 (fd 0 15),oS (.store 1 (.t 16) (.t 14))] (sr [oW 17 1,oN 18 (bc .add 17 1),oW 1 18] (sr [oW 19 0,oW 20 5,oW 21 1,oN 22 (ix 11 19 20),oN 23 (fd 1 22),oS (.store 1 (.t 23) (.t 21))] (sr [oW 24 1,oN 25 (bc .add 24 1),oW 1 25] (sr [oW 26 0,oW 27 5,oW 28 1,oN 29 (bc .rem 28 3),oN 30 (bc .eql 29 0),oN 31 (ix 11 26 27),oN 32 (fd 2 31),oN 33 (fd 0 32),oN 34 (fd 0 33),oS (.store 1 (.t 34) (.t 30))] (sr [oW 35 1,oN 36 (bc .add 35 1),oW 1 36] (sr [oW 37 0,oW 38 5,oN 39 (ix 11 37 38),oN 40 (fd 2 39),oN 41 (fd 0 40),oN 42 (fd 1 41),oN 43 (lF 1 42),oW 44 1,oN 45 (cl 57 [43,44]),oW 1 45] (sr [oW 46 0,oW 47 5,oN 48 (ix 11 46 47),oN 49 (fd 2 48),oN 50 (fd 2 49),oN 51 (lF 1 50),oW 52 1,oN 53 (cl 57 [51,52]),oW 1 53] (sr [oW 54 0,oW 55 5,oW 56 1,oN 57 (bc .rem 56 3),oN 58 (bc .eql 57 0),oN 59 (ix 11 54 55),oN 60 (fd 5 59),oN 61 (fd 0 60),oN 62 (fd 0 61),oS (.store 1 (.t 62) (.t 58))] (sr [oW 63 1,oN 64 (bc .add 63 1),oW 1 64] (sr [oW 65 0,oW 66 5,oN 67 (ix 11 65 66),oN 68 (fd 5 67),oN 69 (fd 0 68),oN 70 (fd 1 69),oN 71 (lF 1 70),oW 72 1,oN 73 (cl 57 [71,72]),oW 1 73] (sr [oW 74 0,oW 75 5,oN 76 (ix 11 74 75),oN 77 (fd 5 76),oN 78 (fd 2 77),oN 79 (lF 1 78),oW 80 1,oN 81 (cl 57 [79,80]),oW 1 81] (sr [oW 82 0,oW 83 5,oW 84 1,oN 85 (bc .rem 84 3),oN 86 (bc .eql 85 0),oN 87 (ix 11 82 83),oN 88 (fd 8 87),oN 89 (fd 0 88),oN 90 (fd 0 89),oS (.store 1 (.t 90) (.t 86))] (sr [oW 91 1,oN 92 (bc .add 91 1),oW 1 92] (sr [oW 93 0,oW 94 5,oN 95 (ix 11 93 94),oN 96 (fd 8 95),oN 97 (fd 0 96),oN 98 (fd 1 97),oN 99 (lF 1 98),oW 100 1,oN 101 (cl 57 [99,100]),oW 1 101] (rg [oW 102 0,oW 103 5,oN 104 (ix 11 102 103),oN 105 (fd 8 104),oN 106 (fd 2 105),oN 107 (lF 1 106),oW 108 1,oN 109 (cl 57 [107,108]),oW 1 109]))))))))))))))))) (rg [oW 10 5,oN 11 (bc .add 10 1),oW 5 11])))))) (sr [oW 110 1,oW 4 110] .ret)))⟩
structure yH (T : Tb) : Prop where
 hT : T 118 = some mD
 bg : kP T
def kC : Fn:=⟨2,104,[.tmp 4],(sr [oN 4 (.bZ (cI 0))] (.seq (sr [oN 5 (.bZ (cI 0))] (.block 0 (.loop (.seq (sr [oW 6 5,oW 7 0,oN 8 (ln 7),oN 9 (bt .lss 6 8)] (cd 9 .skip (.exit 0))) (.seq (.block 1 (sr [oW 12 0,oW 13 5,oW 14 1,oN 15 (ix 10 12 13),oN 16 (fd 0 15),oS (.store 1 (.t 16) (.t 14))] (sr [oW 17 1,oN 18 (bc .add 17 1),oW 1 18] (sr [oW 19 0,oW 20 5,oW 21 1,oN 22 (bc .rem 21 3),oN 23 (bc .eql 22 0),oN 24 (ix 10 19 20),oN 25 (fd 1 24),oN 26 (fd 0 25),oN 27 (fd 0 26),oS (.store 1 (.t 27) (.t 23))] (sr [oW 28 1,oN 29 (bc .add 28 1),oW 1 29] (sr [oW 30 0,oW 31 5,oN 32 (ix 10 30 31),oN 33 (fd 1 32),oN 34 (fd 0 33),oN 35 (fd 1 34),oN 36 (lF 1 35),oW 37 1,oN 38 (cl 57 [36,37]),oW 1 38] (sr [oW 39 0,oW 40 5,oN 41 (ix 10 39 40),oN 42 (fd 1 41),oN 43 (fd 2 42),oN 44 (lF 1 43),oW 45 1,oN 46 (cl 57 [44,45]),oW 1 46] (sr [oW 47 0,oW 48 5,oW 49 1,oN 50 (bc .rem 49 3),oN 51 (bc .eql 50 0),oN 52 (ix 10 47 48),oN 53 (fd 4 52),oN 54 (fd 0 53),oN 55 (fd 0 54),oS (.store 1 (.t 55) (.t 51))] (sr [oW 56 1,oN 57 (bc .add 56 1),oW 1 57] (sr [oW 58 0,oW 59 5,oN 60 (ix 10 58 59),oN 61 (fd 4 60),oN 62 (fd 0 61),oN 63 (fd 1 62),oN 64 (lF 1 63),oW 65 1,oN 66 (cl 57 [64,65]),oW 1 66] (sr [oW 67 0,oW 68 5,oN 69 (ix 10 67 68),oN 70 (fd 4 69),oN 71 (fd 2 70),oN 72 (lF 1 71),oW 73 1,oN 74 (cl 57 [72,73]),oW 1 74] (sr [oW 75 0,oW 76 5,oW 77 1,oN 78 (bc .rem 77 3),oN 79 (bc .eql 78 0),oN 80 (ix 10 75 76),oN 81 (fd 7 80),oN 82 (fd 0 81),oN 83 (fd 0 82),oS (.store 1 (.t 83) (.t 79))] (sr [oW 84 1,oN 85 (bc .add 84 1),oW 1 85] (sr [oW 86 0,oW 87 5,oN 88 (ix 10 86 87),oN 89 (fd 7 88),oN 90 (fd 0 89),oN 91 (fd 1 90),oN 92 (lF 1 91),oW 93 1,oN 94 (cl 57 [92,93]),oW 1 94] (rg [oW 95 0,oW 96 5,oN 97 (ix 10 95 96),oN 98 (fd 7 97),oN 99 (fd 2 98),oN 100 (lF 1 99),oW 101 1,oN 102 (cl 57 [100,101]),oW 1 102]))))))))))))))) (rg [oW 10 5,oN 11 (bc .add 10 1),oW 5 11])))))) (sr [oW 103 1,oW 4 103] .ret)))⟩
structure uT (T : Tb) : Prop where
 hT : T 119 = some kC
 bg : kP T
def R.ct (x : R) : Nat:=1 + x.mag.length + x.den.length
def R.mk3 (k : Int) (x : R) : R:=⟨decide ((k).tmod 3 = 0),cnt x.mag.length (k + 1),cnt x.den.length (k + 1 + x.mag.length)⟩
def Pt.ct (x : Pt) : Nat:=1 + x.x.mag.length + x.x.den.length + 1 + x.y.mag.length + x.y.den.length
def Pt.mk3 (k : Int) (x : Pt) : Pt:=⟨⟨decide ((k).tmod 3 = 0),cnt x.x.mag.length (k + 1),cnt x.x.den.length (k + 1 + x.x.mag.length)⟩,⟨decide ((k + 1 + x.x.mag.length + x.x.den.length).tmod 3 = 0),cnt x.y.mag.length (k + 1 + x.x.mag.length + x.x.den.length + 1),cnt x.y.den.length (k + 1 + x.x.mag.length + x.x.den.length + 1 + x.y.mag.length)⟩⟩
def Lk.ct (x : Lk) : Nat:=1 + 1 + 1 + x.w.mag.length + x.w.den.length + 1 + x.dx.mag.length + x.dx.den.length + 1 + x.dy.mag.length + x.dy.den.length
def Lk.mk3 (k : Int) (x : Lk) : Lk:=⟨k,k + 1,⟨decide ((k + 1 + 1).tmod 3 = 0),cnt x.w.mag.length (k + 1 + 1 + 1),cnt x.w.den.length (k + 1 + 1 + 1 + x.w.mag.length)⟩,⟨decide ((k + 1 + 1 + 1 + x.w.mag.length + x.w.den.length).tmod 3 = 0),cnt x.dx.mag.length (k + 1 + 1 + 1 + x.w.mag.length + x.w.den.length + 1),cnt x.dx.den.length (k + 1 + 1 + 1 + x.w.mag.length + x.w.den.length + 1 + x.dx.mag.length)⟩,⟨decide ((k + 1 + 1 + 1 + x.w.mag.length + x.w.den.length + 1 + x.dx.mag.length + x.dx.den.length).tmod 3 = 0),cnt x.dy.mag.length (k + 1 + 1 + 1 + x.w.mag.length + x.w.den.length + 1 + x.dx.mag.length + x.dx.den.length + 1),cnt x.dy.den.length (k + 1 + 1 + 1 + x.w.mag.length + x.w.den.length + 1 + x.dx.mag.length + x.dx.den.length + 1 + x.dy.mag.length)⟩⟩
theorem Ld {T : Tb} (h : yH T) {l : List Lk} {k : Int} (hl : Aq Lk.sz l ≤ 1000000000:=by exact dD) (hk : 0 ≤ k ∧ k + uS Lk.ct l l.length ≤ 1000000000000:=by exact dD) :
  Mk T 118 (bf l) k (bf (Il Lk.mk3 Lk.ct k l)) (k + uS Lk.ct l l.length):=by
 refine mk_iff fun σ v os ho hn=>?_
 have hll : l.length ≤ 1000000000:=by unfold Aq at hl;omega
 rcases ho.Zf with ⟨e,rfl,rfl⟩ | ⟨o,R0,os',rfl,_,_,hos,_⟩
 ·have el : l = []:=by simpa using e
  subst el
  have : ∃ r σ',Run T (.fn 118 [.sl 11 [],iv k] σ) (.fn r σ') ∧ (r = iv k ∧ σ' = σ):=by
   refine run_end nR h.hT ?_
   simp only [mD,Lz,St.enter,List.length_cons,List.length_nil,Nat.zero_add]
   refine ew ?_
   refine aQ (fun _ _=>false) (α:=Nat) (fun i=>⟨bM [.sl 11 [],iv k,.any,.any,.any,iv 0],σ,σ.length,0,[],[]⟩) (fun i=>i = 0) (fun i=>i) rfl 0 ?_ ?_ ?_
   ·rfl
   ·(refine aI ?_;exact wI)
   ·rintro i rfl
    refine ew ?_
    refine aG (fun hc=>absurd hc (by omega)) fun hc=>?_
    (refine ew ?_;try with_reducible exact True.intro)
  obtain ⟨r,σ',h2,rfl,rfl⟩:=this
  exact ⟨σ',by simpa [uS] using h2,ho,Fr.refl _ _⟩
 ·rw [List.length_map] at ho ⊢
  have : ∃ r σ',Run T (.fn 118 [.bC o 0 l.length,iv k] σ) (.fn r σ') ∧ (r = iv (k + uS Lk.ct l l.length) ∧ bD σ' (.bC o 0 l.length) (bf (JW Lk.mk3 Lk.ct k l l.length)) os ∧ Fr os σ σ'):=by
   refine run_end (fun x d=>x == 57) h.hT ?_
   simp only [mD,Lz,St.enter,List.length_cons,List.length_nil,Nat.zero_add]
   refine ew ?_
   refine aQ (fun x d=>x == 57) (α:=Nat × Store) (fun q=>⟨bM [.bC o 0 l.length,iv (k + uS Lk.ct l q.1),.any,.any,.any,iv (q.1 : Nat)],q.2,σ.length,0,[],[]⟩) (fun q=>q.1 ≤ l.length ∧ bD q.2 (.bC o 0 l.length) (bf (JW Lk.mk3 Lk.ct k l q.1)) os ∧ Fr os σ q.2) (fun q=>l.length - q.1) rfl (0,σ) ?_ ?_ ?_
   ·exact ⟨by omega,by rw [aek];exact ho,Fr.refl _ _⟩
   ·(refine aI ?_) <;> (try (refine CJ @TG ?_;try with_reducible exact True.intro)) <;> (repeat' (first | refine ⟨?_,?_⟩ | exact kE (by omega) | exact mV (by simp) | exact kF _))
   ·rintro ⟨i,s⟩ ⟨hi,h2,h3⟩
    dsimp only at hi h2 h3
    have hls:=h3.len
    obtain ⟨A,hob,hM⟩:=h2.obj
    refine CJ @hob ?_
    refine aG (fun hc=>?_) fun hc=>?_
    ·have hil : i < l.length:=by omega
     obtain ⟨o',M',cs,oc,hv,aeE,hM',hRi,hcs,hoc,hoo,hno,hre⟩:=h2.aar hn (i:=i) (mg? (by rw [KX _ _ _ _ hi];exact hil))
     rw [List.length_map,KX _ _ _ _ hi] at hv
     cases hv
     rw [hob] at aeE
     cases aeE
     rw [aat _ _ _ _ hil] at hcs
     obtain ⟨x,hx⟩ : ∃ x,l.getD i default = x:=⟨_,rfl⟩
     rw [hx] at hcs
     have hcn:=aas Lk.ct l hil
     have hcl:=QC Lk.ct l (i:=i + 1) hil
     have hms:=Xp Lk.mk3 Lk.ct k l hil
     rw [hx] at hcn hms
     rw [hcn] at hcl
     obtain ⟨kk,hkk⟩ : ∃ kk,k + (uS Lk.ct l i : Int) = kk:=⟨_,rfl⟩
     obtain ⟨c0,c1,c2,c3,c4,c5,c6,c7,c8,c9,c10,rfl⟩ : ∃ c0 c1 c2 c3 c4 c5 c6 c7 c8 c9 c10,cs = [c0,c1,c2,c3,c4,c5,c6,c7,c8,c9,c10]:=by
      have:=hcs.ow.len
      match cs,this with
      | [a0,a1,a2,a3,a4,a5,a6,a7,a8,a9,a10],_=>exact ⟨a0,a1,a2,a3,a4,a5,a6,a7,a8,a9,a10,rfl⟩
     have hlo:=aJ hob
     have rs : ∀ r,(A.set i r)[i]? = some r:=fun r=>by rw [List.getElem?_set_self (by omega)]
     have hct : Lk.ct x = 1 + 1 + 1 + x.w.mag.length + x.w.den.length + 1 + x.dx.mag.length + x.dx.den.length + 1 + x.dy.mag.length + x.dy.den.length:=rfl
     have hxs : Lk.sz x ≤ 1000000000:=by
      have:=U3 Lk.sz hil
      rw [hx] at this
      omega
     simp only [Lk.sz,R.sz] at hxs
     have F0 : Fr (o :: oc) s s:=Fr.refl _ _
     have hcs:=hcs.Ym 0 (.int .i64 (kk)) rfl
     have hcs:=hcs.Ym 1 (.int .i64 (kk + 1)) rfl
     have hcs:=hcs.Ym 2 (.bool (decide ((kk + 1 + 1).tmod 3 = 0))) rfl
     refine ew7 @hkk @hc @hob @hRi @hlo @rs @List.set_set.{0} ?_
     have hcs:=hcs.set (x:=some ⟨11,A.set i [.int .i64 (kk),.int .i64 (kk + 1),.bool (decide ((kk + 1 + 1).tmod 3 = 0)),c3,c4,c5,c6,c7,c8,c9,c10]⟩) hno
     have G0:=F0.trans (JV (σ:=s) (o:=o) (x:=some ⟨11,A.set i [.int .i64 (kk),.int .i64 (kk + 1),.bool (decide ((kk + 1 + 1).tmod 3 = 0)),c3,c4,c5,c6,c7,c8,c9,c10]⟩) (by simp))
     obtain ⟨s1,hr,hcs,hf1⟩:=hcs.call 3 (fE h.bg (l:=x.w.mag) (k:=kk + 1 + 1 + 1) (by omega) (by omega)) rfl rfl
     refine gQ hr rfl hf1.len (by simp) ?_
     have hb1:=(hf1.old o (by simpa using hlo) hno).trans (aX hlo)
     have hl1:=aJ hb1
     have F1:=G0.trans (hf1.mono (by simp +contextual))
     refine yF @hb1 @rs @hl1 @List.set_set.{0} ?_
     have G1:=F1
     obtain ⟨s2,hr,hcs,hf2⟩:=hcs.call 4 (fE h.bg (l:=x.w.den) (k:=kk + 1 + 1 + 1 + x.w.mag.length) (by omega) (by omega)) rfl rfl
     refine gQ hr rfl hf2.len (by simp) ?_
     have hb2:=(hf2.old o hl1 hno).trans hb1
     have hl2:=aJ hb2
     have F2:=G1.trans (hf2.mono (by simp +contextual))
     have hcs:=hcs.Ym 5 (.bool (decide ((kk + 1 + 1 + 1 + x.w.mag.length + x.w.den.length).tmod 3 = 0))) rfl
     refine yF @hb2 @rs @hl2 @List.set_set.{0} ?_
     have hcs:=hcs.set (x:=some ⟨11,A.set i [.int .i64 (kk),.int .i64 (kk + 1),.bool (decide ((kk + 1 + 1).tmod 3 = 0)),c3,c4,.bool (decide ((kk + 1 + 1 + 1 + x.w.mag.length + x.w.den.length).tmod 3 = 0)),c6,c7,c8,c9,c10]⟩) hno
     have G2:=F2.trans (JV (σ:=s2) (o:=o) (x:=some ⟨11,A.set i [.int .i64 (kk),.int .i64 (kk + 1),.bool (decide ((kk + 1 + 1).tmod 3 = 0)),c3,c4,.bool (decide ((kk + 1 + 1 + 1 + x.w.mag.length + x.w.den.length).tmod 3 = 0)),c6,c7,c8,c9,c10]⟩) (by simp))
     obtain ⟨s3,hr,hcs,hf3⟩:=hcs.call 6 (fE h.bg (l:=x.dx.mag) (k:=kk + 1 + 1 + 1 + x.w.mag.length + x.w.den.length + 1) (by omega) (by omega)) rfl rfl
     refine gQ hr rfl hf3.len (by simp) ?_
     have hb3:=(hf3.old o (by simpa using hl2) hno).trans (aX hl2)
     have hl3:=aJ hb3
     have F3:=G2.trans (hf3.mono (by simp +contextual))
     refine yF @hb3 @rs @hl3 @List.set_set.{0} ?_
     have G3:=F3
     obtain ⟨s4,hr,hcs,hf4⟩:=hcs.call 7 (fE h.bg (l:=x.dx.den) (k:=kk + 1 + 1 + 1 + x.w.mag.length + x.w.den.length + 1 + x.dx.mag.length) (by omega) (by omega)) rfl rfl
     refine gQ hr rfl hf4.len (by simp) ?_
     have hb4:=(hf4.old o hl3 hno).trans hb3
     have hl4:=aJ hb4
     have F4:=G3.trans (hf4.mono (by simp +contextual))
     have hcs:=hcs.Ym 8 (.bool (decide ((kk + 1 + 1 + 1 + x.w.mag.length + x.w.den.length + 1 + x.dx.mag.length + x.dx.den.length).tmod 3 = 0))) rfl
     refine yF @hb4 @rs @hl4 @List.set_set.{0} ?_
     have hcs:=hcs.set (x:=some ⟨11,A.set i [.int .i64 (kk),.int .i64 (kk + 1),.bool (decide ((kk + 1 + 1).tmod 3 = 0)),c3,c4,.bool (decide ((kk + 1 + 1 + 1 + x.w.mag.length + x.w.den.length).tmod 3 = 0)),c6,c7,.bool (decide ((kk + 1 + 1 + 1 + x.w.mag.length + x.w.den.length + 1 + x.dx.mag.length + x.dx.den.length).tmod 3 = 0)),c9,c10]⟩) hno
     have G4:=F4.trans (JV (σ:=s4) (o:=o) (x:=some ⟨11,A.set i [.int .i64 (kk),.int .i64 (kk + 1),.bool (decide ((kk + 1 + 1).tmod 3 = 0)),c3,c4,.bool (decide ((kk + 1 + 1 + 1 + x.w.mag.length + x.w.den.length).tmod 3 = 0)),c6,c7,.bool (decide ((kk + 1 + 1 + 1 + x.w.mag.length + x.w.den.length + 1 + x.dx.mag.length + x.dx.den.length).tmod 3 = 0)),c9,c10]⟩) (by simp))
     obtain ⟨s5,hr,hcs,hf5⟩:=hcs.call 9 (fE h.bg (l:=x.dy.mag) (k:=kk + 1 + 1 + 1 + x.w.mag.length + x.w.den.length + 1 + x.dx.mag.length + x.dx.den.length + 1) (by omega) (by omega)) rfl rfl
     refine gQ hr rfl hf5.len (by simp) ?_
     have hb5:=(hf5.old o (by simpa using hl4) hno).trans (aX hl4)
     have hl5:=aJ hb5
     have F5:=G4.trans (hf5.mono (by simp +contextual))
     refine yF @hb5 @rs @hl5 @List.set_set.{0} ?_
     have G5:=F5
     obtain ⟨s6,hr,hcs,hf6⟩:=hcs.call 10 (fE h.bg (l:=x.dy.den) (k:=kk + 1 + 1 + 1 + x.w.mag.length + x.w.den.length + 1 + x.dx.mag.length + x.dx.den.length + 1 + x.dy.mag.length) (by omega) (by omega)) rfl rfl
     refine gQ hr rfl hf6.len (by simp) ?_
     have hb6:=(hf6.old o hl5 hno).trans hb5
     have hl6:=aJ hb6
     have F6:=G5.trans (hf6.mono (by simp +contextual))
     refine yF @hb6 @rs @hl6 @List.set_set.{0} ?_
     refine ⟨(i + 1,s6),by dsimp only;omega,⟨by dsimp only;omega,?_,?_⟩,by (refine aI ?_;exact wI)⟩
     ·dsimp only
      rw [← hms,hkk]
      show bD _ _ (.sl 11 (List.map Lk.cells _)) _
      rw [List.map_set]
      exact hre _ _ _ hcs hb6 F6
     ·exact h3.trans (F6.mono (by simpa using ⟨hoo,hoc⟩))
    ·have : i = l.length:=by omega
     subst this
     refine CJ @hc ?_
     exact ⟨h2,h3⟩
  obtain ⟨r,σ',h2,rfl,h3,h4⟩:=this
  rw [Xo] at h3
  exact ⟨σ',h2,h3,h4⟩
def Pa.ct (x : Pa) : Nat:=1 + 1 + x.share.mag.length + x.share.den.length + 1 + x.dx.mag.length + x.dx.den.length + 1 + x.dy.mag.length + x.dy.den.length
def Pa.mk3 (k : Int) (x : Pa) : Pa:=⟨k,⟨decide ((k + 1).tmod 3 = 0),cnt x.share.mag.length (k + 1 + 1),cnt x.share.den.length (k + 1 + 1 + x.share.mag.length)⟩,⟨decide ((k + 1 + 1 + x.share.mag.length + x.share.den.length).tmod 3 = 0),cnt x.dx.mag.length (k + 1 + 1 + x.share.mag.length + x.share.den.length + 1),cnt x.dx.den.length (k + 1 + 1 + x.share.mag.length + x.share.den.length + 1 + x.dx.mag.length)⟩,⟨decide ((k + 1 + 1 + x.share.mag.length + x.share.den.length + 1 + x.dx.mag.length + x.dx.den.length).tmod 3 = 0),cnt x.dy.mag.length (k + 1 + 1 + x.share.mag.length + x.share.den.length + 1 + x.dx.mag.length + x.dx.den.length + 1),cnt x.dy.den.length (k + 1 + 1 + x.share.mag.length + x.share.den.length + 1 + x.dx.mag.length + x.dx.den.length + 1 + x.dy.mag.length)⟩⟩
theorem QI {T : Tb} (h : uT T) {l : List Pa} {k : Int} (hl : Aq Pa.sz l ≤ 1000000000:=by exact dD) (hk : 0 ≤ k ∧ k + uS Pa.ct l l.length ≤ 1000000000000:=by exact dD) :
  Mk T 119 (dZ l) k (dZ (Il Pa.mk3 Pa.ct k l)) (k + uS Pa.ct l l.length):=by
 refine mk_iff fun σ v os ho hn=>?_
 have hll : l.length ≤ 1000000000:=by unfold Aq at hl;omega
 rcases ho.Zf with ⟨e,rfl,rfl⟩ | ⟨o,R0,os',rfl,_,_,hos,_⟩
 ·have el : l = []:=by simpa using e
  subst el
  have : ∃ r σ',Run T (.fn 119 [.sl 10 [],iv k] σ) (.fn r σ') ∧ (r = iv k ∧ σ' = σ):=by
   refine run_end nR h.hT ?_
   simp only [kC,Lz,St.enter,List.length_cons,List.length_nil,Nat.zero_add]
   refine ew ?_
   refine aQ (fun _ _=>false) (α:=Nat) (fun i=>⟨bM [.sl 10 [],iv k,.any,.any,.any,iv 0],σ,σ.length,0,[],[]⟩) (fun i=>i = 0) (fun i=>i) rfl 0 ?_ ?_ ?_
   ·rfl
   ·(refine aI ?_;exact wI)
   ·rintro i rfl
    refine ew ?_
    refine aG (fun hc=>absurd hc (by omega)) fun hc=>?_
    (refine ew ?_;try with_reducible exact True.intro)
  obtain ⟨r,σ',h2,rfl,rfl⟩:=this
  exact ⟨σ',by simpa [uS] using h2,ho,Fr.refl _ _⟩
 ·rw [List.length_map] at ho ⊢
  have : ∃ r σ',Run T (.fn 119 [.bC o 0 l.length,iv k] σ) (.fn r σ') ∧ (r = iv (k + uS Pa.ct l l.length) ∧ bD σ' (.bC o 0 l.length) (dZ (JW Pa.mk3 Pa.ct k l l.length)) os ∧ Fr os σ σ'):=by
   refine run_end (fun x d=>x == 57) h.hT ?_
   simp only [kC,Lz,St.enter,List.length_cons,List.length_nil,Nat.zero_add]
   refine ew ?_
   refine aQ (fun x d=>x == 57) (α:=Nat × Store) (fun q=>⟨bM [.bC o 0 l.length,iv (k + uS Pa.ct l q.1),.any,.any,.any,iv (q.1 : Nat)],q.2,σ.length,0,[],[]⟩) (fun q=>q.1 ≤ l.length ∧ bD q.2 (.bC o 0 l.length) (dZ (JW Pa.mk3 Pa.ct k l q.1)) os ∧ Fr os σ q.2) (fun q=>l.length - q.1) rfl (0,σ) ?_ ?_ ?_
   ·exact ⟨by omega,by rw [aek];exact ho,Fr.refl _ _⟩
   ·(refine aI ?_) <;> (try (refine CJ @TG ?_;try with_reducible exact True.intro)) <;> (repeat' (first | refine ⟨?_,?_⟩ | exact kE (by omega) | exact mV (by simp) | exact kF _))
   ·rintro ⟨i,s⟩ ⟨hi,h2,h3⟩
    dsimp only at hi h2 h3
    have hls:=h3.len
    obtain ⟨A,hob,hM⟩:=h2.obj
    refine CJ @hob ?_
    refine aG (fun hc=>?_) fun hc=>?_
    ·have hil : i < l.length:=by omega
     obtain ⟨o',M',cs,oc,hv,aeE,hM',hRi,hcs,hoc,hoo,hno,hre⟩:=h2.aar hn (i:=i) (mg? (by rw [KX _ _ _ _ hi];exact hil))
     rw [List.length_map,KX _ _ _ _ hi] at hv
     cases hv
     rw [hob] at aeE
     cases aeE
     rw [aat _ _ _ _ hil] at hcs
     obtain ⟨x,hx⟩ : ∃ x,l.getD i default = x:=⟨_,rfl⟩
     rw [hx] at hcs
     have hcn:=aas Pa.ct l hil
     have hcl:=QC Pa.ct l (i:=i + 1) hil
     have hms:=Xp Pa.mk3 Pa.ct k l hil
     rw [hx] at hcn hms
     rw [hcn] at hcl
     obtain ⟨kk,hkk⟩ : ∃ kk,k + (uS Pa.ct l i : Int) = kk:=⟨_,rfl⟩
     obtain ⟨c0,c1,c2,c3,c4,c5,c6,c7,c8,c9,rfl⟩ : ∃ c0 c1 c2 c3 c4 c5 c6 c7 c8 c9,cs = [c0,c1,c2,c3,c4,c5,c6,c7,c8,c9]:=by
      have:=hcs.ow.len
      match cs,this with
      | [a0,a1,a2,a3,a4,a5,a6,a7,a8,a9],_=>exact ⟨a0,a1,a2,a3,a4,a5,a6,a7,a8,a9,rfl⟩
     have hlo:=aJ hob
     have rs : ∀ r,(A.set i r)[i]? = some r:=fun r=>by rw [List.getElem?_set_self (by omega)]
     have hct : Pa.ct x = 1 + 1 + x.share.mag.length + x.share.den.length + 1 + x.dx.mag.length + x.dx.den.length + 1 + x.dy.mag.length + x.dy.den.length:=rfl
     have hxs : Pa.sz x ≤ 1000000000:=by
      have:=U3 Pa.sz hil
      rw [hx] at this
      omega
     simp only [Pa.sz,R.sz] at hxs
     have F0 : Fr (o :: oc) s s:=Fr.refl _ _
     have hcs:=hcs.Ym 0 (.int .i64 (kk)) rfl
     have hcs:=hcs.Ym 1 (.bool (decide ((kk + 1).tmod 3 = 0))) rfl
     refine ew7 @hkk @hc @hob @hRi @hlo @rs @List.set_set.{0} ?_
     have hcs:=hcs.set (x:=some ⟨10,A.set i [.int .i64 (kk),.bool (decide ((kk + 1).tmod 3 = 0)),c2,c3,c4,c5,c6,c7,c8,c9]⟩) hno
     have G0:=F0.trans (JV (σ:=s) (o:=o) (x:=some ⟨10,A.set i [.int .i64 (kk),.bool (decide ((kk + 1).tmod 3 = 0)),c2,c3,c4,c5,c6,c7,c8,c9]⟩) (by simp))
     obtain ⟨s1,hr,hcs,hf1⟩:=hcs.call 2 (fE h.bg (l:=x.share.mag) (k:=kk + 1 + 1) (by omega) (by omega)) rfl rfl
     refine gQ hr rfl hf1.len (by simp) ?_
     have hb1:=(hf1.old o (by simpa using hlo) hno).trans (aX hlo)
     have hl1:=aJ hb1
     have F1:=G0.trans (hf1.mono (by simp +contextual))
     refine yF @hb1 @rs @hl1 @List.set_set.{0} ?_
     have G1:=F1
     obtain ⟨s2,hr,hcs,hf2⟩:=hcs.call 3 (fE h.bg (l:=x.share.den) (k:=kk + 1 + 1 + x.share.mag.length) (by omega) (by omega)) rfl rfl
     refine gQ hr rfl hf2.len (by simp) ?_
     have hb2:=(hf2.old o hl1 hno).trans hb1
     have hl2:=aJ hb2
     have F2:=G1.trans (hf2.mono (by simp +contextual))
     have hcs:=hcs.Ym 4 (.bool (decide ((kk + 1 + 1 + x.share.mag.length + x.share.den.length).tmod 3 = 0))) rfl
     refine yF @hb2 @rs @hl2 @List.set_set.{0} ?_
     have hcs:=hcs.set (x:=some ⟨10,A.set i [.int .i64 (kk),.bool (decide ((kk + 1).tmod 3 = 0)),c2,c3,.bool (decide ((kk + 1 + 1 + x.share.mag.length + x.share.den.length).tmod 3 = 0)),c5,c6,c7,c8,c9]⟩) hno
     have G2:=F2.trans (JV (σ:=s2) (o:=o) (x:=some ⟨10,A.set i [.int .i64 (kk),.bool (decide ((kk + 1).tmod 3 = 0)),c2,c3,.bool (decide ((kk + 1 + 1 + x.share.mag.length + x.share.den.length).tmod 3 = 0)),c5,c6,c7,c8,c9]⟩) (by simp))
     obtain ⟨s3,hr,hcs,hf3⟩:=hcs.call 5 (fE h.bg (l:=x.dx.mag) (k:=kk + 1 + 1 + x.share.mag.length + x.share.den.length + 1) (by omega) (by omega)) rfl rfl
     refine gQ hr rfl hf3.len (by simp) ?_
     have hb3:=(hf3.old o (by simpa using hl2) hno).trans (aX hl2)
     have hl3:=aJ hb3
     have F3:=G2.trans (hf3.mono (by simp +contextual))
     refine yF @hb3 @rs @hl3 @List.set_set.{0} ?_
     have G3:=F3
     obtain ⟨s4,hr,hcs,hf4⟩:=hcs.call 6 (fE h.bg (l:=x.dx.den) (k:=kk + 1 + 1 + x.share.mag.length + x.share.den.length + 1 + x.dx.mag.length) (by omega) (by omega)) rfl rfl
     refine gQ hr rfl hf4.len (by simp) ?_
     have hb4:=(hf4.old o hl3 hno).trans hb3
     have hl4:=aJ hb4
     have F4:=G3.trans (hf4.mono (by simp +contextual))
     have hcs:=hcs.Ym 7 (.bool (decide ((kk + 1 + 1 + x.share.mag.length + x.share.den.length + 1 + x.dx.mag.length + x.dx.den.length).tmod 3 = 0))) rfl
     refine yF @hb4 @rs @hl4 @List.set_set.{0} ?_
     have hcs:=hcs.set (x:=some ⟨10,A.set i [.int .i64 (kk),.bool (decide ((kk + 1).tmod 3 = 0)),c2,c3,.bool (decide ((kk + 1 + 1 + x.share.mag.length + x.share.den.length).tmod 3 = 0)),c5,c6,.bool (decide ((kk + 1 + 1 + x.share.mag.length + x.share.den.length + 1 + x.dx.mag.length + x.dx.den.length).tmod 3 = 0)),c8,c9]⟩) hno
     have G4:=F4.trans (JV (σ:=s4) (o:=o) (x:=some ⟨10,A.set i [.int .i64 (kk),.bool (decide ((kk + 1).tmod 3 = 0)),c2,c3,.bool (decide ((kk + 1 + 1 + x.share.mag.length + x.share.den.length).tmod 3 = 0)),c5,c6,.bool (decide ((kk + 1 + 1 + x.share.mag.length + x.share.den.length + 1 + x.dx.mag.length + x.dx.den.length).tmod 3 = 0)),c8,c9]⟩) (by simp))
     obtain ⟨s5,hr,hcs,hf5⟩:=hcs.call 8 (fE h.bg (l:=x.dy.mag) (k:=kk + 1 + 1 + x.share.mag.length + x.share.den.length + 1 + x.dx.mag.length + x.dx.den.length + 1) (by omega) (by omega)) rfl rfl
     refine gQ hr rfl hf5.len (by simp) ?_
     have hb5:=(hf5.old o (by simpa using hl4) hno).trans (aX hl4)
     have hl5:=aJ hb5
     have F5:=G4.trans (hf5.mono (by simp +contextual))
     refine yF @hb5 @rs @hl5 @List.set_set.{0} ?_
     have G5:=F5
     obtain ⟨s6,hr,hcs,hf6⟩:=hcs.call 9 (fE h.bg (l:=x.dy.den) (k:=kk + 1 + 1 + x.share.mag.length + x.share.den.length + 1 + x.dx.mag.length + x.dx.den.length + 1 + x.dy.mag.length) (by omega) (by omega)) rfl rfl
     refine gQ hr rfl hf6.len (by simp) ?_
     have hb6:=(hf6.old o hl5 hno).trans hb5
     have hl6:=aJ hb6
     have F6:=G5.trans (hf6.mono (by simp +contextual))
     refine yF @hb6 @rs @hl6 @List.set_set.{0} ?_
     refine ⟨(i + 1,s6),by dsimp only;omega,⟨by dsimp only;omega,?_,?_⟩,by (refine aI ?_;exact wI)⟩
     ·dsimp only
      rw [← hms,hkk]
      show bD _ _ (.sl 10 (List.map Pa.cells _)) _
      rw [List.map_set]
      exact hre _ _ _ hcs hb6 F6
     ·exact h3.trans (F6.mono (by simpa using ⟨hoo,hoc⟩))
    ·have : i = l.length:=by omega
     subst this
     refine CJ @hc ?_
     exact ⟨h2,h3⟩
  obtain ⟨r,σ',h2,rfl,h3,h4⟩:=this
  rw [Xo] at h3
  exact ⟨σ',h2,h3,h4⟩
def Cd.ct (x : Cd) : Nat:=1 + 1 + x.total.mag.length + x.total.den.length + uS Pa.ct x.ps x.ps.length
def Cd.mk3 (k : Int) (x : Cd) : Cd:=⟨k,⟨decide ((k + 1).tmod 3 = 0),cnt x.total.mag.length (k + 1 + 1),cnt x.total.den.length (k + 1 + 1 + x.total.mag.length)⟩,Il Pa.mk3 Pa.ct (k + 1 + 1 + x.total.mag.length + x.total.den.length) x.ps⟩
def Tn.ct (x : Tn) : Nat:=1 + 1 + uS Lk.ct x.own x.own.length + 1 + 1 + x.cond.total.mag.length + x.cond.total.den.length + uS Pa.ct x.cond.ps x.cond.ps.length + uS Lk.ct x.msgs x.msgs.length + 1 + x.Ap.mag.length + x.Ap.den.length
def Tn.mk3 (k : Int) (x : Tn) : Tn:=⟨k,k + 1,Il Lk.mk3 Lk.ct (k + 1 + 1) x.own,⟨k + 1 + 1 + uS Lk.ct x.own x.own.length,⟨decide ((k + 1 + 1 + uS Lk.ct x.own x.own.length + 1).tmod 3 = 0),cnt x.cond.total.mag.length (k + 1 + 1 + uS Lk.ct x.own x.own.length + 1 + 1),cnt x.cond.total.den.length (k + 1 + 1 + uS Lk.ct x.own x.own.length + 1 + 1 + x.cond.total.mag.length)⟩,Il Pa.mk3 Pa.ct (k + 1 + 1 + uS Lk.ct x.own x.own.length + 1 + 1 + x.cond.total.mag.length + x.cond.total.den.length) x.cond.ps⟩,Il Lk.mk3 Lk.ct (k + 1 + 1 + uS Lk.ct x.own x.own.length + 1 + 1 + x.cond.total.mag.length + x.cond.total.den.length + uS Pa.ct x.cond.ps x.cond.ps.length) x.msgs,⟨decide ((k + 1 + 1 + uS Lk.ct x.own x.own.length + 1 + 1 + x.cond.total.mag.length + x.cond.total.den.length + uS Pa.ct x.cond.ps x.cond.ps.length + uS Lk.ct x.msgs x.msgs.length).tmod 3 = 0),cnt x.Ap.mag.length (k + 1 + 1 + uS Lk.ct x.own x.own.length + 1 + 1 + x.cond.total.mag.length + x.cond.total.den.length + uS Pa.ct x.cond.ps x.cond.ps.length + uS Lk.ct x.msgs x.msgs.length + 1),cnt x.Ap.den.length (k + 1 + 1 + uS Lk.ct x.own x.own.length + 1 + 1 + x.cond.total.mag.length + x.cond.total.den.length + uS Pa.ct x.cond.ps x.cond.ps.length + uS Lk.ct x.msgs x.msgs.length + 1 + x.Ap.mag.length)⟩⟩
def pq : Fn:=⟨2,10,[.tmp 4],(.seq (rf 1 [oN 2 (.box (.t 0)),oK 4 1 (.bZ (cI 0))]) (sr [oN 5 (fd 1 2),oN 6 (lF 1 5),oW 7 1,oN 8 (cl 57 [6,7]),oW 1 8] (sr [oW 9 1,oW 4 9] .ret)))⟩
structure wQ (T : Tb) : Prop where
 hT : T 56 = some pq
 bg : kP T
def wR : Fn:=⟨2,14,[.tmp 4],(.seq (rf 1 [oN 2 (.box (.t 0)),oK 4 1 (.bZ (cI 0))]) (sr [oN 5 (fd 0 2),oN 6 (lT 2 5),oW 7 1,oN 8 (cl 56 [6,7]),oW 1 8] (sr [oN 9 (fd 2 2),oN 10 (lF 1 9),oW 11 1,oN 12 (cl 57 [10,11]),oW 1 12] (sr [oW 13 1,oW 4 13] .ret))))⟩
structure wS (T : Tb) : Prop where
 hT : T 41 = some wR
 Le : wQ T
 bg : kP T
def jM : Fn:=⟨2,14,[.tmp 4],(.seq (rf 1 [oN 2 (.box (.t 0)),oK 4 1 (.bZ (cI 0))]) (sr [oN 5 (fd 1 2),oN 6 (lT 3 5),oW 7 1,oN 8 (cl 41 [6,7]),oW 1 8] (sr [oN 9 (fd 4 2),oN 10 (lF 1 9),oW 11 1,oN 12 (cl 119 [10,11]),oW 1 12] (sr [oW 13 1,oW 4 13] .ret))))⟩
structure nG (T : Tb) : Prop where
 hT : T 367 = some jM
 CU : wS T
 JZ : uT T
theorem ivc {a b : Int} (h : a = b) : iv a = iv b:=by rw [h]
def V.els : V → List V
 | .agg l=>l
 | _=>[]
def Bi.fC (x : Bi) : Nat:=x.mag.length
def Bi.mk2 (k : Int) (x : Bi) : Bi:=⟨x.neg,cnt x.mag.length k⟩
theorem RV {T : Tb} (h : wQ T) {x : Bi} {k : Int} (hl : x.mag.length ≤ 1000000000:=by exact dD) (hk : 0 ≤ k ∧ k + Bi.fC x ≤ 1000000000000:=by exact dD) :
  Mk T 56 (Ie x) k (Ie (Bi.mk2 k x)) (k + Bi.fC x):=by
 refine mk_iff fun σ v os ho hn=>?_
 have hk':=hk
 simp only [Bi.fC] at hk'
 obtain ⟨cs,rfl,hcs⟩:=ho.bP
 replace hcs : Cs _ _ _ _:=⟨hcs,hn⟩
 obtain ⟨c0,c1,rfl⟩ : ∃ c0 c1,cs = [c0,c1]:=by
  have:=hcs.ow.len
  match cs,this with
  | [a0,a1],_=>exact ⟨a0,a1,rfl⟩
 have hlf:=hcs.ow.leaf rfl
 have hce:=iC hlf
 have EY : c0.leaf = true ∧ c1.leaf = true:=by simpa using hlf
 have key : ∃ r σ',Run T (.fn 56 [.agg [c0,c1],iv k] σ) (.fn r σ') ∧ (r = iv (k + Bi.fC x) ∧ Cs σ' [c0,c1] ((Ie (Bi.mk2 k x) : V).els) os ∧ Fr os σ σ'):=by
  refine run_end (fun x d=>x == 57) h.hT ?_
  simp only [pq,Lz,St.enter,List.length_cons,List.length_nil,Nat.zero_add]
  refine ew ?_
  have F0 : Fr os σ (σ ++ [some ⟨2,[[c0,c1]]⟩]):=UZ
  replace hcs:=hcs.snoc (x:=some ⟨2,[[c0,c1]]⟩)
  have hno : σ.length ∉ os:=fun hm=>absurd (ho.lt _ hm) (by omega)
  refine sK @hce @EY ?_
  obtain ⟨s1,hr,hcs,hf1⟩:=hcs.call 1 (fE h.bg (l:=x.mag) (k:=k) (by first | omega | (simp only [Bi.fC,R.fC,Bi.fC];omega)) (by first | omega | (simp only [Bi.fC,R.fC,Bi.fC];omega))) rfl rfl
  refine gQ hr rfl hf1.len (by simp) ?_
  have hb1:=(hf1.old σ.length (by simp) hno).trans (nD _ _)
  have F1:=F0.trans hf1
  have aot:=aJ hb1
  refine sK @hb1 @EY ?_
  exact ⟨ivc (by simp only [Bi.fC];first | done | omega),hcs,F1⟩
 obtain ⟨r,σ',h2,rfl,h3,h4⟩:=key
 exact ⟨σ',h2,fD h3.ow,h4⟩
def R.fC (x : R) : Nat:=Bi.fC x.num + x.den.length
def R.mk2 (k : Int) (x : R) : R:=⟨x.neg,cnt x.mag.length k,cnt x.den.length (k + x.mag.length)⟩
theorem QJ {T : Tb} (h : wS T) {x : R} {k : Int} (hl : x.sz ≤ 1000000000:=by exact dD) (hk : 0 ≤ k ∧ k + R.fC x ≤ 1000000000000:=by exact dD) :
  Mk T 41 (aU x) k (aU (R.mk2 k x)) (k + R.fC x):=by
 refine mk_iff fun σ v os ho hn=>?_
 have hl':=hl
 simp only [R.sz] at hl'
 have hk':=hk
 simp only [R.fC,Bi.fC] at hk'
 obtain ⟨cs,rfl,hcs⟩:=ho.bP
 replace hcs : Cs _ _ _ _:=⟨hcs,hn⟩
 obtain ⟨c0,c1,c2,rfl⟩ : ∃ c0 c1 c2,cs = [c0,c1,c2]:=by
  have:=hcs.ow.len
  match cs,this with
  | [a0,a1,a2],_=>exact ⟨a0,a1,a2,rfl⟩
 have hlf:=hcs.ow.leaf rfl
 have hce:=iC hlf
 have EY : c0.leaf = true ∧ c1.leaf = true ∧ c2.leaf = true:=by simpa using hlf
 have key : ∃ r σ',Run T (.fn 41 [.agg [c0,c1,c2],iv k] σ) (.fn r σ') ∧ (r = iv (k + R.fC x) ∧ Cs σ' [c0,c1,c2] ((aU (R.mk2 k x) : V).els) os ∧ Fr os σ σ'):=by
  refine run_end (fun x d=>x == 56 || x == 57) h.hT ?_
  simp only [wR,Lz,St.enter,List.length_cons,List.length_nil,Nat.zero_add]
  refine ew ?_
  have F0 : Fr os σ (σ ++ [some ⟨3,[[c0,c1,c2]]⟩]):=UZ
  replace hcs:=hcs.snoc (x:=some ⟨3,[[c0,c1,c2]]⟩)
  have hno : σ.length ∉ os:=fun hm=>absurd (ho.lt _ hm) (by omega)
  refine sK @hce @EY ?_
  obtain ⟨s1,hr,hcs,hf1⟩:=hcs.part 0 2 (RV h.Le (x:=x.num) (k:=k) (by first | omega | (simp only [R.sz,R.fC,Bi.fC];omega)) (by first | omega | (simp only [R.sz,R.fC,Bi.fC];omega))) rfl (by simp)
  refine gQ hr rfl hf1.len (by simp) ?_
  have hb1:=(hf1.old σ.length (by simp) hno).trans (nD _ _)
  have F1:=F0.trans hf1
  have aot:=aJ hb1
  refine sK @hb1 @EY ?_
  obtain ⟨s2,hr,hcs,hf2⟩:=hcs.call 2 (fE h.bg (l:=x.den) (k:=k + Bi.fC x.num) (by first | omega | (simp only [R.sz,R.fC,Bi.fC];omega)) (by first | omega | (simp only [R.sz,R.fC,Bi.fC];omega))) rfl rfl
  refine gQ hr rfl hf2.len (by simp) ?_
  have hb2:=(hf2.old σ.length (aJ hb1) hno).trans (hb1)
  have F2:=F1.trans hf2
  have ati:=aJ hb2
  refine sK @hb2 @EY ?_
  exact ⟨ivc (by simp only [R.fC,Bi.fC];first | done | omega),hcs,F2⟩
 obtain ⟨r,σ',h2,rfl,h3,h4⟩:=key
 exact ⟨σ',h2,fD h3.ow,h4⟩
def Pt.fC (x : Pt) : Nat:=x.x.fC + x.y.fC
def Pt.mk2 (k : Int) (x : Pt) : Pt:=⟨R.mk2 (k) x.x,R.mk2 (k + x.x.fC) x.y⟩
def Lk.fC (x : Lk) : Nat:=x.w.fC + x.dx.fC + x.dy.fC
def Lk.mk2 (k : Int) (x : Lk) : Lk:=⟨x.a,x.b,R.mk2 (k) x.w,R.mk2 (k + x.w.fC) x.dx,R.mk2 (k + x.w.fC + x.dx.fC) x.dy⟩
def Cd.fC (x : Cd) : Nat:=x.total.fC + uS Pa.ct x.ps x.ps.length
def Cd.mk2 (k : Int) (x : Cd) : Cd:=⟨x.node,R.mk2 (k) x.total,Il Pa.mk3 Pa.ct (k + x.total.fC) x.ps⟩
theorem J3 {T : Tb} (h : nG T) {x : Cd} {k : Int} (hl : x.sz ≤ 1000000000:=by exact dD) (hk : 0 ≤ k ∧ k + Cd.fC x ≤ 1000000000000:=by exact dD) :
  Mk T 367 (Hg x) k (Hg (Cd.mk2 k x)) (k + Cd.fC x):=by
 refine mk_iff fun σ v os ho hn=>?_
 have hl':=hl
 simp only [Cd.sz,R.sz] at hl'
 have hk':=hk
 simp only [Cd.fC,R.fC,Bi.fC] at hk'
 obtain ⟨cs,rfl,hcs⟩:=ho.bP
 replace hcs : Cs _ _ _ _:=⟨hcs,hn⟩
 obtain ⟨c0,c1,c2,c3,c4,rfl⟩ : ∃ c0 c1 c2 c3 c4,cs = [c0,c1,c2,c3,c4]:=by
  have:=hcs.ow.len
  match cs,this with
  | [a0,a1,a2,a3,a4],_=>exact ⟨a0,a1,a2,a3,a4,rfl⟩
 have hlf:=hcs.ow.leaf rfl
 have hce:=iC hlf
 have EY : c0.leaf = true ∧ c1.leaf = true ∧ c2.leaf = true ∧ c3.leaf = true ∧ c4.leaf = true:=by simpa using hlf
 have key : ∃ r σ',Run T (.fn 367 [.agg [c0,c1,c2,c3,c4],iv k] σ) (.fn r σ') ∧ (r = iv (k + Cd.fC x) ∧ Cs σ' [c0,c1,c2,c3,c4] ((Hg (Cd.mk2 k x) : V).els) os ∧ Fr os σ σ'):=by
  refine run_end (fun x d=>x == 119 || x == 41) h.hT ?_
  simp only [jM,Lz,St.enter,List.length_cons,List.length_nil,Nat.zero_add]
  refine ew ?_
  have F0 : Fr os σ (σ ++ [some ⟨5,[[c0,c1,c2,c3,c4]]⟩]):=UZ
  replace hcs:=hcs.snoc (x:=some ⟨5,[[c0,c1,c2,c3,c4]]⟩)
  have hno : σ.length ∉ os:=fun hm=>absurd (ho.lt _ hm) (by omega)
  refine sK @hce @EY ?_
  obtain ⟨s1,hr,hcs,hf1⟩:=hcs.part 1 3 (QJ h.CU (x:=x.total) (k:=k) (by first | omega | (simp only [Cd.sz,R.sz,R.fC,Bi.fC];omega)) (by first | omega | (simp only [Cd.sz,R.sz,R.fC,Bi.fC];omega))) rfl (by simp)
  refine gQ hr rfl hf1.len (by simp) ?_
  have hb1:=(hf1.old σ.length (by simp) hno).trans (nD _ _)
  have F1:=F0.trans hf1
  have aot:=aJ hb1
  refine sK @hb1 @EY ?_
  obtain ⟨s2,hr,hcs,hf2⟩:=hcs.call 4 (QI h.JZ (l:=x.ps) (k:=k + x.total.fC) (by first | omega | (simp only [Cd.sz,R.sz,R.fC,Bi.fC];omega)) (by first | omega | (simp only [Cd.sz,R.sz,R.fC,Bi.fC];omega))) rfl rfl
  refine gQ hr rfl hf2.len (by simp) ?_
  have hb2:=(hf2.old σ.length (aJ hb1) hno).trans (hb1)
  have F2:=F1.trans hf2
  have ati:=aJ hb2
  refine sK @hb2 @EY ?_
  exact ⟨ivc (by simp only [Cd.fC,R.fC,Bi.fC];first | done | omega),hcs,F2⟩
 obtain ⟨r,σ',h2,rfl,h3,h4⟩:=key
 exact ⟨σ',h2,fD h3.ow,h4⟩
theorem EZ {α : Type} {f : α → Nat} {l : List α} {x : α} {n : Nat} (h : Aq f l ≤ n) (hx : x ∈ l) : f x ≤ n:=by
 have : ∀ l : List α,x ∈ l → f x ≤ (l.map f).sum:=by
  intro l
  induction l with
  | nil=>intro h;simp at h
  |
   cons y l ih =>
   intro h
   rw [List.map_cons,List.sum_cons]
   rcases List.mem_cons.1 h with rfl | h
   ·omega
   ·have:=ih h;omega
 have:=this l hx
 unfold Aq at h
 omega
theorem abY {T : Tb} (h : zZ T) {x : Lk} (hl : x.sz ≤ 1048576:=by exact dD) : PO T 44 [IL x] (IL x):=by
 simp only [Lk.sz,R.sz] at hl
 refine dX (fun x d=>x == 48) h.hT ?_
 simp only [sV,Lz,St.enter,List.length_cons,List.length_nil,Nat.zero_add]
 refine ew ?_
 have O:=fun s : Store=>@Ze 3 s
 replace O:=fun s=>(O s).int .i64 x.a
 replace O:=fun s=>(O s).int .i64 x.b
 refine fJ (QG h.qO (r:=x.w) (by first | omega | (simp only [Lk.sz,R.sz];omega))) (by (refine ew ?_;try with_reducible exact True.intro)) ?_
 intro r σ1 os g
 have lq : 3 ≤ σ1.length:=g.len
 have B0:=g.at 0 (by simp) rfl
 have B1:=g.at 1 (by simp) rfl
 have B2:=g.at 2 (by simp) rfl
 replace O:=(O _).got g (by simp)
 obtain ⟨a0,d0,_,_,rfl,_,k1,k2⟩:=g.ow.BF
 replace O:=O.flat rfl
 have la:=k1.leaf rfl
 have ld:=k2.leaf rfl
 have EY:=And.intro la ld
 have fc:=fun q=>iC (cs:=[.bool x.w.neg,a0,d0]) (by simp [la,ld,show ∀ b,V.leaf (.bool b) = true from fun _=>rfl]) q
 clear g
 refine xQ @B0 @B1 @B2 @lq @EY @fc ?_
 refine fJ (QG h.qO (r:=x.dx) (by first | omega | (simp only [Lk.sz,R.sz];omega))) (by (refine xQ @B0 @B1 @B2 @lq @EY @fc ?_;try with_reducible exact True.intro)) ?_
 intro r σ2 os g
 have lp:=lq
 replace lq : 3 ≤ σ2.length:=by have:=g.len;simp at this;omega
 replace B0:=(g.old 0 (by simp;omega)).trans ((aH (by decide)).trans B0)
 replace B1:=(g.old 1 (by simp;omega)).trans ((aH (by decide)).trans B1)
 replace B2:=(g.old 2 (by simp;omega)).trans (aX (by omega))
 replace O:=(O.set (by decide)).got g (by simp;omega)
 obtain ⟨a1,d1,_,_,rfl,_,k1,k2⟩:=g.ow.BF
 replace O:=O.flat rfl
 have la:=k1.leaf rfl
 have ld:=k2.leaf rfl
 replace EY:=And.intro EY (And.intro la ld)
 replace fc:=fun q=>iC (cs:=[.bool x.dx.neg,a1,d1]) (by simp [la,ld,show ∀ b,V.leaf (.bool b) = true from fun _=>rfl]) q
 clear g
 refine xQ @B0 @B1 @B2 @lq @EY @fc ?_
 refine fJ (QG h.qO (r:=x.dy) (by first | omega | (simp only [Lk.sz,R.sz];omega))) (by (refine xQ @B0 @B1 @B2 @lq @EY @fc ?_;try with_reducible exact True.intro)) ?_
 intro r σ3 os g
 have lp:=lq
 replace lq : 3 ≤ σ3.length:=by have:=g.len;simp at this;omega
 replace B0:=(g.old 0 (by simp;omega)).trans ((aH (by decide)).trans B0)
 replace B1:=(g.old 1 (by simp;omega)).trans ((aH (by decide)).trans B1)
 replace B2:=(g.old 2 (by simp;omega)).trans (aX (by omega))
 replace O:=(O.set (by decide)).got g (by simp;omega)
 obtain ⟨a2,d2,_,_,rfl,_,k1,k2⟩:=g.ow.BF
 replace O:=O.flat rfl
 have la:=k1.leaf rfl
 have ld:=k2.leaf rfl
 replace EY:=And.intro EY (And.intro la ld)
 replace fc:=fun q=>iC (cs:=[.bool x.dy.neg,a2,d2]) (by simp [la,ld,show ∀ b,V.leaf (.bool b) = true from fun _=>rfl]) q
 clear g
 refine xQ @B0 @B1 @B2 @lq @EY @fc ?_
 exact ((O.set (by decide)).set (by decide)).fin
theorem Zp {T : Tb} (h : wO T) {l : List Lk} (hl : Aq Lk.sz l ≤ 1048576:=by exact dD) : PO T 21 [bf l] (bf l):=by
 have hll : l.length ≤ 1048576:=by unfold Aq at hl;omega
 exact akG (cl:=Lk.cells) (z:=[iv 0,iv 0,.bool false,.ak,.ak,.bool false,.ak,.ak,.bool false,.ak,.ak]) (h.hT.trans rfl) (by decide) hll (fun x hx=>⟨rfl,vw l _ (List.mem_map.2 ⟨x,hx,rfl⟩),rfl⟩) fun x hx=>abY h.Jl (x:=x) (EZ (f:=Lk.sz) hl hx)
def wU : Fn:=⟨1,15,[.cell 2 3 true],(.seq (rf 2 [oN 1 (.box (.t 0)),oK 2 1 (.alloc kK)]) (.seq (rt 0 [oN 3 (fd 0 1),oA 4 0 (fd 0 3) [0],oA 5 0 (lF 1 4) [1],oN 6 (fd 0 1),oA 7 0 (fd 1 6) [3],oA 8 0 (lF 1 7) [4],oA 9 0 (cl 139 [8]) [5],oA 10 0 (.build Ro [(0,1,(.t 5)),(1,1,(.t 9))]) [2,6],oN 11 (fd 2 1),oA 12 0 (lF 1 11) [8],oA 13 0 (cl 139 [12]) [9,6],oA 14 0 (.build kK [(0,2,(.t 10)),(2,1,(.t 13))]) [7,10],⟨none,none,0,.store 3 (.t 2) (.t 14),[11,10,0,1,2,3,4,5,6,7,8,9,10,11]⟩]) .ret))⟩
structure wV (T : Tb) : Prop where
 hT : T 145 = some wU
 jC : kN T
def uJ : Fn:=⟨1,17,[.cell 2 11 true],(.seq (rf 2 [oN 1 (.box (.t 0)),oK 2 1 (.alloc xW)]) (.seq (rt 0 [oN 3 (fd 0 1),oA 4 0 (lF 1 3) [0],oN 5 (fd 1 1),oA 6 0 (lF 1 5) [2],oN 7 (fd 2 1),oA 8 0 (lT 3 7) [4],oA 9 0 (cl 145 [8]) [5],oN 10 (fd 5 1),oA 11 0 (lT 3 10) [7],oA 12 0 (cl 145 [11]) [8,6],oN 13 (fd 8 1),oA 14 0 (lT 3 13) [10],oA 15 0 (cl 145 [14]) [11,9],oA 16 0 (.build xW [(0,1,(.t 4)),(1,1,(.t 6)),(2,3,(.t 9)),(5,3,(.t 12)),(8,3,(.t 15))]) [1,3,6,9,12],⟨none,none,0,.store 11 (.t 2) (.t 16),[13,12,0,1,2,3,4,5,6,7,8,9,10,11,12,13]⟩]) .ret))⟩
structure Bc (T : Tb) : Prop where
 hT : T 133 = some uJ
 ji : wV T
def qQ : Fn:=⟨1,20,[.tmp 2],(sr [oN 2 mN] (.seq (rf 1 [oN 6 (.eG 11 xW 0 []),oK 3 1 (oV 6)]) (.seq (sr [oW 7 0,oN 8 (ln 7),oN 9 (.bZ (cI 0))] (.block 0 (.loop (sr [oN 10 (bt .lss 9 8)] (.seq (cd 10 .skip (.exit 0)) (.seq (.block 1 (.seq (rf 1 [oK 11 1 (ix 11 7 9),oK 12 1 (lT 11 11),oN 5 (.alloc xW),⟨none,none,1,.store 11 (.t 5) (.t 12),[]⟩]) (rf 2 [oK 13 2 (oV 3),oK 14 2 (lT 11 5),oK 15 2 (cl 133 [14]),oN 16 (.eG 11 xW 1 [(0,(.t 15))]),oK 17 1 (.app 11 184 (.t 13) (.t 16)),oK 3 2 (oV 17)]))) (rg [oN 18 (bc .add 9 1),oW 9 18]))))))) (sr [oW 19 3,oW 2 19] .ret))))⟩
structure yI (T : Tb) : Prop where
 hT : T 110 = some qQ
 GV : Bc T
def jO : Fn:=⟨1,40,[.cell 2 5 true],(.seq (rf 2 [oN 1 (.box (.t 0)),oK 2 1 (.alloc Ku)]) (.seq (rt 1 [oK 7 1 (fd 0 1),oA 8 1 (lF 1 7) [0],oK 9 1 (fd 1 1),oA 10 1 (lT 3 9) [2],oA 11 1 (cl 145 [10]) [3],oA 12 1 (.build Ku [(0,1,(.t 8)),(1,3,(.t 11))]) [1,4],oN 3 (.alloc Ku),⟨none,none,1,.store 5 (.t 3) (.t 12),[6,5,4,0,1,2,3,4,5,6]⟩]) (.seq (sr [oN 13 (fd 4 1),oN 14 (lF 1 13),oN 15 (ln 14),oN 16 (.bZ (cI 0))] (.block 0 (.loop (sr [oN 17 (bt .lss 16 15)] (.seq (cd 17 .skip (.exit 0)) (.seq (.block 1 (.seq (rf 1 [oK 18 1 (ix 10 14 16),oK 19 1 (lT 10 18),oN 5 (.alloc Qe),⟨none,none,1,.store 10 (.t 5) (.t 19),[]⟩]) (.seq (rt 1 [oK 20 1 (fd 0 5),oA 21 1 (lF 1 20) [0],oK 22 1 (fd 1 5),oA 23 1 (lT 3 22) [2],oA 24 1 (cl 145 [23]) [3],oK 25 1 (fd 4 5),oA 26 1 (lT 3 25) [5],oA 27 1 (cl 145 [26]) [6,4],oK 28 1 (fd 7 5),oA 29 1 (lT 3 28) [8],oA 30 1 (cl 145 [29]) [9,7],oA 31 1 (.build Qe [(0,1,(.t 21)),(1,3,(.t 24)),(4,3,(.t 27)),(7,3,(.t 30))]) [1,4,7,10],oN 6 (.alloc Qe),⟨none,none,1,.store 10 (.t 6) (.t 31),[12,11,10,0,1,2,3,4,5,6,7,8,9,10,11,12]⟩]) (rf 2 [oK 32 2 (fd 4 3),oK 33 2 (lF 1 32),oK 34 2 (lT 10 6),oN 35 (.eG 10 Qe 1 [(0,(.t 34))]),oK 36 1 (.app 10 176 (.t 33) (.t 35)),oK 37 2 (fd 4 3),⟨none,none,2,.store 1 (.t 37) (.t 36),[]⟩])))) (rg [oN 38 (bc .add 16 1),oW 16 38]))))))) (sr [oN 39 (lT 5 3),oS (.store 5 (.t 2) (.t 39))] .ret))))⟩
structure nH (T : Tb) : Prop where
 hT : T 183 = some jO
 ji : wV T
theorem uU {T : Tb} (h : wV T) {r : R} (hl : r.sz ≤ 1048576:=by exact dD) : PO T 145 [aU r] (aU r):=by
 simp only [R.sz] at hl
 refine dX (fun x d=>x == 139) h.hT ?_
 simp only [wU,Lz,St.enter,List.length_cons,List.length_nil,Nat.zero_add]
 refine ew ?_
 have O:=fun s : Store=>(@Ze 2 s).bool r.neg
 refine iO (NW h.jC (l:=r.mag) (by omega)) (by (refine ew ?_;try with_reducible exact True.intro)) (by (refine ew ?_;try with_reducible exact True.intro)) ?_
 intro v1 σ1 o1 g
 have B1:=g.at 1 (by simp) rfl
 have B0:=g.at 0 (by simp) rfl
 have lq : 2 ≤ σ1.length:=g.len
 have lf:=g.lf rfl
 have lb:=g.lfb rfl
 replace O:=(O _).got g (by simp)
 refine vJ @B0 @B1 @lq @lf @lb ?_
 refine iO (NW h.jC (l:=r.den) (by omega)) (by (refine ew ?_;try with_reducible exact True.intro)) (by (refine ew ?_;try with_reducible exact True.intro)) ?_
 intro v2 σ2 o2 g2
 replace B1:=(g2.old 1 (by omega)).trans B1
 have lq2 : 2 ≤ σ2.length:=by have:=g2.len;omega
 have lf2:=g2.lf rfl
 have lb2:=g2.lfb rfl
 replace O:=O.got g2 (by omega)
 refine xQ @B1 @lq2 @lf2 @lb2 @lf @lb ?_
 refine ⟨by unfold jl;decide +kernel,?_⟩
 refine CJ @lq2 ?_
 exact (O.set (by decide)).fin
theorem NY {T : Tb} (h : Bc T) {x : Lk} (hl : x.sz ≤ 1048576:=by exact dD) : PO T 133 [IL x] (IL x):=by
 simp only [Lk.sz,R.sz] at hl
 refine dX (fun x d=>x == 145) h.hT ?_
 simp only [uJ,Lz,St.enter,List.length_cons,List.length_nil,Nat.zero_add]
 refine ew ?_
 have O:=fun s : Store=>@Ze 2 s
 replace O:=fun s=>(O s).int .i64 x.a
 replace O:=fun s=>(O s).int .i64 x.b
 refine iO (uU h.ji (r:=x.w) (by simp only [R.sz];omega)) (by (refine ew ?_;try with_reducible exact True.intro)) (by (refine ew ?_;try with_reducible exact True.intro)) ?_
 intro r σ1 os g
 have lq : 2 ≤ σ1.length:=g.len
 have B0:=g.at 0 (by simp) rfl
 have B1:=g.at 1 (by simp) rfl
 replace O:=(O _).got g (by simp)
 obtain ⟨a0,d0,_,_,rfl,_,k1,k2⟩:=g.ow.BF
 replace O:=O.flat rfl
 have la:=k1.leaf rfl
 have ld:=k2.leaf rfl
 have EY:=And.intro la ld
 have fc:=(fun q=>iC (cs:=[.bool x.w.neg,a0,d0]) (by simp [la,ld,show ∀ b,V.leaf (.bool b) = true from fun _=>rfl]) q)
 clear g
 refine vJ @B0 @B1 @lq @EY @fc ?_
 refine iO (uU h.ji (r:=x.dx) (by simp only [R.sz];omega)) (by (refine vJ @B0 @B1 @lq @EY @fc ?_;try with_reducible exact True.intro)) (by (refine vJ @B0 @B1 @lq @EY @fc ?_;try with_reducible exact True.intro)) ?_
 intro r σ2 os g
 replace B0:=(g.old 0 (by omega)).trans B0
 replace B1:=(g.old 1 (by omega)).trans B1
 replace O:=O.got g (by omega)
 replace lq : 2 ≤ σ2.length:=by have:=g.len;omega
 obtain ⟨a1,d1,_,_,rfl,_,k1,k2⟩:=g.ow.BF
 replace O:=O.flat rfl
 have la:=k1.leaf rfl
 have ld:=k2.leaf rfl
 replace EY:=And.intro EY (And.intro la ld)
 replace fc:=And.intro fc (fun q=>iC (cs:=[.bool x.dx.neg,a1,d1]) (by simp [la,ld,show ∀ b,V.leaf (.bool b) = true from fun _=>rfl]) q)
 clear g
 refine vJ @B0 @B1 @lq @EY @fc ?_
 refine iO (uU h.ji (r:=x.dy) (by simp only [R.sz];omega)) (by (refine vJ @B0 @B1 @lq @EY @fc ?_;try with_reducible exact True.intro)) (by (refine vJ @B0 @B1 @lq @EY @fc ?_;try with_reducible exact True.intro)) ?_
 intro r σ3 os g
 replace B0:=(g.old 0 (by omega)).trans B0
 replace B1:=(g.old 1 (by omega)).trans B1
 replace O:=O.got g (by omega)
 replace lq : 2 ≤ σ3.length:=by have:=g.len;omega
 obtain ⟨a2,d2,_,_,rfl,_,k1,k2⟩:=g.ow.BF
 replace O:=O.flat rfl
 have la:=k1.leaf rfl
 have ld:=k2.leaf rfl
 replace EY:=And.intro EY (And.intro la ld)
 replace fc:=And.intro fc (fun q=>iC (cs:=[.bool x.dy.neg,a2,d2]) (by simp [la,ld,show ∀ b,V.leaf (.bool b) = true from fun _=>rfl]) q)
 clear g
 refine vJ @B0 @B1 @lq @EY @fc ?_
 refine ⟨by unfold jl;decide +kernel,?_⟩
 refine CJ @lq ?_
 exact (O.set (by decide)).fin
theorem Vb {T : Tb} (h : yI T) {l : List Lk} (hl : Aq Lk.sz l ≤ 1048576:=by exact dD) : PO T 110 [bf l] (bf l):=by
 have hll : l.length ≤ 1048576:=by unfold Aq at hl;omega
 refine dX (fun x d=>x == 133) h.hT ?_
 simp only [qQ,Lz,St.enter,List.length_cons,List.length_nil,Nat.zero_add]
 refine ew ?_
 refine aQ (fun x d=>x == 133) (α:=Nat × Store × V × List (List V)) (fun q=>⟨bM [.any,.any,.ak,q.2.2.1,.any,.any,.any,bf l,iv (l.length : Nat),iv (q.1 : Nat)],q.2.1,0,0,[],[]⟩) (fun q=>q.1 ≤ l.length ∧ Grow q.2.1 q.2.2.1 11 q.2.2.2 ((l.take q.1).map Lk.cells)) (fun q=>l.length - q.1) rfl (0,[none],.ak,[]) ?_ ?_ ?_
 ·exact ⟨by omega,aen⟩
 ·(refine aI ?_;exact wI)
 ·rintro ⟨i,s,v,A⟩ ⟨hi,hG⟩
  dsimp only at hi hG
  by_cases hc : (i : Int) < (l.length : Nat)
  ·have hil : i < l.length:=by omega
   have hAl : A.length = i:=by have:=hG.len;simp at this;omega
   obtain ⟨x,hx⟩ : ∃ x,l.getD i default = x:=⟨_,rfl⟩
   have hts:=Jk Lk.cells l hil
   have hxs : x.sz ≤ 1048576:=by have:=EZ (f:=Lk.sz) hl (getD_mem hil);rw [hx] at this;exact this
   rw [hx] at hts
   have e4 : ∀ σ : Store,resolve σ FD (IL x) = some (IL x):=fun σ=>zX (vw [x] _ (by simp))
   rcases hG.cases with ⟨rfl,h1,rfl⟩ | ⟨o,rfl,ho,hlt⟩
   ·refine CO @hc @mg @hx ?_
    refine fJ (NY h.GV hxs) (by (refine CJ @e4 ?_;try with_reducible exact True.intro)) ?_
    intro r σ2 os g
    obtain ⟨cs,rfl,k1⟩:=g.ow.bP
    have gl : s.length + 3 ≤ σ2.length:=by have:=g.len;simp at this;omega
    have lf:=iC (k1.leaf rfl)
    have cl1 : cs.length = 11:=k1.len
    refine CO @lf @cl1 @gl ?_
    refine ⟨by omega,(i + 1,(σ2.set (s.length + 1) (some ⟨11,[cs]⟩)).set (s.length + 1 + 1) (some ⟨11,[cs]⟩),.bC (s.length + 1 + 1) 0 1,[cs]),by dsimp only;omega,⟨by dsimp only;omega,?_⟩,by (refine aI ?_;exact wI)⟩
    dsimp only
    rw [hts]
    exact hG.ata (fun q hq=>by simp only [List.append_assoc];exact eY hq) (by simp) g (by omega) (by simp) (by omega) (by simp) (by omega)
   ·refine vJ @hc @mg @hx @ho @hlt ?_
    refine fJ (NY h.GV hxs) (by (refine CJ @e4 ?_;try with_reducible exact True.intro)) ?_
    intro r σ2 os g
    obtain ⟨cs,rfl,k1⟩:=g.ow.bP
    have gl : s.length + 3 ≤ σ2.length:=by have:=g.len;simp at this;omega
    have lf:=iC (k1.leaf rfl)
    have cl1 : cs.length = 11:=k1.len
    have ho2:=(g.old o (by simp;omega)).trans ((by simp only [List.append_assoc];exact eY hlt : _ = aj s o).trans ho)
    refine vJ @lf @cl1 @gl @ho2 @hlt ?_
    refine ⟨by omega,(i + 1,((σ2.set (s.length + 1) (some ⟨11,[cs]⟩)).set o none).set (s.length + 1 + 1) (some ⟨11,A ++ [cs]⟩),.bC (s.length + 1 + 1) 0 (A.length + 1),A ++ [cs]),by dsimp only;omega,⟨by dsimp only;omega,?_⟩,by (refine aI ?_;exact wI)⟩
    dsimp only
    rw [hts]
    exact hG.atb (fun q hq=>by simp only [List.append_assoc];exact eY hq) (by simp) g (by omega) (by simp) (by omega) (by simp) (by omega)
  ·have ei : i = l.length:=by omega
   subst ei
   rw [List.take_length] at hG
   rcases hG.cases with ⟨rfl,h1,rfl⟩ | ⟨o,rfl,ho,hlt⟩
   ·refine CJ @hc ?_
    exact hG.fin
   ·refine CJ @hc ?_
    exact hG.fin
def pz : Fn:=⟨2,12,[.cell 4 3 true],(.seq (rf 3 [oN 2 (.box (.t 0)),oK 3 1 (.box (.t 1)),oK 4 2 (.alloc kK)]) (.seq (rt 0 [oN 5 (lT 3 2),oN 6 (lT 3 2),oA 7 0 (cl 201 [5,6]) [0,1],oN 8 (lT 3 3),oN 9 (lT 3 3),oA 10 0 (cl 201 [8,9]) [3,4,2],oA 11 0 (cl 189 [7,10]) [2,5,5],⟨none,none,0,.store 3 (.t 4) (.t 11),[6,6,0,1,2,3,4,5,6]⟩]) .ret))⟩
structure wW (T : Tb) : Prop where
 hT : T 202 = some pz
 eP : lQ T
 fK : sF T
def lU : Fn:=⟨2,12,[.cell 4 3 true],(.seq (rf 3 [oN 2 (.box (.t 0)),oK 3 1 (.box (.t 1)),oK 4 2 (.alloc kK)]) (.seq (rt 0 [oN 5 (lT 3 2),oN 6 (lT 3 2),oA 7 0 (cl 157 [5,6]) [0,1],oN 8 (lT 3 3),oN 9 (lT 3 3),oA 10 0 (cl 157 [8,9]) [3,4,2],oA 11 0 (cl 131 [7,10]) [2,5,5],⟨none,none,0,.store 3 (.t 4) (.t 11),[6,6,0,1,2,3,4,5,6]⟩]) .ret))⟩
structure rG (T : Tb) : Prop where
 hT : T 158 = some lU
 dA : fH T
 fM : jQ T
def sqR (x y : R) : R:=qj (mulR x x) (mulR y y)
theorem aeF (x y : R) : (sqR x y).cn:=IV _ _
theorem QK {T : Tb} (h : rG T) {x y : R} (hx : x.cn:=by exact KQ) (hy : y.cn:=by exact KQ) : PF T 158 [aU x,aU y] (aU (sqR x y)):=by
 refine aK nR h.hT ?_
 simp only [lU,Lz]
 refine ev ?_
 refine ah (vI h.fM hx hx) ?_
 refine ev ?_
 refine ah (vI h.fM hy hy) ?_
 refine ev ?_
 refine ah (yD h.dA) ?_
 refine ev ?_
 refine ⟨by unfold jl;decide +kernel,?_⟩
 exact aC _
theorem TN {r : R} (h : r.wf:=by
 first | with_reducible assumption | exact dS KQ) : r.wf:=h
theorem Vd {T : Tb} (h : wW T) {x y : R} (hx : x.wf:=by exact TN) (hy : y.wf:=by exact TN) : PF T 202 [aU x,aU y] (aU (sqR x y)):=by
 refine aK nR h.hT ?_
 simp only [pz,Lz]
 refine ev ?_
 refine ah (qK h.fK hx hx) ?_
 refine ev ?_
 refine ah (qK h.fK hy hy) ?_
 refine ev ?_
 refine ah (vH h.eP TN TN) ?_
 refine ev ?_
 refine ⟨by unfold jl;decide +kernel,?_⟩
 exact aC _
theorem Lh {l : Lk} (h : jg l = true) : l.w.ok = true ∧ l.dx.ok = true ∧ l.dy.ok = true ∧ 0 < sG l.w:=by
 unfold jg at h
 simp only [Bool.and_eq_true,decide_eq_true_eq] at h
 exact ⟨UU h.1.1.2,h.1.2,h.2,h.1.1.2⟩
theorem Gi {l : Lk} (h : jg l = true) : l.w.cn ∧ l.dx.cn ∧ l.dy.cn:=by
 obtain ⟨a,b,c,_⟩:=Lh h
 exact ⟨xX a,xX b,xX c⟩
def Dl : List Int → Int → List Int
 | [],n=>[n]
 | x :: l,n=>if x < n then x :: Dl l n else if x = n then x :: l else n :: x :: l
theorem aau {l : List Int} {n : Int} {k : Nat} (hk : k ≤ l.length) (h : ∀ j,j < k → l.getD j 0 < n) (h2 : k < l.length → ¬ l.getD k 0 < n) :
  Dl l n = if k < l.length ∧ l.getD k 0 = n then l else l.take k ++ n :: l.drop k:=by
 induction l generalizing k with
 | nil=>simp [Dl]
 |
  cons x l ih =>
  cases k with
  |
   zero =>
   have h3:=h2 (by simp)
   simp only [List.getD_cons_zero] at h3
   unfold Dl
   rw [if_neg h3]
   by_cases e : x = n
   ·simp [e]
   ·simp [e]
  |
   succ k =>
   have h3:=h 0 (by omega)
   simp only [List.getD_cons_zero] at h3
   unfold Dl
   rw [if_pos h3,ih (k:=k) (by simpa using hk) (fun j hj=>by have:=h (j + 1) (by omega);simpa using this) (fun hj=>by have:=h2 (by simpa using hj);simpa using this)]
   simp only [List.length_cons,List.getD_cons_succ,List.take_succ_cons,List.drop_succ_cons,List.cons_append,Nat.add_lt_add_iff_right]
   split <;> rfl
def Asc (l : List Int) : Prop:=l.Pairwise (· < ·)
theorem QL {l : List Int} {n a : Int} : a ∈ Dl l n ↔ a = n ∨ a ∈ l:=by
 induction l with
 | nil=>simp [Dl]
 |
  cons x l ih =>
  unfold Dl
  split
  ·rw [List.mem_cons,ih,List.mem_cons]
   constructor
   ·rintro (h | h | h) <;> simp [h]
   ·rintro (h | h | h) <;> simp [h]
  ·split
   ·rename_i e;subst e
    constructor
    ·intro h;exact .inr h
    ·rintro (h | h)
     ·rw [h];simp
     ·exact h
   ·simp
theorem Lj {l : List Int} {n : Int} (h : Asc l) : Asc (Dl l n):=by
 unfold Asc at *
 induction l with
 | nil=>simp [Dl]
 |
  cons x l ih =>
  rw [List.pairwise_cons] at h
  unfold Dl
  split
  ·rename_i hx
   rw [List.pairwise_cons]
   refine ⟨fun a ha=>?_,ih h.2⟩
   rcases QL.1 ha with rfl | ha
   ·exact hx
   ·exact h.1 a ha
  ·split
   ·rw [List.pairwise_cons];exact h
   ·rename_i h1 h2
    have : n < x:=by omega
    rw [List.pairwise_cons,List.pairwise_cons]
    refine ⟨fun a ha=>?_,h⟩
    rcases List.mem_cons.1 ha with rfl | ha
    ·exact this
    ·have:=h.1 a ha;omega
theorem XE (l : List Int) (n : Int) : (Dl l n).length ≤ l.length + 1:=by
 induction l with
 | nil=>simp [Dl]
 |
  cons x l ih =>
  unfold Dl
  split
  ·simp;omega
  ·split <;> simp
theorem Ve : ∀ {l m : List Int},Asc l → Asc m → (∀ a,a ∈ l ↔ a ∈ m) → l = m
 | [],[],_,_,_=>rfl
 | [],y :: m,_,_,h=>absurd ((h y).2 (by simp)) (by simp)
 | x :: l,[],_,_,h=>absurd ((h x).1 (by simp)) (by simp)
 |
  x :: l,y :: m,hl,hm,h=>by
  unfold Asc at hl hm
  rw [List.pairwise_cons] at hl hm
  have e : x = y:=by
   rcases List.mem_cons.1 ((h x).1 (by simp)) with h1 | h1
   ·exact h1
   ·rcases List.mem_cons.1 ((h y).2 (by simp)) with h2 | h2
    ·exact h2.symm
    ·have:=hl.1 y h2;have:=hm.1 x h1;omega
  subst e
  congr 1
  refine Ve hl.2 hm.2 fun a=>?_
  constructor
  ·intro ha
   rcases List.mem_cons.1 ((h a).1 (by simp [ha])) with h1 | h1
   ·have:=hl.1 a ha;omega
   ·exact h1
  ·intro ha
   rcases List.mem_cons.1 ((h a).2 (by simp [ha])) with h1 | h1
   ·have:=hm.1 a ha;omega
   ·exact h1
theorem Ll : ∀ {a b : List Int},a.Nodup → (∀ x ∈ a,x ∈ b) → a.length ≤ b.length
 | [],b,_,_=>by simp
 |
  x :: a,b,hn,h=>by
  rw [List.nodup_cons] at hn
  have hx:=h x (by simp)
  have:=Ll (a:=a) (b:=b.erase x) hn.2 fun y hy=>by
   have hyx : y ≠ x:=fun e=>hn.1 (e ▸ hy)
   exact (List.mem_erase_of_ne hyx).2 (h y (by simp [hy]))
  rw [List.length_erase_of_mem hx] at this
  have:=List.length_pos_of_mem hx
  simp only [List.length_cons];omega
theorem TP {l : List Int} (h : Asc l) : l.Nodup:=by
 unfold Asc at h
 exact h.imp fun h e=>by omega
def Ac : Fn:=⟨2,48,[.tmp 4],(sr [oN 4 mN] (sr [oN 5 (.bZ (cI 0))] (.seq (.block 0 (.loop (.seq (sr [oW 7 5,oW 8 0,oN 9 (ln 8),oN 10 (bt .lss 7 9),oW 11 10,oG 11 true 12 (oV 0),oG 11 true 13 (oV 5),oG 11 true 14 (ix 1 12 13),oG 11 true 15 (lF 1 14),oG 11 true 16 (oV 1),oG 11 true 17 (bt .lss 15 16),oN 18 (.pick (.t 11) (.t 17) (.c (.bool false)))] (cd 18 .skip (.exit 0))) (.block 1 (rg [oW 19 5,oN 20 (bc .add 19 1),oW 5 20]))))) (.seq (sr [oW 21 5,oW 22 0,oN 23 (ln 22),oN 24 (bt .lss 21 23),oW 25 24,oG 25 true 26 (oV 0),oG 25 true 27 (oV 5),oG 25 true 28 (ix 1 26 27),oG 25 true 29 (lF 1 28),oG 25 true 30 (oV 1),oG 25 true 31 (bt .eql 29 30),oN 32 (.pick (.t 25) (.t 31) (.c (.bool false)))] (cd 32 (sr [oW 33 0,oW 4 33] .ret) .skip)) (.seq (rf 2 [oN 34 (.eG 1 FU 0 []),oK 35 2 (oV 0),oK 36 2 (oV 5),oK 37 2 (.slice 1 (.t 35) none (some (.t 36))),oK 38 1 (.app 1 8 (.t 34) (.t 37)),oK 6 2 (oV 38)]) (.seq (rf 2 [oK 39 2 (oV 6),oK 40 2 (oV 1),oN 41 (.eG 1 FU 1 [(0,(.t 40))]),oK 42 1 (.app 1 8 (.t 39) (.t 41)),oK 6 2 (oV 42)]) (.seq (rf 1 [oK 43 1 (oV 6),oK 44 1 (oV 0),oK 45 1 (oV 5),oK 46 1 (.slice 1 (.t 44) (some (.t 45)) none),oN 47 (.app 1 8 (.t 43) (.t 46)),oK 4 1 (oV 47)]) .ret)))))))⟩
structure Ei (T : Tb) : Prop where
 hT : T 237 = some Ac
theorem XF {T : Tb} (h : Ei T) {l : List Int} {n : Int} (hl : l.length ≤ 100000000:=by exact dD) : PF T 237 [ints l,iv n] (ints (Dl l n)):=by
 refine aK nR h.hT ?_
 simp only [Ac,Lz]
 refine ev ?_
 refine aQ (fun _ _=>false) (α:=Nat) (fun i=>⟨bM [ints l,iv n,.any,.any,.ak,iv (i : Nat)],[],0,0,[],[]⟩) (fun i=>i ≤ l.length ∧ ∀ j,j < i → l.getD j 0 < n) (fun i=>l.length - i) rfl 0 ?_ ?_ ?_
 ·exact ⟨by omega,by intro j hj;omega⟩
 ·(refine aI ?_;exact yB)
 ·rintro i ⟨hi,hj⟩
  refine ev ?_
  by_cases hc : (i : Int) < (l.length : Nat)
  ·by_cases hx : l.getD i 0 < n
   ·refine iW @hc @hx ?_
    refine ⟨i + 1,by omega,⟨by omega,fun j hj'=>?_⟩,by (refine aI ?_;exact yB)⟩
    by_cases e : j = i
    ·subst e;exact hx
    ·exact hj j (by omega)
   ·rw [aau hi hj fun _=>hx]
    by_cases he : l.getD i 0 = n
    ·refine ev4 @hc @hx @he @Int.lt_irrefl ?_
     rw [if_pos (by omega)]
     exact aC _
    ·rw [if_neg fun k=>he k.2]
     have hd : ¬ l.drop i = []:=by
      intro e
      have:=congrArg List.length e
      simp at this;omega
     have ld : (l.drop i).length = l.length - i:=by simp
     have lt : (l.take i).length = i:=by simp;omega
     obtain ⟨d,hde⟩ : ∃ d,l.drop i = d:=⟨_,rfl⟩
     obtain ⟨t,hte⟩ : ∃ t,l.take i = t:=⟨_,rfl⟩
     refine uO @hc @hx @he ?_
     rw [hde] at hd ld ⊢
     rw [hte] at lt ⊢
     simp only [FV]
     refine ⟨fun e=>?_,fun e=>?_⟩
     ·subst e
      refine ⟨by omega,fun k=>absurd k hd,fun _=>⟨by omega,?_⟩⟩
      simp only [EVi]
      refine ev1 @EVi ?_
      exact aC _
     ·refine ⟨by omega,by omega,?_⟩
      simp only [EVi]
      refine ev1 @EVi ?_
      refine ⟨fun k=>absurd (FV.1 k) hd,fun _=>⟨by simp;omega,?_⟩⟩
      rw [List.append_assoc]
      exact aC _
  ·have ei : i = l.length:=by omega
   subst ei
   rw [aau (Nat.le_refl _) hj fun h=>absurd h (Nat.lt_irrefl _),if_neg fun h=>Nat.lt_irrefl _ h.1]
   simp only [List.take_length,List.drop_length]
   refine iW @hc @List.drop_length.{0} ?_
   simp only [FV]
   refine ⟨fun e=>?_,fun e=>⟨by omega,by omega,?_⟩⟩
   ·subst e
    refine ⟨by omega,?_⟩
    simp only [EVi]
    refine ev1 @EVi ?_
    exact aC _
   ·simp only [EVi]
    refine ev1 @EVi ?_
    exact ⟨fun _=>aC _,fun k=>absurd (by simp [aN]) k⟩
def ends (l : List Lk) (v : Int) : Bool:=l.any fun x=>decide (x.a = v) || decide (x.b = v)
def akJ (l : List Lk) (v : Nat) : List Int:=((List.range v).filter fun (u : Nat)=>decide (1 ≤ u) && ends l u).map fun u=>((u : Nat) : Int)
def aou (l : List Cd) (i : Nat) : Prop :=
 kW (l.getD i default) = true ∧ (∀ k,k < (l.getD i default).ps.length → ((l.getD i default).ps.getD k default).node = 0 ∨ ∃ j,i < j ∧ j < l.length ∧ (l.getD j default).node = ((l.getD i default).ps.getD k default).node) ∧
  ∀ j,i < j → j < l.length → (l.getD j default).node ≠ (l.getD i default).node
noncomputable instance (l : List Cd) : Decidable (∀ i,i < l.length → aou l i):=Classical.propDecidable _
theorem qR {l : Lk} (h : jg l = true) : 0 ≤ l.a ∧ l.a < l.b ∧ l.b ≤ 9:=by
 unfold jg nd at h
 simp only [Bool.and_eq_true,decide_eq_true_eq] at h
 omega
theorem qx {l : List Lk} (h : bU l = true) {k : Nat} (hk : k < l.length) : jg (l.getD k default) = true:=by
 have:=Xj.1 h k hk
 unfold DF at this
 simp only [Bool.and_eq_true] at this
 exact this.1
def aeG (l : List Lk) : List Int:=if bU l = true then akJ l 10 else []
def atj (l : List Lk) (o : List Int) : Prop:=bU l = true ∧ o.length = (aeG l).length ∧ ∀ x ∈ aeG l,x ∈ o
instance (l : List Lk) (o : List Int) : Decidable (atj l o):=inferInstanceAs (Decidable (_ ∧ _ ∧ _))
def wX : Fn:=⟨2,33,[.tmp 4],(sr [oN 4 mN] (.seq (rf 1 [oN 8 (.eG 1 FU 0 []),oK 5 1 (oV 8)]) (.seq (sr [oW 9 0,oN 10 (ln 9),oN 11 (.bZ (cI 0))] (.block 0 (.loop (sr [oN 12 (bt .lss 11 10)] (.seq (cd 12 .skip (.exit 0)) (.seq (.block 1 (.seq (rf 1 [oK 13 1 (ix 11 9 11),oK 14 1 (lT 11 13),oN 7 (.alloc xW),⟨none,none,1,.store 11 (.t 7) (.t 14),[]⟩]) (.seq (sr [oN 15 (fd 0 7),oN 16 (lF 1 15),oW 17 1,oN 18 (bt .eql 16 17)] (cd 18 (rg [oW 19 5,oN 20 (fd 1 7),oN 21 (lF 1 20),oN 22 (cl 237 [19,21]),oW 5 22]) .skip)) (sr [oN 23 (fd 1 7),oN 24 (lF 1 23),oW 25 1,oN 26 (bt .eql 24 25)] (cd 26 (rg [oW 27 5,oN 28 (fd 0 7),oN 29 (lF 1 28),oN 30 (cl 237 [27,29]),oW 5 30]) .skip))))) (rg [oN 31 (bc .add 11 1),oW 11 31]))))))) (sr [oW 32 5,oW 4 32] .ret))))⟩
structure CV (T : Tb) : Prop where
 hT : T 238 = some wX
 Jm : Ei T
theorem yJ {k l : Lk} : bJ k l = true ↔ k.a < l.a ∨ (k.a = l.a ∧ k.b < l.b):=by simp [bJ]
theorem Gj {k l m : Lk} (h : bJ k l = true) (h2 : bJ l m = true) : bJ k m = true:=by
 rw [yJ] at *;omega
theorem TQ {l : List Lk} (h : bU l = true) {i : Nat} (hi : i + 1 < l.length) : bJ (l.getD i default) (l.getD (i + 1) default) = true:=by
 have:=Xj.1 h (i + 1) hi
 unfold DF at this
 simp only [Bool.and_eq_true,Bool.or_eq_true,decide_eq_true_eq] at this
 rcases this.2 with h | h
 ·omega
 ·exact h
theorem XG {l : List Lk} (h : bU l = true) : ∀ (j i : Nat),i < j → j < l.length → bJ (l.getD i default) (l.getD j default) = true
 | 0,i,hi,_=>by omega
 |
  j + 1,i,hi,hj=>by
  have ha:=TQ h hj
  by_cases e : i = j
  ·subst e;exact ha
  ·exact Gj (XG h j i (by omega) (by omega)) ha
theorem Ir {α : Type} [Inhabited α] {l : List α} {i : Nat} (h : i < l.length) : l.getD i default = l[i]:=by
 rw [List.getD_eq_getElem?_getD,List.getElem?_eq_getElem h];rfl
theorem XH {l : List Lk} (h : bU l = true) : l.Pairwise fun k l=>bJ k l = true ∧ 0 ≤ k.a ∧ k.a < k.b ∧ 0 ≤ l.a ∧ l.a < l.b:=by
 rw [List.pairwise_iff_getElem]
 intro i j hi hj hij
 have h1:=XG h j i hij hj
 have h2:=qR (qx h hi)
 have h3:=qR (qx h hj)
 rw [Ir hi,Ir hj] at h1
 rw [Ir hi] at h2
 rw [Ir hj] at h3
 exact ⟨h1,h2.1,h2.2.1,h3.1,h3.2.1⟩
theorem qU {l : List Lk} (h : bU l = true) {x : Lk} (hx : x ∈ l) : jg x = true:=by
 obtain ⟨i,hi⟩:=List.mem_iff_getElem?.1 hx
 have hlt:=(List.getElem?_eq_some_iff.1 hi).1
 have:=qx h hlt
 rwa [List.getD_eq_getElem?_getD,hi] at this
def Zq (v : Int) (x : Lk) : Option Int:=if x.a = v then some x.b else if x.b = v then some x.a else none
def CW (v : Int) (out : List Int) (x : Lk) : List Int:=if x.b = v then Dl (if x.a = v then Dl out x.b else out) x.a else (if x.a = v then Dl out x.b else out)
def nbS (l : List Lk) (v : Int) (i : Nat) : List Int:=(l.take i).foldl (CW v) []
def nbI (l : List Lk) (v : Int) (i : Nat) : List Int:=(l.take i).filterMap (Zq v)
theorem aiI (l : List Lk) (v : Int) : nbS l v 0 = []:=by simp [nbS]
theorem take_snoc {α : Type} [Inhabited α] {l : List α} {i : Nat} (h : i < l.length) : l.take (i + 1) = l.take i ++ [l.getD i default]:=by
 rw [List.take_add_one,List.getElem?_eq_getElem h,List.getD_eq_getElem?_getD,List.getElem?_eq_getElem h];rfl
theorem aiJ (l : List Lk) (v : Int) {i : Nat} (h : i < l.length) : nbS l v (i + 1) = CW v (nbS l v i) (l.getD i default):=by
 unfold nbS;rw [take_snoc h,List.foldl_append];rfl
theorem Zr (v : Int) (out : List Int) (x : Lk) : (CW v out x).length ≤ out.length + 2:=by
 have h1:=XE (if x.a = v then Dl out x.b else out) x.a
 have h2:=XE out x.b
 unfold CW
 split at h1 <;> (split <;> (try split) <;> omega)
theorem ahC (l : List Lk) (v : Int) {i : Nat} (h : i ≤ l.length) : (nbS l v i).length ≤ 2 * i:=by
 induction i with
 | zero=>simp [aiI]
 |
  succ i ih =>
  rw [aiJ l v h]
  have:=ih (by omega)
  have:=Zr v (nbS l v i) (l.getD i default)
  omega
theorem Zt {v : Int} {out : List Int} {x : Lk} {a : Int} : a ∈ CW v out x ↔ a ∈ out ∨ (x.a = v ∧ a = x.b) ∨ (x.b = v ∧ a = x.a):=by
 unfold CW
 split <;> split <;> simp_all [QL] <;> (constructor <;> rintro (h | h) <;> simp_all)
theorem aav {v : Int} : ∀ (l : List Lk) (out : List Int) (a : Int),a ∈ l.foldl (CW v) out ↔ a ∈ out ∨ ∃ x ∈ l,(x.a = v ∧ a = x.b) ∨ (x.b = v ∧ a = x.a)
 | [],out,a=>by simp
 |
  x :: l,out,a=>by
  rw [List.foldl_cons,aav l,Zt]
  simp only [List.mem_cons,exists_eq_or_imp,or_assoc]
theorem Zu {v : Int} {out : List Int} {x : Lk} (h : Asc out) : Asc (CW v out x):=by
 unfold CW
 split <;> split <;> first | exact Lj (Lj h) | exact Lj h | exact h
theorem aaw {v : Int} : ∀ (l : List Lk) (out : List Int),Asc out → Asc (l.foldl (CW v) out)
 | [],out,h=>h
 | x :: l,out,h=>aaw l _ (Zu h)
theorem aov {l : List Lk} (h : bU l = true) (v : Int) : nbS l v l.length = nbI l v l.length:=by
 unfold nbS nbI
 rw [List.take_length]
 refine Ve (aaw _ _ .nil) ?_ fun a=>?_
 ·refine List.Pairwise.filterMap _ ?_ (XH h)
  rintro k m ⟨h1,h2,h3,h4,h5⟩ b hb b' hb'
  rw [yJ] at h1
  unfold Zq at hb hb'
  split at hb <;> split at hb' <;> (try split at hb) <;> (try split at hb') <;> simp_all <;> omega
 ·rw [aav,List.mem_filterMap]
  simp only [List.not_mem_nil,false_or]
  constructor
  ·rintro ⟨x,hx,h1⟩
   refine ⟨x,hx,?_⟩
   have:=qR (qU h hx)
   unfold Zq
   rcases h1 with ⟨h1,rfl⟩ | ⟨h1,rfl⟩
   ·rw [if_pos h1]
   ·rw [if_neg (by omega),if_pos h1]
  ·rintro ⟨x,hx,h1⟩
   refine ⟨x,hx,?_⟩
   unfold Zq at h1
   split at h1
   ·simp_all
   ·split at h1 <;> simp_all
theorem abZ {T : Tb} (h : CV T) {l : List Lk} {v : Int} (hw : Hl Lk.wf l:=by exact dD) (hl : l.length ≤ 1048576:=by exact dD) (hok : bU l = true:=by assumption) : PF T 238 [bf l,iv v] (ints (nbI l v l.length)):=by
 rw [← aov hok]
 refine aK nR h.hT ?_
 simp only [wX,Lz]
 refine ev ?_
 refine aQ (fun _ _=>false) (α:=Nat) (fun i=>⟨bM [.any,iv v,.any,.any,.ak,ints (nbS l v i),.any,.any,.any,bf l,iv (l.length : Nat),iv (i : Nat)],[],0,0,[],[]⟩) (fun i=>i ≤ l.length) (fun i=>l.length - i) rfl 0 ?_ ?_ ?_
 ·omega
 ·rw [aiI,show ints [] = .sl 1 [] from rfl]
  exact Y0
 ·intro i hi
  have hnl:=ahC l v hi
  refine ev ?_
  refine aG (fun hc=>?_) fun hc=>?_ <;> (refine iW @hc @mg ?_;try with_reducible exact True.intro)
  ·have hil : i < l.length:=by omega
   have es:=aiJ l v hil
   unfold CW at es
   by_cases ha : (l.getD i default).a = v
   ·have c1:=XF h.Jm (l:=nbS l v i) (n:=(l.getD i default).b) (by omega)
    simp only [if_pos ha] at es
    by_cases hb : (l.getD i default).b = v
    ·have:=qR (qx hok hil)
     omega
    ·rw [if_neg hb] at es
     refine ev1 @ha ?_
     refine ah c1 ?_
     refine ev1 @hb ?_
     rw [← es]
     exact ⟨i + 1,by omega,by omega,by exact Y0⟩
   ·have c1:=XF h.Jm (l:=nbS l v i) (n:=(l.getD i default).a) (by omega)
    simp only [if_neg ha] at es
    by_cases hb : (l.getD i default).b = v
    ·rw [if_pos hb] at es
     refine iW @ha @hb ?_
     refine ah c1 ?_
     refine ev ?_
     rw [← es]
     exact ⟨i + 1,by omega,by omega,by exact Y0⟩
    ·rw [if_neg hb] at es
     refine iW @ha @hb ?_
     rw [← es]
     exact ⟨i + 1,by omega,by omega,by exact Y0⟩
  ·have : i = l.length:=by omega
   subst this
   exact aC _
def wY : Fn:=⟨1,17,[.cell 2 3 true],(.seq (rf 2 [oN 1 (.box (.t 0)),oK 2 1 (.alloc kK)]) (.seq (rt 4 [oK 3 4 (fd 0 1),oA 4 4 (fd 0 3) [0],oA 5 4 (lF 1 4) [1],oN 6 (.eG 1 FU 0 []),oK 7 4 (fd 0 1),oA 8 4 (fd 1 7) [4],oA 9 4 (lF 1 8) [5],oA 10 1 (.app 1 8 (.t 6) (.t 9)) [3,6],oA 11 4 (.build Ro [(0,1,(.t 5)),(1,1,(.t 10))]) [2,7],oK 12 2 (.eG 1 FU 0 []),oK 13 4 (fd 2 1),oA 14 4 (lF 1 13) [10],oA 15 3 (.app 1 8 (.t 12) (.t 14)) [9,11,7],oA 16 4 (.build kK [(0,2,(.t 11)),(2,1,(.t 15))]) [8,12],⟨none,none,4,.store 3 (.t 2) (.t 16),[13,12,0,1,2,3,4,5,6,7,8,9,10,11,12,13]⟩]) .ret))⟩
structure wZ (T : Tb) : Prop where
 hT : T 204 = some wY
def xg : Fn:=⟨1,17,[.cell 2 11 true],(.seq (rf 2 [oN 1 (.box (.t 0)),oK 2 1 (.alloc xW)]) (.seq (rt 0 [oN 3 (fd 0 1),oA 4 0 (lF 1 3) [0],oN 5 (fd 1 1),oA 6 0 (lF 1 5) [2],oN 7 (fd 2 1),oA 8 0 (lT 3 7) [4],oA 9 0 (cl 204 [8]) [5],oN 10 (fd 5 1),oA 11 0 (lT 3 10) [7],oA 12 0 (cl 204 [11]) [8,6],oN 13 (fd 8 1),oA 14 0 (lT 3 13) [10],oA 15 0 (cl 204 [14]) [11,9],oA 16 0 (.build xW [(0,1,(.t 4)),(1,1,(.t 6)),(2,3,(.t 9)),(5,3,(.t 12)),(8,3,(.t 15))]) [1,3,6,9,12],⟨none,none,0,.store 11 (.t 2) (.t 16),[13,12,0,1,2,3,4,5,6,7,8,9,10,11,12,13]⟩]) .ret))⟩
structure mG (T : Tb) : Prop where
 hT : T 197 = some xg
 mJ : wZ T
def nI : Fn:=⟨2,35,[.tmp 4],(sr [oN 4 mN] (.seq (rf 1 [oN 8 (.eG 11 xW 0 []),oK 5 1 (oV 8)]) (.seq (sr [oW 9 0,oN 10 (cl 193 [9]),oN 11 (nt 10)] (cd 11 (sr [oN 4 mN] .ret) .skip)) (.seq (sr [oW 12 0,oN 13 (ln 12),oN 14 (.bZ (cI 0))] (.block 0 (.loop (sr [oN 15 (bt .lss 14 13)] (.seq (cd 15 .skip (.exit 0)) (.seq (.block 1 (.seq (rf 1 [oK 16 1 (ix 11 12 14),oK 17 1 (lT 11 16),oN 7 (.alloc xW),⟨none,none,1,.store 11 (.t 7) (.t 17),[]⟩]) (sr [oN 18 (fd 0 7),oN 19 (lF 1 18),oW 20 1,oN 21 (bt .neq 19 20),oW 22 21,oG 22 true 23 (fd 1 7),oG 22 true 24 (lF 1 23),oG 22 true 25 (oV 1),oG 22 true 26 (bt .neq 24 25),oN 27 (.pick (.t 22) (.t 26) (.c (.bool false)))] (cd 27 (rf 2 [oK 28 2 (oV 5),oK 29 2 (lT 11 7),oK 30 2 (cl 197 [29]),oN 31 (.eG 11 xW 1 [(0,(.t 30))]),oK 32 1 (.app 11 184 (.t 28) (.t 31)),oK 5 2 (oV 32)]) .skip)))) (rg [oN 33 (bc .add 14 1),oW 14 33]))))))) (sr [oW 34 5,oW 4 34] .ret)))))⟩
structure uV (T : Tb) : Prop where
 hT : T 227 = some nI
 gy : jT T
 iy : mG T
def nJ : Fn:=⟨2,31,[.tmp 4],(sr [oN 4 mN] (.seq (rf 1 [oN 8 (.eG 11 xW 0 []),oK 5 1 (oV 8)]) (.seq (sr [oW 9 0,oN 10 (ln 9),oN 11 (.bZ (cI 0))] (.block 0 (.loop (sr [oN 12 (bt .lss 11 10)] (.seq (cd 12 .skip (.exit 0)) (.seq (.block 1 (.seq (rf 1 [oK 13 1 (ix 11 9 11),oK 14 1 (lT 11 13),oN 7 (.alloc xW),⟨none,none,1,.store 11 (.t 7) (.t 14),[]⟩]) (sr [oN 15 (fd 0 7),oN 16 (lF 1 15),oW 17 1,oN 18 (bt .neq 16 17),oW 19 18,oG 19 true 20 (fd 1 7),oG 19 true 21 (lF 1 20),oG 19 true 22 (oV 1),oG 19 true 23 (bt .neq 21 22),oN 24 (.pick (.t 19) (.t 23) (.c (.bool false)))] (cd 24 (rf 2 [oK 25 2 (oV 5),oK 26 2 (lT 11 7),oN 27 (.eG 11 xW 1 [(0,(.t 26))]),oK 28 1 (.app 11 184 (.t 25) (.t 27)),oK 5 2 (oV 28)]) .skip)))) (rg [oN 29 (bc .add 11 1),oW 11 29]))))))) (sr [oW 30 5,oW 4 30] .ret))))⟩
structure uX (T : Tb) : Prop where
 hT : T 241 = some nJ
def sW : Fn:=⟨3,46,[.cell 6 11 true,.tmp 7],(.seq (rf 1 [oN 6 (.alloc xW),oK 7 1 mF]) (.seq (sr [oW 10 0,oN 11 (cl 193 [10]),oN 12 (nt 11)] (cd 12 (sr [oN 13 (.build xW []),oS (.store 11 (.t 6) (.t 13)),oN 7 mF] .ret) .skip)) (.seq (sr [oW 14 0,oN 15 (ln 14),oN 16 (.bZ (cI 0))] (.block 0 (.loop (sr [oN 17 (bt .lss 16 15)] (.seq (cd 17 .skip (.exit 0)) (.seq (.block 1 (.seq (rf 1 [oK 18 1 (ix 11 14 16),oK 19 1 (lT 11 18),oN 9 (.alloc xW),⟨none,none,1,.store 11 (.t 9) (.t 19),[]⟩]) (sr [oN 20 (fd 0 9),oN 21 (lF 1 20),oW 22 1,oN 23 (bt .eql 21 22),oW 24 23,oG 24 true 25 (fd 1 9),oG 24 true 26 (lF 1 25),oG 24 true 27 (oV 2),oG 24 true 28 (bt .eql 26 27),oN 29 (.pick (.t 24) (.t 28) (.c (.bool false))),oW 30 29,oG 30 false 31 (fd 0 9),oG 30 false 32 (lF 1 31),oG 30 false 33 (oV 2),oG 30 false 34 (bt .eql 32 33),oG 30 false 35 (oV 34),oG 35 true 36 (fd 1 9),oG 35 true 37 (lF 1 36),oG 35 true 38 (oV 1),oG 35 true 39 (bt .eql 37 38),oG 30 false 40 (.pick (.t 35) (.t 39) (.c (.bool false))),oN 41 (.pick (.t 30) (.c (.bool true)) (.t 40))] (cd 41 (sr [oN 42 (lT 11 9),oN 43 (cl 197 [42]),oS (.store 11 (.t 6) (.t 43)),oN 7 mT] .ret) .skip)))) (rg [oN 44 (bc .add 16 1),oW 16 44]))))))) (sr [oN 45 (.build xW []),oS (.store 11 (.t 6) (.t 45)),oN 7 mF] .ret))))⟩
structure Ej (T : Tb) : Prop where
 hT : T 225 = some sW
 gy : jT T
 iy : mG T
theorem OU {r : R} {a b : V} (h1 : bQ (ints r.mag) a) (h2 : bQ (ints r.den) b) : bQ (aU r) (.agg [.bool r.neg,a,b]):=by
 simp only [Ih,MQ,MP,EK,true_and,and_true]
 exact ⟨h1,h2⟩
theorem I7 {l : List Int} (h : aN l = []) : bQ (ints l) .ak:=by
 show bQ (.sl 1 (aN l)) .ak
 rw [h];exact of_eq_true (gZ 1)
theorem Fa {T : Tb} (h : wZ T) {r : R} (hl : r.sz ≤ 1048576:=by exact dD) : PF T 204 [aU r] (aU r):=by
 simp only [R.sz] at hl
 refine aK nR h.hT ?_
 simp only [wY,Lz]
 refine ev ?_
 refine ⟨fun e1=>⟨fun e2=>?_,fun e2=>⟨by omega,?_⟩⟩,fun e1=>⟨by omega,fun e2=>?_,fun e2=>⟨by omega,?_⟩⟩⟩
 ·refine ⟨by unfold jl;decide +kernel,?_⟩
  exact OU (I7 e1) (I7 e2)
 ·refine ⟨by unfold jl;decide +kernel,?_⟩
  exact OU (I7 e1) (aC _)
 ·refine ⟨by unfold jl;decide +kernel,?_⟩
  exact OU (aC _) (I7 e2)
 ·refine ⟨by unfold jl;decide +kernel,?_⟩
  exact OU (aC _) (aC _)
theorem BM {T : Tb} (h : mG T) {x : Lk} (hl : x.sz ≤ 1048576:=by exact dD) : PF T 197 [IL x] (IL x):=by
 simp only [Lk.sz,R.sz] at hl
 refine aK nR h.hT ?_
 simp only [xg,Lz]
 refine ev ?_
 refine ah (Fa h.mJ (r:=x.w) (by simp only [R.sz];omega)) ?_
 refine ev ?_
 refine ah (Fa h.mJ (r:=x.dx) (by simp only [R.sz];omega)) ?_
 refine ev ?_
 refine ah (Fa h.mJ (r:=x.dy) (by simp only [R.sz];omega)) ?_
 refine ev ?_
 refine ⟨by unfold jl;decide +kernel,?_⟩
 refine ev ?_
 exact aC _
def Yn (v : Int) (x : Lk) : Bool:=decide (x.a ≠ v) && decide (x.b ≠ v)
def wo (l : List Lk) (v : Int) (i : Nat) : List Lk:=(l.take i).filter (Yn v)
theorem aow (l : List Lk) (v : Int) : wo l v 0 = []:=by simp [wo]
theorem aeH (l : List Lk) (v : Int) : wo l v l.length = l.filter (Yn v):=by simp [wo]
theorem aox (l : List Lk) (v : Int) {i : Nat} (h : i < l.length) : wo l v (i + 1) = wo l v i ++ (if Yn v (l.getD i default) = true then [l.getD i default] else []):=by
 unfold wo;rw [take_snoc h,List.filter_append,List.filter_cons]
 split <;> simp
theorem aeI (l : List Lk) (v : Int) (i : Nat) : (wo l v i).length ≤ i:=by
 unfold wo
 exact Nat.le_trans (List.length_filter_le _ _) (by simp;omega)
theorem Zv {α : Type} (f : α → Nat) (p : α → Bool) (l : List α) : Aq f (l.filter p) ≤ Aq f l:=by
 unfold Aq
 induction l with
 | nil=>simp
 |
  cons x l ih =>
  rw [List.filter_cons]
  split <;> simp only [List.length_cons,List.map_cons,List.sum_cons] <;> omega
abbrev Lk0 : Lk:=⟨0,0,R0,R0,R0⟩
theorem Nl : bQ (IL Lk0) (.agg [iv 0,iv 0,.bool false,.ak,.ak,.bool false,.ak,.ak,.bool false,.ak,.ak]):=by
 show bQ (.agg [iv 0,iv 0,.bool false,.sl 1 [],.sl 1 [],.bool false,.sl 1 [],.sl 1 [],.bool false,.sl 1 [],.sl 1 []]) _
 simp only [Ih,MQ,MP,EK,adW,gZ,and_true]
theorem XI {v w : V} {b : Bool} (h : bQ v w) : bQ (.eF [v,.bool b]) (.eF [w,.bool b]):=by
 simp only [bQ,oJ]
 exact ⟨_,rfl,_,_,rfl,h,_,_,rfl,rfl,rfl⟩
def Zw (a b : Int) (x : Lk) : Bool:=(decide (x.a = a) && decide (x.b = b)) || (decide (x.a = b) && decide (x.b = a))
def RX (l : List Lk) (a b : Int) : Option Lk:=l.find? (Zw a b)
theorem akK {l : List Lk} {a b : Int} {i : Nat} (hi : i < l.length) (hj : ∀ j,j < i → Zw a b (l.getD j default) = false) (h : Zw a b (l.getD i default) = true) : RX l a b = some (l.getD i default):=by
 unfold RX
 have : l = l.take i ++ l.getD i default :: l.drop (i + 1):=by
  conv=>lhs;rw [← List.take_append_drop i l,List.drop_eq_getElem_cons hi]
  rw [Ir hi]
 rw [this,List.find?_append,List.find?_cons,← this,h]
 have : (l.take i).find? (Zw a b) = none:=by
  rw [List.find?_eq_none]
  intro x hx
  obtain ⟨j,hj'⟩:=List.mem_iff_getElem?.1 hx
  have hlt:=(List.getElem?_eq_some_iff.1 hj').1
  rw [List.length_take] at hlt
  have hlt' : j < i:=by omega
  have:=hj j hlt'
  rw [List.getElem?_take_of_lt hlt'] at hj'
  rw [List.getD_eq_getElem?_getD,hj'] at this
  simpa using this
 rw [this];rfl
theorem akL {l : List Lk} {a b : Int} (hj : ∀ j,j < l.length → Zw a b (l.getD j default) = false) : RX l a b = none:=by
 unfold RX
 rw [List.find?_eq_none]
 intro x hx
 obtain ⟨j,hj'⟩:=List.mem_iff_getElem?.1 hx
 have hlt:=(List.getElem?_eq_some_iff.1 hj').1
 have:=hj j hlt
 rw [List.getD_eq_getElem?_getD,hj'] at this
 simpa using this
theorem XJ {l : List Lk} {a b : Int} {x : Lk} (h : RX l a b = some x) : x ∈ l:=List.mem_of_find?_eq_some h
def fF : Fn:=⟨2,104,[.cell 4 11 true,.cell 5 3 true,.tmp 6],(.seq (rf 4 [oN 2 (.box (.t 0)),oK 3 1 (.box (.t 1)),oK 4 2 (.alloc xW),oK 5 3 (.alloc kK),oK 6 4 mF]) (.seq (sr [oN 10 (lT 11 2),oN 11 (cl 83 [10]),oN 12 (nt 11),oW 13 12,oG 13 false 14 (lT 11 3),oG 13 false 15 (cl 83 [14]),oG 13 false 16 (nt 15),oN 17 (.pick (.t 13) (.c (.bool true)) (.t 16)),oW 18 17,oG 18 false 19 (fd 0 2),oG 18 false 20 (lF 1 19),oG 18 false 21 (fd 0 3),oG 18 false 22 (lF 1 21),oG 18 false 23 (bt .neq 20 22),oN 24 (.pick (.t 18) (.c (.bool true)) (.t 23)),oW 25 24,oG 25 false 26 (fd 1 2),oG 25 false 27 (lF 1 26),oG 25 false 28 (fd 1 3),oG 25 false 29 (lF 1 28),oG 25 false 30 (bt .neq 27 29),oN 31 (.pick (.t 25) (.c (.bool true)) (.t 30))] (cd 31 (sr [oN 32 (.build xW []),oN 33 (.build kK []),oS (.store 11 (.t 4) (.t 32)),oS (.store 3 (.t 5) (.t 33)),oN 6 mF] .ret) .skip)) (.seq (rf 1 [oK 34 1 (fd 2 2),oK 35 1 (lT 3 34),oK 36 1 (fd 2 3),oK 37 1 (lT 3 36),oK 38 1 (cl 189 [35,37]),oN 7 (.alloc kK),⟨none,none,1,.store 3 (.t 7) (.t 38),[]⟩]) (.seq (rf 1 [oK 39 1 (fd 0 2),oK 40 1 (lF 1 39),oK 41 1 (fd 1 2),oK 42 1 (lF 1 41),oK 43 1 (lT 3 7),oK 44 1 (.build xW [(0,1,(.t 40)),(1,1,(.t 42)),(2,3,(.t 43))]),oN 8 (.alloc xW),⟨none,none,1,.store 11 (.t 8) (.t 44),[]⟩]) (.seq (rt 0 [oN 45 (fd 2 2),oA 46 0 (lT 3 45) [0],oN 47 (fd 5 2),oA 48 0 (lT 3 47) [2],oA 49 0 (cl 201 [46,48]) [1,3],oN 50 (fd 2 3),oA 51 0 (lT 3 50) [5],oN 52 (fd 5 3),oA 53 0 (lT 3 52) [7],oA 54 0 (cl 201 [51,53]) [6,8,4],oA 55 0 (cl 189 [49,54]) [4,9,9],oN 56 (lT 3 7),oA 57 0 (cl 200 [55,56]) [10,11,10],oA 58 0 (fd 5 8) [0,1,2,3,4,5,6,7,8,9,10,11,12],⟨none,none,0,.store 3 (.t 58) (.t 57),[13,12,12,0,1,2,3,4,5,6,7,8,9,10,11,12]⟩]) (.seq (rt 0 [oN 59 (fd 2 2),oA 60 0 (lT 3 59) [0],oN 61 (fd 8 2),oA 62 0 (lT 3 61) [2],oA 63 0 (cl 201 [60,62]) [1,3],oN 64 (fd 2 3),oA 65 0 (lT 3 64) [5],oN 66 (fd 8 3),oA 67 0 (lT 3 66) [7],oA 68 0 (cl 201 [65,67]) [6,8,4],oA 69 0 (cl 189 [63,68]) [4,9,9],oN 70 (lT 3 7),oA 71 0 (cl 200 [69,70]) [10,11,10],oA 72 0 (fd 8 8) [0,1,2,3,4,5,6,7,8,9,10,11,12],⟨none,none,0,.store 3 (.t 72) (.t 71),[13,12,12,0,1,2,3,4,5,6,7,8,9,10,11,12]⟩]) (.seq (rt 1 [oK 73 1 (fd 2 2),oA 74 1 (lT 3 73) [0],oK 75 1 (fd 2 3),oA 76 1 (lT 3 75) [2],oA 77 1 (cl 201 [74,76]) [1,3],oK 78 1 (lT 3 7),oA 79 1 (cl 200 [77,78]) [4,5,4],oK 80 1 (fd 5 2),oA 81 1 (lT 3 80) [7],oK 82 1 (fd 5 3),oA 83 1 (lT 3 82) [9],oA 84 1 (cl 203 [81,83]) [8,10,6],oK 85 1 (fd 8 2),oA 86 1 (lT 3 85) [12],oK 87 1 (fd 8 3),oA 88 1 (lT 3 87) [14],oA 89 1 (cl 203 [86,88]) [13,15,11],oA 90 1 (cl 202 [84,89]) [11,16,16],oA 91 1 (cl 201 [79,90]) [6,17,17],oN 9 (.alloc kK),⟨none,none,1,.store 3 (.t 9) (.t 91),[19,18,18,0,1,2,3,4,5,6,7,8,9,10,11,12,13,14,15,16,17,18,19]⟩]) (.seq (sr [oN 92 (lT 11 8),oN 93 (cl 83 [92]),oN 94 (nt 93),oW 95 94,oG 95 false 96 (lT 3 9),oG 95 false 97 (cl 100 [96]),oG 95 false 98 (nt 97),oN 99 (.pick (.t 95) (.c (.bool true)) (.t 98))] (cd 99 (sr [oN 100 (.build xW []),oN 101 (.build kK []),oS (.store 11 (.t 4) (.t 100)),oS (.store 3 (.t 5) (.t 101)),oN 6 mF] .ret) .skip)) (.seq (rt 0 [oN 102 (lT 11 8),oN 103 (lT 3 9),⟨none,none,0,.store 11 (.t 4) (.t 102),[0,0]⟩,⟨none,none,0,.store 3 (.t 5) (.t 103),[1,2,0,1,2]⟩,oA 6 0 mT [3,0,1,2,3]]) .ret)))))))))⟩
structure xk (T : Tb) : Prop where
 hT : T 196 = some fF
 fU : ku T
 aW : fQ T
 eP : lQ T
 oD : zM T
 fK : sF T
 Lm : wW T
 sZ : zK T
def pF : Fn:=⟨2,91,[.cell 4 11 true,.cell 5 3 true,.tmp 6],(.seq (rf 4 [oN 2 (.box (.t 0)),oK 3 1 (.box (.t 1)),oK 4 2 (.alloc xW),oK 5 3 (.alloc kK),oK 6 4 mF]) (.seq (rt 2 [oK 12 2 (fd 2 2),oA 13 2 (lT 3 12) [0],oK 14 2 (fd 2 3),oA 15 2 (lT 3 14) [2],oN 7 (.alloc kK),oK 8 1 (.alloc kK),⟨none,none,2,.store 3 (.t 7) (.t 13),[4,1,0,1,4,5]⟩,⟨none,none,2,.store 3 (.t 8) (.t 15),[5,3,6,0,1,2,3,4,5,6]⟩]) (.seq (rf 1 [oK 16 1 (lT 3 7),oK 17 1 (lT 3 8),oK 18 1 (cl 131 [16,17]),oN 9 (.alloc kK),⟨none,none,1,.store 3 (.t 9) (.t 18),[]⟩]) (.seq (rf 1 [oK 19 1 (fd 0 2),oK 20 1 (lF 1 19),oK 21 1 (fd 1 2),oK 22 1 (lF 1 21),oK 23 1 (lT 3 9),oK 24 1 (.build xW [(0,1,(.t 20)),(1,1,(.t 22)),(2,3,(.t 23))]),oN 10 (.alloc xW),⟨none,none,1,.store 11 (.t 10) (.t 24),[]⟩]) (.seq (rt 0 [oN 25 (lT 3 7),oN 26 (fd 5 2),oA 27 0 (lT 3 26) [1],oA 28 0 (cl 157 [25,27]) [0,2],oN 29 (lT 3 8),oN 30 (fd 5 3),oA 31 0 (lT 3 30) [5],oA 32 0 (cl 157 [29,31]) [4,6,3],oA 33 0 (cl 131 [28,32]) [3,7,7],oN 34 (lT 3 9),oA 35 0 (cl 156 [33,34]) [8,9,8],oA 36 0 (fd 5 10) [0,1,2,3,4,5,6,7,8,9,10],⟨none,none,0,.store 3 (.t 36) (.t 35),[11,10,10,0,1,2,3,4,5,6,7,8,9,10]⟩]) (.seq (rt 0 [oN 37 (lT 3 7),oN 38 (fd 8 2),oA 39 0 (lT 3 38) [1],oA 40 0 (cl 157 [37,39]) [0,2],oN 41 (lT 3 8),oN 42 (fd 8 3),oA 43 0 (lT 3 42) [5],oA 44 0 (cl 157 [41,43]) [4,6,3],oA 45 0 (cl 131 [40,44]) [3,7,7],oN 46 (lT 3 9),oA 47 0 (cl 156 [45,46]) [8,9,8],oA 48 0 (fd 8 10) [0,1,2,3,4,5,6,7,8,9,10],⟨none,none,0,.store 3 (.t 48) (.t 47),[11,10,10,0,1,2,3,4,5,6,7,8,9,10]⟩]) (.seq (rt 1 [oK 49 1 (lT 3 7),oK 50 1 (lT 3 8),oA 51 1 (cl 157 [49,50]) [0,1],oK 52 1 (lT 3 9),oA 53 1 (cl 156 [51,52]) [2,3,2],oK 54 1 (fd 5 2),oA 55 1 (lT 3 54) [5],oK 56 1 (fd 5 3),oA 57 1 (lT 3 56) [7],oA 58 1 (cl 159 [55,57]) [6,8,4],oK 59 1 (fd 8 2),oA 60 1 (lT 3 59) [10],oK 61 1 (fd 8 3),oA 62 1 (lT 3 61) [12],oA 63 1 (cl 159 [60,62]) [11,13,9],oA 64 1 (cl 158 [58,63]) [9,14,14],oA 65 1 (cl 157 [53,64]) [4,15,15],oN 11 (.alloc kK),⟨none,none,1,.store 3 (.t 11) (.t 65),[17,16,16,0,1,2,3,4,5,6,7,8,9,10,11,12,13,14,15,16,17]⟩]) (.seq (sr [oN 66 (fd 2 10),oN 67 (lT 3 66),oN 68 (cl 132 [67]),oN 69 (nt 68),oW 70 69,oG 70 false 71 (fd 5 10),oG 70 false 72 (lT 3 71),oG 70 false 73 (cl 132 [72]),oG 70 false 74 (nt 73),oN 75 (.pick (.t 70) (.c (.bool true)) (.t 74)),oW 76 75,oG 76 false 77 (fd 8 10),oG 76 false 78 (lT 3 77),oG 76 false 79 (cl 132 [78]),oG 76 false 80 (nt 79),oN 81 (.pick (.t 76) (.c (.bool true)) (.t 80)),oW 82 81,oG 82 false 83 (lT 3 11),oG 82 false 84 (cl 132 [83]),oG 82 false 85 (nt 84),oN 86 (.pick (.t 82) (.c (.bool true)) (.t 85))] (cd 86 (sr [oN 87 (.build xW []),oN 88 (.build kK []),oS (.store 11 (.t 4) (.t 87)),oS (.store 3 (.t 5) (.t 88)),oN 6 mF] .ret) .skip)) (.seq (rt 0 [oN 89 (lT 11 10),oN 90 (lT 3 11),⟨none,none,0,.store 11 (.t 4) (.t 89),[0,0]⟩,⟨none,none,0,.store 3 (.t 5) (.t 90),[1,2,0,1,2]⟩,oA 6 0 mT [3,0,1,2,3]]) .ret)))))))))⟩
structure xq (T : Tb) : Prop where
 hT : T 140 = some pF
 dA : fH T
 aP : gq T
 oI : lK T
 fM : jQ T
 Jd : rG T
 tu : rZ T
theorem Lp {v w x y : V} {b : Bool} (h : bQ v w) (h2 : bQ x y) : bQ (.eF [v,x,.bool b]) (.eF [w,y,.bool b]):=by
 simp only [bQ,oJ]
 exact ⟨_,rfl,_,_,rfl,h,_,_,rfl,h2,_,_,rfl,rfl,rfl⟩
def iJ (k l : Lk) : R:=qj k.w l.w
def CX (k l : Lk) : R:=uP (qj (mulR k.w k.dx) (mulR l.w l.dx)) (iJ k l)
def Iu (k l : Lk) : R:=uP (qj (mulR k.w k.dy) (mulR l.w l.dy)) (iJ k l)
def Lr (k l : Lk) : R:=mulR (uP (mulR k.w l.w) (iJ k l)) (sqR (ES k.dx l.dx) (ES k.dy l.dy))
theorem Np (k l : Lk) : (iJ k l).cn:=IV _ _
theorem Zx (k l : Lk) : (CX k l).cn:=DC _ _
theorem Zy (k l : Lk) : (Iu k l).cn:=DC _ _
theorem Zz (k l : Lk) : (Lr k l).cn:=OJ _ _
def mgL (k l : Lk) : Lk:=⟨k.a,k.b,iJ k l,CX k l,Iu k l⟩
def Ls (k l : Lk) : Bool:=(iJ k l).ok && (CX k l).ok && (Iu k l).ok && (Lr k l).ok
def mgP (k l : Lk) : Bool:=jg k && jg l && decide (k.a = l.a) && decide (k.b = l.b)
def QM (k l : Lk) : Bool:=mgP k l && Ls k l
def ZA (k l : Lk) : Lk:=if QM k l = true then mgL k l else Lk0
def ZB (k l : Lk) : R:=if QM k l = true then Lr k l else R0
theorem aeJ {r s : R} (hr : 0 < sG r) (hs : 0 < sG s) (ho : (qj r s).ok = true) : 0 < sG (qj r s):=by
 unfold sG at *
 rw [ad8] at ho
 rw [ad7] at ho ⊢
 cases h1 : r.q with
 | none=>rw [h1] at hr;simp [lX] at hr
 |
  some a =>
  cases h2 : s.q with
  | none=>rw [h2] at hs;simp [lX] at hs
  |
   some b =>
   simp only [h1,h2] at ho hr hs ⊢
   simp only [JF] at ho ⊢
   have hf : fits (a + b) = true:=by
    cases hf : fits (a + b) with
    | true=>rfl
    | false=>rw [Tm hf] at ho;exact absurd rfl ho
   rw [Tj hf]
   simp only [lX] at hr hs ⊢
   have pos : ∀ q : Rat,0 < sgn q.num ↔ 0 < q:=by
    intro q
    rw [Rat.lt_iff,show (0 : Rat).num = 0 from rfl,show (0 : Rat).den = 1 from rfl,Int.zero_mul,Int.natCast_one,Int.mul_one]
    unfold sgn
    split
    ·constructor <;> intro h <;> omega
    ·split
     ·constructor <;> intro h <;> omega
     ·constructor <;> intro h <;> omega
   rw [pos] at hr hs ⊢
   have h3 : a + 0 < a + b:=Rat.add_lt_add_left.2 hs
   rw [Rat.add_zero] at h3
   exact Std.lt_trans hr h3
theorem XK {k l : Lk} (h : mgP k l = true) : jg (mgL k l) = ((iJ k l).ok && (CX k l).ok && (Iu k l).ok):=by
 unfold mgP at h
 simp only [Bool.and_eq_true,decide_eq_true_eq] at h
 obtain ⟨⟨⟨h1,h2⟩,_⟩,_⟩:=h
 have p1:=(Lh h1).2.2.2
 have p2:=(Lh h2).2.2.2
 have h1':=h1
 unfold jg at h1'
 simp only [Bool.and_eq_true] at h1'
 unfold jg mgL
 rw [h1'.1.1.1.1.1,h1'.1.1.1.1.2,h1'.1.1.1.2]
 cases hw : (iJ k l).ok with
 |
  false =>
  have : ¬ 0 < lX (iJ k l).q:=by rw [uo.1 hw];simp [lX]
  simp [this]
 |
  true =>
  have : 0 < lX (iJ k l).q:=aeJ p1 p2 hw
  simp [this]
theorem RY {T : Tb} (h : xk T) {k l : Lk} (hk : k.wf:=by exact TN) (hl : l.wf:=by exact TN) : PF T 196 [IL k,IL l] (.eF [IL (ZA k l),aU (ZB k l),.bool (QM k l)]):=by
 have ck:=qm h.fU hk
 have cl:=qm h.fU hl
 have bad : mgP k l = false → bQ (.eF [IL (ZA k l),aU (ZB k l),.bool (QM k l)]) (.eF [.agg [iv 0,iv 0,.bool false,.ak,.ak,.bool false,.ak,.ak,.bool false,.ak,.ak],.agg [.bool false,.ak,.ak],.bool false]):=by
  intro hp
  unfold ZA ZB QM
  rw [hp]
  exact Lp Nl jq
 cases h1 : jg k
 ·have hp:=bad (by unfold mgP;rw [h1];rfl)
  rw [h1] at ck
  clear bad
  refine aK nR h.hT ?_
  simp only [fF,Lz]
  refine ev ?_
  refine ah ck ?_
  refine ev ?_
  exact hp
 rw [h1] at ck
 cases h2 : jg l
 ·have hp:=bad (by unfold mgP;rw [h1,h2];rfl)
  rw [h2] at cl
  clear bad
  refine aK nR h.hT ?_
  simp only [fF,Lz]
  refine ev ?_
  refine ah ck ?_
  refine ev ?_
  refine ah cl ?_
  refine ev ?_
  exact hp
 rw [h2] at cl
 by_cases h3 : k.a = l.a
 case neg =>
  have hp:=bad (by unfold mgP;rw [h1,h2,decide_eq_false h3];rfl)
  clear bad
  refine aK nR h.hT ?_
  simp only [fF,Lz]
  refine ev ?_
  refine ah ck ?_
  refine ev ?_
  refine ah cl ?_
  refine ev1 @h3 ?_
  exact hp
 by_cases h4 : k.b = l.b
 case neg =>
  have hp:=bad (by unfold mgP;rw [h1,h2,decide_eq_true h3,decide_eq_false h4];rfl)
  have h3' : (k.a = l.a) = True:=eq_true h3
  clear bad
  refine aK nR h.hT ?_
  simp only [fF,Lz]
  refine ev ?_
  refine ah ck ?_
  refine ev ?_
  refine ah cl ?_
  refine iW @h3' @h4 ?_
  exact hp
 have hp : mgP k l = true:=by unfold mgP;rw [h1,h2,decide_eq_true h3,decide_eq_true h4];rfl
 have hv:=XK hp
 have h3' : (k.a = l.a) = True:=eq_true h3
 have h4' : (k.b = l.b) = True:=eq_true h4
 clear bad
 obtain ⟨k1,k2,k3⟩:=hk
 obtain ⟨l1,l2,l3⟩:=hl
 have e1 : ZA k l = if Ls k l = true then mgL k l else Lk0:=by unfold ZA QM;rw [hp,Bool.true_and]
 have e2 : ZB k l = if Ls k l = true then Lr k l else R0:=by unfold ZB QM;rw [hp,Bool.true_and]
 have e3 : QM k l = Ls k l:=by unfold QM;rw [hp,Bool.true_and]
 rw [e1,e2,e3]
 clear e1 e2 e3
 have cv:=qm h.fU (l:=mgL k l) ⟨dS (Np _ _),dS (Zx _ _),dS (Zy _ _)⟩
 have co:=jF h.aW (r:=Lr k l) (dS (Zz _ _))
 rw [hv] at cv
 refine aK nR h.hT ?_
 simp only [fF,Lz]
 refine ev ?_
 refine ah ck ?_
 refine ev ?_
 refine ah cl ?_
 refine iW @h3' @h4' ?_
 refine ah (vH h.eP k1 l1) ?_
 refine ev ?_
 refine ah (qK h.fK k1 k2) ?_
 refine ev ?_
 refine ah (qK h.fK l1 l2) ?_
 refine ev ?_
 refine ah (vH h.eP TN TN) ?_
 refine ev ?_
 refine ah (ET h.oD TN TN) ?_
 refine ev ?_
 refine ⟨by unfold jl;decide +kernel,?_⟩
 refine ev ?_
 refine ah (qK h.fK k1 k3) ?_
 refine ev ?_
 refine ah (qK h.fK l1 l3) ?_
 refine ev ?_
 refine ah (vH h.eP TN TN) ?_
 refine ev ?_
 refine ah (ET h.oD TN TN) ?_
 refine ev ?_
 refine ⟨by unfold jl;decide +kernel,?_⟩
 refine ev ?_
 refine ah (qK h.fK k1 l1) ?_
 refine ev ?_
 refine ah (ET h.oD TN TN) ?_
 refine ev ?_
 refine ah (IX h.sZ k2 l2) ?_
 refine ev ?_
 refine ah (IX h.sZ k3 l3) ?_
 refine ev ?_
 refine ah (Vd h.Lm TN TN) ?_
 refine ev ?_
 refine ah (qK h.fK TN (dS (aeF _ _))) ?_
 refine ev ?_
 refine ⟨by unfold jl;decide +kernel,?_⟩
 refine ev ?_
 have hG : Ls k l = (((iJ k l).ok && (CX k l).ok && (Iu k l).ok) && (Lr k l).ok):=rfl
 rw [hG]
 clear hG
 cases hg : ((iJ k l).ok && (CX k l).ok && (Iu k l).ok)
 ·rw [hg] at cv
  refine ah cv ?_
  refine ev ?_
  exact Lp Nl jq
 rw [hg] at cv
 refine ah cv ?_
 refine ev ?_
 cases hE : (Lr k l).ok
 ·rw [hE] at co
  refine ah co ?_
  refine ev ?_
  exact Lp Nl jq
 rw [hE] at co
 refine ah co ?_
 refine ev ?_
 refine ⟨by unfold jl;decide +kernel,?_⟩
 refine ev ?_
 exact aC _
theorem akM {σ : Store} {c9 d3 e3 t9 u3 v3 : List V} {os : List Nat} {n m : Int} {b : Bool} (h : dY σ (c9 ++ (d3 ++ e3)) (t9 ++ (u3 ++ v3)) os) (hl : c9.length = t9.length) (hl2 : d3.length = u3.length) (hn : os.Nodup) :
  Fin σ (.eF [.agg (.int .i64 n :: .int .i64 m :: c9),.agg e3,.bool b]) (.eF [.agg (.int .i64 n :: .int .i64 m :: t9),.agg v3,.bool b]):=by
 obtain ⟨a1,a2,o1,o2,e,rfl,h1,h2⟩:=gu h
 obtain ⟨rfl,rfl⟩:=List.append_inj e (by rw [hl];exact h1.len.symm)
 obtain ⟨a3,a4,o3,o4,e,rfl,h3,h4⟩:=gu h2
 obtain ⟨rfl,rfl⟩:=List.append_inj e (by rw [hl2];exact h3.len.symm)
 refine rF (os:=o1 ++ o4) (OL (jh (fD (BD (BD h1))) ?_)) ?_
 ·have:=jh (fD h4) (jG (b:=b) (σ:=σ) iq)
  rwa [List.append_nil] at this
 ·refine hn.sublist ?_
  exact List.Sublist.append (List.Sublist.refl _) (List.sublist_append_right _ _)
theorem Ep.TR {s : Store} {cs ts : List V} {os : List Nat} {L : List (Nat × Obj)} (E : Ep s cs ts os L) {x y z w v : Option Obj} : Ep (((((s ++ [x]) ++ [y]).set (s.length + 1) z).set s.length w).set (s.length + 1) v) cs ts os L:=by
 have h0 : ∀ q,q < s.length → aj (((((s ++ [x]) ++ [y]).set (s.length + 1) z).set s.length w).set (s.length + 1) v) q = aj s q:=by
  intro q hq
  rw [aH (by omega),aH (by omega),aH (by omega),List.append_assoc,eY hq]
 exact ⟨E.c.frame fun q hq=>h0 q (E.c.lt q hq),fun q hq=>⟨(h0 _ (E.lt q hq)).trans (E.l q hq).1,(E.l q hq).2⟩⟩
theorem Got.aaz {σ σ2 : Store} {r : V} {x : Lk} {y : R} {b : Bool} {os : List Nat} (g : Got σ σ2 r (.eF [IL x,aU y,.bool b]) os) : ∃ c3 c4 c6 c7 c9 c10 e1 e2,r = .eF [.agg [iv x.a,iv x.b,.bool x.w.neg,c3,c4,.bool x.dx.neg,c6,c7,.bool x.dy.neg,c9,c10],.agg [.bool y.neg,e1,e2],.bool b] ∧
  dY σ2 [iv x.a,iv x.b,.bool x.w.neg,c3,c4,.bool x.dx.neg,c6,c7,.bool x.dy.neg,c9,c10,.bool y.neg,e1,e2] (x.cells ++ y.cells) os:=by
 obtain ⟨v,w,rfl,g2⟩:=g.as9
 obtain ⟨cs,e,h⟩:=g2.ow.bP
 cases e
 obtain ⟨v1,vs,o1,o2,e1,rfl,h1,h2⟩:=h.inv
 cases e1
 obtain ⟨w1,vs2,o3,o4,e1,rfl,h3,h4⟩:=h2.inv
 cases e1
 obtain ⟨_,rfl⟩:=h4.DJ
 obtain ⟨c,rfl,h5⟩:=h1.bP
 obtain ⟨e,rfl,h6⟩:=h3.bP
 obtain ⟨c3,c4,c6,c7,c9,c10,rfl⟩:=h5.lk
 obtain ⟨e1,e2,rfl⟩:=h6.rat
 refine ⟨c3,c4,c6,c7,c9,c10,e1,e2,rfl,?_⟩
 rw [List.append_nil]
 exact dB h5 h6
theorem OV {σ : Store} : Fin σ (.eF [.agg [iv 0,iv 0,.bool false,.ak,.ak,.bool false,.ak,.ak,.bool false,.ak,.ak],.agg [.bool false,.ak,.ak],.bool false]) (.eF [IL Lk0,aU R0,.bool false]) :=
 ⟨.eF [IL Lk0,aU R0,.bool false],[],Lp Nl jq,OL (jh (o1:=[]) (fD (BD (BD (jG (jh (o1:=[]) eX (jh (o1:=[]) eX (jG (jh (o1:=[]) eX (jh (o1:=[]) eX (jG (jh (o1:=[]) eX (jh (o1:=[]) eX iq))))))))))))
  (jh (o1:=[]) (fD (jG (jh (o1:=[]) eX (jh (o1:=[]) eX iq)))) (jG iq))),.nil⟩
theorem Jo {T : Tb} (h : xq T) {k l : Lk} (hk : k.w.cn ∧ k.dx.cn ∧ k.dy.cn) (hl : l.w.cn ∧ l.dx.cn ∧ l.dy.cn) : PO T 140 [IL k,IL l] (.eF [IL (if Ls k l = true then mgL k l else Lk0),aU (if Ls k l = true then Lr k l else R0),.bool (Ls k l)]):=by
 obtain ⟨k1,k2,k3⟩:=hk
 obtain ⟨l1,l2,l3⟩:=hl
 refine dX (fun x d=>(x == 131 && d == 18) || (x == 156 && d == 35) || (x == 156 && d == 47) || (x == 156 && d == 53) || (x == 157 && d == 65)) h.hT ?_
 simp only [pF,Lz,St.enter,List.length_cons,List.length_nil,Nat.zero_add]
 refine ew ?_
 refine ⟨by unfold jl;decide +kernel,?_⟩
 refine ew ?_
 refine fJ (show PO T 131 [aU k.w,aU l.w] (aU (iJ k l)) from QF h.dA k1 l1) (by (refine ew ?_;try with_reducible exact True.intro)) ?_
 intro r q1 o1 G
 have hO:=G.ow
 have gn:=G.nd
 have gf:=G.fresh
 have go:=G.old
 have gl:=G.len
 clear G
 obtain ⟨_,rfl,hQ1⟩:=hO.bP
 obtain ⟨x1,x2,rfl⟩:=hQ1.rat
 have E : Ep [some ⟨11,[[iv k.a,iv k.b,.bool k.w.neg,ints k.w.mag,ints k.w.den,.bool k.dx.neg,ints k.dx.mag,ints k.dx.den,.bool k.dy.neg,ints k.dy.mag,ints k.dy.den]]⟩,some ⟨11,[[iv l.a,iv l.b,.bool l.w.neg,ints l.w.mag,ints l.w.den,.bool l.dx.neg,ints l.dx.mag,ints l.dx.den,.bool l.dy.neg,ints l.dy.mag,ints l.dy.den]]⟩,some ⟨11,[[iv 0,iv 0,.bool false,.ak,.ak,.bool false,.ak,.ak,.bool false,.ak,.ak]]⟩,some ⟨3,[[.bool false,.ak,.ak]]⟩,some ⟨3,[[.bool k.w.neg,ints k.w.mag,ints k.w.den]]⟩,some ⟨3,[[.bool l.w.neg,ints l.w.mag,ints l.w.den]]⟩] [] [] [] [(0,⟨11,[[iv k.a,iv k.b,.bool k.w.neg,ints k.w.mag,ints k.w.den,.bool k.dx.neg,ints k.dx.mag,ints k.dx.den,.bool k.dy.neg,ints k.dy.mag,ints k.dy.den]]⟩),(1,⟨11,[[iv l.a,iv l.b,.bool l.w.neg,ints l.w.mag,ints l.w.den,.bool l.dx.neg,ints l.dx.mag,ints l.dx.den,.bool l.dy.neg,ints l.dy.mag,ints l.dy.den]]⟩),(2,⟨11,[[iv 0,iv 0,.bool false,.ak,.ak,.bool false,.ak,.ak,.bool false,.ak,.ak]]⟩),(3,⟨3,[[.bool false,.ak,.ak]]⟩),(4,⟨3,[[.bool k.w.neg,ints k.w.mag,ints k.w.den]]⟩),(5,⟨3,[[.bool l.w.neg,ints l.w.mag,ints l.w.den]]⟩)]:=⟨U2,by simp [aj]⟩
 have E2:=E.got (s1:=[some ⟨11,[[iv k.a,iv k.b,.bool k.w.neg,ints k.w.mag,ints k.w.den,.bool k.dx.neg,ints k.dx.mag,ints k.dx.den,.bool k.dy.neg,ints k.dy.mag,ints k.dy.den]]⟩,some ⟨11,[[iv l.a,iv l.b,.bool l.w.neg,ints l.w.mag,ints l.w.den,.bool l.dx.neg,ints l.dx.mag,ints l.dx.den,.bool l.dy.neg,ints l.dy.mag,ints l.dy.den]]⟩,some ⟨11,[[iv 0,iv 0,.bool false,.ak,.ak,.bool false,.ak,.ak,.bool false,.ak,.ak]]⟩,some ⟨3,[[.bool false,.ak,.ak]]⟩,some ⟨3,[[.bool k.w.neg,ints k.w.mag,ints k.w.den]]⟩,some ⟨3,[[.bool l.w.neg,ints l.w.mag,ints l.w.den]]⟩] ++ [none]) (fun q hq=>by first | exact eY hq | (simp only [List.append_assoc];exact eY hq)) (by simp) (hQ1) (by simpa using gn) (by simpa using gf) (by simpa using go)
 have F0:=E.free (s1:=[some ⟨11,[[iv k.a,iv k.b,.bool k.w.neg,ints k.w.mag,ints k.w.den,.bool k.dx.neg,ints k.dx.mag,ints k.dx.den,.bool k.dy.neg,ints k.dy.mag,ints k.dy.den]]⟩,some ⟨11,[[iv l.a,iv l.b,.bool l.w.neg,ints l.w.mag,ints l.w.den,.bool l.dx.neg,ints l.dx.mag,ints l.dx.den,.bool l.dy.neg,ints l.dy.mag,ints l.dy.den]]⟩,some ⟨11,[[iv 0,iv 0,.bool false,.ak,.ak,.bool false,.ak,.ak,.bool false,.ak,.ak]]⟩,some ⟨3,[[.bool false,.ak,.ak]]⟩,some ⟨3,[[.bool k.w.neg,ints k.w.mag,ints k.w.den]]⟩,some ⟨3,[[.bool l.w.neg,ints l.w.mag,ints l.w.den]]⟩] ++ [none]) (p:=6) (by simpa using gf) (by simp) (by simp)
 have hq : 7 ≤ q1.length:=by simpa using gl
 clear E gn gf go gl
 have E : Ep q1 [.bool (iJ k l).neg,x1,x2] [.bool (iJ k l).neg,ints (iJ k l).mag,ints (iJ k l).den] _ [(0,⟨11,[[iv k.a,iv k.b,.bool k.w.neg,ints k.w.mag,ints k.w.den,.bool k.dx.neg,ints k.dx.mag,ints k.dx.den,.bool k.dy.neg,ints k.dy.mag,ints k.dy.den]]⟩),(1,⟨11,[[iv l.a,iv l.b,.bool l.w.neg,ints l.w.mag,ints l.w.den,.bool l.dx.neg,ints l.dx.mag,ints l.dx.den,.bool l.dy.neg,ints l.dy.mag,ints l.dy.den]]⟩),(2,⟨11,[[iv 0,iv 0,.bool false,.ak,.ak,.bool false,.ak,.ak,.bool false,.ak,.ak]]⟩),(3,⟨3,[[.bool false,.ak,.ak]]⟩),(4,⟨3,[[.bool k.w.neg,ints k.w.mag,ints k.w.den]]⟩),(5,⟨3,[[.bool l.w.neg,ints l.w.mag,ints l.w.den]]⟩)]:=E2
 clear E2
 replace E:=E.EW (p:=6) (ob:=⟨3,[[.bool (iJ k l).neg,x1,x2]]⟩) (L':=[(0,⟨11,[[iv k.a,iv k.b,.bool k.w.neg,ints k.w.mag,ints k.w.den,.bool k.dx.neg,ints k.dx.mag,ints k.dx.den,.bool k.dy.neg,ints k.dy.mag,ints k.dy.den]]⟩),(1,⟨11,[[iv l.a,iv l.b,.bool l.w.neg,ints l.w.mag,ints l.w.den,.bool l.dx.neg,ints l.dx.mag,ints l.dx.den,.bool l.dy.neg,ints l.dy.mag,ints l.dy.den]]⟩),(2,⟨11,[[iv 0,iv 0,.bool false,.ak,.ak,.bool false,.ak,.ak,.bool false,.ak,.ak]]⟩),(3,⟨3,[[.bool false,.ak,.ak]]⟩),(4,⟨3,[[.bool k.w.neg,ints k.w.mag,ints k.w.den]]⟩),(5,⟨3,[[.bool l.w.neg,ints l.w.mag,ints l.w.den]]⟩),(6,⟨3,[[.bool (iJ k l).neg,x1,x2]]⟩)]) F0 (by omega) (by simp)
 have R:=And.intro (E.res1 1 rfl rfl (au _ _)) (And.intro (fun x=>(E.snoc (x:=x)).res1 1 rfl rfl (au _ _)) (And.intro (E.res1 2 rfl rfl (au _ _)) (fun x=>(E.snoc (x:=x)).res1 2 rfl rfl (au _ _))))
 have LF:=And.intro (E.leaf 1 rfl rfl) (E.leaf 2 rfl rfl)
 have LO:=And.intro (E.at0 (p:=0) (ob:=⟨11,[[iv k.a,iv k.b,.bool k.w.neg,ints k.w.mag,ints k.w.den,.bool k.dx.neg,ints k.dx.mag,ints k.dx.den,.bool k.dy.neg,ints k.dy.mag,ints k.dy.den]]⟩) (by simp)) (And.intro (E.at0 (p:=1) (ob:=⟨11,[[iv l.a,iv l.b,.bool l.w.neg,ints l.w.mag,ints l.w.den,.bool l.dx.neg,ints l.dx.mag,ints l.dx.den,.bool l.dy.neg,ints l.dy.mag,ints l.dy.den]]⟩) (by simp)) (And.intro (E.at0 (p:=2) (ob:=⟨11,[[iv 0,iv 0,.bool false,.ak,.ak,.bool false,.ak,.ak,.bool false,.ak,.ak]]⟩) (by simp)) (And.intro (E.at0 (p:=3) (ob:=⟨3,[[.bool false,.ak,.ak]]⟩) (by simp)) (And.intro (E.at0 (p:=4) (ob:=⟨3,[[.bool k.w.neg,ints k.w.mag,ints k.w.den]]⟩) (by simp)) (And.intro (E.at0 (p:=5) (ob:=⟨3,[[.bool l.w.neg,ints l.w.mag,ints l.w.den]]⟩) (by simp)) (E.at0 (p:=6) (ob:=⟨3,[[.bool (iJ k l).neg,x1,x2]]⟩) (by simp)))))))
 refine xQ @R @LF @LO @aB @aS @List.set_set.{0} ?_
 obtain ⟨s1,hs⟩ : ∃ s,(q1.set 6 (some ⟨3,[[.bool (iJ k l).neg,x1,x2]]⟩)) = s:=⟨_,rfl⟩
 have hls : q1.length = s1.length:=by rw [← hs];simp
 simp only [hs] at *
 clear hs
 simp only [hls] at *
 clear hls R LF LO
 have R:=And.intro (E.res1 1 rfl rfl (au _ _)) (And.intro (fun x=>(E.snoc (x:=x)).res1 1 rfl rfl (au _ _)) (And.intro (E.res1 2 rfl rfl (au _ _)) (fun x=>(E.snoc (x:=x)).res1 2 rfl rfl (au _ _))))
 have LF:=And.intro (E.leaf 1 rfl rfl) (E.leaf 2 rfl rfl)
 have LO:=And.intro (E.at0 (p:=0) (ob:=⟨11,[[iv k.a,iv k.b,.bool k.w.neg,ints k.w.mag,ints k.w.den,.bool k.dx.neg,ints k.dx.mag,ints k.dx.den,.bool k.dy.neg,ints k.dy.mag,ints k.dy.den]]⟩) (by simp)) (And.intro (E.at0 (p:=1) (ob:=⟨11,[[iv l.a,iv l.b,.bool l.w.neg,ints l.w.mag,ints l.w.den,.bool l.dx.neg,ints l.dx.mag,ints l.dx.den,.bool l.dy.neg,ints l.dy.mag,ints l.dy.den]]⟩) (by simp)) (And.intro (E.at0 (p:=2) (ob:=⟨11,[[iv 0,iv 0,.bool false,.ak,.ak,.bool false,.ak,.ak,.bool false,.ak,.ak]]⟩) (by simp)) (And.intro (E.at0 (p:=3) (ob:=⟨3,[[.bool false,.ak,.ak]]⟩) (by simp)) (And.intro (E.at0 (p:=4) (ob:=⟨3,[[.bool k.w.neg,ints k.w.mag,ints k.w.den]]⟩) (by simp)) (And.intro (E.at0 (p:=5) (ob:=⟨3,[[.bool l.w.neg,ints l.w.mag,ints l.w.den]]⟩) (by simp)) (E.at0 (p:=6) (ob:=⟨3,[[.bool (iJ k l).neg,x1,x2]]⟩) (by simp)))))))
 refine xQ @R @LF @LO @aB @aS @List.set_set.{0} ?_
 have E2:=E.push (ob:=⟨11,[[.int .i64 k.a,.int .i64 k.b,.bool (iJ k l).neg,x1,x2,.bool false,.ak,.ak,.bool false,.ak,.ak]]⟩)
 clear E
 have E : Ep ((s1 ++ [none]).set s1.length (some ⟨11,[[.int .i64 k.a,.int .i64 k.b,.bool (iJ k l).neg,x1,x2,.bool false,.ak,.ak,.bool false,.ak,.ak]]⟩)) [.bool (iJ k l).neg,x1,x2] [.bool (iJ k l).neg,ints (iJ k l).mag,ints (iJ k l).den] ([] ++ o1) [(0,⟨11,[[iv k.a,iv k.b,.bool k.w.neg,ints k.w.mag,ints k.w.den,.bool k.dx.neg,ints k.dx.mag,ints k.dx.den,.bool k.dy.neg,ints k.dy.mag,ints k.dy.den]]⟩),(1,⟨11,[[iv l.a,iv l.b,.bool l.w.neg,ints l.w.mag,ints l.w.den,.bool l.dx.neg,ints l.dx.mag,ints l.dx.den,.bool l.dy.neg,ints l.dy.mag,ints l.dy.den]]⟩),(2,⟨11,[[iv 0,iv 0,.bool false,.ak,.ak,.bool false,.ak,.ak,.bool false,.ak,.ak]]⟩),(3,⟨3,[[.bool false,.ak,.ak]]⟩),(4,⟨3,[[.bool k.w.neg,ints k.w.mag,ints k.w.den]]⟩),(5,⟨3,[[.bool l.w.neg,ints l.w.mag,ints l.w.den]]⟩),(6,⟨3,[[.bool (iJ k l).neg,x1,x2]]⟩),(s1.length,⟨11,[[.int .i64 k.a,.int .i64 k.b,.bool (iJ k l).neg,x1,x2,.bool false,.ak,.ak,.bool false,.ak,.ak]]⟩)]:=by rw [Xm];exact E2
 clear E2 R LF LO
 obtain ⟨p10,hp⟩ : ∃ p,s1.length = p:=⟨_,rfl⟩
 obtain ⟨s2,hs⟩ : ∃ s,((s1 ++ [none]).set s1.length (some ⟨11,[[.int .i64 k.a,.int .i64 k.b,.bool (iJ k l).neg,x1,x2,.bool false,.ak,.ak,.bool false,.ak,.ak]]⟩)) = s:=⟨_,rfl⟩
 have hls : s2.length = p10 + 1:=by rw [← hs,← hp];simp
 simp only [hs] at *
 clear hs
 simp only [hp] at *
 clear hp
 have R:=And.intro (E.res1 1 rfl rfl (au _ _)) (And.intro (fun x=>(E.snoc (x:=x)).res1 1 rfl rfl (au _ _)) (And.intro (E.res1 2 rfl rfl (au _ _)) (fun x=>(E.snoc (x:=x)).res1 2 rfl rfl (au _ _))))
 have LF:=And.intro (E.leaf 1 rfl rfl) (E.leaf 2 rfl rfl)
 have LO:=And.intro (E.at0 (p:=0) (ob:=⟨11,[[iv k.a,iv k.b,.bool k.w.neg,ints k.w.mag,ints k.w.den,.bool k.dx.neg,ints k.dx.mag,ints k.dx.den,.bool k.dy.neg,ints k.dy.mag,ints k.dy.den]]⟩) (by simp)) (And.intro (E.at0 (p:=1) (ob:=⟨11,[[iv l.a,iv l.b,.bool l.w.neg,ints l.w.mag,ints l.w.den,.bool l.dx.neg,ints l.dx.mag,ints l.dx.den,.bool l.dy.neg,ints l.dy.mag,ints l.dy.den]]⟩) (by simp)) (And.intro (E.at0 (p:=2) (ob:=⟨11,[[iv 0,iv 0,.bool false,.ak,.ak,.bool false,.ak,.ak,.bool false,.ak,.ak]]⟩) (by simp)) (And.intro (E.at0 (p:=3) (ob:=⟨3,[[.bool false,.ak,.ak]]⟩) (by simp)) (And.intro (E.at0 (p:=4) (ob:=⟨3,[[.bool k.w.neg,ints k.w.mag,ints k.w.den]]⟩) (by simp)) (And.intro (E.at0 (p:=5) (ob:=⟨3,[[.bool l.w.neg,ints l.w.mag,ints l.w.den]]⟩) (by simp)) (And.intro (E.at0 (p:=6) (ob:=⟨3,[[.bool (iJ k l).neg,x1,x2]]⟩) (by simp)) (E.at0 (p:=p10) (ob:=⟨11,[[.int .i64 k.a,.int .i64 k.b,.bool (iJ k l).neg,x1,x2,.bool false,.ak,.ak,.bool false,.ak,.ak]]⟩) (by simp))))))))
 refine ah (vI h.fM k1 k2) ?_
 refine xQ @R @LF @LO @aB @aS @List.set_set.{0} ?_
 refine ah (vI h.fM l1 l2) ?_
 refine xQ @R @LF @LO @aB @aS @List.set_set.{0} ?_
 refine ah (yD h.dA KQ KQ) ?_
 refine xQ @R @LF @LO @aB @aS @List.set_set.{0} ?_
 refine IZ (fun o=>o ∈ ([] ++ o1)) (show PO T 156 [aU (qj (mulR k.w k.dx) (mulR l.w l.dx)),aU (iJ k l)] (aU (CX k l)) from JY h.oI KQ (Np k l)) (by (refine xQ @R @LF @LO @aB @aS @List.set_set.{0} ?_;try with_reducible exact True.intro)) ?_ ?_
 ·intro o ho
  have ho : o ∈ reach s2 FD (aU (qj (mulR k.w k.dx) (mulR l.w l.dx))) ++ (reach s2 (11 + 1) (.agg [.bool (iJ k l).neg,x1,x2]) ++ []):=ho
  rw [show reach s2 FD (aU (qj (mulR k.w k.dx) (mulR l.w l.dx))) = [] from by (refine ew ?_;try with_reducible exact True.intro),List.nil_append,List.append_nil] at ho
  obtain ⟨c,hc,ho⟩:=EX.1 ho
  rcases List.mem_cons.1 hc with e | hc
  ·rw [e] at ho;simp [reach] at ho
  rcases List.mem_cons.1 hc with e | hc
  ·rw [e] at ho;exact E.reach 1 rfl rfl _ o ho
  ·rw [List.mem_singleton.1 hc] at ho;exact E.reach 2 rfl rfl _ o ho
 intro Rr r q3 o3 hRr G
 have hO:=G.ow
 have gn:=G.nd
 have gf:=G.fresh
 have go:=G.old
 have gl:=G.len
 clear G
 obtain ⟨_,rfl,hQ3⟩:=hO.bP
 obtain ⟨x3,x4,rfl⟩:=hQ3.rat
 have E2:=E.got (s1:=s2) (fun q hq=>rfl) (Nat.le_refl _) hQ3 gn gf go
 have F : p10 ∉ ([] ++ o1) ++ o3:=by
  intro hm
  rcases List.mem_append.1 hm with hm | hm
  ·exact (E.l (p10,⟨11,[[.int .i64 k.a,.int .i64 k.b,.bool (iJ k l).neg,x1,x2,.bool false,.ak,.ak,.bool false,.ak,.ak]]⟩) (by simp)).2 hm
  ·have:=gf _ hm;omega
 have hq3 : p10 + 1 ≤ q3.length:=by omega
 have hRn : ∀ o ∈ Rr,o ≠ p10:=fun o ho e=>(E.l (p10,⟨11,[[.int .i64 k.a,.int .i64 k.b,.bool (iJ k l).neg,x1,x2,.bool false,.ak,.ak,.bool false,.ak,.ak]]⟩) (by simp)).2 (e ▸ hRr o ho)
 clear E gn gf go gl hO R LF LO hRr
 have E : Ep q3 [.bool (iJ k l).neg,x1,x2,.bool (CX k l).neg,x3,x4] [.bool (iJ k l).neg,ints (iJ k l).mag,ints (iJ k l).den,.bool (CX k l).neg,ints (CX k l).mag,ints (CX k l).den] (([] ++ o1) ++ o3) [(0,⟨11,[[iv k.a,iv k.b,.bool k.w.neg,ints k.w.mag,ints k.w.den,.bool k.dx.neg,ints k.dx.mag,ints k.dx.den,.bool k.dy.neg,ints k.dy.mag,ints k.dy.den]]⟩),(1,⟨11,[[iv l.a,iv l.b,.bool l.w.neg,ints l.w.mag,ints l.w.den,.bool l.dx.neg,ints l.dx.mag,ints l.dx.den,.bool l.dy.neg,ints l.dy.mag,ints l.dy.den]]⟩),(2,⟨11,[[iv 0,iv 0,.bool false,.ak,.ak,.bool false,.ak,.ak,.bool false,.ak,.ak]]⟩),(3,⟨3,[[.bool false,.ak,.ak]]⟩),(4,⟨3,[[.bool k.w.neg,ints k.w.mag,ints k.w.den]]⟩),(5,⟨3,[[.bool l.w.neg,ints l.w.mag,ints l.w.den]]⟩),(6,⟨3,[[.bool (iJ k l).neg,x1,x2]]⟩),(p10,⟨11,[[.int .i64 k.a,.int .i64 k.b,.bool (iJ k l).neg,x1,x2,.bool false,.ak,.ak,.bool false,.ak,.ak]]⟩)]:=E2
 clear E2
 have R:=And.intro (E.res1 1 rfl rfl (au _ _)) (And.intro (fun x=>(E.snoc (x:=x)).res1 1 rfl rfl (au _ _)) (And.intro (E.res1 2 rfl rfl (au _ _)) (And.intro (fun x=>(E.snoc (x:=x)).res1 2 rfl rfl (au _ _)) (And.intro (E.res1 4 rfl rfl (au _ _)) (And.intro (fun x=>(E.snoc (x:=x)).res1 4 rfl rfl (au _ _)) (And.intro (E.res1 5 rfl rfl (au _ _)) (fun x=>(E.snoc (x:=x)).res1 5 rfl rfl (au _ _))))))))
 have LF:=And.intro (E.leaf 1 rfl rfl) (And.intro (E.leaf 2 rfl rfl) (And.intro (E.leaf 4 rfl rfl) (E.leaf 5 rfl rfl)))
 have LO:=And.intro (E.at0 (p:=0) (ob:=⟨11,[[iv k.a,iv k.b,.bool k.w.neg,ints k.w.mag,ints k.w.den,.bool k.dx.neg,ints k.dx.mag,ints k.dx.den,.bool k.dy.neg,ints k.dy.mag,ints k.dy.den]]⟩) (by simp)) (And.intro (E.at0 (p:=1) (ob:=⟨11,[[iv l.a,iv l.b,.bool l.w.neg,ints l.w.mag,ints l.w.den,.bool l.dx.neg,ints l.dx.mag,ints l.dx.den,.bool l.dy.neg,ints l.dy.mag,ints l.dy.den]]⟩) (by simp)) (And.intro (E.at0 (p:=2) (ob:=⟨11,[[iv 0,iv 0,.bool false,.ak,.ak,.bool false,.ak,.ak,.bool false,.ak,.ak]]⟩) (by simp)) (And.intro (E.at0 (p:=3) (ob:=⟨3,[[.bool false,.ak,.ak]]⟩) (by simp)) (And.intro (E.at0 (p:=4) (ob:=⟨3,[[.bool k.w.neg,ints k.w.mag,ints k.w.den]]⟩) (by simp)) (And.intro (E.at0 (p:=5) (ob:=⟨3,[[.bool l.w.neg,ints l.w.mag,ints l.w.den]]⟩) (by simp)) (And.intro (E.at0 (p:=6) (ob:=⟨3,[[.bool (iJ k l).neg,x1,x2]]⟩) (by simp)) (E.at0 (p:=p10) (ob:=⟨11,[[.int .i64 k.a,.int .i64 k.b,.bool (iJ k l).neg,x1,x2,.bool false,.ak,.ak,.bool false,.ak,.ak]]⟩) (by simp))))))))
 refine xQ @R @LF @LO @aB @aS @List.set_set.{0} ?_
 refine ⟨?_,?_⟩
 ·revert Rr
  refine I4 _ (fun R=>∀ o ∈ R,o ≠ p10) 2 10 rfl (fun _=>rfl) ?_ ?_
  ·intro R hR b hb w hw hm
   simp only [List.mem_cons,List.not_mem_nil,or_false] at hb
   rcases hb with rfl | rfl | rfl | rfl | rfl | rfl | rfl | rfl | rfl | rfl | rfl | rfl | rfl
   all_goals first | (cases hw;done) | (rw [List.mem_singleton.1 hw] at hm;exact hR _ hm rfl)
  ·have hn0 : 7 ≤ p10:=hq
   generalize p10 = m at hn0 ⊢
   revert m
   refine qo _ _ 7 (fun n hn=>?_) (fun n hn=>?_) ?_
   ·simp only [sh];split <;> omega
   ·simp [Rq,sh];try omega
   ·unfold jl;decide +kernel
 clear hRn Rr
 replace E:=E.EW (p:=p10) (ob:=⟨11,[[.int .i64 k.a,.int .i64 k.b,.bool (iJ k l).neg,x1,x2,.bool (CX k l).neg,x3,x4,.bool false,.ak,.ak]]⟩) (L':=[(0,⟨11,[[iv k.a,iv k.b,.bool k.w.neg,ints k.w.mag,ints k.w.den,.bool k.dx.neg,ints k.dx.mag,ints k.dx.den,.bool k.dy.neg,ints k.dy.mag,ints k.dy.den]]⟩),(1,⟨11,[[iv l.a,iv l.b,.bool l.w.neg,ints l.w.mag,ints l.w.den,.bool l.dx.neg,ints l.dx.mag,ints l.dx.den,.bool l.dy.neg,ints l.dy.mag,ints l.dy.den]]⟩),(2,⟨11,[[iv 0,iv 0,.bool false,.ak,.ak,.bool false,.ak,.ak,.bool false,.ak,.ak]]⟩),(3,⟨3,[[.bool false,.ak,.ak]]⟩),(4,⟨3,[[.bool k.w.neg,ints k.w.mag,ints k.w.den]]⟩),(5,⟨3,[[.bool l.w.neg,ints l.w.mag,ints l.w.den]]⟩),(6,⟨3,[[.bool (iJ k l).neg,x1,x2]]⟩),(p10,⟨11,[[.int .i64 k.a,.int .i64 k.b,.bool (iJ k l).neg,x1,x2,.bool (CX k l).neg,x3,x4,.bool false,.ak,.ak]]⟩)]) F (by omega) (by simp;try omega)
 clear R LF LO F
 obtain ⟨s3,hs⟩ : ∃ s,(q3.set p10 (some ⟨11,[[.int .i64 k.a,.int .i64 k.b,.bool (iJ k l).neg,x1,x2,.bool (CX k l).neg,x3,x4,.bool false,.ak,.ak]]⟩)) = s:=⟨_,rfl⟩
 have hls : q3.length = s3.length:=by rw [← hs];simp
 simp only [hs] at *
 clear hs
 simp only [hls] at *
 clear hls
 have R:=And.intro (E.res1 1 rfl rfl (au _ _)) (And.intro (fun x=>(E.snoc (x:=x)).res1 1 rfl rfl (au _ _)) (And.intro (E.res1 2 rfl rfl (au _ _)) (And.intro (fun x=>(E.snoc (x:=x)).res1 2 rfl rfl (au _ _)) (And.intro (E.res1 4 rfl rfl (au _ _)) (And.intro (fun x=>(E.snoc (x:=x)).res1 4 rfl rfl (au _ _)) (And.intro (E.res1 5 rfl rfl (au _ _)) (fun x=>(E.snoc (x:=x)).res1 5 rfl rfl (au _ _))))))))
 have LF:=And.intro (E.leaf 1 rfl rfl) (And.intro (E.leaf 2 rfl rfl) (And.intro (E.leaf 4 rfl rfl) (E.leaf 5 rfl rfl)))
 have LO:=And.intro (E.at0 (p:=0) (ob:=⟨11,[[iv k.a,iv k.b,.bool k.w.neg,ints k.w.mag,ints k.w.den,.bool k.dx.neg,ints k.dx.mag,ints k.dx.den,.bool k.dy.neg,ints k.dy.mag,ints k.dy.den]]⟩) (by simp)) (And.intro (E.at0 (p:=1) (ob:=⟨11,[[iv l.a,iv l.b,.bool l.w.neg,ints l.w.mag,ints l.w.den,.bool l.dx.neg,ints l.dx.mag,ints l.dx.den,.bool l.dy.neg,ints l.dy.mag,ints l.dy.den]]⟩) (by simp)) (And.intro (E.at0 (p:=2) (ob:=⟨11,[[iv 0,iv 0,.bool false,.ak,.ak,.bool false,.ak,.ak,.bool false,.ak,.ak]]⟩) (by simp)) (And.intro (E.at0 (p:=3) (ob:=⟨3,[[.bool false,.ak,.ak]]⟩) (by simp)) (And.intro (E.at0 (p:=4) (ob:=⟨3,[[.bool k.w.neg,ints k.w.mag,ints k.w.den]]⟩) (by simp)) (And.intro (E.at0 (p:=5) (ob:=⟨3,[[.bool l.w.neg,ints l.w.mag,ints l.w.den]]⟩) (by simp)) (And.intro (E.at0 (p:=6) (ob:=⟨3,[[.bool (iJ k l).neg,x1,x2]]⟩) (by simp)) (E.at0 (p:=p10) (ob:=⟨11,[[.int .i64 k.a,.int .i64 k.b,.bool (iJ k l).neg,x1,x2,.bool (CX k l).neg,x3,x4,.bool false,.ak,.ak]]⟩) (by simp))))))))
 have avV : p10 + 1 ≤ s3.length:=by omega
 refine ah (vI h.fM k1 k3) ?_
 refine xQ @R @LF @LO @aB @aS @List.set_set.{0} ?_
 refine ah (vI h.fM l1 l3) ?_
 refine xQ @R @LF @LO @aB @aS @List.set_set.{0} ?_
 refine ah (yD h.dA KQ KQ) ?_
 refine xQ @R @LF @LO @aB @aS @List.set_set.{0} ?_
 refine IZ (fun o=>o ∈ (([] ++ o1) ++ o3)) (show PO T 156 [aU (qj (mulR k.w k.dy) (mulR l.w l.dy)),aU (iJ k l)] (aU (Iu k l)) from JY h.oI KQ (Np k l)) (by (refine xQ @R @LF @LO @aB @aS @List.set_set.{0} ?_;try with_reducible exact True.intro)) ?_ ?_
 ·intro o ho
  have ho : o ∈ reach s3 FD (aU (qj (mulR k.w k.dy) (mulR l.w l.dy))) ++ (reach s3 (11 + 1) (.agg [.bool (iJ k l).neg,x1,x2]) ++ []):=ho
  rw [show reach s3 FD (aU (qj (mulR k.w k.dy) (mulR l.w l.dy))) = [] from by (refine ew ?_;try with_reducible exact True.intro),List.nil_append,List.append_nil] at ho
  obtain ⟨c,hc,ho⟩:=EX.1 ho
  rcases List.mem_cons.1 hc with e | hc
  ·rw [e] at ho;simp [reach] at ho
  rcases List.mem_cons.1 hc with e | hc
  ·rw [e] at ho;exact E.reach 1 rfl rfl _ o ho
  ·rw [List.mem_singleton.1 hc] at ho;exact E.reach 2 rfl rfl _ o ho
 intro Rr r q5 o5 hRr G
 have hO:=G.ow
 have gn:=G.nd
 have gf:=G.fresh
 have go:=G.old
 have gl:=G.len
 clear G
 obtain ⟨_,rfl,hQ5⟩:=hO.bP
 obtain ⟨x5,x6,rfl⟩:=hQ5.rat
 have E2:=E.got (s1:=s3) (fun q hq=>rfl) (Nat.le_refl _) hQ5 gn gf go
 have F : p10 ∉ (([] ++ o1) ++ o3) ++ o5:=by
  intro hm
  rcases List.mem_append.1 hm with hm | hm
  ·exact (E.l (p10,⟨11,[[.int .i64 k.a,.int .i64 k.b,.bool (iJ k l).neg,x1,x2,.bool (CX k l).neg,x3,x4,.bool false,.ak,.ak]]⟩) (by simp)).2 hm
  ·have:=gf _ hm;omega
 have hq5 : p10 + 1 ≤ q5.length:=by omega
 have hRn : ∀ o ∈ Rr,o ≠ p10:=fun o ho e=>(E.l (p10,⟨11,[[.int .i64 k.a,.int .i64 k.b,.bool (iJ k l).neg,x1,x2,.bool (CX k l).neg,x3,x4,.bool false,.ak,.ak]]⟩) (by simp)).2 (e ▸ hRr o ho)
 clear E gn gf go gl hO R LF LO hRr
 have E : Ep q5 [.bool (iJ k l).neg,x1,x2,.bool (CX k l).neg,x3,x4,.bool (Iu k l).neg,x5,x6] [.bool (iJ k l).neg,ints (iJ k l).mag,ints (iJ k l).den,.bool (CX k l).neg,ints (CX k l).mag,ints (CX k l).den,.bool (Iu k l).neg,ints (Iu k l).mag,ints (Iu k l).den] ((([] ++ o1) ++ o3) ++ o5) [(0,⟨11,[[iv k.a,iv k.b,.bool k.w.neg,ints k.w.mag,ints k.w.den,.bool k.dx.neg,ints k.dx.mag,ints k.dx.den,.bool k.dy.neg,ints k.dy.mag,ints k.dy.den]]⟩),(1,⟨11,[[iv l.a,iv l.b,.bool l.w.neg,ints l.w.mag,ints l.w.den,.bool l.dx.neg,ints l.dx.mag,ints l.dx.den,.bool l.dy.neg,ints l.dy.mag,ints l.dy.den]]⟩),(2,⟨11,[[iv 0,iv 0,.bool false,.ak,.ak,.bool false,.ak,.ak,.bool false,.ak,.ak]]⟩),(3,⟨3,[[.bool false,.ak,.ak]]⟩),(4,⟨3,[[.bool k.w.neg,ints k.w.mag,ints k.w.den]]⟩),(5,⟨3,[[.bool l.w.neg,ints l.w.mag,ints l.w.den]]⟩),(6,⟨3,[[.bool (iJ k l).neg,x1,x2]]⟩),(p10,⟨11,[[.int .i64 k.a,.int .i64 k.b,.bool (iJ k l).neg,x1,x2,.bool (CX k l).neg,x3,x4,.bool false,.ak,.ak]]⟩)]:=E2
 clear E2
 have R:=And.intro (E.res1 1 rfl rfl (au _ _)) (And.intro (fun x=>(E.snoc (x:=x)).res1 1 rfl rfl (au _ _)) (And.intro (E.res1 2 rfl rfl (au _ _)) (And.intro (fun x=>(E.snoc (x:=x)).res1 2 rfl rfl (au _ _)) (And.intro (E.res1 4 rfl rfl (au _ _)) (And.intro (fun x=>(E.snoc (x:=x)).res1 4 rfl rfl (au _ _)) (And.intro (E.res1 5 rfl rfl (au _ _)) (And.intro (fun x=>(E.snoc (x:=x)).res1 5 rfl rfl (au _ _)) (And.intro (E.res1 7 rfl rfl (au _ _)) (And.intro (fun x=>(E.snoc (x:=x)).res1 7 rfl rfl (au _ _)) (And.intro (E.res1 8 rfl rfl (au _ _)) (fun x=>(E.snoc (x:=x)).res1 8 rfl rfl (au _ _))))))))))))
 have LF:=And.intro (E.leaf 1 rfl rfl) (And.intro (E.leaf 2 rfl rfl) (And.intro (E.leaf 4 rfl rfl) (And.intro (E.leaf 5 rfl rfl) (And.intro (E.leaf 7 rfl rfl) (E.leaf 8 rfl rfl)))))
 have LO:=And.intro (E.at0 (p:=0) (ob:=⟨11,[[iv k.a,iv k.b,.bool k.w.neg,ints k.w.mag,ints k.w.den,.bool k.dx.neg,ints k.dx.mag,ints k.dx.den,.bool k.dy.neg,ints k.dy.mag,ints k.dy.den]]⟩) (by simp)) (And.intro (E.at0 (p:=1) (ob:=⟨11,[[iv l.a,iv l.b,.bool l.w.neg,ints l.w.mag,ints l.w.den,.bool l.dx.neg,ints l.dx.mag,ints l.dx.den,.bool l.dy.neg,ints l.dy.mag,ints l.dy.den]]⟩) (by simp)) (And.intro (E.at0 (p:=2) (ob:=⟨11,[[iv 0,iv 0,.bool false,.ak,.ak,.bool false,.ak,.ak,.bool false,.ak,.ak]]⟩) (by simp)) (And.intro (E.at0 (p:=3) (ob:=⟨3,[[.bool false,.ak,.ak]]⟩) (by simp)) (And.intro (E.at0 (p:=4) (ob:=⟨3,[[.bool k.w.neg,ints k.w.mag,ints k.w.den]]⟩) (by simp)) (And.intro (E.at0 (p:=5) (ob:=⟨3,[[.bool l.w.neg,ints l.w.mag,ints l.w.den]]⟩) (by simp)) (And.intro (E.at0 (p:=6) (ob:=⟨3,[[.bool (iJ k l).neg,x1,x2]]⟩) (by simp)) (E.at0 (p:=p10) (ob:=⟨11,[[.int .i64 k.a,.int .i64 k.b,.bool (iJ k l).neg,x1,x2,.bool (CX k l).neg,x3,x4,.bool false,.ak,.ak]]⟩) (by simp))))))))
 refine xQ @R @LF @LO @aB @aS @List.set_set.{0} ?_
 refine ⟨?_,?_⟩
 ·revert Rr
  refine I4 _ (fun R=>∀ o ∈ R,o ≠ p10) 2 10 rfl (fun _=>rfl) ?_ ?_
  ·intro R hR b hb w hw hm
   simp only [List.mem_cons,List.not_mem_nil,or_false] at hb
   rcases hb with rfl | rfl | rfl | rfl | rfl | rfl | rfl | rfl | rfl | rfl | rfl | rfl | rfl
   all_goals first | (cases hw;done) | (rw [List.mem_singleton.1 hw] at hm;exact hR _ hm rfl)
  ·refine qp (L':=p10 + 1) (by omega) ?_
   have hn0 : 7 ≤ p10:=hq
   generalize p10 = m at hn0 ⊢
   revert m
   refine qo _ _ 7 (fun n hn=>?_) (fun n hn=>?_) ?_
   ·simp only [sh];split <;> omega
   ·simp [Rq,sh];try omega
   ·unfold jl;decide +kernel
 clear hRn Rr
 replace E:=E.EW (p:=p10) (ob:=⟨11,[[.int .i64 k.a,.int .i64 k.b,.bool (iJ k l).neg,x1,x2,.bool (CX k l).neg,x3,x4,.bool (Iu k l).neg,x5,x6]]⟩) (L':=[(0,⟨11,[[iv k.a,iv k.b,.bool k.w.neg,ints k.w.mag,ints k.w.den,.bool k.dx.neg,ints k.dx.mag,ints k.dx.den,.bool k.dy.neg,ints k.dy.mag,ints k.dy.den]]⟩),(1,⟨11,[[iv l.a,iv l.b,.bool l.w.neg,ints l.w.mag,ints l.w.den,.bool l.dx.neg,ints l.dx.mag,ints l.dx.den,.bool l.dy.neg,ints l.dy.mag,ints l.dy.den]]⟩),(2,⟨11,[[iv 0,iv 0,.bool false,.ak,.ak,.bool false,.ak,.ak,.bool false,.ak,.ak]]⟩),(3,⟨3,[[.bool false,.ak,.ak]]⟩),(4,⟨3,[[.bool k.w.neg,ints k.w.mag,ints k.w.den]]⟩),(5,⟨3,[[.bool l.w.neg,ints l.w.mag,ints l.w.den]]⟩),(6,⟨3,[[.bool (iJ k l).neg,x1,x2]]⟩),(p10,⟨11,[[.int .i64 k.a,.int .i64 k.b,.bool (iJ k l).neg,x1,x2,.bool (CX k l).neg,x3,x4,.bool (Iu k l).neg,x5,x6]]⟩)]) F (by omega) (by simp;try omega)
 clear R LF LO F
 obtain ⟨s5,hs⟩ : ∃ s,(q5.set p10 (some ⟨11,[[.int .i64 k.a,.int .i64 k.b,.bool (iJ k l).neg,x1,x2,.bool (CX k l).neg,x3,x4,.bool (Iu k l).neg,x5,x6]]⟩)) = s:=⟨_,rfl⟩
 have hls : q5.length = s5.length:=by rw [← hs];simp
 simp only [hs] at *
 clear hs
 simp only [hls] at *
 clear hls
 have R:=And.intro (E.res1 1 rfl rfl (au _ _)) (And.intro (fun x=>(E.snoc (x:=x)).res1 1 rfl rfl (au _ _)) (And.intro (E.res1 2 rfl rfl (au _ _)) (And.intro (fun x=>(E.snoc (x:=x)).res1 2 rfl rfl (au _ _)) (And.intro (E.res1 4 rfl rfl (au _ _)) (And.intro (fun x=>(E.snoc (x:=x)).res1 4 rfl rfl (au _ _)) (And.intro (E.res1 5 rfl rfl (au _ _)) (And.intro (fun x=>(E.snoc (x:=x)).res1 5 rfl rfl (au _ _)) (And.intro (E.res1 7 rfl rfl (au _ _)) (And.intro (fun x=>(E.snoc (x:=x)).res1 7 rfl rfl (au _ _)) (And.intro (E.res1 8 rfl rfl (au _ _)) (fun x=>(E.snoc (x:=x)).res1 8 rfl rfl (au _ _))))))))))))
 have LF:=And.intro (E.leaf 1 rfl rfl) (And.intro (E.leaf 2 rfl rfl) (And.intro (E.leaf 4 rfl rfl) (And.intro (E.leaf 5 rfl rfl) (And.intro (E.leaf 7 rfl rfl) (E.leaf 8 rfl rfl)))))
 have LO:=And.intro (E.at0 (p:=0) (ob:=⟨11,[[iv k.a,iv k.b,.bool k.w.neg,ints k.w.mag,ints k.w.den,.bool k.dx.neg,ints k.dx.mag,ints k.dx.den,.bool k.dy.neg,ints k.dy.mag,ints k.dy.den]]⟩) (by simp)) (And.intro (E.at0 (p:=1) (ob:=⟨11,[[iv l.a,iv l.b,.bool l.w.neg,ints l.w.mag,ints l.w.den,.bool l.dx.neg,ints l.dx.mag,ints l.dx.den,.bool l.dy.neg,ints l.dy.mag,ints l.dy.den]]⟩) (by simp)) (And.intro (E.at0 (p:=2) (ob:=⟨11,[[iv 0,iv 0,.bool false,.ak,.ak,.bool false,.ak,.ak,.bool false,.ak,.ak]]⟩) (by simp)) (And.intro (E.at0 (p:=3) (ob:=⟨3,[[.bool false,.ak,.ak]]⟩) (by simp)) (And.intro (E.at0 (p:=4) (ob:=⟨3,[[.bool k.w.neg,ints k.w.mag,ints k.w.den]]⟩) (by simp)) (And.intro (E.at0 (p:=5) (ob:=⟨3,[[.bool l.w.neg,ints l.w.mag,ints l.w.den]]⟩) (by simp)) (And.intro (E.at0 (p:=6) (ob:=⟨3,[[.bool (iJ k l).neg,x1,x2]]⟩) (by simp)) (E.at0 (p:=p10) (ob:=⟨11,[[.int .i64 k.a,.int .i64 k.b,.bool (iJ k l).neg,x1,x2,.bool (CX k l).neg,x3,x4,.bool (Iu k l).neg,x5,x6]]⟩) (by simp))))))))
 have avW : p10 + 1 ≤ s5.length:=by omega
 refine ah (vI h.fM k1 l1) ?_
 refine xQ @R @LF @LO @aB @aS @List.set_set.{0} ?_
 refine IZ (fun o=>o ∈ ((([] ++ o1) ++ o3) ++ o5)) (show PO T 156 [aU (mulR k.w l.w),aU (iJ k l)] (aU (uP (mulR k.w l.w) (iJ k l))) from JY h.oI KQ (Np k l)) (by (refine xQ @R @LF @LO @aB @aS @List.set_set.{0} ?_;try with_reducible exact True.intro)) ?_ ?_
 ·intro o ho
  have ho : o ∈ reach (s5 ++ [none]) FD (aU (mulR k.w l.w)) ++ (reach (s5 ++ [none]) (11 + 1) (.agg [.bool (iJ k l).neg,x1,x2]) ++ []):=ho
  rw [show reach (s5 ++ [none]) FD (aU (mulR k.w l.w)) = [] from by (refine ew ?_;try with_reducible exact True.intro),List.nil_append,List.append_nil] at ho
  obtain ⟨c,hc,ho⟩:=EX.1 ho
  rcases List.mem_cons.1 hc with e | hc
  ·rw [e] at ho;simp [reach] at ho
  rcases List.mem_cons.1 hc with e | hc
  ·rw [e] at ho;exact E.snoc.reach 1 rfl rfl _ o ho
  ·rw [List.mem_singleton.1 hc] at ho;exact E.snoc.reach 2 rfl rfl _ o ho
 intro Ra r q7 o7 hRa G
 have hO:=G.ow
 have gn:=G.nd
 have gf:=G.fresh
 have go:=G.old
 have gl:=G.len
 clear G
 obtain ⟨_,rfl,hQ7⟩:=hO.bP
 obtain ⟨x7,x8,rfl⟩:=hQ7.rat
 have E2:=E.got (s1:=s5 ++ [none]) (fun q hq=>eY hq) (by simp) hQ7 gn gf go
 have F : s5.length ∉ ((([] ++ o1) ++ o3) ++ o5) ++ o7:=by
  intro hm
  rcases List.mem_append.1 hm with hm | hm
  ·exact absurd (E.c.lt _ hm) (Nat.lt_irrefl _)
  ·have:=gf _ hm;simp at this;omega
 have hq7 : s5.length + 1 ≤ q7.length:=by simpa using gl
 have atm : ∀ o ∈ Ra,o ≠ s5.length:=fun o ho e=>absurd (E.c.lt _ (e ▸ hRa o ho)) (Nat.lt_irrefl _)
 have EL:=E.lt
 clear E gn gf go gl hO R LF LO hRa
 have E : Ep q7 [.bool (iJ k l).neg,x1,x2,.bool (CX k l).neg,x3,x4,.bool (Iu k l).neg,x5,x6,.bool (uP (mulR k.w l.w) (iJ k l)).neg,x7,x8] [.bool (iJ k l).neg,ints (iJ k l).mag,ints (iJ k l).den,.bool (CX k l).neg,ints (CX k l).mag,ints (CX k l).den,.bool (Iu k l).neg,ints (Iu k l).mag,ints (Iu k l).den,.bool (uP (mulR k.w l.w) (iJ k l)).neg,ints (uP (mulR k.w l.w) (iJ k l)).mag,ints (uP (mulR k.w l.w) (iJ k l)).den] (((([] ++ o1) ++ o3) ++ o5) ++ o7) [(0,⟨11,[[iv k.a,iv k.b,.bool k.w.neg,ints k.w.mag,ints k.w.den,.bool k.dx.neg,ints k.dx.mag,ints k.dx.den,.bool k.dy.neg,ints k.dy.mag,ints k.dy.den]]⟩),(1,⟨11,[[iv l.a,iv l.b,.bool l.w.neg,ints l.w.mag,ints l.w.den,.bool l.dx.neg,ints l.dx.mag,ints l.dx.den,.bool l.dy.neg,ints l.dy.mag,ints l.dy.den]]⟩),(2,⟨11,[[iv 0,iv 0,.bool false,.ak,.ak,.bool false,.ak,.ak,.bool false,.ak,.ak]]⟩),(3,⟨3,[[.bool false,.ak,.ak]]⟩),(4,⟨3,[[.bool k.w.neg,ints k.w.mag,ints k.w.den]]⟩),(5,⟨3,[[.bool l.w.neg,ints l.w.mag,ints l.w.den]]⟩),(6,⟨3,[[.bool (iJ k l).neg,x1,x2]]⟩),(p10,⟨11,[[.int .i64 k.a,.int .i64 k.b,.bool (iJ k l).neg,x1,x2,.bool (CX k l).neg,x3,x4,.bool (Iu k l).neg,x5,x6]]⟩)]:=E2
 clear E2
 have R:=And.intro (E.res1 1 rfl rfl (au _ _)) (And.intro (fun x=>(E.snoc (x:=x)).res1 1 rfl rfl (au _ _)) (And.intro (E.res1 2 rfl rfl (au _ _)) (And.intro (fun x=>(E.snoc (x:=x)).res1 2 rfl rfl (au _ _)) (And.intro (E.res1 4 rfl rfl (au _ _)) (And.intro (fun x=>(E.snoc (x:=x)).res1 4 rfl rfl (au _ _)) (And.intro (E.res1 5 rfl rfl (au _ _)) (And.intro (fun x=>(E.snoc (x:=x)).res1 5 rfl rfl (au _ _)) (And.intro (E.res1 7 rfl rfl (au _ _)) (And.intro (fun x=>(E.snoc (x:=x)).res1 7 rfl rfl (au _ _)) (And.intro (E.res1 8 rfl rfl (au _ _)) (And.intro (fun x=>(E.snoc (x:=x)).res1 8 rfl rfl (au _ _)) (And.intro (E.res1 10 rfl rfl (au _ _)) (And.intro (fun x=>(E.snoc (x:=x)).res1 10 rfl rfl (au _ _)) (And.intro (E.res1 11 rfl rfl (au _ _)) (fun x=>(E.snoc (x:=x)).res1 11 rfl rfl (au _ _))))))))))))))))
 have LF:=And.intro (E.leaf 1 rfl rfl) (And.intro (E.leaf 2 rfl rfl) (And.intro (E.leaf 4 rfl rfl) (And.intro (E.leaf 5 rfl rfl) (And.intro (E.leaf 7 rfl rfl) (And.intro (E.leaf 8 rfl rfl) (And.intro (E.leaf 10 rfl rfl) (E.leaf 11 rfl rfl)))))))
 have LO:=And.intro (E.at0 (p:=0) (ob:=⟨11,[[iv k.a,iv k.b,.bool k.w.neg,ints k.w.mag,ints k.w.den,.bool k.dx.neg,ints k.dx.mag,ints k.dx.den,.bool k.dy.neg,ints k.dy.mag,ints k.dy.den]]⟩) (by simp)) (And.intro (E.at0 (p:=1) (ob:=⟨11,[[iv l.a,iv l.b,.bool l.w.neg,ints l.w.mag,ints l.w.den,.bool l.dx.neg,ints l.dx.mag,ints l.dx.den,.bool l.dy.neg,ints l.dy.mag,ints l.dy.den]]⟩) (by simp)) (And.intro (E.at0 (p:=2) (ob:=⟨11,[[iv 0,iv 0,.bool false,.ak,.ak,.bool false,.ak,.ak,.bool false,.ak,.ak]]⟩) (by simp)) (And.intro (E.at0 (p:=3) (ob:=⟨3,[[.bool false,.ak,.ak]]⟩) (by simp)) (And.intro (E.at0 (p:=4) (ob:=⟨3,[[.bool k.w.neg,ints k.w.mag,ints k.w.den]]⟩) (by simp)) (And.intro (E.at0 (p:=5) (ob:=⟨3,[[.bool l.w.neg,ints l.w.mag,ints l.w.den]]⟩) (by simp)) (And.intro (E.at0 (p:=6) (ob:=⟨3,[[.bool (iJ k l).neg,x1,x2]]⟩) (by simp)) (E.at0 (p:=p10) (ob:=⟨11,[[.int .i64 k.a,.int .i64 k.b,.bool (iJ k l).neg,x1,x2,.bool (CX k l).neg,x3,x4,.bool (Iu k l).neg,x5,x6]]⟩) (by simp))))))))
 refine xQ @R @LF @LO @aB @aS @List.set_set.{0} ?_
 refine ah (IY h.tu k2 l2) ?_
 refine xQ @R @LF @LO @aB @aS @List.set_set.{0} ?_
 refine ah (IY h.tu k3 l3) ?_
 refine xQ @R @LF @LO @aB @aS @List.set_set.{0} ?_
 refine ah (QK h.Jd KQ KQ) ?_
 refine xQ @R @LF @LO @aB @aS @List.set_set.{0} ?_
 refine IZ (fun o=>o ∈ (((([] ++ o1) ++ o3) ++ o5) ++ o7)) (show PO T 157 [aU (uP (mulR k.w l.w) (iJ k l)),aU (sqR (ES k.dx l.dx) (ES k.dy l.dy))] (aU (Lr k l)) from Zn h.fM KQ (aeF _ _)) (by (refine xQ @R @LF @LO @aB @aS @List.set_set.{0} ?_;try with_reducible exact True.intro)) ?_ ?_
 ·intro o ho
  have ho : o ∈ reach q7 (11 + 1) (.agg [.bool (uP (mulR k.w l.w) (iJ k l)).neg,x7,x8]) ++ (reach q7 FD (aU (sqR (ES k.dx l.dx) (ES k.dy l.dy))) ++ []):=ho
  rw [show reach q7 FD (aU (sqR (ES k.dx l.dx) (ES k.dy l.dy))) = [] from by (refine ew ?_;try with_reducible exact True.intro),List.append_nil,List.append_nil] at ho
  obtain ⟨c,hc,ho⟩:=EX.1 ho
  rcases List.mem_cons.1 hc with e | hc
  ·rw [e] at ho;simp [reach] at ho
  rcases List.mem_cons.1 hc with e | hc
  ·rw [e] at ho;exact E.reach 10 rfl rfl _ o ho
  ·rw [List.mem_singleton.1 hc] at ho;exact E.reach 11 rfl rfl _ o ho
 intro Rb r q9 o9 hRb G
 have hO:=G.ow
 have gn:=G.nd
 have gf:=G.fresh
 have go:=G.old
 have gl:=G.len
 clear G
 obtain ⟨_,rfl,hQ9⟩:=hO.bP
 obtain ⟨x9,x10,rfl⟩:=hQ9.rat
 have E2:=E.got (s1:=q7) (fun q hq=>rfl) (Nat.le_refl _) hQ9 gn gf go
 have F9 : s5.length ∉ (((([] ++ o1) ++ o3) ++ o5) ++ o7) ++ o9:=by
  intro hm
  rcases List.mem_append.1 hm with hm | hm
  ·exact F hm
  ·have:=gf _ hm;omega
 have hq9 : s5.length + 1 ≤ q9.length:=by omega
 have atn : ∀ o ∈ Rb,o ≠ s5.length:=fun o ho e=>F (e ▸ hRb o ho)
 clear E F gn gf go gl hO R LF LO hRb
 have E : Ep q9 [.bool (iJ k l).neg,x1,x2,.bool (CX k l).neg,x3,x4,.bool (Iu k l).neg,x5,x6,.bool (uP (mulR k.w l.w) (iJ k l)).neg,x7,x8,.bool (Lr k l).neg,x9,x10] [.bool (iJ k l).neg,ints (iJ k l).mag,ints (iJ k l).den,.bool (CX k l).neg,ints (CX k l).mag,ints (CX k l).den,.bool (Iu k l).neg,ints (Iu k l).mag,ints (Iu k l).den,.bool (uP (mulR k.w l.w) (iJ k l)).neg,ints (uP (mulR k.w l.w) (iJ k l)).mag,ints (uP (mulR k.w l.w) (iJ k l)).den,.bool (Lr k l).neg,ints (Lr k l).mag,ints (Lr k l).den] ((((([] ++ o1) ++ o3) ++ o5) ++ o7) ++ o9) [(0,⟨11,[[iv k.a,iv k.b,.bool k.w.neg,ints k.w.mag,ints k.w.den,.bool k.dx.neg,ints k.dx.mag,ints k.dx.den,.bool k.dy.neg,ints k.dy.mag,ints k.dy.den]]⟩),(1,⟨11,[[iv l.a,iv l.b,.bool l.w.neg,ints l.w.mag,ints l.w.den,.bool l.dx.neg,ints l.dx.mag,ints l.dx.den,.bool l.dy.neg,ints l.dy.mag,ints l.dy.den]]⟩),(2,⟨11,[[iv 0,iv 0,.bool false,.ak,.ak,.bool false,.ak,.ak,.bool false,.ak,.ak]]⟩),(3,⟨3,[[.bool false,.ak,.ak]]⟩),(4,⟨3,[[.bool k.w.neg,ints k.w.mag,ints k.w.den]]⟩),(5,⟨3,[[.bool l.w.neg,ints l.w.mag,ints l.w.den]]⟩),(6,⟨3,[[.bool (iJ k l).neg,x1,x2]]⟩),(p10,⟨11,[[.int .i64 k.a,.int .i64 k.b,.bool (iJ k l).neg,x1,x2,.bool (CX k l).neg,x3,x4,.bool (Iu k l).neg,x5,x6]]⟩)]:=E2
 clear E2
 have R:=And.intro (E.res1 1 rfl rfl (au _ _)) (And.intro (fun x=>(E.snoc (x:=x)).res1 1 rfl rfl (au _ _)) (And.intro (E.res1 2 rfl rfl (au _ _)) (And.intro (fun x=>(E.snoc (x:=x)).res1 2 rfl rfl (au _ _)) (And.intro (E.res1 4 rfl rfl (au _ _)) (And.intro (fun x=>(E.snoc (x:=x)).res1 4 rfl rfl (au _ _)) (And.intro (E.res1 5 rfl rfl (au _ _)) (And.intro (fun x=>(E.snoc (x:=x)).res1 5 rfl rfl (au _ _)) (And.intro (E.res1 7 rfl rfl (au _ _)) (And.intro (fun x=>(E.snoc (x:=x)).res1 7 rfl rfl (au _ _)) (And.intro (E.res1 8 rfl rfl (au _ _)) (And.intro (fun x=>(E.snoc (x:=x)).res1 8 rfl rfl (au _ _)) (And.intro (E.res1 10 rfl rfl (au _ _)) (And.intro (fun x=>(E.snoc (x:=x)).res1 10 rfl rfl (au _ _)) (And.intro (E.res1 11 rfl rfl (au _ _)) (And.intro (fun x=>(E.snoc (x:=x)).res1 11 rfl rfl (au _ _)) (And.intro (E.res1 13 rfl rfl (au _ _)) (And.intro (fun x=>(E.snoc (x:=x)).res1 13 rfl rfl (au _ _)) (And.intro (E.res1 14 rfl rfl (au _ _)) (fun x=>(E.snoc (x:=x)).res1 14 rfl rfl (au _ _))))))))))))))))))))
 have LF:=And.intro (E.leaf 1 rfl rfl) (And.intro (E.leaf 2 rfl rfl) (And.intro (E.leaf 4 rfl rfl) (And.intro (E.leaf 5 rfl rfl) (And.intro (E.leaf 7 rfl rfl) (And.intro (E.leaf 8 rfl rfl) (And.intro (E.leaf 10 rfl rfl) (And.intro (E.leaf 11 rfl rfl) (And.intro (E.leaf 13 rfl rfl) (E.leaf 14 rfl rfl)))))))))
 have LO:=And.intro (E.at0 (p:=0) (ob:=⟨11,[[iv k.a,iv k.b,.bool k.w.neg,ints k.w.mag,ints k.w.den,.bool k.dx.neg,ints k.dx.mag,ints k.dx.den,.bool k.dy.neg,ints k.dy.mag,ints k.dy.den]]⟩) (by simp)) (And.intro (E.at0 (p:=1) (ob:=⟨11,[[iv l.a,iv l.b,.bool l.w.neg,ints l.w.mag,ints l.w.den,.bool l.dx.neg,ints l.dx.mag,ints l.dx.den,.bool l.dy.neg,ints l.dy.mag,ints l.dy.den]]⟩) (by simp)) (And.intro (E.at0 (p:=2) (ob:=⟨11,[[iv 0,iv 0,.bool false,.ak,.ak,.bool false,.ak,.ak,.bool false,.ak,.ak]]⟩) (by simp)) (And.intro (E.at0 (p:=3) (ob:=⟨3,[[.bool false,.ak,.ak]]⟩) (by simp)) (And.intro (E.at0 (p:=4) (ob:=⟨3,[[.bool k.w.neg,ints k.w.mag,ints k.w.den]]⟩) (by simp)) (And.intro (E.at0 (p:=5) (ob:=⟨3,[[.bool l.w.neg,ints l.w.mag,ints l.w.den]]⟩) (by simp)) (And.intro (E.at0 (p:=6) (ob:=⟨3,[[.bool (iJ k l).neg,x1,x2]]⟩) (by simp)) (E.at0 (p:=p10) (ob:=⟨11,[[.int .i64 k.a,.int .i64 k.b,.bool (iJ k l).neg,x1,x2,.bool (CX k l).neg,x3,x4,.bool (Iu k l).neg,x5,x6]]⟩) (by simp))))))))
 refine xQ @R @LF @LO @aB @aS @List.set_set.{0} ?_
 refine ⟨?_,?_⟩
 ·revert Rb
  refine I4 _ (fun R=>∀ o ∈ R,o ≠ s5.length) 2 16 rfl (fun _=>rfl) ?_ ?_
  ·intro R hR b hb w hw hm
   simp only [List.mem_cons,List.not_mem_nil,or_false] at hb
   rcases hb with rfl | rfl | rfl | rfl | rfl | rfl | rfl | rfl | rfl | rfl | rfl | rfl | rfl | rfl | rfl | rfl | rfl | rfl | rfl
   all_goals first | (cases hw;done) | (rw [List.mem_singleton.1 hw] at hm;exact hR _ hm rfl)
  revert Ra
  refine I4 _ (fun R=>∀ o ∈ R,o ≠ s5.length) 14 4 rfl (fun _=>rfl) ?_ ?_
  ·intro R hR b hb w hw hm
   simp only [List.mem_cons,List.not_mem_nil,or_false] at hb
   rcases hb with rfl | rfl | rfl | rfl | rfl | rfl | rfl | rfl | rfl | rfl | rfl | rfl | rfl | rfl | rfl | rfl | rfl | rfl | rfl
   all_goals first | (cases hw;done) | (rw [List.mem_singleton.1 hw] at hm;exact hR _ hm rfl)
  have hn0 : 7 ≤ s5.length:=by omega
  clear EL E hls
  generalize s5.length = m at hn0 ⊢
  revert m
  refine qo _ _ 7 (fun n hn=>?_) (fun n hn=>?_) ?_
  ·simp only [sh];split <;> omega
  ·simp [Rq,sh];try omega
  ·unfold jl;decide +kernel
 clear atm atn Ra Rb
 replace E:=E.EW (p:=s5.length) (ob:=⟨3,[[.bool (Lr k l).neg,x9,x10]]⟩) (L':=[(0,⟨11,[[iv k.a,iv k.b,.bool k.w.neg,ints k.w.mag,ints k.w.den,.bool k.dx.neg,ints k.dx.mag,ints k.dx.den,.bool k.dy.neg,ints k.dy.mag,ints k.dy.den]]⟩),(1,⟨11,[[iv l.a,iv l.b,.bool l.w.neg,ints l.w.mag,ints l.w.den,.bool l.dx.neg,ints l.dx.mag,ints l.dx.den,.bool l.dy.neg,ints l.dy.mag,ints l.dy.den]]⟩),(2,⟨11,[[iv 0,iv 0,.bool false,.ak,.ak,.bool false,.ak,.ak,.bool false,.ak,.ak]]⟩),(3,⟨3,[[.bool false,.ak,.ak]]⟩),(4,⟨3,[[.bool k.w.neg,ints k.w.mag,ints k.w.den]]⟩),(5,⟨3,[[.bool l.w.neg,ints l.w.mag,ints l.w.den]]⟩),(6,⟨3,[[.bool (iJ k l).neg,x1,x2]]⟩),(p10,⟨11,[[.int .i64 k.a,.int .i64 k.b,.bool (iJ k l).neg,x1,x2,.bool (CX k l).neg,x3,x4,.bool (Iu k l).neg,x5,x6]]⟩),(s5.length,⟨3,[[.bool (Lr k l).neg,x9,x10]]⟩)]) F9 (by omega) (by simp;try omega)
 clear R LF LO F9 EL
 obtain ⟨p11,aoz⟩ : ∃ p,s5.length = p:=⟨_,rfl⟩
 simp only [aoz] at *
 clear aoz
 obtain ⟨s11,hs⟩ : ∃ s,(q9.set p11 (some ⟨3,[[.bool (Lr k l).neg,x9,x10]]⟩)) = s:=⟨_,rfl⟩
 have hls : q9.length = s11.length:=by rw [← hs];simp
 simp only [hs] at *
 clear hs
 simp only [hls] at *
 clear hls
 have R:=And.intro (E.res1 1 rfl rfl (au _ _)) (And.intro (fun x=>(E.snoc (x:=x)).res1 1 rfl rfl (au _ _)) (And.intro (E.res1 2 rfl rfl (au _ _)) (And.intro (fun x=>(E.snoc (x:=x)).res1 2 rfl rfl (au _ _)) (And.intro (E.res1 4 rfl rfl (au _ _)) (And.intro (fun x=>(E.snoc (x:=x)).res1 4 rfl rfl (au _ _)) (And.intro (E.res1 5 rfl rfl (au _ _)) (And.intro (fun x=>(E.snoc (x:=x)).res1 5 rfl rfl (au _ _)) (And.intro (E.res1 7 rfl rfl (au _ _)) (And.intro (fun x=>(E.snoc (x:=x)).res1 7 rfl rfl (au _ _)) (And.intro (E.res1 8 rfl rfl (au _ _)) (And.intro (fun x=>(E.snoc (x:=x)).res1 8 rfl rfl (au _ _)) (And.intro (E.res1 10 rfl rfl (au _ _)) (And.intro (fun x=>(E.snoc (x:=x)).res1 10 rfl rfl (au _ _)) (And.intro (E.res1 11 rfl rfl (au _ _)) (And.intro (fun x=>(E.snoc (x:=x)).res1 11 rfl rfl (au _ _)) (And.intro (E.res1 13 rfl rfl (au _ _)) (And.intro (fun x=>(E.snoc (x:=x)).res1 13 rfl rfl (au _ _)) (And.intro (E.res1 14 rfl rfl (au _ _)) (fun x=>(E.snoc (x:=x)).res1 14 rfl rfl (au _ _))))))))))))))))))))
 have LF:=And.intro (E.leaf 1 rfl rfl) (And.intro (E.leaf 2 rfl rfl) (And.intro (E.leaf 4 rfl rfl) (And.intro (E.leaf 5 rfl rfl) (And.intro (E.leaf 7 rfl rfl) (And.intro (E.leaf 8 rfl rfl) (And.intro (E.leaf 10 rfl rfl) (And.intro (E.leaf 11 rfl rfl) (And.intro (E.leaf 13 rfl rfl) (E.leaf 14 rfl rfl)))))))))
 have LO:=And.intro (E.at0 (p:=0) (ob:=⟨11,[[iv k.a,iv k.b,.bool k.w.neg,ints k.w.mag,ints k.w.den,.bool k.dx.neg,ints k.dx.mag,ints k.dx.den,.bool k.dy.neg,ints k.dy.mag,ints k.dy.den]]⟩) (by simp)) (And.intro (E.at0 (p:=1) (ob:=⟨11,[[iv l.a,iv l.b,.bool l.w.neg,ints l.w.mag,ints l.w.den,.bool l.dx.neg,ints l.dx.mag,ints l.dx.den,.bool l.dy.neg,ints l.dy.mag,ints l.dy.den]]⟩) (by simp)) (And.intro (E.at0 (p:=2) (ob:=⟨11,[[iv 0,iv 0,.bool false,.ak,.ak,.bool false,.ak,.ak,.bool false,.ak,.ak]]⟩) (by simp)) (And.intro (E.at0 (p:=3) (ob:=⟨3,[[.bool false,.ak,.ak]]⟩) (by simp)) (And.intro (E.at0 (p:=4) (ob:=⟨3,[[.bool k.w.neg,ints k.w.mag,ints k.w.den]]⟩) (by simp)) (And.intro (E.at0 (p:=5) (ob:=⟨3,[[.bool l.w.neg,ints l.w.mag,ints l.w.den]]⟩) (by simp)) (And.intro (E.at0 (p:=6) (ob:=⟨3,[[.bool (iJ k l).neg,x1,x2]]⟩) (by simp)) (And.intro (E.at0 (p:=p10) (ob:=⟨11,[[.int .i64 k.a,.int .i64 k.b,.bool (iJ k l).neg,x1,x2,.bool (CX k l).neg,x3,x4,.bool (Iu k l).neg,x5,x6]]⟩) (by simp)) (E.at0 (p:=p11) (ob:=⟨3,[[.bool (Lr k l).neg,x9,x10]]⟩) (by simp)))))))))
 have gW:=KR h.aP (Np k l)
 cases hbW : (iJ k l).ok
 ·rw [hbW] at gW
  refine xQ @R @LF @LO @aB @aS @List.set_set.{0} ?_
  refine ah gW ?_
  refine xQ @R @LF @LO @aB @aS @List.set_set.{0} ?_
  have hG : Ls k l = false:=by unfold Ls;rw [hbW];simp
  rw [hG]
  exact OV
 rw [hbW] at gW
 refine xQ @R @LF @LO @aB @aS @List.set_set.{0} ?_
 refine ah gW ?_
 refine xQ @R @LF @LO @aB @aS @List.set_set.{0} ?_
 have gX:=KR h.aP (Zx k l)
 cases hbX : (CX k l).ok
 ·rw [hbX] at gX
  skip
  refine ah gX ?_
  refine xQ @R @LF @LO @aB @aS @List.set_set.{0} ?_
  have hG : Ls k l = false:=by unfold Ls;rw [hbX];simp
  rw [hG]
  exact OV
 rw [hbX] at gX
 skip
 refine ah gX ?_
 refine xQ @R @LF @LO @aB @aS @List.set_set.{0} ?_
 have gY:=KR h.aP (Zy k l)
 cases hbY : (Iu k l).ok
 ·rw [hbY] at gY
  skip
  refine ah gY ?_
  refine xQ @R @LF @LO @aB @aS @List.set_set.{0} ?_
  have hG : Ls k l = false:=by unfold Ls;rw [hbY];simp
  rw [hG]
  exact OV
 rw [hbY] at gY
 skip
 refine ah gY ?_
 refine xQ @R @LF @LO @aB @aS @List.set_set.{0} ?_
 have gE:=KR h.aP (Zz k l)
 cases hbE : (Lr k l).ok
 ·rw [hbE] at gE
  skip
  refine ah gE ?_
  refine xQ @R @LF @LO @aB @aS @List.set_set.{0} ?_
  have hG : Ls k l = false:=by unfold Ls;rw [hbE];simp
  rw [hG]
  exact OV
 rw [hbE] at gE
 skip
 refine ah gE ?_
 refine xQ @R @LF @LO @aB @aS @List.set_set.{0} ?_
 have hG : Ls k l = true:=by unfold Ls;rw [hbW,hbX,hbY,hbE];rfl
 rw [hG]
 refine ⟨?_,?_⟩
 ·refine qp (L':=p11 + 1) (by omega) ?_
  have hn0 : 7 ≤ p10:=by omega
  have hn1 : p10 + 1 ≤ p11:=by omega
  clear E R LF LO
  obtain ⟨d,hd⟩ : ∃ d,p11 = p10 + (d + 1):=⟨p11 - p10 - 1,by omega⟩
  rw [hd]
  clear hd hn1
  generalize p10 = m at hn0 ⊢
  revert m
  refine qo _ _ 7 (fun n hn=>?_) (fun n hn=>?_) ?_
  ·simp only [sh];split <;> omega
  ·simp [Rq,sh];rw [if_neg (by omega)];omega
  ·have hn2 : 8 ≤ 7 + (d + 1):=by omega
   generalize 7 + (d + 1) = m at hn2 ⊢
   revert m
   refine qo _ _ 8 (fun n hn=>?_) (fun n hn=>?_) ?_
   ·simp only [sh];split <;> omega
   ·simp [Rq,sh];try omega
   ·unfold jl;decide +kernel
 rw [if_pos rfl,if_pos rfl]
 have n2:=(E.l (2,⟨11,[[iv 0,iv 0,.bool false,.ak,.ak,.bool false,.ak,.ak,.bool false,.ak,.ak]]⟩) (by simp)).2
 have n3:=(E.l (3,⟨3,[[.bool false,.ak,.ak]]⟩) (by simp)).2
 have E3:=(E.c.set (o:=2) (x:=some ⟨11,[[.int .i64 k.a,.int .i64 k.b,.bool (iJ k l).neg,x1,x2,.bool (CX k l).neg,x3,x4,.bool (Iu k l).neg,x5,x6]]⟩) n2).set (o:=3) (x:=some ⟨3,[[.bool (Lr k l).neg,x9,x10]]⟩) n3
 exact akM (c9:=[.bool (iJ k l).neg,x1,x2,.bool (CX k l).neg,x3,x4,.bool (Iu k l).neg,x5,x6]) (d3:=[.bool (uP (mulR k.w l.w) (iJ k l)).neg,x7,x8]) (e3:=[.bool (Lr k l).neg,x9,x10]) (t9:=[.bool (iJ k l).neg,ints (iJ k l).mag,ints (iJ k l).den,.bool (CX k l).neg,ints (CX k l).mag,ints (CX k l).den,.bool (Iu k l).neg,ints (Iu k l).mag,ints (Iu k l).den]) (u3:=[.bool (uP (mulR k.w l.w) (iJ k l)).neg,ints (uP (mulR k.w l.w) (iJ k l)).mag,ints (uP (mulR k.w l.w) (iJ k l)).den]) (v3:=[.bool (Lr k l).neg,ints (Lr k l).mag,ints (Lr k l).den]) E3.ow rfl rfl E3.nd
abbrev Gd:=Nat → Nat → Bool
def ab1 (g : Gd) (i j : Nat) (b : Bool) : Gd:=fun x y=>if x = i ∧ y = j then b else g x y
def grow (g : Gd) (a : Nat) : List (List V):=(List.range 10).map fun j=>[.bool (g a j)]
theorem aeK {g : Gd} {a j : Nat} {b : Bool} : (grow g a).set j [.bool b] = grow (ab1 g a j b) a:=by
 apply List.ext_getElem?
 intro n
 rw [List.getElem?_set]
 simp only [grow,List.getElem?_map,List.length_map,List.length_range]
 by_cases hn : n < 10
 ·rw [List.getElem?_range hn]
  by_cases e : j = n
  ·rw [if_pos e,if_pos (by omega)]
   simp only [Option.map_some,ab1]
   rw [if_pos (by simp [e])]
  ·rw [if_neg e]
   simp only [Option.map_some,ab1]
   rw [if_neg (by omega)]
 ·rw [List.getElem?_eq_none (by simp;omega)]
  split
  ·split
   ·omega
   ·rfl
  ·rfl
theorem ahD {g : Gd} {a c j : Nat} {b : Bool} (h : c ≠ a) : grow (ab1 g a j b) c = grow g c:=by
 unfold grow ab1
 apply List.map_congr_left
 intro k _
 rw [if_neg (by omega)]
def onR (b : Nat) : List (List V):=(List.range 10).map fun i=>[.bC (b + i) 0 10]
def gst (g : Gd) : Store:=some ⟨1,[[.bC 1 0 10]]⟩ :: some ⟨1,onR 2⟩ :: (List.range 10).map fun a=>some ⟨1,grow g a⟩
theorem aaA (g : Gd) : (gst g).length = 12:=by simp [gst]
structure Em (s : Store) (b : Nat) (g : Gd) : Prop where
 p : aj s b = some ⟨1,[[.bC (b + 1) 0 10]]⟩
 on : aj s (b + 1) = some ⟨1,onR (b + 2)⟩
 row : ∀ a,a < 10 → aj s (b + 2 + a) = some ⟨1,grow g a⟩
theorem ahE {g : Gd} {a : Nat} (ha : a < 10) : aj (gst g) (2 + a) = some ⟨1,grow g a⟩:=by
 rw [Nat.add_comm]
 show ((List.range 10).map fun a=>some (⟨1,grow g a⟩ : Obj))[a]?.getD none = _
 rw [List.getElem?_map,List.getElem?_range ha];rfl
theorem Em.lt {s : Store} {b : Nat} {g : Gd} (h : Em s b g) : b + 12 ≤ s.length:=by
 have:=aJ (h.row 9 (by omega));omega
theorem Em.frame {s s2 : Store} {b : Nat} {g : Gd} (h : Em s b g) (hs : ∀ q,b ≤ q → q < b + 12 → aj s2 q = aj s q) : Em s2 b g :=
 ⟨(hs _ (by omega) (by omega)).trans h.p,(hs _ (by omega) (by omega)).trans h.on,fun a ha=>(hs _ (by omega) (by omega)).trans (h.row a ha)⟩
theorem Em.set {s : Store} {b : Nat} {g : Gd} (h : Em s b g) {i j : Nat} {x : Bool} (hi : i < 10) (hj : j < 10) : Em (s.set (b + 2 + i) (some ⟨1,(grow g i).set j [.bool x]⟩)) b (ab1 g i j x):=by
 have hl:=h.lt
 refine ⟨(aH (by omega)).trans h.p,(aH (by omega)).trans h.on,fun a ha=>?_⟩
 by_cases e : a = i
 ·subst e
  rw [aX (by omega),aeK]
 ·rw [aH (by omega),h.row a ha,ahD e]
theorem QN {f : Nat → Option Nat} {v : V} (h : v.still = true) : aY f v = v:=by
 cases v <;> simp_all [V.still,aY]
theorem ahF {ρ : Nat → Option Nat} {b b' : Nat} (h : ∀ i,i < 10 → ρ (b + i) = some (b' + i)) : iH ρ ⟨1,onR b⟩ = ⟨1,onR b'⟩:=by
 unfold iH onR
 congr 1
 rw [List.map_map]
 apply List.map_congr_left
 intro i hi
 simp [aY,h i (List.mem_range.1 hi)]
theorem ab2 (f : Nat → Option Nat) (g : Gd) (a : Nat) : iH f ⟨1,grow g a⟩ = ⟨1,grow g a⟩:=by
 unfold iH
 congr 1
theorem Nq {T : Tb} {f : Nat} {as : List Src} {dst : Option Nat} {env : Nat → V} {σ : Store} {kp bs : Nat} {rs ms : List Nat} {k : St → Prop} {as' : List V} {r : V} {σ' : Store}
  (h : Run T (.fn f as' []) (.fn r σ')) (ha : EC env σ as (· = as')) (hr : dh env σ as = []) (hk : k ⟨dV env dst (aY (bT σ.length) r),ru σ σ',kp,bs,rs,ms⟩) : Jz T f as dst ⟨env,σ,kp,bs,rs,ms⟩ k:=by
 obtain ⟨as2,e,rfl⟩:=qE ha
 exact ⟨_,.own e h (R:=[]) (by split;rfl;exact hr.symm),hk⟩
theorem NZ {b j : Nat} : ∀ n,j < n → place ((List.range n).map (b + ·)) (b + j) = some j:=by
 intro n hj
 have h1 : ((List.range n).map (b + ·))[j]? = some (b + j):=by rw [List.getElem?_map,List.getElem?_range hj];rfl
 have h2 : ((List.range n).map (b + ·)).Nodup:=by
  refine List.pairwise_map.2 (List.nodup_range.imp fun hne e=>hne (by omega))
 exact II h2 h1
def g12 (b : Nat) : List Nat:=(List.range 12).map (b + ·)
theorem ab3 (g : Gd) : gst g = (List.range 12).map fun j=>aj (gst g) j:=by
 apply List.ext_getElem?
 intro n
 rw [List.getElem?_map]
 by_cases h : n < 12
 ·rw [List.getElem?_range h]
  simp only [Option.map_some,aj]
  rw [List.getElem?_eq_getElem (by rw [aaA];exact h)];rfl
 ·rw [List.getElem?_eq_none (by rw [aaA];omega),List.getElem?_eq_none (by simp;omega)];rfl
theorem aeL {ρ : Nat → Option Nat} {o o' : Nat} (h : ρ o = some o') {s l : Nat} : iH ρ ⟨1,[[.bC o s l]]⟩ = ⟨1,[[.bC o' s l]]⟩:=by
 simp [iH,aY,h]
theorem Em.gc {s : Store} {b : Nat} {g : Gd} (h : Em s b g) : Eu (g12 b) s = gst g:=by
 rw [ab3 g]
 unfold Eu
 rw [g12,List.map_map]
 apply List.map_congr_left
 intro j hj
 have hj:=List.mem_range.1 hj
 show (aj s (b + j)).map (iH (place ((List.range 12).map (b + ·)))) = aj (gst g) j
 by_cases h0 : j = 0
 ·subst h0
  rw [Nat.add_zero,h.p]
  exact congrArg some (aeL (NZ 12 (by omega : 1 < 12)))
 by_cases h1 : j = 1
 ·subst h1
  rw [h.on]
  refine congrArg some (ahF fun i hi=>?_)
  rw [show b + 2 + i = b + (2 + i) by omega]
  exact NZ 12 (by omega)
 obtain ⟨a,rfl⟩ : ∃ a,j = 2 + a:=⟨j - 2,by omega⟩
 rw [← Nat.add_assoc,h.row a (by omega),ahE (by omega)]
 exact congrArg some (ab2 _ _ _)
theorem mapM_some {α β : Type} {f : α → Option β} {h : α → β} : ∀ {l : List α},(∀ a ∈ l,f a = some (h a)) → l.mapM f = some (l.map h)
 | [],_=>rfl
 |
  a :: l,k=>by
  rw [List.mapM_cons,k a (by simp),mapM_some fun x hx=>k x (by simp [hx])];rfl
theorem Fb {s : Store} {o n m : Nat} {rows : List (List V)} (h : aj s o = some ⟨m,rows⟩) (hs : dO rows) : resolve s (n + 2) (.bC o 0 rows.length) = some (.sl m rows):=by
 rw [resolve]
 simp only [h,Nat.zero_add,Nat.le_refl,if_true,List.drop_zero,List.take_length]
 rw [pV hs];rfl
end Go.Ml
namespace Go.Ml
theorem ab4 {T : Tb} (rf : Nat → Nat → Bool) {c : C} {Q : Ex → St → Prop} {st : St} (hk : c.VJ = true) (h : wp T rf c (fun e st'=>Uo e (NQ T c Q st') (Q e st')) st) : NQ T c Q st:=by
 obtain ⟨e,st1,h1,h2⟩:=rH hk h
 cases e with
 |
  normal =>
  obtain ⟨e,st2,h4,h5⟩:=h2
  exact ⟨e,st2,.acz h1 h4,h5⟩
 | exit id=>exact ⟨_,_,.VQ (by simp) h1,h2⟩
 | ret=>exact ⟨_,_,.VQ (by simp) h1,h2⟩
def Ad : Fn:=⟨1,20,[.tmp 2],(sr [oN 2 mN] (.seq (rf 1 [oN 6 (.eG 11 xW 0 []),oK 3 1 (oV 6)]) (.seq (sr [oW 7 0,oN 8 (ln 7),oN 9 (.bZ (cI 0))] (.block 0 (.loop (sr [oN 10 (bt .lss 9 8)] (.seq (cd 10 .skip (.exit 0)) (.seq (.block 1 (.seq (rf 1 [oK 11 1 (ix 11 7 9),oK 12 1 (lT 11 11),oN 5 (.alloc xW),⟨none,none,1,.store 11 (.t 5) (.t 12),[]⟩]) (rf 2 [oK 13 2 (oV 3),oK 14 2 (lT 11 5),oK 15 2 (cl 197 [14]),oN 16 (.eG 11 xW 1 [(0,(.t 15))]),oK 17 1 (.app 11 184 (.t 13) (.t 16)),oK 3 2 (oV 17)]))) (rg [oN 18 (bc .add 9 1),oW 9 18]))))))) (sr [oW 19 3,oW 2 19] .ret))))⟩
structure En (T : Tb) : Prop where
 hT : T 194 = some Ad
 iy : mG T
def kD : Fn:=⟨2,86,[.tmp 4,.cell 5 3 true,.tmp 6],(.seq (rf 2 [oN 3 (.box (.t 1)),oK 4 2 mN,oK 5 1 (.alloc kK),oK 6 2 mF]) (.seq (sr [oW 13 0,oN 14 (cl 193 [13]),oN 15 (nt 14),oW 16 15,oG 16 false 17 (lT 11 3),oG 16 false 18 (cl 83 [17]),oG 16 false 19 (nt 18),oN 20 (.pick (.t 16) (.c (.bool true)) (.t 19))] (cd 20 (sr [oN 21 (.build kK []),oN 4 mN,oS (.store 3 (.t 5) (.t 21)),oN 6 mF] .ret) .skip)) (sr [oW 22 0,oN 23 (cl 194 [22]),oW 7 23] (sr [oN 8 (.bZ (cI 0))] (.seq (.block 0 (.loop (.seq (.seq (rt 0 [oW 24 8,oW 25 7,oA 26 0 (ln 25) [1],oA 27 0 (bt .lss 24 26) [0,2],oA 28 0 (oV 27) [3],oH 28 true 29 0 (oV 7) [4],oH 28 true 30 0 (oV 8) [4],oH 28 true 31 0 (ix 11 29 30) [5,6,4],oH 28 true 32 0 (lT 11 31) [7,4],oH 28 true 33 0 (lT 11 3) [4],oH 28 true 34 0 (cl 195 [32,33]) [8,9,4,4],oA 35 0 (.pick (.t 28) (.t 34) (.c (.bool false))) [4,10]]) (cd 35 .skip (.exit 0))) (.block 1 (rg [oW 36 8,oN 37 (bc .add 36 1),oW 8 37]))))) (.seq (.seq (rt 0 [oW 38 8,oW 39 7,oA 40 0 (ln 39) [1],oA 41 0 (bt .lss 38 40) [0,2],oA 42 0 (oV 41) [3],oH 42 true 43 0 (lT 11 3) [4],oH 42 true 44 0 (oV 7) [4],oH 42 true 45 0 (oV 8) [4],oH 42 true 46 0 (ix 11 44 45) [6,7,4],oH 42 true 47 0 (lT 11 46) [8,4],oH 42 true 48 0 (cl 195 [43,47]) [5,9,4,4],oH 42 true 49 0 (nt 48) [10,4],oA 50 0 (.pick (.t 42) (.t 49) (.c (.bool false))) [4,11]]) (cd 50 (.seq (rt 2 [oK 52 2 (oV 7),oK 53 2 (oV 8),oA 54 2 (ix 11 52 53) [0,1],oA 55 2 (lT 11 54) [2],oK 56 2 (lT 11 3),oA 57 2 (cl 196 [55,56]) [3,4],oA 51 2 (oV 57) [5],oA 58 2 (ex 0 51) [6],oA 59 2 (ex 1 51) [6],oA 60 2 (ex 2 51) [6],oN 9 (.alloc xW),oK 10 1 (.alloc kK),⟨none,none,2,.store 11 (.t 9) (.t 58),[10,7,5,0,1,2,3,4,5,6,7,10,11]⟩,⟨none,none,2,.store 3 (.t 10) (.t 59),[11,8,12,0,1,2,3,4,5,6,7,8,10,11,12]⟩,oA 11 2 (oV 60) [9,13,0,1,2,3,4,5,6,7,8,9,10,11,12,13]]) (.seq (sr [oW 61 11,oN 62 (nt 61)] (cd 62 (sr [oN 63 (.build kK []),oN 4 mN,oS (.store 3 (.t 5) (.t 63)),oN 6 mF] .ret) .skip)) (sr [oW 64 7,oW 65 8,oN 66 (lT 11 9),oN 67 (ix 11 64 65),oS (.store 11 (.t 67) (.t 66))] (.seq (rt 0 [oW 68 7,oN 69 (lT 3 10),oA 4 0 (oV 68) [0,0],⟨none,none,0,.store 3 (.t 5) (.t 69),[1,2,0,1,2]⟩,oA 6 0 mT [3,0,1,2,3]]) .ret)))) .skip)) (.seq (rf 2 [oN 70 (.eG 11 xW 0 []),oK 71 2 (oV 7),oK 72 2 (oV 8),oK 73 2 (.slice 11 (.t 71) none (some (.t 72))),oK 74 1 (.app 11 184 (.t 70) (.t 73)),oK 12 2 (oV 74)]) (.seq (rf 2 [oK 75 2 (oV 12),oK 76 2 (lT 11 3),oK 77 2 (cl 197 [76]),oN 78 (.eG 11 xW 1 [(0,(.t 77))]),oK 79 1 (.app 11 184 (.t 75) (.t 78)),oK 12 2 (oV 79)]) (.seq (rf 1 [oK 80 1 (oV 12),oK 81 1 (oV 7),oK 82 1 (oV 8),oK 83 1 (.slice 11 (.t 81) (some (.t 82)) none),oN 84 (.app 11 184 (.t 80) (.t 83)),oK 85 1 (.call 36 [(cI 0)]),oK 4 1 (oV 84),⟨none,none,1,.store 3 (.t 5) (.t 85),[]⟩,oK 6 1 mT]) .ret)))))))))⟩
structure CY (T : Tb) : Prop where
 hT : T 188 = some kD
 dI : jw T
 fU : ku T
 gy : jT T
 RZ : En T
 wE : wC T
 Lu : xk T
 iy : mG T
def xu : Fn:=⟨2,77,[.tmp 4,.cell 5 3 true,.tmp 6],(.seq (rf 2 [oN 3 (.box (.t 1)),oK 4 2 mN,oK 5 1 (.alloc kK),oK 6 2 mF]) (sr [oN 7 (.bZ (cI 0))] (.seq (.block 0 (.loop (.seq (.seq (rt 0 [oW 12 7,oW 13 0,oA 14 0 (ln 13) [1],oA 15 0 (bt .lss 12 14) [0,2],oA 16 0 (oV 15) [3],oH 16 true 17 0 (oV 0) [4],oH 16 true 18 0 (oV 7) [4],oH 16 true 19 0 (ix 11 17 18) [5,6,4],oH 16 true 20 0 (lT 11 19) [7,4],oH 16 true 21 0 (lT 11 3) [4],oH 16 true 22 0 (cl 111 [20,21]) [8,9,4,4],oA 23 0 (.pick (.t 16) (.t 22) (.c (.bool false))) [4,10]]) (cd 23 .skip (.exit 0))) (.block 1 (rg [oW 24 7,oN 25 (bc .add 24 1),oW 7 25]))))) (.seq (rf 2 [oN 26 (.eG 11 xW 0 []),oK 27 2 (oV 0),oK 28 2 (oV 7),oK 29 2 (.slice 11 (.t 27) none (some (.t 28))),oK 30 1 (.app 11 184 (.t 26) (.t 29)),oK 8 2 (oV 30)]) (.seq (.seq (rt 0 [oW 31 7,oW 32 0,oA 33 0 (ln 32) [1],oA 34 0 (bt .eql 31 33) [0,2],oA 35 0 (oV 34) [3],oH 35 false 36 0 (lT 11 3) [4],oH 35 false 37 0 (oV 0) [4],oH 35 false 38 0 (oV 7) [4],oH 35 false 39 0 (ix 11 37 38) [6,7,4],oH 35 false 40 0 (lT 11 39) [8,4],oH 35 false 41 0 (cl 111 [36,40]) [5,9,4,4],oA 42 0 (.pick (.t 35) (.c (.bool true)) (.t 41)) [4,10]]) (cd 42 (.seq (rf 2 [oK 43 2 (oV 8),oK 44 2 (lT 11 3),oN 45 (.eG 11 xW 1 [(0,(.t 44))]),oK 46 1 (.app 11 184 (.t 43) (.t 45)),oK 8 2 (oV 46)]) (.seq (rf 1 [oK 47 1 (oV 8),oK 48 1 (oV 0),oK 49 1 (oV 7),oK 50 1 (.slice 11 (.t 48) (some (.t 49)) none),oN 51 (.app 11 184 (.t 47) (.t 50)),oK 52 1 (.call 39 [(cI 0)]),oK 4 1 (oV 51),⟨none,none,1,.store 3 (.t 5) (.t 52),[]⟩,oK 6 1 mT]) .ret)) .skip)) (.seq (rt 2 [oK 54 2 (oV 0),oK 55 2 (oV 7),oA 56 2 (ix 11 54 55) [0,1],oA 57 2 (lT 11 56) [2],oK 58 2 (lT 11 3),oA 59 2 (cl 140 [57,58]) [3,4],oA 53 2 (oV 59) [5],oA 60 2 (ex 0 53) [6],oA 61 2 (ex 1 53) [6],oA 62 2 (ex 2 53) [6],oN 9 (.alloc xW),oK 10 1 (.alloc kK),⟨none,none,2,.store 11 (.t 9) (.t 60),[10,7,5,0,1,2,3,4,5,6,7,10,11]⟩,⟨none,none,2,.store 3 (.t 10) (.t 61),[11,8,12,0,1,2,3,4,5,6,7,8,10,11,12]⟩,oA 11 2 (oV 62) [9,13,0,1,2,3,4,5,6,7,8,9,10,11,12,13]]) (.seq (sr [oW 63 11,oN 64 (nt 63)] (cd 64 (sr [oN 65 (.build kK []),oN 4 mN,oS (.store 3 (.t 5) (.t 65)),oN 6 mF] .ret) .skip)) (.seq (rf 2 [oK 66 2 (oV 8),oK 67 2 (lT 11 9),oN 68 (.eG 11 xW 1 [(0,(.t 67))]),oK 69 1 (.app 11 184 (.t 66) (.t 68)),oK 8 2 (oV 69)]) (.seq (rt 1 [oK 70 1 (oV 8),oK 71 1 (oV 0),oK 72 1 (oV 7),oA 73 1 (bc .add 72 1) [2],oA 74 1 (.slice 11 (.t 71) (some (.t 73)) none) [1,3],oA 75 0 (.app 11 184 (.t 70) (.t 74)) [0,4],oK 76 1 (lT 3 10),oA 4 1 (oV 75) [5,5,0,1,2,3,4,5],⟨none,none,1,.store 3 (.t 5) (.t 76),[6,7,0,1,2,3,4,5,6,7]⟩,oA 6 1 mT [8,0,1,2,3,4,5,6,7,8]]) .ret)))))))))⟩
structure CZ (T : Tb) : Prop where
 hT : T 130 = some xu
 dw : ig T
 nC : ny T
 DL : xq T
def Bd (l : Lk) : List Lk → Nat
 | []=>0
 | x :: xs=>if bJ x l = true then Bd l xs + 1 else 0
theorem LC (l : Lk) : ∀ s : List Lk,Bd l s ≤ s.length
 | []=>Nat.le_refl _
 |
  x :: xs=>by
  have:=LC l xs
  unfold Bd;split <;> simp <;> omega
theorem Vf {l : Lk} : ∀ {s : List Lk} {i : Nat},i ≤ Bd l s → i < s.length → bJ (s.getD i default) l = decide (i < Bd l s)
 | [],i,_,h=>absurd h (Nat.not_lt_zero _)
 |
  x :: xs,0,h,_=>by
  unfold Bd
  cases hx : bJ x l
  ·simp [hx]
  ·simp [hx]
 |
  x :: xs,i + 1,h,hi=>by
  unfold Bd at h ⊢
  split at h
  ·rename_i hx
   have:=Vf (s:=xs) (i:=i) (l:=l) (by omega) (by simpa using hi)
   rw [List.getD_cons_succ,this,if_pos hx]
   simp
  ·omega
def J4 (s : List Lk) (l : Lk) : Option (List Lk × R) :=
 let i:=Bd l s
 if i = s.length ∨ bJ l (s.getD i default) = true then some (s.take i ++ l :: s.drop i,iU 0)
 else if Ls (s.getD i default) l = true then some (s.take i ++ mgL (s.getD i default) l :: s.drop (i + 1),Lr (s.getD i default) l) else none
def Ov (s : List Lk) (l : Lk) : Bool:=bU s && jg l && (J4 s l).isSome
def adV (s : List Lk) (l : Lk) : List Lk:=if bU s = true ∧ jg l = true then ((J4 s l).map (·.1)).getD [] else []
def adE (s : List Lk) (l : Lk) : R:=if bU s = true ∧ jg l = true then ((J4 s l).map (·.2)).getD R0 else R0
theorem ZC {s : List Lk} {l : Lk} (h : ¬ (bU s = true ∧ jg l = true)) : adV s l = [] ∧ adE s l = R0 ∧ Ov s l = false:=by
 refine ⟨if_neg h,if_neg h,?_⟩
 unfold Ov
 cases h1 : bU s
 ·rfl
 ·cases h2 : jg l
  ·rfl
  ·exact absurd ⟨h1,h2⟩ h
theorem OW {s : List Lk} {l : Lk} (h1 : bU s = true) (h2 : jg l = true) : adV s l = ((J4 s l).map (·.1)).getD [] ∧ adE s l = ((J4 s l).map (·.2)).getD R0 ∧ Ov s l = (J4 s l).isSome :=
 ⟨if_pos ⟨h1,h2⟩,if_pos ⟨h1,h2⟩,by unfold Ov;rw [h1,h2];rfl⟩
theorem aeN {T : Tb} (h : En T) {l : List Lk} (hz : Aq Lk.sz l ≤ 1048576) : Run T (.fn 194 [bf l] []) (.fn (slV l.length) (Yk 11 (l.map Lk.cells))):=by
 have hl : l.length ≤ 1048576:=by have:=rD Lk.sz l;omega
 have : ∃ r σ',Run T (.fn 194 [bf l] []) (.fn r σ') ∧ (r = slV l.length ∧ σ' = Yk 11 (l.map Lk.cells)):=by
  refine run_end nR h.hT ?_
  simp only [Ad,Lz,St.enter,List.length_cons,List.length_nil,Nat.zero_add]
  refine ew ?_
  refine aQ (fun _ _=>false) (α:=Nat × List Lk) (fun q=>⟨bM [.any,.any,.any,slV q.2.length,.any,.any,.any,bf l,iv (l.length : Nat),iv (q.1 : Nat)],Yk 11 (q.2.map Lk.cells),0,0,[],[]⟩) (fun q=>q.1 ≤ l.length ∧ q.2 = l.take q.1) (fun q=>l.length - q.1) rfl (0,[]) ?_ ?_ ?_
  ·exact ⟨by omega,by simp⟩
  ·exact aiH
  ·rintro ⟨i,xs⟩ ⟨hi,hx0⟩
   dsimp only at hi hx0
   have hx : xs.length ≤ 1048576:=by rw [hx0];simp;omega
   by_cases hc : (i : Int) < (l.length : Nat)
   ·have hil : i < l.length:=by omega
    have es : l.take (i + 1) = l.take i ++ [l.getD i default]:=by
     rw [List.take_add_one,List.getElem?_eq_getElem hil,List.getD_eq_getElem?_getD,List.getElem?_eq_getElem hil];rfl
    rw [← hx0] at es
    have hys:=EZ (f:=Lk.sz) hz (getD_mem hil)
    obtain ⟨y,hy⟩ : ∃ y,l.getD i default = y:=⟨_,rfl⟩
    rw [hy] at es hys
    have cc:=BM h.iy hys
    (rcases xs with _ | ⟨x,xs⟩ <;> simp only [List.length_nil,List.length_cons,kT,jW,List.map_nil,List.map_cons,WM,Tt] at hx ⊢)
    ·refine CO @hc @mg @hy ?_
     refine ah cc ?_
     refine ew ?_
     exact ⟨by omega,(i + 1,([]) ++ [y]),by dsimp only;omega,⟨by dsimp only;omega,es.symm⟩,by (simp only [List.map_append,List.map_cons,List.map_nil];refine Dv (k:=2) (by simp only [OQ,KZ,OO,and_true,true_and];(repeat' (first | exact vw _ | exact aep _ | refine ⟨?_,?_⟩))) rfl ?_;(try (refine ew ?_;try with_reducible exact True.intro));(repeat' (first | exact True.intro | omega | exact vC (by simp) (by simp) (by simp) | refine ⟨?_,?_⟩ | exact jm rfl (by simp))))⟩
    ·refine CO @hc @mg @hy ?_
     refine ah cc ?_
     refine ew ?_
     exact ⟨by omega,(i + 1,(x :: xs) ++ [y]),by dsimp only;omega,⟨by dsimp only;omega,es.symm⟩,by (simp only [List.map_append,List.map_cons,List.map_nil];refine Dv (k:=3) (by simp only [OQ,KZ,OO,and_true,true_and];(repeat' (first | exact vw _ | exact aep _ | refine ⟨?_,?_⟩))) rfl ?_;(try (refine ew ?_;try with_reducible exact True.intro));(repeat' (first | exact True.intro | omega | exact vC (by simp) (by simp) (by simp) | refine ⟨?_,?_⟩ | exact jm rfl (by simp))))⟩
   ·have hie : i = l.length:=by omega
    rw [hie,List.take_length] at hx0
    have hx1 : l = xs:=hx0.symm
    subst hx1
    clear hx0 hie
    rcases l with _ | ⟨x,xs⟩ <;> simp only [List.length_nil,List.length_cons,kT,jW,List.map_nil,List.map_cons,WM,Tt] at hc ⊢
    ·(refine CJ @hc ?_;try with_reducible exact True.intro)
    ·(refine CJ @hc ?_;try with_reducible exact True.intro)
 obtain ⟨r,σ',h1,rfl,rfl⟩:=this
 exact h1
theorem I8 : bQ (.eF [bf [],aU R0,.bool false]) (.eF [.ak,.agg [.bool false,.ak,.ak],.bool false]):=by
 simp only [bQ,oJ]
 exact ⟨_,rfl,_,_,rfl,.inl ⟨rfl,.inl rfl⟩,_,_,rfl,jq,_,_,rfl,rfl,rfl⟩
theorem ahH {n m : Nat} {s : Store} {rows : List (List V)} (h : dO rows) (hs : s.length = m) : ru s [some ⟨n,rows⟩] = s ++ [some ⟨n,rows⟩]:=by
 unfold ru
 simp only [List.map_cons,List.map_nil,Option.map_some,iH]
 congr 4
 have : ∀ r ∈ rows,r.map (aY (bT s.length)) = r:=fun r hr=>by
  conv=>rhs;rw [← List.map_id r]
  apply List.map_congr_left
  intro v hv
  exact QN (h r hr v hv)
 conv=>rhs;rw [← List.map_id rows]
 apply List.map_congr_left
 intro r hr
 exact this r hr
theorem Vg {σ : Store} {rows : List (List V)} {L : List Lk} {n : Nat} {r : R} {b : Bool} {t : V} (hrow : rows = L.map Lk.cells) (hn : n = L.length) (ht : t = .eF [bf L,aU r,.bool b]) :
  dJ (Option.map V.eF (match KG σ 0 n (some ⟨11,rows⟩) with
   |
    some d=>(match (match resolve σ 11 (.agg r.cells) with
    | some d=>some [d,V.bool b]
    | none=>none) with
    | some ds=>some (d :: ds)
    | none=>none)
   | none=>none)) (bQ t):=by
 subst hrow hn ht
 have h1 : KG σ 0 L.length (some ⟨11,L.map Lk.cells⟩) = some (.sl 11 (L.map Lk.cells)):=by
  rw [Qc (vw L) (by simp),List.drop_zero,List.take_of_length_le (by simp)]
 have h2 : resolve σ 11 (.agg r.cells) = some (.agg r.cells):=by
  show resolve σ (10 + 1) (.agg r.cells) = _
  rw [resolve,pU (n:=9) (fun v hv=>WI [r] _ (by simp) v hv)];rfl
 rw [h1,h2]
 exact aC _
theorem ZE {T : Tb} (h : CY T) {s : List Lk} {l : Lk} (hw : Hl Lk.wf s:=by exact dD) (hl : l.wf:=by exact TN) (hz : Aq Lk.sz s ≤ 1048576:=by exact dD) (hz2 : l.sz ≤ 1048576:=by exact dD) : PF T 188 [bf s,IL l] (.eF [bf (adV s l),aU (adE s l),.bool (Ov s l)]):=by
 have hll : s.length ≤ 1048576:=by have:=rD Lk.sz s;omega
 have ci:=wF h.gy hw
 have cl:=qm h.fU hl
 cases h1 : bU s
 ·rw [h1] at ci
  obtain ⟨e1,e2,e3⟩:=ZC (s:=s) (l:=l) (by rw [h1];simp)
  rw [e1,e2,e3]
  refine aK nR h.hT ?_
  simp only [kD,Lz]
  refine ev ?_
  refine ah ci ?_
  refine ev ?_
  exact I8
 rw [h1] at ci
 cases h2 : jg l
 ·rw [h2] at cl
  obtain ⟨e1,e2,e3⟩:=ZC (s:=s) (l:=l) (by rw [h2];simp)
  rw [e1,e2,e3]
  refine aK nR h.hT ?_
  simp only [kD,Lz]
  refine ev ?_
  refine ah ci ?_
  refine ev ?_
  refine ah cl ?_
  refine ev ?_
  exact I8
 rw [h2] at cl
 have ra:=aeN h.RZ hz
 obtain ⟨e1,e2,e3⟩:=OW h1 h2
 rw [e1,e2,e3]
 clear e1 e2 e3
 have hst:=vw s
 rcases s with _ | ⟨s0,s⟩
 ·have ra : Run T (.fn 194 [bf []] []) (.fn .ak []):=ra
  have c6:=BM h.iy hz2
  have c0:=lS h.dI (n:=0) (by omega)
  refine aK (fun x d=>x == 194) h.hT ?_
  simp only [kD,Lz]
  refine ew ?_
  refine ah ci ?_
  refine ew ?_
  refine ah cl ?_
  refine ew ?_
  refine Nq ra (by (refine ew ?_;try with_reducible exact True.intro)) (by (refine ew ?_;try with_reducible exact True.intro)) ?_
  rw [show ∀ s : Store,ru s [] = s from fun s=>by simp [ru]]
  rw [show ∀ g,aY g .ak = .ak from fun g=>rfl]
  refine ew ?_
  refine ab4 (fun x d=>x == 194) rfl ?_
  have h00 : ((0 : Int) < ((0 : Nat) : Int)) = False:=by simp
  refine CJ @h00 ?_
  refine ah c6 ?_
  refine ew ?_
  refine ⟨by omega,?_⟩
  refine ah c0 ?_
  refine ew ?_
  have XL : J4 [] l = some ([l],iU 0):=by
   unfold J4 Bd
   exact if_pos (.inl rfl)
  rw [XL]
  exact aC _
 ·simp only [List.length_cons,jW,List.map_cons,Tt] at ra
  generalize hS : s0 :: s = S at *
  have hSl : S.length = s.length + 1:=by rw [← hS];rfl
  have hSm : s0.cells :: s.map Lk.cells = S.map Lk.cells:=by rw [← hS];rfl
  rw [hSm,← hSl] at ra
  refine aK (fun x d=>x == 194) h.hT ?_
  simp only [kD,Lz]
  refine ew ?_
  refine ah ci ?_
  refine ew ?_
  refine ah cl ?_
  refine ew ?_
  refine Nq ra (by (refine ew ?_;try with_reducible exact True.intro)) (by (refine ew ?_;try with_reducible exact True.intro)) ?_
  rw [ahH hst (m:=2) rfl]
  rw [show aY (bT ([some ⟨11,[l.cells]⟩,some ⟨3,[[.bool false,.ak,.ak]]⟩] : Store).length) (.bC 0 0 S.length) = .bC 2 0 S.length from rfl]
  refine ew ?_
  have hpl:=LC l S
  refine aQ (fun x d=>x == 194) (α:=Nat) (fun i=>⟨bM [.any,.any,.any,.ptr 0 0 0,.any,.ptr 1 0 0,.any,.bC 2 0 S.length,iv (i : Nat)],[some ⟨11,[l.cells]⟩,some ⟨3,[[.bool false,.ak,.ak]]⟩,some ⟨11,S.map Lk.cells⟩],0,0,[],[]⟩) (fun i=>i ≤ Bd l S) (fun i=>Bd l S - i) rfl 0 ?_ ?_ ?_
  ·omega
  ·(refine aI ?_;exact wI)
  ·intro i hi
   have hT : ∀ k,List.take k (S.map Lk.cells) = (S.take k).map Lk.cells:=fun k=>List.map_take.symm
   have hD : ∀ k,List.drop k (S.map Lk.cells) = (S.drop k).map Lk.cells:=fun k=>List.map_drop.symm
   have hap : (∀ A,A.map Lk.cells ++ [l.cells] = (A ++ [l]).map Lk.cells) ∧ ∀ A B : List Lk,A.map Lk.cells ++ B.map Lk.cells = (A ++ B).map Lk.cells:=⟨fun A=>by simp,fun A B=>by simp⟩
   by_cases hc : (i : Int) < (S.length : Nat)
   ·have hil : i < S.length:=by omega
    have hpa:=Vf hi hil
    have hrow:=mg? (f:=Lk.cells) hil
    generalize hx : S.getD i default = x at hpa hrow
    have cl1:=MX h.wE (k:=x) (l:=l)
    rw [hpa] at cl1
    refine sK @hc @hrow ?_
    refine ah cl1 ?_
    by_cases hip : i < Bd l S
    ·rw [decide_eq_true hip]
     refine ew ?_
     exact ⟨i + 1,by omega,by omega,by (refine aI ?_;exact wI)⟩
    ·rw [decide_eq_false hip]
     have hie : i = Bd l S:=by omega
     have cl2:=MX h.wE (k:=l) (l:=x)
     refine sK @hc @hrow ?_
     refine ah cl2 ?_
     have c6:=BM h.iy hz2
     have c0:=lS h.dI (n:=0) (by omega)
     have XL : bJ l x = true → J4 S l = some (S.take i ++ l :: S.drop i,iU 0):=fun h=>by
      unfold J4
      dsimp only
      rw [← hie,hx]
      exact if_pos (.inr h)
     cases hlx : bJ l x
     ·refine sK @hc @hrow ?_
      have hxo : jg x = true:=hx ▸ qx h1 hil
      have hxw : x.wf:=by
       have:=hw.2 x (by rw [← hx,List.getD_eq_getElem?_getD,List.getElem?_eq_getElem hil];exact List.getElem_mem hil)
       exact this
      have hab : x.a = l.a ∧ x.b = l.b:=by
       rw [decide_eq_false hip] at hpa
       unfold bJ at hpa hlx
       simp at hpa hlx
       omega
      have hP : mgP x l = true:=by unfold mgP;rw [hxo,h2,decide_eq_true hab.1,decide_eq_true hab.2];rfl
      have aeO : J4 S l = if Ls x l = true then some (S.take i ++ mgL x l :: S.drop (i + 1),Lr x l) else none:=by
       unfold J4
       dsimp only
       rw [← hie,hx,if_neg (by rw [hlx];simp;omega)]
      have cm:=RY h.Lu hxw hl
      have e1 : QM x l = Ls x l:=by unfold QM;rw [hP,Bool.true_and]
      have e2 : ZA x l = if Ls x l = true then mgL x l else Lk0:=by unfold ZA;rw [e1]
      have e3 : ZB x l = if Ls x l = true then Lr x l else R0:=by unfold ZB;rw [e1]
      rw [e1,e2,e3] at cm
      rw [aeO]
      cases hg : Ls x l
      ·rw [hg,if_neg (by simp),if_neg (by simp)] at cm
       refine ah cm ?_
       refine ew ?_
       refine ⟨by unfold jl;decide +kernel,?_⟩
       exact I8
      ·rw [hg,if_pos rfl,if_pos rfl] at cm
       generalize mgL x l = mm at cm ⊢
       generalize Lr x l = me at cm ⊢
       refine ah cm ?_
       refine ew ?_
       have hset : (List.map Lk.cells S).set i mm.cells = List.map Lk.cells (S.take i ++ mm :: S.drop (i + 1)):=by
        rw [List.set_eq_take_append_cons_drop,if_pos (by simpa using hil),List.map_append,List.map_cons,List.map_take,List.map_drop]
       refine ⟨by unfold jl;decide +kernel,?_⟩
       have hLl : (S.take i ++ mm :: S.drop (i + 1)).length = S.length:=by simp;omega
       generalize S.take i ++ mm :: S.drop (i + 1) = L' at hset hLl ⊢
       have htk : List.take S.length L' = L':=List.take_of_length_le (by omega)
       refine CO @hrow @hset @htk ?_
       refine ⟨by unfold jl;decide +kernel,?_⟩
       refine CJ @htk ?_
       exact Vg rfl hLl.symm rfl
     ·rw [XL hlx]
      have hd : (List.map Lk.cells (List.drop i S) = []) = False:=eq_false (by intro e;have:=congrArg List.length e;rw [List.length_map,List.length_drop] at this;have h9 : ([] : List (List V)).length = 0:=rfl;omega)
      have hl1 : (List.drop i S).length ≤ 1048576:=by rw [List.length_drop];omega
      have hl2 : (List.take i S).length ≤ 1048576:=by rw [List.length_take];omega
      rcases Nat.eq_zero_or_pos i with h0 | h0
      ·have hn : (List.map Lk.cells (List.take i S) = []) = True:=eq_true (by rw [h0];rfl)
       refine xQ @hc @hrow @hT @hD @hn @hd ?_
       refine ah c6 ?_
       refine yF @hT @hD @hn @hd ?_
       refine ⟨by omega,?_⟩
       refine ⟨by omega,?_⟩
       refine ah c0 ?_
       refine yF @hT @hD @hn @hd ?_
       exact Vg (L:=S.take i ++ l :: S.drop i) (by rw [h0];simp) (by rw [h0];simp;omega) rfl
      ·have hn : (List.map Lk.cells (List.take i S) = []) = False:=eq_false (by intro e;have:=congrArg List.length e;rw [List.length_map,List.length_take] at this;have h9 : ([] : List (List V)).length = 0:=rfl;omega)
       refine xQ @hc @hrow @hT @hD @hn @hd ?_
       refine ⟨by omega,?_⟩
       refine ah c6 ?_
       refine vJ @hT @hD @hn @hd @hap ?_
       refine ⟨by omega,?_⟩
       refine ⟨by simp only [List.length_append,List.length_cons,List.length_nil];omega,?_⟩
       refine ah c0 ?_
       refine vJ @hT @hD @hn @hd @hap ?_
       exact Vg (L:=S.take i ++ l :: S.drop i) (by simp) (by simp;omega) rfl
   ·have hie : i = S.length:=by omega
    have c6:=BM h.iy hz2
    have c0:=lS h.dI (n:=0) (by omega)
    have XL : J4 S l = some (S ++ [l],iU 0):=by
     unfold J4
     dsimp only
     have hpe : Bd l S = S.length:=by omega
     rw [hpe,if_pos (.inl rfl),List.take_length,List.drop_length]
    rw [XL]
    have hS1 : (List.map Lk.cells S = []) = False:=eq_false (by intro e;have:=congrArg List.length e;rw [List.length_map] at this;have h9 : ([] : List (List V)).length = 0:=rfl;omega)
    refine yF @hc @hT @hD @hS1 ?_
    refine ⟨by omega,?_⟩
    refine ah c6 ?_
    have hd : (List.map Lk.cells (List.drop i S) = []) = True:=eq_true (by rw [List.drop_eq_nil_of_le (by omega)];rfl)
    refine vJ @hT @hD @hS1 @hap @hd ?_
    refine ⟨by omega,?_⟩
    refine ah c0 ?_
    refine vJ @hT @hD @hS1 @hap @hd ?_
    exact Vg (L:=S ++ [l]) (by simp) (by simp) rfl
end Go.Ml
end
