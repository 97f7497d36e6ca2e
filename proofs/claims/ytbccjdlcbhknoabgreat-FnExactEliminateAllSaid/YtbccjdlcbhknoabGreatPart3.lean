/- A small language for the functions of this claim, its soundness, contracts. -/
import Derived.Test.YtbccjdlcbhknoabGreatPart2
set_option linter.unusedSimpArgs false
set_option linter.unusedVariables false
set_option maxRecDepth 100000
set_option maxHeartbeats 16000000
section
namespace Go.Ml
def apk (σ : Store) (r : V) (ts : List (Bool × V)) : Prop:=∃ W σ2 vs os,ReS W σ σ2 ∧ qh W σ r (.eu vs) ∧ Pm σ2 vs ts os ∧ os.Nodup
theorem LM {T : Tb} {f : Nat} {F : Fn} {args : List V} {ts : List (Bool × V)} (rf : Nat → Nat → Bool) (hT : T f = some F)
  (h : wp T rf F.body (fun e st=>endW F.res e (fun r σ=>ZU σ r ts ∨ apk σ r ts) st) (St.enter args [])) (hl : args.length = F.nargs:=by rfl) (hk : F.body.WC = true:=by rfl) : PX T f args ts:=by
 obtain ⟨r,σ',h1,h2⟩:=run_end rf hT h hl hk
 rcases h2 with ⟨vs,os,h2,h3,h4⟩ | ⟨W,σ2,vs,os,h2,h3,h4,h5⟩
 ·exact ⟨vs,σ',os,.Y5 (qU _) h1 h2,h3,h4⟩
 ·exact ⟨vs,σ2,os,.reF W (qU _) h1 h2 h3,h4,h5⟩
theorem aix {σ : Store} {v w t u : V} {os : List Nat} (h : bD σ v t os) (hn : os.Nodup) (hr : resolve σ FD w = some u) : ZU σ (.eu [v,w]) [(true,t),(false,u)]:=by
 refine ⟨[v,w],os,aC _,?_,hn⟩
 simp only [Pm,if_true,Bool.false_eq_true,if_false]
 exact ⟨v,[w],os,[],rfl,by simp,h,w,[],[],[],rfl,rfl,⟨hr,rfl⟩,rfl,rfl⟩
theorem Ux (l : List Int) : trim l = l.take (trim l).length ∧ (trim l).length ≤ l.length:=by
 have h:=Xv l l.length
 have e2 : (trim l).length = ni l l.length:=by unfold trim;rw [List.length_take];omega
 exact ⟨by rw [e2];rfl,by omega⟩
theorem aiy {Q : List Int} {n : Nat} (h : n ≤ Q.length) : ReS [some (0,0,n)] [some ⟨1,aN Q⟩] [some ⟨1,aN (Q.take n)⟩]:=by
 refine ⟨rfl,fun i j o s l s' l' h1 h2=>?_,fun k o s l hk=>?_,fun k hk=>?_⟩
 ·cases i with
  |
   zero=>cases j with
   | zero=>rfl
   | succ j=>simp at h2
  | succ i=>simp at h1
 ·cases k with
  | succ k=>simp at hk
  |
   zero =>
   simp only [List.getElem?_cons_zero,Option.some.injEq,Prod.mk.injEq] at hk
   obtain ⟨rfl,rfl,rfl⟩:=hk
   refine ⟨⟨1,aN Q⟩,⟨1,aN (Q.take n)⟩,rfl,by rw [AA];omega,rfl,rfl,by rw [AA,List.length_take];omega,fun i r r2 h1 h2=>?_⟩
   have hi : i < n:=by
    have:=(List.getElem?_eq_some_iff.1 h2).1
    rw [AA,List.length_take] at this;omega
   have e : r2 = r:=by
    rw [Nat.zero_add] at h1
    simp only [aN,List.getElem?_map] at h1 h2
    rw [List.getElem?_take_of_lt hi,h1] at h2
    exact (Option.some.inj h2).symm
   subst e
   refine CO fun v hv=>nU Q r2 ?_ v hv
   exact List.mem_of_getElem? h1
 ·cases k <;> simp at hk
theorem afr {Q : List Int} {n : Nat} {t u : V} (h : n ≤ Q.length) (ht : t = ints (Q.take n)) (hu : u.still = true) : apk [some ⟨1,aN Q⟩] (.eu [.bC 0 0 n,u]) [(true,t),(false,u)]:=by
 subst ht
 refine ⟨[some (0,0,n)],[some ⟨1,aN (Q.take n)⟩],[.bC 0 0 n,u],[0],aiy h,?_,?_,by simp⟩
 ·simp only [qh,Ef]
  exact ⟨_,rfl,_,_,rfl,.inl ⟨0,0,n,rfl,Nat.le_refl _,by omega,rfl⟩,_,_,rfl,vk hu,rfl⟩
 ·simp only [Pm,if_true,Bool.false_eq_true,if_false]
  refine ⟨_,[u],[0],[],rfl,rfl,?_,u,[],[],[],rfl,rfl,⟨Nk (n:=11) hu,rfl⟩,rfl,rfl⟩
  have:=Iy (σ:=[some ⟨1,aN (Q.take n)⟩]) (o:=0) (l:=Q.take n) rfl
  rwa [List.length_take,Nat.min_eq_left h] at this
theorem NH (g : Nat → Option Nat) (l : List Int) : iI g ⟨1,aN l⟩ = ⟨1,aN l⟩:=by
 unfold iI
 congr 1
 simp only [aN,List.map_map]
 rfl
theorem NI {T : Tb} {f : Nat} {as : List Src} {dst : Option Nat} {env : Nat → V} {σ : Store} {kp bs : Nat} {rs ms : List Nat} {k : St → Prop} {ρ : List Nat} {as' : List V} {r : V} {σ' : Store} (hn : ρ.Nodup)
  (hρ : ∀ o,o ∈ ρ → ∃ l,aj σ o = some ⟨1,aN l⟩) (ha : (as.map fun s=>aY (place ρ) (s.ev env)) = as') (hr : Run T (.fn f as' (EW ρ σ)) (.fn r σ'))
  (hold : ∀ q,q < ρ.length → aj σ' q = aj (EW ρ σ) q) (hk : ∀ σ2 : Store,(∀ q,q < σ.length → aj σ2 q = aj σ q) → σ.length ≤ σ2.length → k ⟨dZ env dst (aY (back ρ σ.length) r),σ2,kp,bs,rs,ms⟩) :
  JR T f as dst ⟨env,σ,kp,bs,rs,ms⟩ k:=by
 subst ha
 refine ⟨_,.ref ρ hn (fun o ho=>by obtain ⟨l,h⟩:=hρ o ho;rw [h];rfl) hr,?_⟩
 refine hk _ (fun q hq=>?_) (by simp [kR])
 have e1 : aj (kR ρ σ σ') q = ((σ.mapIdx fun o ob=>match place ρ o with
   | some j=>(aj σ' j).map (iI (back ρ σ.length))
   | none=>ob)[q]?).getD none:=by
  show ((kR ρ σ σ')[q]?).getD none = _
  unfold kR
  rw [List.getElem?_append_left (by simpa using hq)]
  rfl
 show aj (kR ρ σ σ') q = _
 rw [e1,List.getElem?_mapIdx,List.getElem?_eq_getElem hq]
 simp only [Option.map_some,Option.getD_some]
 cases hp : place ρ q with
 | none=>simp [aj,List.getElem?_eq_getElem hq]
 |
  some j =>
  have hj:=iL hp
  have hlt:=(List.getElem?_eq_some_iff.1 hj).1
  simp only []
  rw [hold j hlt,EZ,hj]
  obtain ⟨l,hl⟩:=hρ q (List.mem_of_getElem? hj)
  simp only [hl,Option.map_some,NH]
end Go.Ml
namespace Go.Ml
theorem VH {L : Nat} {d e : fQ} {i : Nat} {R : List Nat} {b : Acc} (hw : ∀ w ∈ b.W,w ∉ R) (h : lC L d e ⟨i,[],[],true⟩ b = true) : lC L d e ⟨i,R,[],true⟩ b = true:=by
 simp only [lC,Bool.and_eq_true] at h ⊢
 obtain ⟨⟨⟨⟨h1,h2⟩,h3⟩,h4⟩,h5⟩:=h
 refine ⟨⟨⟨⟨h1,h2⟩,?_⟩,h4⟩,?_⟩
 ·rw [List.all_eq_true]
  intro w hw'
  simpa using hw w hw'
 ·unfold rW at h5 ⊢
  simpa using h5
theorem VI {L : Nat} {d e : fQ} {i : Nat} {R : List Nat} {b : Acc} (hw : ∀ w ∈ b.W,w ∉ R) (h : lC L d e b ⟨i,[],[],true⟩ = true) : lC L d e b ⟨i,R,[],true⟩ = true:=by
 simp only [lC,Bool.and_eq_true] at h ⊢
 obtain ⟨⟨⟨⟨h1,h2⟩,h3⟩,h4⟩,h5⟩:=h
 refine ⟨⟨⟨⟨h1,?_⟩,h3⟩,?_⟩,h5⟩
 ·rw [List.all_eq_true]
  intro w hw'
  simpa using hw w hw'
 ·unfold rW at h4 ⊢
  simpa using h4
theorem Ya {L : Nat} {B : Nat → List Nat} {ops : List fQ} {i : Nat} {R : List Nat} : ∀ (pre post : List Acc),(∀ b ∈ pre ++ post,∀ w ∈ b.W,w ∉ R) → okA L B ops (pre ++ ⟨i,[],[],true⟩ :: post) = true → okA L B ops (pre ++ ⟨i,R,[],true⟩ :: post) = true
 |
  [],post,hw,h=>by
  simp only [List.nil_append,okA,Bool.and_eq_true,List.all_eq_true,Bool.or_eq_true] at h ⊢
  refine ⟨fun b hb=>?_,h.2⟩
  rcases h.1 b hb with k | k
  ·exact .inl k
  ·exact .inr (VH (hw b (by simpa using hb)) k)
 |
  a :: pre,post,hw,h=>by
  simp only [List.cons_append,okA,Bool.and_eq_true,List.all_eq_true,Bool.or_eq_true] at h ⊢
  refine ⟨fun b hb=>?_,Ya pre post (fun b hb=>hw b (by simp only [List.cons_append,List.mem_cons];exact .inr hb)) h.2⟩
  rcases List.mem_append.1 hb with hb | hb
  ·exact h.1 b (List.mem_append_left _ hb)
  ·rcases List.mem_cons.1 hb with rfl | hb
   ·rcases h.1 ⟨i,[],[],true⟩ (by simp) with k | k
    ·exact .inl k
    ·exact .inr (VI (hw a (by simp)) k)
   ·exact h.1 b (List.mem_append_right _ (List.mem_cons_of_mem _ hb))
theorem afs {L : Nat} {ops : List fQ} {i : Nat} {R : List Nat} (pre post : List Acc) (hw : ∀ b ∈ pre ++ post,∀ w ∈ b.W,w ∉ R) (h : iW L ops (pre ++ ⟨i,[],[],true⟩ :: post)) : iW L ops (pre ++ ⟨i,R,[],true⟩ :: post):=by
 unfold iW at h ⊢
 simp only [List.reverse_append,List.reverse_cons,List.append_assoc,List.singleton_append] at h ⊢
 exact Ya _ _ (fun b hb=>hw b (by rcases List.mem_append.1 hb with h | h <;> simp at h <;> simp [h])) h
theorem ZX {σ : Store} {v : V} {l : List Int} {os : List Nat} (h : bD σ v (ints l) os) : ∀ n,∀ o ∈ reach σ n v,o ∈ os:=by
 intro n o ho
 rcases h.wS with ⟨_,rfl,_⟩ | ⟨q,rfl,h1,rfl⟩
 ·cases n <;> simp [reach] at ho
 ·cases n with
  | zero=>simp [reach] at ho
  |
   succ n =>
   simp only [reach,h1,List.mem_cons,List.mem_flatMap] at ho
   rcases ho with rfl | ⟨r,hr,c,hc,ho⟩
   ·simp
   ·have hs:=nU l r hr c hc
    cases n with
    | zero=>simp [reach] at ho
    | succ n=>rw [DV hs] at ho;cases ho
theorem FK {σ : Store} {n : Nat} {cs : List V} {o : Nat} : o ∈ reach σ (n + 1) (.agg cs) ↔ ∃ c ∈ cs,o ∈ reach σ n c:=by
 simp [reach,List.mem_flatMap]
theorem Jg {T : Tb} {f : Nat} {as : List Src} {dst : Option Nat} {env : Nat → V} {σ : Store} {kp bs : Nat} {rs ms : List Nat} {k : List Nat → List Nat → Bool → St → Prop} {as' : List V} {t : V} (P : Nat → Prop) (h : PO T f as' t)
  (ha : E5 env σ as (· = as')) (hr : ∀ o ∈ dB env σ as,P o) (hk : ∀ R r σ2 os,(∀ o ∈ R,P o) → Got σ σ2 r t os → k R [] true ⟨dZ env dst r,σ2,kp,bs,rs,ms⟩) : Zi T f as dst ⟨env,σ,kp,bs,rs,ms⟩ k :=
 X5 h ha fun r σ2 os g=>hk _ r σ2 os hr g
end Go.Ml
namespace Go.Ml
theorem Yb {L L' : Nat} (hL : L' ≤ L) {d e : fQ} {a b : Acc} (h : lC L' d e a b = true) : lC L d e a b = true:=by
 have hb : ∀ a b : Acc,rW L' a b = true → rW L a b = true:=by
  intro a b h
  unfold rW at h ⊢
  simp only [Bool.or_eq_true,Bool.and_eq_true,Bool.not_eq_true',List.all_eq_true,decide_eq_true_eq] at h ⊢
  rcases h with h | ⟨⟨h1,h2⟩,h3⟩
  ·exact .inl h
  ·exact .inr ⟨⟨h1,fun o ho=>Nat.lt_of_lt_of_le (h2 o ho) hL⟩,fun o ho=>Nat.lt_of_lt_of_le (h3 o ho) hL⟩
 simp only [lC,Bool.and_eq_true] at h ⊢
 exact ⟨⟨h.1.1,hb _ _ h.1.2⟩,hb _ _ h.2⟩
theorem Yc {L L' : Nat} (hL : L' ≤ L) {B : Nat → List Nat} {ops : List fQ} : ∀ l : List Acc,okA L' B ops l = true → okA L B ops l = true
 | [],_=>rfl
 |
  a :: l,h=>by
  simp only [okA,Bool.and_eq_true,List.all_eq_true,Bool.or_eq_true] at h ⊢
  refine ⟨fun b hb=>?_,Yc hL l h.2⟩
  rcases h.1 b hb with k | k
  ·exact .inl k
  ·exact .inr (Yb hL k)
theorem kW {L L' : Nat} {ops : List fQ} {l : List Acc} (hL : L' ≤ L) (h : iW L' ops l) : iW L ops l:=Yc hL _ h
theorem Jh {L : Nat} {ops : List fQ} (aF : List Nat → List Acc) (Q : List Nat → Prop) (m i : Nat) (h1 : (aF [])[m]? = some ⟨i,[],[],true⟩) (h2 : ∀ R,aF R = (aF []).set m ⟨i,R,[],true⟩)
  (hw : ∀ R,Q R → ∀ b ∈ aF [],∀ w ∈ b.W,w ∉ R) (h : iW L ops (aF [])) : ∀ R,Q R → iW L ops (aF R):=by
 intro R hR
 have hlt:=(List.getElem?_eq_some_iff.1 h1).1
 have e : aF [] = (aF []).take m ++ ⟨i,[],[],true⟩ :: (aF []).drop (m + 1):=by
  conv=>lhs;rw [← List.take_append_drop m (aF []),List.drop_eq_getElem_cons hlt]
  rw [(List.getElem?_eq_some_iff.1 h1).2]
 have e2 : aF R = (aF []).take m ++ ⟨i,R,[],true⟩ :: (aF []).drop (m + 1):=by
  rw [h2,List.set_eq_take_append_cons_drop,if_pos hlt]
 rw [e2]
 refine afs _ _ (fun b hb=>hw R hR b ?_) (e ▸ h)
 rcases List.mem_append.1 hb with h | h
 ·exact List.mem_of_mem_take h
 ·exact List.mem_of_mem_drop h
theorem Ep.push {s : Store} {cs ts : List V} {os : List Nat} {L : List (Nat × Obj)} {ob : Obj} (E : Ep s cs ts os L) : Ep (s ++ [some ob]) cs ts os (L ++ [(s.length,ob)]):=by
 refine ⟨E.c.snoc,fun q hq=>?_⟩
 rcases List.mem_append.1 hq with hq | hq
 ·exact E.snoc.l q hq
 ·simp only [List.mem_cons,List.not_mem_nil,or_false] at hq
  subst hq
  exact ⟨qG _ _,fun hm=>absurd (E.c.lt _ hm) (Nat.lt_irrefl _)⟩
theorem Ep.reach {s : Store} {cs ts : List V} {os : List Nat} {L : List (Nat × Obj)} (E : Ep s cs ts os L) (c : Nat) {v : V} {l : List Int} (hv : cs[c]? = some v) (ht : ts[c]? = some (ints l)) (n : Nat) : ∀ o ∈ reach s n v,o ∈ os:=by
 intro o ho
 obtain ⟨vc,oc,j1,j2,_,j4,_⟩:=E.c.ow.focus c _ E.c.nd ht
 rw [hv] at j1
 cases j1
 exact j4 o (ZX j2 n o ho)
def tZ : Fn:=⟨1,22,[.tmp 2],(sr [oN 2 mN] (.seq (rf 1 [oK 5 1 (oV 0),oK 6 1 (ln 5),oN 7 (.make DW 8 (.t 6)),oK 3 1 (oV 7)]) (.seq (sr [oN 4 (.bY (cI 0))] (.block 0 (.loop (.seq (sr [oW 8 4,oW 9 0,oN 10 (ln 9),oN 11 (bt .lss 8 10)] (cd 11 .skip (.exit 0))) (.seq (.block 1 (rg [oW 14 3,oW 15 4,oW 16 0,oW 17 4,oN 18 (ix 1 16 17),oN 19 (lF 1 18),oN 20 (ix 1 14 15),oS (.store 1 (.t 20) (.t 19))])) (rg [oW 12 4,oN 13 (bc .add 12 1),oW 4 13])))))) (sr [oW 21 3,oW 2 21] .ret))))⟩
structure oQ (T : Tb) : Prop where
 hT : T 6 = some tZ
def zV : Fn:=⟨2,26,[.tmp 4],(sr [oN 4 mF] (.seq (sr [oW 6 0,oN 7 (ln 6),oW 8 1,oN 9 (ln 8),oN 10 (bt .neq 7 9)] (cd 10 (sr [oN 4 mF] .ret) .skip)) (.seq (sr [oN 5 (.bY (cI 0))] (.block 0 (.loop (.seq (sr [oW 11 5,oW 12 0,oN 13 (ln 12),oN 14 (bt .lss 11 13)] (cd 14 .skip (.exit 0))) (.seq (.block 1 (.seq (rt 0 [oW 17 0,oW 18 5,oA 19 0 (ix 1 17 18) [0,1],oA 20 0 (lF 1 19) [2],oW 21 1,oW 22 5,oA 23 0 (ix 1 21 22) [4,5],oA 24 0 (lF 1 23) [6],oA 25 0 (bt .neq 20 24) [3,7]]) (cd 25 (sr [oN 4 mF] .ret) .skip))) (rg [oW 15 5,oN 16 (bc .add 15 1),oW 5 16])))))) (sr [oN 4 mT] .ret))))⟩
structure uf (T : Tb) : Prop where
 hT : T 8 = some zV
def zW : Fn:=⟨2,12,[.tmp 4],(sr [oN 4 (.bY (cI 0))] (sr [oW 5 1,oW 6 0,oN 7 (ln 6),oN 8 (bt .sub 5 7),oW 1 8] (.seq (sr [oW 9 1,oN 10 (bc .lss 9 0)] (cd 10 (sr [oN 4 (.bY (cI (-1)))] .ret) .skip)) (sr [oW 11 1,oW 4 11] .ret))))⟩
structure zX (T : Tb) : Prop where
 hT : T 61 = some zW
def uU : Fn:=⟨2,12,[.tmp 4],(.seq (rf 1 [oN 2 (.box (.t 0)),oK 4 1 (.bY (cI 0))]) (sr [oN 5 (fd 1 2),oN 6 (lF 1 5),oW 7 1,oN 8 (cl 61 [6,7]),oW 1 8] (.seq (sr [oW 9 1,oN 10 (bc .lss 9 0)] (cd 10 (sr [oN 4 (.bY (cI (-1)))] .ret) .skip)) (sr [oW 11 1,oW 4 11] .ret))))⟩
structure Bg (T : Tb) : Prop where
 hT : T 60 = some uU
 EH : zX T
def BM : Fn:=⟨2,18,[.tmp 4],(.seq (rf 1 [oN 2 (.box (.t 0)),oK 4 1 (.bY (cI 0))]) (sr [oN 5 (fd 0 2),oN 6 (lT 2 5),oW 7 1,oN 8 (cl 60 [6,7]),oW 1 8] (.seq (sr [oW 9 1,oN 10 (bc .lss 9 0)] (cd 10 (sr [oN 4 (.bY (cI (-1)))] .ret) .skip)) (sr [oN 11 (fd 2 2),oN 12 (lF 1 11),oW 13 1,oN 14 (cl 61 [12,13]),oW 1 14] (.seq (sr [oW 15 1,oN 16 (bc .lss 15 0)] (cd 16 (sr [oN 4 (.bY (cI (-1)))] .ret) .skip)) (sr [oW 17 1,oW 4 17] .ret))))))⟩
structure Gv (T : Tb) : Prop where
 hT : T 46 = some BM
 OM : Bg T
 EH : zX T
def og : Fn:=⟨1,12,[.cell 2 2 true],(.seq (rf 2 [oN 1 (.box (.t 0)),oK 2 1 (.alloc SC)]) (.seq (rf 1 [oN 3 (.alloc SC)]) (sr [oN 4 (fd 0 1),oN 5 (lF 1 4),oN 6 (fd 0 3),oS (.store 1 (.t 6) (.t 5))] (sr [oN 7 (fd 1 1),oN 8 (lF 1 7),oN 9 (cl 6 [8]),oN 10 (fd 1 3),oS (.store 1 (.t 10) (.t 9))] (sr [oN 11 (lT 2 3),oS (.store 2 (.t 2) (.t 11))] .ret)))))⟩
structure uV (T : Tb) : Prop where
 hT : T 63 = some og
 gU : oQ T
def wU : Fn:=⟨1,13,[.cell 2 3 true],(.seq (rf 2 [oN 1 (.box (.t 0)),oK 2 1 (.alloc jK)]) (.seq (rf 1 [oN 3 (.alloc jK)]) (sr [oN 4 (fd 0 1),oN 5 (lT 2 4),oN 6 (cl 63 [5]),oN 7 (fd 0 3),oS (.store 2 (.t 7) (.t 6))] (sr [oN 8 (fd 2 1),oN 9 (lF 1 8),oN 10 (cl 6 [9]),oN 11 (fd 2 3),oS (.store 1 (.t 11) (.t 10))] (sr [oN 12 (lT 3 3),oS (.store 3 (.t 2) (.t 12))] .ret)))))⟩
structure BN (T : Tb) : Prop where
 hT : T 48 = some wU
 gU : oQ T
 He : uV T
def uX : Fn:=⟨2,16,[.tmp 4],(.seq (rf 2 [oN 2 (.box (.t 0)),oK 3 1 (.box (.t 1)),oK 4 2 mF]) (.seq (sr [oN 5 (fd 0 2),oN 6 (lF 1 5),oN 7 (fd 0 3),oN 8 (lF 1 7),oN 9 (.beq true (.t 6) (.t 8))] (cd 9 (sr [oN 4 mF] .ret) .skip)) (.seq (sr [oN 10 (fd 1 2),oN 11 (lF 1 10),oN 12 (fd 1 3),oN 13 (lF 1 12),oN 14 (cl 8 [11,13]),oN 15 (nt 14)] (cd 15 (sr [oN 4 mF] .ret) .skip)) (sr [oN 4 mT] .ret))))⟩
structure Bh (T : Tb) : Prop where
 hT : T 55 = some uX
 uh : uf T
def BO : Fn:=⟨2,17,[.tmp 4],(.seq (rf 2 [oN 2 (.box (.t 0)),oK 3 1 (.box (.t 1)),oK 4 2 mF]) (.seq (sr [oN 5 (fd 0 2),oN 6 (lT 2 5),oN 7 (fd 0 3),oN 8 (lT 2 7),oN 9 (cl 55 [6,8]),oN 10 (nt 9)] (cd 10 (sr [oN 4 mF] .ret) .skip)) (.seq (sr [oN 11 (fd 2 2),oN 12 (lF 1 11),oN 13 (fd 2 3),oN 14 (lF 1 13),oN 15 (cl 8 [12,14]),oN 16 (nt 15)] (cd 16 (sr [oN 4 mF] .ret) .skip)) (sr [oN 4 mT] .ret))))⟩
structure rG (T : Tb) : Prop where
 hT : T 40 = some BO
 uh : uf T
 OO : Bh T
theorem Yd {T : Tb} (h : zX T) {l : List Int} {left : Int} (hl : l.length ≤ 9223372036854775807:=by exact bZ) (h0 : 0 ≤ left ∧ left ≤ 1048576:=by exact bZ) : PF T 61 [ints l,iv left] (iv (szr left l.length)):=by
 refine aT nR h.hT ?_
 simp only [zW,Lz]
 refine ev ?_
 refine aG (fun hb=>?_) fun hb=>?_ <;> (refine ev1 @hb ?_;try with_reducible exact True.intro)
 ·simp [szr];omega
 ·simp [szr];omega
theorem IC {T : Tb} (h : oQ T) {l : List Int} (hl : l.length ≤ 1048576:=by exact bZ) : PF T 6 [ints l] (ints l):=by
 refine aT nR h.hT ?_
 simp only [tZ,Lz]
 refine ev ?_
 refine ⟨by omega,?_⟩
 rw [Gh]
 refine aO (fun _ _=>false) (α:=Nat) (fun i=>⟨bF [ints l,.any,.any,.bC 0 0 l.length,iv (i : Nat)],[some ⟨1,aN (CU l 0 i)⟩],0,0,[],[]⟩) (fun i=>i ≤ l.length) (fun i=>l.length - i) rfl 0 ?_ ?_ ?_
 ·omega
 ·(refine aH ?_) <;> (try (refine ev1 @Om ?_;try with_reducible exact True.intro)) <;> (repeat' (first | refine ⟨?_,?_⟩ | exact jI (by omega) | exact lZ (by simp) | exact jJ _))
 ·intro i hi
  have e1:=Qy l 0 hi
  refine ev1 @e1 ?_
  refine aG (fun hb=>?_) fun hb=>?_ <;> (refine iP @hb @e1 ?_;try with_reducible exact True.intro)
  ·have e2:=Qz l 0 (i:=i) (by omega)
   have e3 : (default : Int) = 0:=rfl
   rw [e3] at e2
   rw [e2]
   exact ⟨i + 1,by omega,by omega,by (refine aH ?_;exact wz)⟩
  ·have : i = l.length:=by omega
   subst this
   rw [Qx]
theorem Rj {T : Tb} (h : uf T) {a b : List Int} (hl : a.length ≤ 9223372036854775807:=by exact bZ) (hb : b.length ≤ 9223372036854775807:=by exact bZ) : PF T 8 [ints a,ints b] (.bool (decide (a = b))):=by
 refine aT nR h.hT ?_
 simp only [zV,Lz]
 refine ev ?_
 refine aG (fun h1=>?_) fun h1=>?_ <;> (refine ev1 @h1 ?_;try with_reducible exact True.intro)
 ·have h1 : a.length = b.length:=by omega
  refine aO (fun _ _=>false) (α:=Nat) (fun i=>⟨bF [ints a,ints b,.any,.any,.any,iv (i : Nat)],[],0,0,[],[]⟩) (fun i=>i ≤ a.length ∧ ∀ j,j < i → a.getD j 0 = b.getD j 0) (fun i=>a.length - i) rfl 0 ?_ ?_ ?_
  ·exact ⟨by omega,by intro j hj;omega⟩
  ·(refine aH ?_;exact wz)
  ·rintro i ⟨hi,hj⟩
   refine ev ?_
   refine aG (fun h2=>?_) fun h2=>?_ <;> (refine ev1 @h2 ?_;try with_reducible exact True.intro)
   ·refine aG (fun h3=>?_) fun h3=>?_ <;> (refine ev1 @h3 ?_;try with_reducible exact True.intro)
    ·refine ⟨i + 1,by omega,⟨by omega,fun j hj'=>?_⟩,by (refine aH ?_;exact wz)⟩
     by_cases e : j = i
     ·subst e;exact h3
     ·exact hj j (by omega)
    ·have : ¬ a = b:=fun e=>h3 (by rw [e])
     simp [this]
   ·have : a = b:=BX h1 fun j h=>hj j (by omega)
    simp [this]
 ·have : ¬ a = b:=fun e=>h1 (by rw [e])
  simp [this]
theorem ZY {T : Tb} (h : Bg T) {z : Bi} {left : Int} (hl : z.mag.length ≤ 9223372036854775807:=by exact bZ) (h0 : 0 ≤ left ∧ left ≤ 1048576:=by exact bZ) : PF T 60 [Il z,iv left] (iv (szr left z.mag.length)):=by
 refine aT nR h.hT ?_
 simp only [uU,Lz]
 refine ev ?_
 refine ah (Yd h.EH) ?_
 refine ev ?_
 refine aG (fun hb=>?_) fun hb=>?_ <;> (refine ev1 @hb ?_;try with_reducible exact True.intro)
 unfold szr at hb ⊢
 split at hb
 ·rename_i k;simp [k]
 ·omega
theorem VJ {T : Tb} (h : Gv T) {r : R} {left : Int} (hw : r.wf:=by exact bZ) (h0 : 0 ≤ left ∧ left ≤ 1048576:=by exact bZ) : PF T 46 [aU r,iv left] (iv (szr left r.sz)):=by
 obtain ⟨w1,w2⟩:=hw
 refine aT nR h.hT ?_
 simp only [BM,Lz]
 refine ev ?_
 refine ah (ZY h.OM (z:=r.num)) ?_
 refine ev ?_
 have k1:=@Qu left r.mag.length
 refine aG (fun hb=>?_) fun hb=>?_ <;> (refine ev1 @hb ?_;try with_reducible exact True.intro)
 ·simp only [R.sz,O9 hb h0.1]
 ·refine ah (Yd h.EH) ?_
  refine ev ?_
  rw [Vk hb]
  refine aG (fun hb2=>?_) fun hb2=>?_ <;> (refine ev1 @hb2 ?_;try with_reducible exact True.intro)
  ·simp only [R.sz]
   unfold szr at hb2 ⊢
   split at hb2
   ·rename_i k;rw [if_pos k]
   ·omega
  ·rfl
theorem Z4 {T : Tb} (h : uV T) {z : Bi} (hl : z.mag.length ≤ 1048576:=by exact bZ) : PF T 63 [Il z] (Il z):=by
 refine aT nR h.hT ?_
 simp only [og,Lz]
 refine ev ?_
 refine ah (IC h.gU) ?_
 (refine ev ?_;try with_reducible exact True.intro)
theorem VK {T : Tb} (h : BN T) {r : R} (hl : r.sz ≤ 1048576:=by exact bZ) : PF T 48 [aU r] (aU r):=by
 unfold R.sz at hl
 refine aT nR h.hT ?_
 simp only [wU,Lz]
 refine ev ?_
 refine ah (Z4 h.He (z:=r.num)) ?_
 refine ev ?_
 refine ah (IC h.gU) ?_
 (refine ev ?_;try with_reducible exact True.intro)
theorem Z5 {T : Tb} (h : Bh T) {y z : Bi} (hy : y.mag.length ≤ 9223372036854775807:=by exact bZ) (hz : z.mag.length ≤ 9223372036854775807:=by exact bZ) : PF T 55 [Il y,Il z] (.bool (decide (y = z))):=by
 refine aT nR h.hT ?_
 simp only [uX,Lz]
 refine ev ?_
 refine aG (fun hb=>?_) fun hb=>?_ <;> (refine ev1 @hb ?_;try with_reducible exact True.intro)
 ·refine ah (Rj h.uh) ?_
  refine ev ?_
  refine aG (fun hc=>?_) fun hc=>?_ <;> (refine ev1 @hc ?_;try with_reducible exact True.intro)
  ·cases y;cases z;simp_all
  ·cases y;cases z;simp_all
 ·cases y;cases z;simp_all
theorem zY {T : Tb} (h : rG T) {y z : R} (hy : y.wf:=by exact bZ) (hz : z.wf:=by exact bZ) : PF T 40 [aU y,aU z] (.bool (decide (y = z))):=by
 obtain ⟨w1,w2⟩:=hy
 obtain ⟨w3,w4⟩:=hz
 refine aT nR h.hT ?_
 simp only [BO,Lz]
 refine ev ?_
 refine ah (Z5 h.OO (y:=y.num) (z:=z.num)) ?_
 refine ev ?_
 refine aG (fun hb=>?_) fun hb=>?_ <;> (refine ev1 @hb ?_;try with_reducible exact True.intro)
 ·refine ah (Rj h.uh) ?_
  refine ev ?_
  refine aG (fun hc=>?_) fun hc=>?_ <;> (refine ev1 @hc ?_;try with_reducible exact True.intro)
  ·cases y;cases z;simp_all
  ·cases y;cases z;simp_all
 ·cases y;cases z;simp_all
def oh : Fn:=⟨2,19,[.tmp 4],(sr [oN 4 (.bY (cI 0))] (.seq (sr [oN 5 (.bY (cI 0))] (.block 0 (.loop (.seq (sr [oW 6 5,oW 7 0,oN 8 (ln 7),oN 9 (bt .lss 6 8)] (cd 9 .skip (.exit 0))) (.seq (.block 1 (sr [oW 12 0,oW 13 5,oW 14 1,oN 15 (ix 1 12 13),oS (.store 1 (.t 15) (.t 14))] (rg [oW 16 1,oN 17 (bc .add 16 1),oW 1 17]))) (rg [oW 10 5,oN 11 (bc .add 10 1),oW 5 11])))))) (sr [oW 18 1,oW 4 18] .ret)))⟩
structure iD (T : Tb) : Prop where
 hT : T 57 = some oh
def uY : Fn:=⟨2,21,[.tmp 4],(sr [oN 4 (.bY (cI 0))] (.seq (sr [oN 5 (.bY (cI 0))] (.block 0 (.loop (.seq (sr [oW 6 5,oW 7 0,oN 8 (ln 7),oN 9 (bt .lss 6 8)] (cd 9 .skip (.exit 0))) (.seq (.block 1 (.seq (sr [oW 12 0,oW 13 5,oN 14 (ix 1 12 13),oN 15 (lF 1 14),oW 16 1,oN 17 (bt .neq 15 16)] (cd 17 (sr [oN 4 (.bY (cI (-1)))] .ret) .skip)) (rg [oW 18 1,oN 19 (bc .add 18 1),oW 1 19]))) (rg [oW 10 5,oN 11 (bc .add 10 1),oW 5 11])))))) (sr [oW 20 1,oW 4 20] .ret)))⟩
structure kQ (T : Tb) : Prop where
 hT : T 59 = some uY
theorem Ou {T : Tb} (h : kN T) {l : List Int} (hl : l.length ≤ 1048576:=by exact bZ) : PO T 139 [ints l] (ints l):=by
 refine eX nR h.hT ?_
 simp only [nY,Lz,St.enter,List.length_cons,List.length_nil,Nat.zero_add]
 refine ew ?_
 exact ⟨fun e=>acP e,fun _=>⟨by omega,QY rfl⟩⟩
theorem NJ {T : Tb} (h : oQ T) {l : List Int} (hl : l.length ≤ 1048576:=by exact bZ) : PO T 6 [ints l] (ints l):=by
 refine eX nR h.hT ?_
 simp only [tZ,Lz,St.enter,List.length_cons,List.length_nil,Nat.zero_add]
 refine ew ?_
 refine ⟨by omega,?_⟩
 rw [Gh]
 refine aO (fun _ _=>false) (α:=Nat) (fun i=>⟨bF [ints l,.any,.any,.bC 0 0 l.length,iv (i : Nat)],[some ⟨1,aN (CU l 0 i)⟩],0,0,[],[]⟩) (fun i=>i ≤ l.length) (fun i=>l.length - i) rfl 0 ?_ ?_ ?_
 ·omega
 ·(refine aH ?_) <;> (try (refine BZ @Om ?_;try with_reducible exact True.intro)) <;> (repeat' (first | refine ⟨?_,?_⟩ | exact jI (by omega) | exact lZ (by simp) | exact jJ _))
 ·intro i hi
  have e1:=Qy l 0 hi
  refine BZ @e1 ?_
  refine aG (fun hb=>?_) fun hb=>?_ <;> (refine sJ @hb @e1 ?_;try with_reducible exact True.intro)
  ·have e2:=Qz l 0 (i:=i) (by omega)
   have e3 : (default : Int) = 0:=rfl
   rw [e3] at e2
   rw [e2]
   exact ⟨i + 1,by omega,by omega,by (refine aH ?_;exact uT)⟩
  ·have : i = l.length:=by omega
   subst this
   rw [Qx]
   exact QY rfl
def cnt (n : Nat) (k : Int) : List Int:=(List.range n).map fun i=>k + ((i : Nat) : Int)
theorem LP (n : Nat) (k : Int) : (cnt n k).length = n:=by simp [cnt]
theorem alE {n i : Nat} (k : Int) (h : i < n) : (cnt n k).getD i 0 = k + (i : Nat):=by
 simp [cnt,List.getD_eq_getElem?_getD,h]
def IE (l : List Int) (k : Int) (i : Nat) : List Int:=cnt i k ++ l.drop i
theorem aiz (l : List Int) (k : Int) : IE l k 0 = l:=by simp [IE,cnt]
theorem acU (l : List Int) (k : Int) : IE l k l.length = cnt l.length k:=by simp [IE]
theorem acV (l : List Int) (k : Int) {i : Nat} (h : i ≤ l.length) : (IE l k i).length = l.length:=by simp [IE,LP];omega
theorem acW (l : List Int) (k : Int) {i : Nat} (h : i < l.length) : (IE l k i).set i (k + (i : Nat)) = IE l k (i + 1):=by
 unfold IE
 rw [List.set_append_right _ _ (by rw [LP];exact Nat.le_refl _),LP,Nat.sub_self,List.drop_eq_getElem_cons h,List.set_cons_zero]
 unfold cnt
 rw [List.range_succ,List.map_append]
 simp
theorem dM {T : Tb} (h : iD T) {l : List Int} {k : Int} (hl : l.length ≤ 1000000000:=by exact bZ) (hk : 0 ≤ k ∧ k ≤ 1000000000000:=by exact bZ) :
  Mk T 57 (ints l) k (ints (cnt l.length k)) (k + l.length):=by
 refine mk_iff fun σ v os ho hn=>?_
 rcases ho.wS with ⟨rfl,rfl,rfl⟩ | ⟨o,rfl,h1,rfl⟩
 ·have : ∃ r σ',Run T (.fn 57 [.sl 1 [],iv k] σ) (.fn r σ') ∧ (r = iv k ∧ σ' = σ):=by
   refine run_end nR h.hT ?_
   simp only [oh,Lz,St.enter,List.length_cons,List.length_nil,Nat.zero_add]
   refine ew ?_
   refine aO (fun _ _=>false) (α:=Nat) (fun i=>⟨bF [.sl 1 [],iv k,.any,.any,.any,iv 0],σ,σ.length,0,[],[]⟩) (fun i=>i = 0) (fun i=>i) rfl 0 ?_ ?_ ?_
   ·rfl
   ·(refine aH ?_;exact uT)
   ·rintro i rfl
    refine ew ?_
    refine aG (fun hc=>absurd hc (by omega)) fun hc=>?_
    (refine ew ?_;try with_reducible exact True.intro)
  obtain ⟨r,σ',h2,rfl,rfl⟩:=this
  exact ⟨σ',by simpa using h2,ho,Fr.refl _ _⟩
 ·have hlt:=aJ h1
  have : ∃ r σ',Run T (.fn 57 [.bC o 0 l.length,iv k] σ) (.fn r σ') ∧ (r = iv (k + l.length) ∧ aj σ' o = some ⟨1,aN (cnt l.length k)⟩ ∧ Fr [o] σ σ'):=by
   refine run_end nR h.hT ?_
   simp only [oh,Lz,St.enter,List.length_cons,List.length_nil,Nat.zero_add]
   refine ew ?_
   refine aO (fun _ _=>false) (α:=Nat × Store) (fun q=>⟨bF [.bC o 0 l.length,iv (k + (q.1 : Nat)),.any,.any,.any,iv (q.1 : Nat)],q.2,σ.length,0,[],[]⟩) (fun q=>q.1 ≤ l.length ∧ aj q.2 o = some ⟨1,aN (IE l k q.1)⟩ ∧ Fr [o] σ q.2) (fun q=>l.length - q.1) rfl (0,σ) ?_ ?_ ?_
   ·exact ⟨by omega,by rw [aiz];exact h1,Fr.refl _ _⟩
   ·(refine aH ?_;exact uT)
   ·rintro ⟨i,s⟩ ⟨hi,h2,h3⟩
    dsimp only at hi h2 h3
    have e1:=acV l k hi
    have hls:=h3.len
    refine BZ @h2 ?_
    refine aG (fun hc=>?_) fun hc=>?_ <;> (refine Cb @hc @h2 @e1 ?_;try with_reducible exact True.intro)
    ·have e2:=acW l k (i:=i) (by omega)
     rw [e2]
     refine ⟨(i + 1,s.set o (some ⟨1,aN (IE l k (i + 1))⟩)),by dsimp only;omega,⟨by dsimp only;omega,?_,?_⟩,by (refine aH ?_;exact uT)⟩
     ·dsimp only;exact bn (by omega)
     ·dsimp only;exact h3.trans (Iz (by simp))
    ·have : i = l.length:=by omega
     subst this
     exact ⟨rfl,by rw [acU],h3⟩
  obtain ⟨r,σ',h2,rfl,h3,h4⟩:=this
  have:=Iy h3
  rw [LP] at this
  exact ⟨σ',h2,this,h4⟩
theorem lN {T : Tb} (h : kQ T) {n : Nat} {k : Int} (hl : n ≤ 1000000000:=by exact bZ) (hk : 0 ≤ k ∧ k ≤ 1000000000000:=by exact bZ) :
  PF T 59 [ints (cnt n k),iv k] (iv (k + n)):=by
 have hcl:=LP n k
 refine aT nR h.hT ?_
 simp only [uY,Lz]
 refine ev ?_
 refine aO (fun _ _=>false) (α:=Nat) (fun i=>⟨bF [ints (cnt n k),iv (k + (i : Nat)),.any,.any,.any,iv (i : Nat)],[],0,0,[],[]⟩) (fun i=>i ≤ n) (fun i=>n - i) rfl 0 ?_ ?_ ?_
 ·omega
 ·(refine aH ?_;exact wz)
 ·intro i hi
  refine ev1 @hcl ?_
  refine aG (fun hc=>?_) fun hc=>?_ <;> (refine iP @hc @hcl ?_;try with_reducible exact True.intro)
  ·have:=alE k (show i < n by omega)
   refine ev1 @this ?_
   exact ⟨i + 1,by omega,by omega,by (refine aH ?_;exact wz)⟩
  ·have : i = n:=by omega
   subst this
   rfl
theorem ajC {a b : St} (h : Fg a b:=by
 (refine Qn [] (by simp) (by intro p hp;cases hp) rfl ?_) <;> (try (refine ew ?_;try with_reducible exact True.intro)) <;> (repeat' (first | exact True.intro | omega | exact fZ rfl (by simp) | refine ⟨?_,?_⟩ | exact of_eq_true (Ap _ _ _) | exact iQ rfl (by simp;done) | exact iQ rfl rfl | (refine kS rfl ?_ rfl;simp [aN];done) | (refine kS rfl ?_ rfl;simp [aN];omega) | (refine CP ?_ ?_;(focus ((refine ew ?_;try with_reducible exact True.intro);done));(intro q hq k s0 l0;simp;done))))) : Fg a b:=h
theorem Gw {T : Tb} (h : jU T) {n : Int} (hn : 0 ≤ n ∧ n < 18446744073709551616:=by exact bZ) : PO T 69 [.int .u64 n] (ints (mk n.toNat)):=by
 have hlen : (mk n.toNat).length ≤ 3:=aZ.2 (by omega)
 refine eX nR h.hT ?_
 simp only [l9,Lz,St.enter,List.length_cons,List.length_nil,Nat.zero_add]
 refine ew ?_
 refine aO (fun _ _=>false) (α:=Nat × List Int) (fun q=>⟨bF [.int .u64 (q.1 : Nat),.any,.any,ZF q.2.length],WE 1 (aN q.2),0,0,[],[]⟩) (fun q=>q.2 ++ mk q.1 = mk n.toNat ∧ q.1 ≤ n.toNat) (fun q=>q.1) rfl (n.toNat,[]) ?_ ?_ ?_
 ·exact ⟨rfl,Nat.le_refl _⟩
 ·first | ((refine aH ?_;exact uT);done) | (exact ajC;done)
 ·rintro ⟨m,xs⟩ ⟨hm,hle⟩
  dsimp only at hm hle
  have hx : xs.length ≤ 3:=by
   have:=congrArg List.length hm
   simp at this;omega
  have e1 : ((m : Int).tmod 1000000000) = ((m % 1000000000 : Nat) : Int):=by rw [J5 (by omega)];omega
  have e2 : ((m : Int).tdiv 1000000000) = ((m / 1000000000 : Nat) : Int):=by rw [J6 (by omega)];omega
  have key : 0 < m → (xs ++ [((m % 1000000000 : Nat) : Int)]) ++ mk (m / 1000000000) = mk n.toNat:=fun h=>by
   rw [← hm,mk_pos (n:=m) (by omega)];simp
  (rcases xs with _ | ⟨x,xs⟩ <;> simp only [List.length_nil,List.length_cons,jX,jB,fD,dL] at hx ⊢)
  ·refine ew ?_
   refine aG (fun hb=>?_) fun hb=>?_ <;> (refine Cb @hb @e1 @e2 ?_;try with_reducible exact True.intro)
   ·exact ⟨by omega,(m / 1000000000,[] ++ [((m % 1000000000 : Nat) : Int)]),by dsimp only;omega,⟨key (by omega),by dsimp only;omega⟩,by (simp only [← yF];refine BD (k:=1) (Ar _ _) rfl ?_;(try (refine ew ?_;try with_reducible exact True.intro));(repeat' (first | exact True.intro | omega | exact qV (by simp) (by simp) (by simp) | refine ⟨?_,?_⟩ | exact iQ rfl (by simp))))⟩
   ·have e : mk n.toNat = []:=by rw [← hm,show m = 0 by omega,mk_zero];rfl
    rw [e];exact VA
  ·refine ew ?_
   refine aG (fun hb=>?_) fun hb=>?_ <;> (refine Cb @hb @e1 @e2 ?_;try with_reducible exact True.intro)
   ·refine ⟨by omega,(m / 1000000000,(x :: xs) ++ [((m % 1000000000 : Nat) : Int)]),by dsimp only;omega,⟨key (by omega),by dsimp only;omega⟩,by (simp only [← yF];refine BD (k:=2) (Ar _ _) rfl ?_;(try (refine ew ?_;try with_reducible exact True.intro));(repeat' (first | exact True.intro | omega | exact qV (by simp) (by simp) (by simp) | refine ⟨?_,?_⟩ | exact iQ rfl (by simp))))⟩
   ·have e : x :: xs = mk n.toNat:=by rw [← hm,show m = 0 by omega,mk_zero];simp
    rw [← e];exact QY (o:=0) (l:=x :: xs) rfl
theorem Z7 {T : Tb} (h : mD T) {l : List Int} {σ : Store} {o : Nat} (h0 : aj σ o = some ⟨1,aN l⟩) (hl : l.length ≤ 1048576:=by exact bZ) :
  Run T (.fn 151 [.bC o 0 l.length] σ) (.fn (.bC o 0 (trim l).length) σ):=by
 have : ∃ r σ',Run T (.fn 151 [.bC o 0 l.length] σ) (.fn r σ') ∧ (r = .bC o 0 (trim l).length ∧ σ' = σ):=by
  have htl : ∀ n,n ≤ l.length → ni l l.length = ni l n → (n = 0 ∨ l.getD (n - 1) 0 ≠ 0) → (trim l).length = n:=by
   intro n hn h1 h2
   unfold trim
   rw [h1,List.length_take]
   cases n with
   | zero=>simp [ni]
   |
    succ m =>
    simp only [Nat.add_sub_cancel] at h2
    simp only [ni]
    rw [if_neg (by omega)]
    omega
  refine run_end nR h.hT ?_
  simp only [qx,Lz,St.enter,List.length_cons,List.length_nil,Nat.zero_add]
  refine ew ?_
  refine BZ @h0 ?_
  refine aO (fun _ _=>false) (α:=Nat) (fun n=>⟨bF [.bC o 0 l.length,.any,.any,iv (n : Nat)],σ,σ.length,0,[],[]⟩) (fun n=>n ≤ l.length ∧ ni l l.length = ni l n) (fun n=>n) rfl l.length ?_ ?_ ?_
  ·exact ⟨by omega,rfl⟩
  ·(refine aH ?_;exact uT)
  ·rintro n ⟨hn,ht⟩
   refine BZ @h0 ?_
   refine aG (fun hb=>?_) fun hb=>?_
   ·obtain ⟨m,rfl⟩ : ∃ m,n = m + 1:=⟨n - 1,by omega⟩
    have e1 : ((m + 1 : Nat) : Int) - 1 = (m : Nat):=by omega
    refine Cb @h0 @e1 @hb ?_
    refine aG (fun hc=>?_) fun hc=>?_ <;> (refine sJ @hc @h0 ?_;try with_reducible exact True.intro)
    ·refine ⟨m,by omega,⟨by omega,?_⟩,by (refine aH ?_;exact uT)⟩
     rw [ht];simp only [ni,hc,if_true]
    ·rw [htl (m + 1) hn ht (by simp only [Nat.add_sub_cancel];omega)]
   ·have : n = 0:=by omega
    subst this
    rw [htl 0 hn ht (by omega)]
    (refine sJ @h0 @hb ?_;try with_reducible exact True.intro)
 obtain ⟨r,σ',h1,rfl,rfl⟩:=this
 exact h1
theorem Rk {T : Tb} (h : eG T) {neg : Bool} {n : Nat} {σ : Store} {o : Nat} (h0 : aj σ o = some ⟨1,aN (mk n)⟩) (hn : 0 < n) (hl : (mk n).length ≤ 60:=by exact bZ) :
  ∃ σ',Run T (.fn 68 [.bool neg,.bC o 0 (mk n).length] σ) (.fn (.agg [.bool neg,.bC o 0 (mk n).length]) σ') ∧ (∀ q,q < σ.length → aj σ' q = aj σ q) ∧ σ.length ≤ σ'.length:=by
 have : ∃ r σ',Run T (.fn 68 [.bool neg,.bC o 0 (mk n).length] σ) (.fn r σ') ∧ (r = .agg [.bool neg,.bC o 0 (mk n).length] ∧ (∀ q,q < σ.length → aj σ' q = aj σ q) ∧ σ.length ≤ σ'.length):=by
  have hp:=AP.2 hn
  refine run_end nR h.hT ?_
  simp only [jY,Lz,St.enter,List.length_cons,List.length_nil,Nat.zero_add]
  refine ew ?_
  have hlt:=aJ h0
  have c1 : ¬ (((mk n).length : Nat) : Int) = 0:=by omega
  have c2 : ¬ (60 : Int) < ((mk n).length : Nat):=by omega
  refine xX @h0 @hlt @c1 @c2 ?_
  exact ⟨fun q hq=>aQ hq,by omega⟩
 obtain ⟨r,σ',h1,rfl,h2,h3⟩:=this
 exact ⟨σ',h1,h2,h3⟩
theorem afu {a b : St} (h : Fg a b:=by
 (refine Qn [(0,_)] (by simp) (by intro p hp;simp only [List.mem_cons,List.not_mem_nil,or_false] at hp;rcases hp with rfl <;> refine ⟨rfl,?_⟩ <;> first | exact nU _ | simp [dR,V.still]) rfl ?_) <;> (try (refine ew ?_;try with_reducible exact True.intro)) <;> (repeat' (first | exact True.intro | omega | exact fZ rfl (by simp) | refine ⟨?_,?_⟩ | exact of_eq_true (Ap _ _ _) | exact iQ rfl (by simp;done) | exact iQ rfl rfl | (refine kS rfl ?_ rfl;simp [aN];done) | (refine kS rfl ?_ rfl;simp [aN];omega) | (refine CP ?_ ?_;(focus ((refine ew ?_;try with_reducible exact True.intro);done));(intro q hq k s0 l0;simp;done))))) : Fg a b:=h
theorem Uy {T : Tb} (h : sQ T) {m n : Nat} (hn : 0 < n) (la : (mk m).length ≤ 900:=by exact bZ) (lb : (mk n).length ≤ 900:=by exact bZ) :
  PX T 138 [ints (mk m),ints (mk n)] [(true,ints (mk (m / n))),(false,ints (mk (m % n)))]:=by
 obtain ⟨A,hA⟩ : ∃ A,mk m = A:=⟨_,rfl⟩
 obtain ⟨B,hB⟩ : ∃ B,mk n = B:=⟨_,rfl⟩
 have hva : val A = m:=by rw [← hA,val_mk]
 have hbA : Lb A:=hA ▸ kH m
 have hbB : Lb B:=hB ▸ kH n
 rw [hA] at la ⊢
 rw [hB] at lb ⊢
 refine LM (fun x d=>(x == 69 && d == 28) || (x == 151 && d == 74)) h.hT ?_
 simp only [sO,Lz,St.enter,List.length_cons,List.length_nil,Nat.zero_add]
 refine ew ?_
 have cas : (((A.length : Nat) : Int) ≤ 2 ∧ ((B.length : Nat) : Int) ≤ 2) ∨ ((((A.length : Nat) : Int) ≤ 2 ∧ ¬ ((B.length : Nat) : Int) ≤ 2) ∨ ¬ ((A.length : Nat) : Int) ≤ 2):=by omega
 rcases cas with ⟨c1,c2⟩ | big
 ·have sm : m < 1000000000000000000:=by
   have:=pG hbA
   rw [hva] at this
   exact Nat.lt_of_lt_of_le this (Nat.le_trans (Nat.pow_le_pow_right (by omega) (show A.length ≤ 2 by omega)) (by omega))
  have sn : n < 1000000000000000000:=by
   have:=pG hbB
   rw [← hB,val_mk] at this
   exact Nat.lt_of_lt_of_le this (Nat.le_trans (Nat.pow_le_pow_right (by omega) (show (mk n).length ≤ 2 by rw [hB];omega)) (by omega))
  have cs:=yG h.jr sm
  have ct:=yG h.jr sn
  rw [hA] at cs
  rw [hB] at ct
  have e1 : ((m : Nat) : Int).tdiv (n : Nat) = ((m / n : Nat) : Int):=by rw [Int.tdiv_eq_ediv_of_nonneg (by omega),Int.natCast_ediv]
  have e2 : ((m : Nat) : Int).tmod (n : Nat) = ((m % n : Nat) : Int):=by rw [Int.tmod_eq_emod_of_nonneg (by omega),Int.natCast_emod]
  have d1 : m / n ≤ m:=Nat.div_le_self ..
  have d2 : m % n ≤ m:=Nat.mod_le ..
  have nz : ¬ ((n : Nat) : Int) = 0:=by omega
  generalize m / n = q at *
  generalize m % n = r at *
  have c3:=qy h.cO (n:=((q : Nat) : Int)) (by omega)
  have c4:=qy h.cO (n:=((r : Nat) : Int)) (by omega)
  rw [Int.toNat_natCast] at c3 c4
  refine sJ @c1 @c2 ?_
  refine ah cs ?_
  refine ew ?_
  refine ah ct ?_
  refine Cb @nz @e1 @e2 ?_
  have p3:=Gw h.cO (n:=((q : Nat) : Int)) (by omega)
  rw [Int.toNat_natCast] at p3
  refine kP p3 (by (refine ew ?_;try with_reducible exact True.intro)) (by (refine ew ?_;try with_reducible exact True.intro)) ?_
  intro v1 s1 o1 g
  refine Cb @nz @e1 @e2 ?_
  refine ah c4 ?_
  refine ew ?_
  refine ⟨by unfold iW;decide +kernel,?_⟩
  exact .inl (aix g.ow g.nd rfl)
 rcases big with ⟨c1,c2⟩ | c1
 case' inl=>(refine sJ @c1 @c2 ?_;try with_reducible exact True.intro)
 case' inr=>(refine BZ @c1 ?_;try with_reducible exact True.intro)
 all_goals
  refine ⟨by omega,?_⟩
  rw [Gh]
  refine aO (fun x d=>(x == 69 && d == 28) || (x == 151 && d == 74)) (α:=Nat × List Int × Nat) (fun q=>⟨bF [ints A,ints B,.any,.any,.any,.any,.any,.any,.bC 0 0 A.length,ints (mk q.2.2),iv ((q.1 : Nat) - 1)],[some ⟨1,aN q.2.1⟩],0,0,[],[]⟩) (fun q=>q.1 ≤ A.length ∧ q.2.1.length = A.length ∧ Lb q.2.1 ∧ (∀ j,j < q.1 → q.2.1.getD j 0 = 0) ∧ q.2.2 < n ∧ val (A.drop q.1) = val (q.2.1.drop q.1) * n + q.2.2) (fun q=>q.1) rfl (A.length,List.replicate A.length 0,0) ?_ ?_ ?_
  ·exact ⟨by omega,by simp,JY _,by intro j _;simp [List.getD_eq_getElem?_getD,List.getElem?_replicate];split <;> rfl,hn,by dsimp only;rw [bV (Nat.le_refl _),bV (by simp)];simp⟩
  ·rw [mk_zero]
   exact afu
  ·rintro ⟨k,Q,x⟩ ⟨hk,hQ,hQb,hz,hx,hv⟩
   dsimp only at hk hQ hQb hz hx hv
   by_cases k0 : k = 0
   ·subst k0
    rw [List.drop_zero,List.drop_zero,hva] at hv
    obtain ⟨q1,q2⟩:=Gn hv hx
    have e0 : ¬ (0 : Int) ≤ ((0 : Nat) : Int) - 1:=by omega
    refine BZ @e0 ?_
    have hr:=Z7 h.jc (l:=Q) (σ:=[some ⟨1,aN Q⟩]) (o:=0) rfl (by omega)
    rw [hQ] at hr
    refine fU hr rfl (Nat.le_refl _) (by simp) ?_
    refine ew ?_
    rw [← q1,← q2]
    exact .inr (afr (by have:=(Ux Q).2;omega) (by rw [← (Ux Q).1,uz hQb]) rfl)
   ·obtain ⟨i,rfl⟩ : ∃ i,k = i + 1:=⟨k - 1,by omega⟩
    have e0 : (((i + 1 : Nat) : Int) - 1) = (i : Nat):=by omega
    have e1 : ((i : Nat) : Int) < (A.length : Nat):=by omega
    have e2 : (0 : Int) ≤ (i : Nat):=by omega
    rw [e0]
    have ga:=kJ hbA i
    have hvi:=gq A i
    obtain ⟨t,ht⟩ : ∃ t,(A.getD i 0).toNat + 1000000000 * x = t:=⟨_,rfl⟩
    have htn : t < n * 1000000000:=by omega
    have lt' : (A.getD i 0 :: mk x).length ≤ 1048576:=by
     have : (mk x).length ≤ B.length:=by rw [aZ];exact Nat.lt_trans hx (by have:=pG hbB;rw [← hB,val_mk,hB] at this;exact this)
     simp only [List.length_cons];omega
    have tr : trim (A.getD i 0 :: mk x) = mk t:=by
     rw [uz (by intro y hy;rcases List.mem_cons.1 hy with rfl | hy;exact ga;exact kH x y hy),← ht,val,val_mk]
    have ct:=Fq h.jc (l:=A.getD i 0 :: mk x) lt'
    rw [tr] at ct
    have ely : ∀ y,y ≤ t → (mk y).length ≤ 901:=by
     intro y hy
     have : (mk y).length ≤ B.length + 1:=by
      rw [aZ,Nat.pow_succ]
      have:=pG hbB
      rw [← hB,val_mk,hB] at this
      exact Nat.lt_of_lt_of_le (Nat.lt_of_le_of_lt hy htn) (Nat.mul_le_mul_right _ (Nat.le_of_lt this))
     omega
    have lx:=ely
    refine sJ @e2 @e1 ?_
    refine ⟨fun e3=>?_,fun e3=>?_⟩
    case' refine_1 =>
     have x0 : mk x = []:=by cases hm : mk x with | nil=>rfl | cons a l=>rw [hm] at e3;cases e3
     rw [x0] at ct
     rw [show [[V.int IntKind.i64 (A.getD i 0)]] = aN [A.getD i 0] from rfl]
     (refine ew ?_;try with_reducible exact True.intro)
    case' refine_2 =>
     refine BZ @e3 ?_
     rw [show [V.int IntKind.i64 (A.getD i 0)] :: aN (mk x) = aN (A.getD i 0 :: mk x) from rfl]
     refine ew ?_
     have lm:=lt'
     simp only [List.length_cons] at lm
     refine ⟨by omega,?_⟩
    all_goals
     clear lt'
     refine ah ct ?_
     refine ew ?_
     refine aO (fun x d=>(x == 69 && d == 28) || (x == 151 && d == 74)) (α:=List Int × Nat) (fun q=>⟨bF [ints A,ints B,.any,.any,.any,.any,.any,.any,.bC 0 0 A.length,ints (mk q.2),iv (i : Nat)],[some ⟨1,aN q.1⟩],0,0,[],[]⟩) (fun q=>q.1.length = A.length ∧ Lb q.1 ∧ (∀ j,j < i → q.1.getD j 0 = 0) ∧ q.1.drop (i + 1) = Q.drop (i + 1) ∧ q.2 + (q.1.getD i 0).toNat * n = t) (fun q=>q.2) rfl (Q,t) ?_ ?_ ?_
     ·exact ⟨hQ,hQb,fun j hj=>hz j (by omega),rfl,by dsimp only;rw [hz i (by omega)];simp⟩
     ·exact afu
     ·rintro ⟨P,y⟩ ⟨hP,hPb,hzP,hd,hy⟩
      dsimp only at hP hPb hzP hd hy
      have yt : y ≤ t:=by omega
      have ly:=ely y yt
      have cc:=QD h.zl (lD y) (lD n) (by omega) (by rw [hB];omega)
      rw [val_mk,val_mk,hB] at cc
      refine ew ?_
      refine ah cc ?_
      refine ew ?_
      refine aG (fun c3=>?_) fun c3=>?_ <;> (refine BZ @c3 ?_;try with_reducible exact True.intro)
      ·have hny : n ≤ y:=ny.1 c3
       obtain ⟨d,pg,d0,d1,d2⟩:=QG h.GZ hn hny (by omega) (by omega) (by rw [hB];omega)
       rw [hB] at pg
       have pm:=QE h.zn (m:=n) (n:=d) (by rw [hB];omega) (by rw [mk_one d0 d1];simp)
       have dn : n * d ≤ y:=by rw [Nat.mul_comm];exact d2
       have lnd:=ely (n * d) (by omega)
       have ps:=Ll h.sS dn (by omega) (by omega)
       rw [hB,mk_one d0 d1] at pm
       have gp:=kJ hPb i
       have y2 : y - n * d + ((P.getD i 0).toNat + d) * n = t:=by rw [Nat.add_mul,Nat.mul_comm d n];omega
       have gp2 : P.getD i 0 + d < 1000000000:=by
        have : ((P.getD i 0).toNat + d) * n < 1000000000 * n:=by rw [Nat.mul_comm 1000000000];omega
        have:=Nat.lt_of_mul_lt_mul_right this
        omega
       have d0' : 0 < n * d:=Nat.mul_pos hn d0
       have k1:=Gl (l:=P) (i:=i) (d:=P.getD i 0 + d) (by omega) gp2 hPb
       have k2 : ∀ j,j < i → (P.set i (P.getD i 0 + d)).getD j 0 = 0:=by
        intro j hj
        rw [iR,if_neg (by omega)]
        exact hzP j hj
       have k3 : (P.set i (P.getD i 0 + d)).drop (i + 1) = Q.drop (i + 1):=by rw [List.drop_set_of_lt (by omega),hd]
       have k4 : ((P.set i (P.getD i 0 + d)).getD i 0) = P.getD i 0 + d:=by rw [iR,if_pos ⟨rfl,by omega⟩]
       have k5 : y - n * d + ((P.set i (P.getD i 0 + d)).getD i 0).toNat * n = t:=by
        rw [k4,show (P.getD i 0 + (d : Int)).toNat = (P.getD i 0).toNat + d by omega];exact y2
       have k6 : y - n * d < y:=by omega
       clear y2 hy htn ht hvi k4 hzP hd d2 lx ely hv hz hx
       refine ah pg ?_
       refine ew ?_
       rw [show [[V.int IntKind.i64 (d : Int)]] = aN [(d : Int)] from rfl]
       refine ew ?_
       refine ah pm ?_
       refine ew ?_
       refine ah ps ?_
       refine sJ @e1 @hP ?_
       exact ⟨(P.set i (P.getD i 0 + d),y - n * d),k6,⟨by simp [hP],k1,k2,k3,k5⟩,by exact afu⟩
      ·have hny : y < n:=by
        have:=@ny y n
        omega
       have k1:=gq P i
       rw [hd] at k1
       have k2 : val (A.drop i) = val (P.drop i) * n + y:=by
        rw [hvi,hv,k1,Nat.add_mul,Nat.mul_add,← Nat.mul_assoc];omega
       exact ⟨(i,P,y),by dsimp only;omega,⟨by dsimp only;omega,hP,hPb,hzP,hny,k2⟩,by (refine aH ?_;exact uT)⟩
theorem Rl {σ : Store} {b : Bool} {v : V} {l : List Int} {os : List Nat} (h : bD σ v (ints l) os) : bD σ (.agg [.bool b,v]) (.agg [.bool b,ints l]) os:=gQ (jC (by simpa using jD h iq))
theorem Px {σ : Store} {b : Bool} {v w : V} {l m : List Int} {o1 o2 : List Nat} (h : bD σ v (ints l) o1) (k : bD σ w (ints m) o2) : bD σ (.agg [.bool b,v,w]) (.agg [.bool b,ints l,ints m]) (o1 ++ o2) :=
 gQ (jC (jD h (by simpa using jD k iq)))
theorem afv {σ : Store} : bD σ (aU R0) (aU R0) []:=Px (o1:=[]) (o2:=[]) gy gy
theorem Gx {σ : Store} : Fin σ (.agg [.bool false,.ak,.ak]) (aU R0):=⟨_,[],jf,afv,.nil⟩
theorem bD.apl {σ : Store} {v : V} {l : List Int} {os : List Nat} (h : bD σ v (ints l) os) : lenOf σ v = some l.length:=by
 rcases h.wS with ⟨rfl,rfl,_⟩ | ⟨o,rfl,h1,_⟩
 ·rfl
 ·simp [lenOf,h1]
theorem IG {T : Tb} (h : eG T) {neg : Bool} {σ : Store} {v : V} {os : List Nat} (h0 : bD σ v (ints []) os) :
  ∃ σ',Run T (.fn 68 [.bool neg,v] σ) (.fn (.agg [.bool false,.ak]) σ') ∧ (∀ q,q < σ.length → aj σ' q = aj σ q) ∧ σ.length ≤ σ'.length:=by
 have : ∃ r σ',Run T (.fn 68 [.bool neg,v] σ) (.fn r σ') ∧ (r = .agg [.bool false,.ak] ∧ (∀ q,q < σ.length → aj σ' q = aj σ q) ∧ σ.length ≤ σ'.length):=by
  rcases h0.wS with ⟨_,rfl,_⟩ | ⟨o,rfl,h1,_⟩
  ·have hz : ((0 : Nat) : Int) = 0:=rfl
   refine run_end nR h.hT ?_
   simp only [jY,Lz,St.enter,List.length_cons,List.length_nil,Nat.zero_add]
   refine ew ?_
   refine BZ @hz ?_
   exact ⟨fun q hq=>aQ hq,by omega⟩
  ·have hlt:=aJ h1
   have hz : ((0 : Nat) : Int) = 0:=rfl
   simp only [List.length_nil]
   refine run_end nR h.hT ?_
   simp only [jY,Lz,St.enter,List.length_cons,List.length_nil,Nat.zero_add]
   refine ew ?_
   refine Cb @h1 @hlt @hz ?_
   exact ⟨fun q hq=>aQ hq,by omega⟩
 obtain ⟨r,σ',h1,rfl,h2,h3⟩:=this
 exact ⟨σ',h1,h2,h3⟩
theorem Ye {T : Tb} (h : eG T) {as : List Src} {dst : Option Nat} {env : Nat → V} {σ : Store} {kp bs : Nat} {rs ms : List Nat} {k : St → Prop} {neg : Bool} {n o : Nat}
  (h0 : aj σ o = some ⟨1,aN (mk n)⟩) (hn : 0 < n) (ha : (as.map fun s=>s.ev env) = [.bool neg,.bC o 0 (mk n).length]) (hl : (mk n).length ≤ 60)
  (hk : ∀ σ2 : Store,(∀ q,q < σ.length → aj σ2 q = aj σ q) → σ.length ≤ σ2.length → k ⟨dZ env dst (.agg [.bool neg,.bC o 0 (mk n).length]),σ2,kp,bs,rs,ms⟩) : JR T 68 as dst ⟨env,σ,kp,bs,rs,ms⟩ k:=by
 have e1 : EW [o] σ = [some ⟨1,aN (mk n)⟩]:=by simp [EW,h0,NH]
 obtain ⟨σ',hr,hold,hlen⟩:=Rk h (neg:=neg) (n:=n) (σ:=EW [o] σ) (o:=0) (by rw [e1];rfl) hn hl
 refine NI (ρ:=[o]) (by simp) (fun q hq=>⟨_,by simp at hq;subst hq;exact h0⟩) ?_ hr (fun q hq=>hold q (by rw [e1];exact hq)) ?_
 ·have:=congrArg (List.map (aY (place [o]))) ha
  rw [List.map_map] at this
  refine Eq.trans this ?_
  simp [aY,place]
 ·intro σ2 h1 h2
  have:=hk σ2 h1 h2
  simpa [aY,aY.Ee,back] using this
theorem acX {T : Tb} (h : eG T) {as : List Src} {dst : Option Nat} {env : Nat → V} {σ : Store} {kp bs : Nat} {rs ms : List Nat} {k : St → Prop} {neg : Bool} {v : V} {os : List Nat}
  (h0 : bD σ v (ints []) os) (ha : (as.map fun s=>s.ev env) = [.bool neg,v])
  (hk : ∀ σ2 : Store,(∀ q,q < σ.length → aj σ2 q = aj σ q) → σ.length ≤ σ2.length → k ⟨dZ env dst (.agg [.bool false,.ak]),σ2,kp,bs,rs,ms⟩) : JR T 68 as dst ⟨env,σ,kp,bs,rs,ms⟩ k:=by
 rcases h0.wS with ⟨_,rfl,_⟩ | ⟨o,rfl,h1,_⟩
 ·obtain ⟨σ',hr,hold,hlen⟩:=IG h (neg:=neg) (σ:=EW [] σ) (v:=.sl 1 []) (os:=[]) gy
  refine NI (ρ:=[]) (by simp) (by simp) ?_ hr (fun q hq=>by simp at hq) ?_
  ·have:=congrArg (List.map (aY (place []))) ha
   rw [List.map_map] at this
   refine Eq.trans this ?_
   simp [aY,place]
  ·intro σ2 h1 h2
   have:=hk σ2 h1 h2
   simpa [aY,aY.Ee,back] using this
 ·have e1 : EW [o] σ = [some ⟨1,aN []⟩]:=by simp [EW,h1,NH]
  obtain ⟨σ',hr,hold,hlen⟩:=IG h (neg:=neg) (σ:=EW [o] σ) (v:=.bC 0 0 ([] : List Int).length) (os:=[0]) (Iy (by rw [e1];rfl))
  refine NI (ρ:=[o]) (by simp) (fun q hq=>⟨_,by simp at hq;subst hq;exact h1⟩) ?_ hr (fun q hq=>hold q (by rw [e1];exact hq)) ?_
  ·have:=congrArg (List.map (aY (place [o]))) ha
   rw [List.map_map] at this
   refine Eq.trans this ?_
   simp [aY,place]
  ·intro σ2 h1 h2
   have:=hk σ2 h1 h2
   simpa [aY,aY.Ee,back] using this
theorem Kt {T : Tb} (h : mG T) {n d : Int} (ln : (mk n.natAbs).length ≤ 60:=by exact bZ) (ld : (mk d.natAbs).length ≤ 60:=by exact bZ) :
  PO T 144 [Il (bi n),Il (bi d)] (aU (Q.raw (KN n d))):=by
 by_cases hd : d = 0
 ·subst hd
  have e : KN n 0 = none:=rfl
  rw [e]
  refine eX nR h.hT ?_
  simp only [ku,Lz,St.enter,List.length_cons,List.length_nil,Nat.zero_add]
  refine ew ?_
  have c1 : (((mk (0 : Int).natAbs).length : Nat) : Int) = 0:=by
   show (((mk 0).length : Nat) : Int) = 0
   rw [Vo];rfl
  refine BZ @c1 ?_
  exact Gx
 ·rw [Vq hd]
  have hg : 0 < Nat.gcd n.natAbs d.natAbs:=Nat.gcd_pos_of_pos_right _ (by omega)
  have cg:=QI h.zG (m:=n.natAbs) (n:=d.natAbs) (by omega) (by omega)
  have lg : (mk (Nat.gcd n.natAbs d.natAbs)).length ≤ 60:=Nat.le_trans (Gq (Nat.le_of_dvd (by omega) (Nat.gcd_dvd_right _ _))) ld
  have l1:=Nu n.natAbs (Nat.gcd n.natAbs d.natAbs)
  have l2:=Nu d.natAbs (Nat.gcd n.natAbs d.natAbs)
  have cn:=Uy h.oz (m:=n.natAbs) hg (by omega) (by omega)
  have cd:=Uy h.oz (m:=d.natAbs) hg (by omega) (by omega)
  have c1 : ¬ (((mk d.natAbs).length : Nat) : Int) = 0:=by have:=@acJ d.natAbs;omega
  clear hg lg
  generalize n.natAbs / Nat.gcd n.natAbs d.natAbs = u at *
  generalize d.natAbs / Nat.gcd n.natAbs d.natAbs = v at *
  generalize n.natAbs % Nat.gcd n.natAbs d.natAbs = u2 at *
  generalize d.natAbs % Nat.gcd n.natAbs d.natAbs = v2 at *
  refine eX (fun x d=>x == 138 || x == 68) h.hT ?_
  simp only [ku,Lz,St.enter,List.length_cons,List.length_nil,Nat.zero_add]
  refine ew ?_
  refine BZ @c1 ?_
  refine ah cg ?_
  refine ew ?_
  refine Uw cn (by (refine ew ?_;try with_reducible exact True.intro)) (by (refine ew ?_;try with_reducible exact True.intro)) ?_
  intro vs q1 o1 g
  obtain ⟨x,x2,rfl,hx2,g⟩:=g.of1
  have B0:=g.at 0 (by simp) rfl
  have B1:=g.at 1 (by simp) rfl
  have B2:=g.at 2 (by simp) rfl
  have lq : 3 ≤ q1.length:=g.len
  have f1 : ∀ o ∈ o1,3 ≤ o:=g.fresh
  have k1:=g.ow
  have n1:=g.nd
  clear g
  refine xX @B0 @B1 @B2 @lq ?_
  refine Uw cd (by (refine ew ?_;try with_reducible exact True.intro)) (by (refine ew ?_;try with_reducible exact True.intro)) ?_
  intro vs q2 o2 g
  obtain ⟨y,y2,rfl,hy2,g⟩:=g.of1
  replace B0:=(g.old 0 (by omega)).trans B0
  replace B1:=(g.old 1 (by omega)).trans B1
  replace B2:=(g.old 2 (by omega)).trans B2
  have lq2:=g.len
  have aub:=k1.lt
  replace k1:=k1.frame (σ':=q2) fun o ho=>g.old o (k1.lt o ho)
  have k2:=g.ow
  have n2:=g.nd
  have dj : ∀ o ∈ o1,∀ p ∈ o2,o ≠ p:=fun o ho p hp e=>by
   have:=aub o ho
   have:=g.fresh p hp
   omega
  have f2 : ∀ o ∈ o2,3 ≤ o:=fun o ho=>by have:=g.fresh o ho;omega
  replace lq : 3 ≤ q2.length:=by omega
  clear g lq2
  have e1:=k1.apl
  have e2:=k2.apl
  have lfy:=k2.leaf rfl
  have fcy:=LH lfy
  have aud : (o1 ++ o2).Nodup:=by
   rw [List.nodup_append];exact ⟨n1,n2,dj⟩
  by_cases c2 : (24 : Int) < ((mk u).length : Nat)
  ·refine ew7 @B0 @B1 @B2 @lq @e1 @e2 @c2 ?_
   rw [if_neg (by omega)]
   exact Gx
  by_cases c3 : (24 : Int) < ((mk v).length : Nat)
  ·refine ew8 @B0 @B1 @B2 @lq @e1 @e2 @c2 @c3 ?_
   rw [if_neg (by omega)]
   exact Gx
  refine ew8 @B0 @B1 @B2 @lq @e1 @e2 @c2 @c3 ?_
  rw [if_pos (by omega),← Lr]
  have key:=Fv (!decide (decide (n < 0) = decide (d < 0))) u
  by_cases hu : u = 0
  ·subst hu
   rw [mk_zero] at k1
   obtain ⟨q3,hr,hold,hlen⟩:=IG h.bH (neg:=!decide (decide (n < 0) = decide (d < 0))) k1
   refine fU hr rfl hlen (by simp) ?_
   replace B2:=(hold 2 (by omega)).trans B2
   have lq3 : 3 ≤ q3.length:=by omega
   refine xX @B2 @lq3 @lfy @fcy ?_
   rw [Lp,mk_zero]
   have k2':=k2.frame (σ':=q3.set 2 (some ⟨3,[[.bool false,.ak,y]]⟩)) fun o ho=>by
    have:=f2 o ho
    rw [aI (by omega),hold o (k2.lt o ho)]
   refine ⟨.agg [.bool false,.sl 1 [],y],o2,?_,Px (o1:=[]) gy k2',n2⟩
   simp only [Ip,Ns,Nr,Fj,fK,true_and,and_true]
   exact aC _
  ·rcases k1.wS with ⟨h1,_,_⟩ | ⟨o,rfl,h1,_⟩
   ·have:=AP.2 (Nat.pos_of_ne_zero hu)
    rw [h1] at this;simp at this
   ·obtain ⟨q3,hr,hold,hlen⟩:=Rk h.bH (neg:=!decide (decide (n < 0) = decide (d < 0))) h1 (Nat.pos_of_ne_zero hu) (by omega)
    refine fU hr rfl hlen (by simp) ?_
    replace B2:=(hold 2 (by omega)).trans B2
    have lq3 : 3 ≤ q3.length:=by omega
    refine xX @B2 @lq3 @lfy @fcy ?_
    have hb:=congrArg Bi.neg (ae2 (!decide (decide (n < 0) = decide (d < 0))) u (Nat.pos_of_ne_zero hu))
    have hb : decide (sg (!decide (decide (n < 0) = decide (d < 0))) u < 0) = !decide (decide (n < 0) = decide (d < 0)):=hb
    rw [hb]
    generalize (!decide (decide (n < 0) = decide (d < 0))) = ng
    have fr : ∀ p,p ∈ o1 ++ o2 → aj (q3.set 2 (some ⟨3,[[.bool ng,.bC o 0 (mk u).length,y]]⟩)) p = aj q2 p:=fun p hp=>by
     have h3 : 3 ≤ p ∧ p < q2.length:=by
      rcases List.mem_append.1 hp with hp | hp
      ·exact ⟨f1 p hp,k1.lt p hp⟩
      ·exact ⟨f2 p hp,k2.lt p hp⟩
     rw [aI (by omega),hold p h3.2]
    exact rY (Px (k1.frame fun p hp=>fr p (List.mem_append_left _ hp)) (k2.frame fun p hp=>fr p (List.mem_append_right _ hp))) aud
theorem acY {T : Tb} (h : eP T) {a b : Q} (ha : a.ok:=by assumption) (hb : b.ok:=by assumption) : PO T 131 [aU (Q.raw a),aU (Q.raw b)] (aU (Q.raw (JZ a b))):=by
 cases a with
 |
  none =>
  refine eX (fun x d=>x == 144) h.hT ?_
  simp only [iT,Lz,St.enter,List.length_cons,List.length_nil,Nat.zero_add]
  refine ew ?_
  refine ah (pR h.aP) ?_
  refine ew ?_
  exact Gx
 |
  some q=>cases b with
  |
   none =>
   refine eX (fun x d=>x == 144) h.hT ?_
   simp only [iT,Lz,St.enter,List.length_cons,List.length_nil,Nat.zero_add]
   refine ew ?_
   refine ah (jl h.aP) ?_
   refine ew ?_
   refine ah (pR h.aP) ?_
   refine ew ?_
   exact Gx
  |
   some s =>
   obtain ⟨l1,l2⟩:=Fz ha
   obtain ⟨l3,l4⟩:=Fz hb
   have e : JZ (some q) (some s) = KN (q.num * s.den + s.num * q.den) (q.den * s.den):=(Vg q s).symm
   rw [e]
   have t1:=gJ q.num s.den
   have t2:=gJ s.num q.den
   have t3:=gJ q.den s.den
   have t5:=gJ q.num s.num
   have t4:=DX (q.num * s.den) (s.num * q.den)
   have n1 : (mk (q.den : Int).natAbs).length ≤ 24:=by rw [Int.natAbs_natCast];exact l2
   have n2 : (mk (s.den : Int).natAbs).length ≤ 24:=by rw [Int.natAbs_natCast];exact l4
   refine eX (fun x d=>x == 144) h.hT ?_
   simp only [iT,Lz,St.enter,List.length_cons,List.length_nil,Nat.zero_add]
   refine ew ?_
   refine ah (jl h.aP) ?_
   refine ew ?_
   refine ah (jl h.aP) ?_
   refine ew ?_
   refine ah (rX h.bU (q:=s)) ?_
   refine ew ?_
   refine ah (kT h.bW (x:=q.num) (y:=s.den) (by omega) (by omega)) ?_
   refine ew ?_
   refine ah (rX h.bU (q:=q)) ?_
   refine ew ?_
   refine ah (kT h.bW (x:=s.num) (y:=q.den) (by omega) (by omega)) ?_
   refine ew ?_
   refine ah (XH h.JA (x:=q.num * s.den) (y:=s.num * q.den) (by omega) (by omega)) ?_
   refine ew ?_
   refine ⟨by unfold iW;decide +kernel,?_⟩
   refine ah (rX h.bU (q:=q)) ?_
   refine ew ?_
   refine ah (rX h.bU (q:=s)) ?_
   refine ew ?_
   refine ah (kT h.bW (x:=q.den) (y:=s.den) (by omega) (by omega)) ?_
   refine ew ?_
   refine kP (Kt h.jg (n:=q.num * s.den + s.num * q.den) (d:=q.den * s.den) (by omega) (by omega)) (by (refine ew ?_;try with_reducible exact True.intro)) (by (refine ew ?_;try with_reducible exact True.intro)) ?_
   intro v q os g
   have g0:=g
   obtain ⟨a0,d0,_,_,rfl,_,k1,k2⟩:=g.ow.Jf
   have B2:=g0.at 2 (by simp) rfl
   have lq : 3 ≤ q.length:=by have:=g0.len;simp at this;omega
   have la:=k1.leaf rfl
   have ld:=k2.leaf rfl
   have OQ:=And.intro la ld
   have fc:=fun b k=>oO (cs:=[.bool b,a0,d0]) (by simp [la,ld,show ∀ b,V.leaf (.bool b) = true from fun _=>rfl]) k
   refine xX @B2 @lq @OQ @fc ?_
   refine ⟨by unfold iW;decide +kernel,?_⟩
   refine xX @B2 @lq @OQ @fc ?_
   exact g0.ZW (by simp)
theorem acZ {T : Tb} (h : jQ T) {a b : Q} (ha : a.ok:=by assumption) (hb : b.ok:=by assumption) : PO T 157 [aU (Q.raw a),aU (Q.raw b)] (aU (Q.raw (Qq a b))):=by
 cases a with
 |
  none =>
  refine eX (fun x d=>x == 144) h.hT ?_
  simp only [iU,Lz,St.enter,List.length_cons,List.length_nil,Nat.zero_add]
  refine ew ?_
  refine ah (pR h.aP) ?_
  refine ew ?_
  exact Gx
 |
  some q=>cases b with
  |
   none =>
   refine eX (fun x d=>x == 144) h.hT ?_
   simp only [iU,Lz,St.enter,List.length_cons,List.length_nil,Nat.zero_add]
   refine ew ?_
   refine ah (jl h.aP) ?_
   refine ew ?_
   refine ah (pR h.aP) ?_
   refine ew ?_
   exact Gx
  |
   some s =>
   obtain ⟨l1,l2⟩:=Fz ha
   obtain ⟨l3,l4⟩:=Fz hb
   have e : Qq (some q) (some s) = KN (q.num * s.num) (q.den * s.den):=(Vh q s).symm
   rw [e]
   have t1:=gJ q.num s.den
   have t2:=gJ s.num q.den
   have t3:=gJ q.den s.den
   have t5:=gJ q.num s.num
   have t4:=DX (q.num * s.den) (s.num * q.den)
   have n1 : (mk (q.den : Int).natAbs).length ≤ 24:=by rw [Int.natAbs_natCast];exact l2
   have n2 : (mk (s.den : Int).natAbs).length ≤ 24:=by rw [Int.natAbs_natCast];exact l4
   refine eX (fun x d=>x == 144) h.hT ?_
   simp only [iU,Lz,St.enter,List.length_cons,List.length_nil,Nat.zero_add]
   refine ew ?_
   refine ah (jl h.aP) ?_
   refine ew ?_
   refine ah (jl h.aP) ?_
   refine ew ?_
   refine ah (kT h.bW (x:=q.num) (y:=s.num) (by omega) (by omega)) ?_
   refine ew ?_
   refine ah (rX h.bU (q:=q)) ?_
   refine ew ?_
   refine ah (rX h.bU (q:=s)) ?_
   refine ew ?_
   refine ah (kT h.bW (x:=q.den) (y:=s.den) (by omega) (by omega)) ?_
   refine ew ?_
   refine kP (Kt h.jg (n:=q.num * s.num) (d:=q.den * s.den) (by omega) (by omega)) (by (refine ew ?_;try with_reducible exact True.intro)) (by (refine ew ?_;try with_reducible exact True.intro)) ?_
   intro v q os g
   have g0:=g
   obtain ⟨a0,d0,_,_,rfl,_,k1,k2⟩:=g.ow.Jf
   have B2:=g0.at 2 (by simp) rfl
   have lq : 3 ≤ q.length:=by have:=g0.len;simp at this;omega
   have la:=k1.leaf rfl
   have ld:=k2.leaf rfl
   have OQ:=And.intro la ld
   have fc:=fun b k=>oO (cs:=[.bool b,a0,d0]) (by simp [la,ld,show ∀ b,V.leaf (.bool b) = true from fun _=>rfl]) k
   refine xX @B2 @lq @OQ @fc ?_
   refine ⟨by unfold iW;decide +kernel,?_⟩
   refine xX @B2 @lq @OQ @fc ?_
   exact g0.ZW (by simp)
theorem ac0 {T : Tb} (h : lJ T) {a b : Q} (ha : a.ok:=by assumption) (hb : b.ok:=by assumption) : PO T 156 [aU (Q.raw a),aU (Q.raw b)] (aU (Q.raw (Qr a b))):=by
 cases a with
 |
  none =>
  refine eX (fun x d=>x == 144) h.hT ?_
  simp only [iV,Lz,St.enter,List.length_cons,List.length_nil,Nat.zero_add]
  refine ew ?_
  refine ah (pR h.aP) ?_
  refine ew ?_
  exact Gx
 |
  some q=>cases b with
  |
   none =>
   refine eX (fun x d=>x == 144) h.hT ?_
   simp only [iV,Lz,St.enter,List.length_cons,List.length_nil,Nat.zero_add]
   refine ew ?_
   refine ah (jl h.aP) ?_
   refine ew ?_
   refine ah (pR h.aP) ?_
   refine ew ?_
   exact Gx
  |
   some s =>
   obtain ⟨l1,l2⟩:=Fz ha
   obtain ⟨l3,l4⟩:=Fz hb
   have e : Qr (some q) (some s) = KN (q.num * s.den) (s.num * q.den):=(Vj q s).symm
   rw [e]
   have t1:=gJ q.num s.den
   have t2:=gJ s.num q.den
   have t3:=gJ q.den s.den
   have t5:=gJ q.num s.num
   have t4:=DX (q.num * s.den) (s.num * q.den)
   have n1 : (mk (q.den : Int).natAbs).length ≤ 24:=by rw [Int.natAbs_natCast];exact l2
   have n2 : (mk (s.den : Int).natAbs).length ≤ 24:=by rw [Int.natAbs_natCast];exact l4
   refine eX (fun x d=>x == 144) h.hT ?_
   simp only [iV,Lz,St.enter,List.length_cons,List.length_nil,Nat.zero_add]
   refine ew ?_
   refine ah (jl h.aP) ?_
   refine ew ?_
   refine ah (jl h.aP) ?_
   refine ew ?_
   refine ah (rX h.bU (q:=s)) ?_
   refine ew ?_
   refine ah (kT h.bW (x:=q.num) (y:=s.den) (by omega) (by omega)) ?_
   refine ew ?_
   refine ah (rX h.bU (q:=q)) ?_
   refine ew ?_
   refine ah (kT h.bW (x:=s.num) (y:=q.den) (by omega) (by omega)) ?_
   refine ew ?_
   refine kP (Kt h.jg (n:=q.num * s.den) (d:=s.num * q.den) (by omega) (by omega)) (by (refine ew ?_;try with_reducible exact True.intro)) (by (refine ew ?_;try with_reducible exact True.intro)) ?_
   intro v q os g
   have g0:=g
   obtain ⟨a0,d0,_,_,rfl,_,k1,k2⟩:=g.ow.Jf
   have B2:=g0.at 2 (by simp) rfl
   have lq : 3 ≤ q.length:=by have:=g0.len;simp at this;omega
   have la:=k1.leaf rfl
   have ld:=k2.leaf rfl
   have OQ:=And.intro la ld
   have fc:=fun b k=>oO (cs:=[.bool b,a0,d0]) (by simp [la,ld,show ∀ b,V.leaf (.bool b) = true from fun _=>rfl]) k
   refine xX @B2 @lq @OQ @fc ?_
   refine ⟨by unfold iW;decide +kernel,?_⟩
   refine xX @B2 @lq @OQ @fc ?_
   exact g0.ZW (by simp)
theorem Ku {T : Tb} (h : eP T) {r s : R} (hr : r.cn:=by exact LD) (hs : s.cn:=by exact LD) : PO T 131 [aU r,aU s] (aU (lQ r s)):=by
 have:=acY h (a:=r.q) (b:=s.q) (Ik r) (Ik s)
 rw [hr,hs] at this;exact this
theorem Z8 {T : Tb} (h : jQ T) {r s : R} (hr : r.cn:=by exact LD) (hs : s.cn:=by exact LD) : PO T 157 [aU r,aU s] (aU (mulR r s)):=by
 have:=acZ h (a:=r.q) (b:=s.q) (Ik r) (Ik s)
 rw [hr,hs] at this;exact this
theorem Kv {T : Tb} (h : lJ T) {r s : R} (hr : r.cn:=by exact LD) (hs : s.cn:=by exact LD) : PO T 156 [aU r,aU s] (aU (vF r s)):=by
 have:=ac0 h (a:=r.q) (b:=s.q) (Ik r) (Ik s)
 rw [hr,hs] at this;exact this
theorem Yf {T : Tb} (h : uO T) {n : Int} (hn : -1000000000000000000 < n ∧ n < 1000000000000000000:=by exact bZ) : PO T 54 [iv n] (Il (bi n)):=by
 have hl : (mk n.natAbs).length ≤ 2:=QS (by omega)
 by_cases hneg : n < 0
 ·have c1:=Gw h.cO (n:=-(n + 1) + 1) (by omega)
  rw [show (-(n + 1) + 1).toNat = n.natAbs by omega] at c1
  have e : bi n = ⟨true,mk n.natAbs⟩:=by unfold bi;rw [decide_eq_true hneg]
  rw [e]
  refine eX (fun x d=>x == 69 || x == 68) h.hT ?_
  simp only [jy,Lz,St.enter,List.length_cons,List.length_nil,Nat.zero_add]
  refine ew ?_
  refine BZ @hneg ?_
  rw [show (0 : Int) - (n + 1) + 1 = -(n + 1) + 1 by omega]
  refine eH c1 (by (refine ew ?_;try with_reducible exact True.intro)) ?_
  intro v q1 o1 g
  have B0:=g.at 0 (by simp) rfl
  have lq : 1 ≤ q1.length:=g.len
  have f1 : ∀ o ∈ o1,1 ≤ o:=g.fresh
  have k1:=g.ow
  have n1:=g.nd
  clear g
  refine sJ @B0 @lq ?_
  rcases k1.wS with ⟨h1,_,_⟩ | ⟨o,rfl,h1,_⟩
  ·have:=AP.2 (show 0 < n.natAbs by omega)
   rw [h1] at this;simp at this
  refine Ye h.bH (neg:=true) h1 (by omega) rfl (by omega) ?_
  intro q3 hold hlen
  replace B0:=(hold 0 (by omega)).trans B0
  have lq3 : 1 ≤ q3.length:=by omega
  refine sJ @B0 @lq3 ?_
  refine rY (Rl (k1.frame fun p hp=>?_)) n1
  have:=f1 p hp
  rw [aI (by omega),hold p (k1.lt p hp)]
 ·have c1:=Gw h.cO (n:=n) (by omega)
  rw [show n.toNat = n.natAbs by omega] at c1
  have e : bi n = ⟨false,mk n.natAbs⟩:=by unfold bi;rw [decide_eq_false hneg]
  rw [e]
  refine eX (fun x d=>x == 69 || x == 68) h.hT ?_
  simp only [jy,Lz,St.enter,List.length_cons,List.length_nil,Nat.zero_add]
  refine ew ?_
  refine BZ @hneg ?_
  refine eH c1 (by (refine ew ?_;try with_reducible exact True.intro)) ?_
  intro v q1 o1 g
  have B0:=g.at 0 (by simp) rfl
  have lq : 1 ≤ q1.length:=g.len
  have f1 : ∀ o ∈ o1,1 ≤ o:=g.fresh
  have k1:=g.ow
  have n1:=g.nd
  clear g
  refine sJ @B0 @lq ?_
  by_cases h0 : n.natAbs = 0
  ·rw [h0,mk_zero] at k1 ⊢
   refine acX h.bH (neg:=false) k1 rfl ?_
   intro q3 hold hlen
   replace B0:=(hold 0 (by omega)).trans B0
   have lq3 : 1 ≤ q3.length:=by omega
   refine sJ @B0 @lq3 ?_
   exact ⟨.agg [.bool false,.sl 1 []],[],Vp,Rl (gy),.nil⟩
  rcases k1.wS with ⟨h1,_,_⟩ | ⟨o,rfl,h1,_⟩
  ·have:=AP.2 (show 0 < n.natAbs by omega)
   rw [h1] at this;simp at this
  refine Ye h.bH (neg:=false) h1 (by omega) rfl (by omega) ?_
  intro q3 hold hlen
  replace B0:=(hold 0 (by omega)).trans B0
  have lq3 : 1 ≤ q3.length:=by omega
  refine sJ @B0 @lq3 ?_
  refine rY (Rl (k1.frame fun p hp=>?_)) n1
  have:=f1 p hp
  rw [aI (by omega),hold p (k1.lt p hp)]
theorem oU {T : Tb} (h : fF T) {n : Int} (hn : -1000000000000000000 < n ∧ n < 1000000000000000000:=by exact bZ) : PO T 39 [iv n] (aU (fH n)):=by
 rw [QT]
 refine eX (fun x d=>x == 54) h.hT ?_
 simp only [kU,Lz,St.enter,List.length_cons,List.length_nil,Nat.zero_add]
 refine ew ?_
 refine eH (Yf h.G9 hn) (by (refine ew ?_;try with_reducible exact True.intro)) ?_
 intro v q1 o1 g
 obtain ⟨v1,rfl,k1⟩:=g.ow.afi
 have B0:=g.at 0 (by simp) rfl
 have B1:=g.at 1 (by simp) rfl
 have lq : 2 ≤ q1.length:=g.len
 have f1 : ∀ o ∈ o1,2 ≤ o:=g.fresh
 have n1:=g.nd
 have la:=k1.leaf rfl
 have fc:=fun b k=>oO (cs:=[.bool b,v1]) (by simp [la,show ∀ b,V.leaf (.bool b) = true from fun _=>rfl]) k
 clear g
 refine yJ @B0 @B1 @lq @la @fc ?_
 refine rY (Px (o1:=o1) (o2:=[1]) (k1.frame fun p hp=>?_) (Iy (l:=[1]) ?_)) ?_
 ·have:=f1 p hp
  rw [aI (by omega),aI (by omega)]
 ·rw [aI (by omega),bn (by omega)];rfl
 ·rw [List.nodup_append]
  refine ⟨n1,by simp,fun a ha b hb e=>?_⟩
  have:=f1 a ha
  simp at hb
  omega
theorem Yg {T : Tb} (h : uV T) {z : Bi} (hl : z.mag.length ≤ 1048576:=by exact bZ) : PO T 63 [Il z] (Il z):=by
 refine eX (fun x d=>x == 6) h.hT ?_
 simp only [og,Lz,St.enter,List.length_cons,List.length_nil,Nat.zero_add]
 refine ew ?_
 refine eH (NJ h.gU (l:=z.mag) (by omega)) (by (refine ew ?_;try with_reducible exact True.intro)) ?_
 intro r σ2 os g
 have g1:=g.at 1 (by simp) rfl
 have g2:=g.at 2 (by simp) rfl
 have gl : 3 ≤ σ2.length:=g.len
 have lf:=g.lf rfl
 have lb:=g.lfb rfl
 have fr : ∀ o ∈ os,3 ≤ o:=g.fresh
 refine xX @g1 @g2 @lf @lb ?_
 refine rY (gQ (jC (jD (g.ow.frame fun o ho=>?_) iq))) (by simpa using g.nd)
 have:=fr o ho
 rw [aI (by omega),aI (by omega)]
theorem Rn {T : Tb} (h : BN T) {r : R} (hl : r.mag.length + r.den.length ≤ 1048576:=by exact bZ) : PO T 48 [aU r] (aU r):=by
 refine eX (fun x d=>x == 6 || x == 63) h.hT ?_
 simp only [wU,Lz,St.enter,List.length_cons,List.length_nil,Nat.zero_add]
 refine ew ?_
 refine eH (Yg h.He (z:=r.num) (by show r.mag.length ≤ _;omega)) (by (refine ew ?_;try with_reducible exact True.intro)) ?_
 intro r1 σ1 o1 g
 obtain ⟨v1,rfl,k1⟩:=g.ow.afi
 have a0:=g.at 0 (by simp) rfl
 have a1:=g.at 1 (by simp) rfl
 have a2:=g.at 2 (by simp) rfl
 have gl : 3 ≤ σ1.length:=g.len
 have lf:=LH (k1.leaf rfl)
 have lb:=k1.leaf rfl
 have f1 : ∀ o ∈ o1,3 ≤ o:=g.fresh
 refine yJ @a0 @a1 @a2 @lf @lb ?_
 refine eH (NJ h.gU (l:=r.den) (by omega)) (by (refine ew ?_;try with_reducible exact True.intro)) ?_
 intro v2 σ2 o2 g2
 have b1:=g2.old 1 (by simp;omega)
 have b2:=g2.old 2 (by simp;omega)
 have gl2 : σ1.length ≤ σ2.length:=by simpa using g2.len
 have lf2:=LH (g2.ow.leaf rfl)
 have lb2:=g2.ow.leaf rfl
 have f2 : ∀ o ∈ o2,σ1.length ≤ o:=by simpa using g2.fresh
 refine vW @b1 @b2 @a1 @lf2 @lb2 @lb ?_
 refine rY (gQ (jC (jD (k1.frame fun o ho=>?_) (jD (g2.ow.frame fun o ho=>?_) iq)))) ?_
 ·have:=f1 o ho
  have:=k1.lt o ho
  rw [aI (by omega),aI (by omega),g2.old o (by simp;omega),aI (by omega)]
 ·have:=f2 o ho
  rw [aI (by omega),aI (by omega)]
 ·rw [List.append_nil,List.nodup_append]
  refine ⟨by simpa using g.nd,g2.nd,fun a ha b hb e=>?_⟩
  have:=k1.lt a ha
  have:=f2 b hb
  omega
def apm (z : List V) (bytes sz f : Nat) : Fn:=⟨1,23,[.tmp 2],(.seq (.reg false 0 [oN 2 (.bY (.c (.ak)))]) (.seq (.reg false 1 [oK 5 1 (oV 0),oK 6 1 (.len (.t 5)),oN 7 (.make z bytes (.t 6)),oK 3 1 (oV 7)]) (.seq (.seq (.reg false 0 [oN 4 (.bY (cI 0))]) (.block 0 (.loop (.seq (.seq (.reg false 0 [oN 8 (oV 4),oN 9 (oV 0),oN 10 (.len (.t 9)),oN 11 (.bin .lss (.t 8) (.t 10))]) (.cond (.t 11) .skip (.exit 0))) (.seq (.block 1 (.reg false 0 [oN 14 (oV 3),oN 15 (oV 4),oN 16 (oV 0),oN 17 (oV 4),oN 18 (.idx sz (.t 16) (.t 17)),oN 19 (.load sz true (.t 18)),oN 20 (.call f [(.t 19)]),oN 21 (.idx sz (.t 14) (.t 15)),oS (.store sz (.t 21) (.t 20))])) (.reg false 0 [oN 12 (oV 4),oN 13 (.bin .add (.t 12) (cI 1)),oN 4 (oV 13)])))))) (.seq (.reg false 0 [oN 22 (oV 3),oN 2 (oV 22)]) .ret))))⟩
theorem aiB {α : Type} (A : List α) (z : α) {n i : Nat} (ha : A.length = i) (h : i < n) : (A ++ List.replicate (n - i) z)[i]? = some z:=by
 rw [List.getElem?_append_right (by omega),ha,Nat.sub_self,show n - i = (n - (i + 1)) + 1 by omega,List.replicate_succ];rfl
theorem aiC {α : Type} (A : List α) (z x : α) {n i : Nat} (ha : A.length = i) (h : i < n) : (A ++ List.replicate (n - i) z).set i x = (A ++ [x]) ++ List.replicate (n - (i + 1)) z:=by
 rw [List.set_append_right _ _ (by omega),ha,Nat.sub_self,show n - i = (n - (i + 1)) + 1 by omega,List.replicate_succ];simp
theorem Tj {α : Type} [Inhabited α] (cl : α → List V) (l : List α) {i : Nat} (h : i < l.length) : (l.take (i + 1)).map cl = (l.take i).map cl ++ [cl (l.getD i default)]:=by
 rw [List.take_add_one,List.getElem?_eq_getElem h,List.getD_eq_getElem?_getD,List.getElem?_eq_getElem h,List.map_append];rfl
theorem Ro {σ : Store} : ∀ {cs : List V},(∀ v ∈ cs,v.still = true) → OC σ cs = some cs
 | [],_=>rfl
 |
  c :: cs,h=>by
  simp only [OC]
  rw [Nk (n:=10) (h c (by simp)),Ro fun v hv=>h v (by simp [hv])]
theorem zZ {σ : Store} {cs : List V} (h : ∀ v ∈ cs,v.still = true) : resolve σ FD (.agg cs) = some (.agg cs):=by
 show (cs.mapM (resolve σ 11)).map V.agg = _
 rw [qo (n:=10) h];rfl
theorem alF {T : Tb} {n f bytes : Nat} {z : List V} {α : Type} [Inhabited α] {cl : α → List V} {l : List α} (hT : T n = some (apm z bytes z.length f)) (hb : bytes ≤ 1024) (hl : l.length ≤ 1048576)
  (hcl : ∀ x ∈ l,(cl x).length = z.length ∧ (∀ v ∈ cl x,v.still = true) ∧ (cl x).all V.leaf = true) (hpo : ∀ x ∈ l,PO T f [.agg (cl x)] (.agg (cl x))) : PO T n [.sl z.length (l.map cl)] (.sl z.length (l.map cl)):=by

 refine eX (fun x _=>x == f) hT ?_
 dsimp only [apm,oN,oS,oG,oK,oA,oH,oV,cI]
 refine ew ?_
 have hbl : l.length * bytes ≤ 1048576 * 1024:=Nat.mul_le_mul hl hb
 refine ⟨by omega,?_⟩
 refine aO (fun x _=>x == f) (α:=Nat × Store × List (List V)) (fun q=>⟨bF [.sl z.length (l.map cl),.any,.any,.bC 0 0 l.length,iv (q.1 : Nat)],q.2.1,0,0,[],[]⟩) (fun q=>q.1 ≤ l.length ∧ q.2.2.length = q.1 ∧ aj q.2.1 0 = some ⟨z.length,q.2.2 ++ List.replicate (l.length - q.1) z⟩ ∧ Ti 1 q.2.1 q.2.2 ((l.take q.1).map cl) ∧ 1 ≤ q.2.1.length) (fun q=>l.length - q.1) rfl (0,[some ⟨z.length,List.replicate l.length z⟩],[]) ?_ ?_ ?_
 ·exact ⟨by omega,rfl,rfl,by simpa using afk,by simp⟩
 ·(refine aH ?_;exact uT)
 ·rintro ⟨i,s,A⟩ ⟨hi,hA,h0,hO,hs⟩
  dsimp only at hi hA h0 hO hs
  refine BZ @h0 ?_
  refine aG (fun hc=>?_) fun hc=>?_ <;> (refine Cb @hc @mg @h0 ?_;try with_reducible exact True.intro)
  ·have hil : i < l.length:=by omega
   have hx:=getD_mem hil
   obtain ⟨x,hxe⟩ : ∃ x,l.getD i default = x:=⟨_,rfl⟩
   have hts:=Tj cl l hil
   rw [hxe] at hx hts ⊢
   obtain ⟨e1,e2,e3⟩:=hcl x hx
   have e4 : ∀ σ : Store,OC σ (cl x) = some (cl x):=fun σ=>Ro e2
   have e5 : ∀ σ : Store,resolve σ FD (.agg (cl x)) = some (.agg (cl x)):=fun σ=>zZ e2
   have eb : (f == f) = true:=by simp
   refine Cb @e1 @e4 @eb ?_
   refine eH (hpo x hx) (by (refine BZ @e5 ?_;try with_reducible exact True.intro)) ?_
   intro r σ2 os g
   obtain ⟨cs,rfl,k1⟩:=g.ow.dA
   have g0:=g.at 0 (by omega) h0
   have gl:=g.len
   have lf:=oO (k1.leaf e3)
   have cl1 : cs.length = z.length:=by rw [k1.len,e1]
   have r1:=aiB A z hA hil
   have r2:=aiC A z cs hA hil
   refine yJ @g0 @lf @cl1 @r1 @List.drop_length.{0} ?_
   rw [r2]
   refine ⟨(i + 1,σ2.set 0 (some ⟨z.length,(A ++ [cs]) ++ List.replicate (l.length - (i + 1)) z⟩),A ++ [cs]),by dsimp only;omega,⟨by dsimp only;omega,by simp [hA],?_,?_,by simp;omega⟩,by (refine aH ?_;exact uT)⟩
   ·dsimp only;exact bn (by omega)
   ·dsimp only
    rw [hts]
    exact (hO.got g hs).set (by omega)
  ·have ei : i = l.length:=by omega
   subst ei
   rw [Nat.sub_self,List.replicate_zero,List.append_nil] at h0
   rw [List.take_length] at hO
   have:=hO.fin h0 (by omega)
   rw [List.length_map] at this
   exact this
def Aa : Fn:=⟨2,24,[.tmp 4],(.seq (rf 1 [oN 2 (.box (.t 0)),oK 4 1 (.bY (cI 0))]) (sr [oN 5 (fd 2 2),oN 6 (lT 3 5),oW 7 1,oN 8 (cl 46 [6,7]),oW 1 8] (.seq (sr [oW 9 1,oN 10 (bc .lss 9 0)] (cd 10 (sr [oN 4 (.bY (cI (-1)))] .ret) .skip)) (sr [oN 11 (fd 5 2),oN 12 (lT 3 11),oW 13 1,oN 14 (cl 46 [12,13]),oW 1 14] (.seq (sr [oW 15 1,oN 16 (bc .lss 15 0)] (cd 16 (sr [oN 4 (.bY (cI (-1)))] .ret) .skip)) (sr [oN 17 (fd 8 2),oN 18 (lT 3 17),oW 19 1,oN 20 (cl 46 [18,19]),oW 1 20] (.seq (sr [oW 21 1,oN 22 (bc .lss 21 0)] (cd 22 (sr [oN 4 (.bY (cI (-1)))] .ret) .skip)) (sr [oW 23 1,oW 4 23] .ret))))))))⟩
structure EI (T : Tb) : Prop where
 hT : T 43 = some Aa
 Gy : Gv T
def uj : Fn:=⟨1,23,[.cell 2 11 true],(.seq (rf 2 [oN 1 (.box (.t 0)),oK 2 1 (.alloc Aq)]) (.seq (rf 1 [oN 3 (.alloc Aq)]) (sr [oN 4 (fd 0 1),oN 5 (lF 1 4),oN 6 (fd 0 3),oS (.store 1 (.t 6) (.t 5))] (sr [oN 7 (fd 1 1),oN 8 (lF 1 7),oN 9 (fd 1 3),oS (.store 1 (.t 9) (.t 8))] (sr [oN 10 (fd 2 1),oN 11 (lT 3 10),oN 12 (cl 48 [11]),oN 13 (fd 2 3),oS (.store 3 (.t 13) (.t 12))] (sr [oN 14 (fd 5 1),oN 15 (lT 3 14),oN 16 (cl 48 [15]),oN 17 (fd 5 3),oS (.store 3 (.t 17) (.t 16))] (sr [oN 18 (fd 8 1),oN 19 (lT 3 18),oN 20 (cl 48 [19]),oN 21 (fd 8 3),oS (.store 3 (.t 21) (.t 20))] (sr [oN 22 (lT 11 3),oS (.store 11 (.t 2) (.t 22))] .ret))))))))⟩
structure Ac (T : Tb) : Prop where
 hT : T 44 = some uj
 rH : BN T
def Ad : Fn:=⟨2,33,[.tmp 4],(.seq (rf 2 [oN 2 (.box (.t 0)),oK 3 1 (.box (.t 1)),oK 4 2 mF]) (.seq (sr [oN 5 (fd 0 2),oN 6 (lF 1 5),oN 7 (fd 0 3),oN 8 (lF 1 7),oN 9 (bt .neq 6 8)] (cd 9 (sr [oN 4 mF] .ret) .skip)) (.seq (sr [oN 10 (fd 1 2),oN 11 (lF 1 10),oN 12 (fd 1 3),oN 13 (lF 1 12),oN 14 (bt .neq 11 13)] (cd 14 (sr [oN 4 mF] .ret) .skip)) (.seq (sr [oN 15 (fd 2 2),oN 16 (lT 3 15),oN 17 (fd 2 3),oN 18 (lT 3 17),oN 19 (cl 40 [16,18]),oN 20 (nt 19)] (cd 20 (sr [oN 4 mF] .ret) .skip)) (.seq (sr [oN 21 (fd 5 2),oN 22 (lT 3 21),oN 23 (fd 5 3),oN 24 (lT 3 23),oN 25 (cl 40 [22,24]),oN 26 (nt 25)] (cd 26 (sr [oN 4 mF] .ret) .skip)) (.seq (sr [oN 27 (fd 8 2),oN 28 (lT 3 27),oN 29 (fd 8 3),oN 30 (lT 3 29),oN 31 (cl 40 [28,30]),oN 32 (nt 31)] (cd 32 (sr [oN 4 mF] .ret) .skip)) (sr [oN 4 mT] .ret)))))))⟩
structure EJ (T : Tb) : Prop where
 hT : T 16 = some Ad
 fA : rG T
def wV : Fn:=⟨2,27,[.tmp 4],(sr [oN 4 (.bY (cI 0))] (sr [oW 6 1,oW 7 0,oN 8 (ln 7),oN 9 (bt .sub 6 8),oW 1 9] (.seq (sr [oW 10 1,oN 11 (bc .lss 10 0)] (cd 11 (sr [oN 4 (.bY (cI (-1)))] .ret) .skip)) (.seq (sr [oN 5 (.bY (cI 0))] (.block 0 (.loop (.seq (sr [oW 12 5,oW 13 0,oN 14 (ln 13),oN 15 (bt .lss 12 14)] (cd 15 .skip (.exit 0))) (.seq (.block 1 (sr [oW 18 0,oW 19 5,oN 20 (ix 11 18 19),oN 21 (lT 11 20),oW 22 1,oN 23 (cl 43 [21,22]),oW 1 23] (sr [oW 24 1,oN 25 (bc .lss 24 0)] (cd 25 (sr [oN 4 (.bY (cI (-1)))] .ret) .skip)))) (rg [oW 16 5,oN 17 (bc .add 16 1),oW 5 17])))))) (sr [oW 26 1,oW 4 26] .ret)))))⟩
structure C9 (T : Tb) : Prop where
 hT : T 19 = some wV
 Tm : EI T
def wW : Fn:=⟨1,23,[.tmp 2],(sr [oN 2 mN] (.seq (rf 1 [oK 5 1 (oV 0),oK 6 1 (ln 5),oN 7 (.make Aq 184 (.t 6)),oK 3 1 (oV 7)]) (.seq (sr [oN 4 (.bY (cI 0))] (.block 0 (.loop (.seq (sr [oW 8 4,oW 9 0,oN 10 (ln 9),oN 11 (bt .lss 8 10)] (cd 11 .skip (.exit 0))) (.seq (.block 1 (rg [oW 14 3,oW 15 4,oW 16 0,oW 17 4,oN 18 (ix 11 16 17),oN 19 (lT 11 18),oN 20 (cl 44 [19]),oN 21 (ix 11 14 15),oS (.store 11 (.t 21) (.t 20))])) (rg [oW 12 4,oN 13 (bc .add 12 1),oW 4 13])))))) (sr [oW 22 3,oW 2 22] .ret))))⟩
structure wX (T : Tb) : Prop where
 hT : T 21 = some wW
 JC : Ac T
def wY : Fn:=⟨2,27,[.tmp 4],(sr [oN 4 mF] (.seq (sr [oW 6 0,oN 7 (ln 6),oW 8 1,oN 9 (ln 8),oN 10 (bt .neq 7 9)] (cd 10 (sr [oN 4 mF] .ret) .skip)) (.seq (sr [oN 5 (.bY (cI 0))] (.block 0 (.loop (.seq (sr [oW 11 5,oW 12 0,oN 13 (ln 12),oN 14 (bt .lss 11 13)] (cd 14 .skip (.exit 0))) (.seq (.block 1 (.seq (rt 0 [oW 17 0,oW 18 5,oA 19 0 (ix 11 17 18) [0,1],oA 20 0 (lT 11 19) [2],oW 21 1,oW 22 5,oA 23 0 (ix 11 21 22) [4,5],oA 24 0 (lT 11 23) [6],oA 25 0 (cl 16 [20,24]) [3,7],oA 26 0 (nt 25) [8]]) (cd 26 (sr [oN 4 mF] .ret) .skip))) (rg [oW 15 5,oN 16 (bc .add 15 1),oW 5 16])))))) (sr [oN 4 mT] .ret))))⟩
structure Df (T : Tb) : Prop where
 hT : T 23 = some wY
 Tq : EJ T
theorem afw {T : Tb} (h : EI T) {x : Lk} {left : Int} (hw : x.wf:=by exact bZ) (h0 : 0 ≤ left ∧ left ≤ 1048576:=by exact bZ) : PF T 43 [KO x,iv left] (iv (szr left x.sz)):=by
 obtain ⟨w0,w1,w2⟩:=hw
 refine aT nR h.hT ?_
 simp only [Aa,Lz]
 refine ev ?_
 refine ah (VJ h.Gy (r:=x.w) w0 ⟨by omega,by omega⟩) ?_
 refine ev ?_
 have k0:=@Qu left (x.w.sz)
 refine aG (fun hb0=>?_) fun hb0=>?_ <;> (refine ev1 @hb0 ?_;try with_reducible exact True.intro)
 ·rw [show x.sz = (x.w.sz) + (x.dx.sz + x.dy.sz) from by (unfold Lk.sz;omega),O9 hb0 h0.1]
 refine ah (VJ h.Gy (r:=x.dx) w1 ⟨by omega,by omega⟩) ?_
 refine ev ?_
 rw [Vk hb0]
 have k1:=@Qu left (x.w.sz + x.dx.sz)
 refine aG (fun hb1=>?_) fun hb1=>?_ <;> (refine ev1 @hb1 ?_;try with_reducible exact True.intro)
 ·rw [show x.sz = (x.w.sz + x.dx.sz) + (x.dy.sz) from by (unfold Lk.sz;omega),O9 hb1 h0.1]
 refine ah (VJ h.Gy (r:=x.dy) w2 ⟨by omega,by omega⟩) ?_
 refine ev ?_
 rw [Vk hb1]
 have k2:=@Qu left (x.w.sz + x.dx.sz + x.dy.sz)
 refine aG (fun hb2=>?_) fun hb2=>?_ <;> (refine ev1 @hb2 ?_;try with_reducible exact True.intro)
 ·rw [show x.sz = x.w.sz + x.dx.sz + x.dy.sz from rfl,aeC hb2 h0.1]
 ·rfl
theorem afx {T : Tb} (h : Ac T) {x : Lk} (hl : x.sz ≤ 1048576:=by exact bZ) : PF T 44 [KO x] (KO x):=by
 unfold Lk.sz at hl
 refine aT nR h.hT ?_
 simp only [uj,Lz]
 refine ev ?_
 refine ah (VK h.rH (r:=x.w) (by omega)) ?_
 refine ev ?_
 refine ah (VK h.rH (r:=x.dx) (by omega)) ?_
 refine ev ?_
 refine ah (VK h.rH (r:=x.dy) (by omega)) ?_
 (refine ev ?_;try with_reducible exact True.intro)
theorem afy {T : Tb} (h : EJ T) {x y : Lk} (hx : x.wf:=by exact bZ) (hy : y.wf:=by exact bZ) : PF T 16 [KO x,KO y] (.bool (decide (x = y))):=by
 obtain ⟨w0,w1,w2⟩:=hx
 obtain ⟨v0,v1,v2⟩:=hy
 refine aT nR h.hT ?_
 simp only [Ad,Lz]
 refine ev ?_
 refine aG (fun hb0=>?_) fun hb0=>?_ <;> (refine ev1 @hb0 ?_;try with_reducible exact True.intro)
 rotate_left
 ·cases x;cases y;simp_all
 refine aG (fun hb1=>?_) fun hb1=>?_ <;> (refine ev1 @hb1 ?_;try with_reducible exact True.intro)
 rotate_left
 ·cases x;cases y;simp_all
 refine ah (zY h.fA (y:=x.w) (z:=y.w) w0 v0) ?_
 refine ev ?_
 refine aG (fun hb2=>?_) fun hb2=>?_ <;> (refine ev1 @hb2 ?_;try with_reducible exact True.intro)
 rotate_left
 ·cases x;cases y;simp_all
 refine ah (zY h.fA (y:=x.dx) (z:=y.dx) w1 v1) ?_
 refine ev ?_
 refine aG (fun hb3=>?_) fun hb3=>?_ <;> (refine ev1 @hb3 ?_;try with_reducible exact True.intro)
 rotate_left
 ·cases x;cases y;simp_all
 refine ah (zY h.fA (y:=x.dy) (z:=y.dy) w2 v2) ?_
 refine ev ?_
 refine aG (fun hb4=>?_) fun hb4=>?_ <;> (refine ev1 @hb4 ?_;try with_reducible exact True.intro)
 rotate_left
 ·cases x;cases y;simp_all
 ·cases x;cases y;simp_all
theorem ac1 {T : Tb} (h : C9 T) {l : List Lk} {left : Int} (hw : BU Lk.wf l:=by exact bZ) (h0 : 0 ≤ left ∧ left ≤ 1048576:=by exact bZ) : PF T 19 [bf l,iv left] (iv (szr left (vY Lk.sz l))):=by
 have hlen:=hw.1
 refine aT nR h.hT ?_
 simp only [wV,Lz]
 refine ev ?_
 refine aG (fun hb=>?_) fun hb=>?_ <;> (refine ev1 @hb ?_;try with_reducible exact True.intro)
 ·rw [aeE (by rw [qw];omega)]
 refine aO (fun _ _=>false) (α:=Nat) (fun i=>⟨bF [bf l,iv (left - (l.length : Nat) - (sumTo Lk.sz l i : Nat)),.any,.any,.any,iv (i : Nat)],[],0,0,[],[]⟩) (fun i=>i ≤ l.length ∧ (l.length : Int) + (sumTo Lk.sz l i : Nat) ≤ left) (fun i=>l.length - i) rfl 0 ?_ ?_ ?_
 ·rw [Qv];omega
 ·(refine aH ?_) <;> (try (refine ev1 @Qv ?_;try with_reducible exact True.intro)) <;> (repeat' (first | refine ⟨?_,?_⟩ | exact jI (by omega) | exact lZ (by simp) | exact jJ _))
 ·rintro i ⟨hi,hs⟩
  refine ev ?_
  refine aG (fun hc=>?_) fun hc=>?_ <;> (refine iP @hc @mg ?_;try with_reducible exact True.intro)
  ·refine ah (afw h.Tm (x:=l.getD i default) (hw.at_ (by omega)) ⟨by omega,by omega⟩) ?_
   refine ev ?_
   have k1:=Qw Lk.sz (l:=l) (i:=i) (by omega)
   have k2:=J4 Lk.sz (l:=l) (i:=i) (by omega)
   refine aG (fun hd=>?_) fun hd=>?_ <;> (refine ev1 @hd ?_;try with_reducible exact True.intro)
   ·have:=ak7 hd (by omega)
    rw [aeE (left:=left) (by rw [qw];omega)]
   ·have e1 : szr (left - (l.length : Nat) - (sumTo Lk.sz l i : Nat)) (Lk.sz (l.getD i default)) = left - (l.length : Nat) - (sumTo Lk.sz l (i + 1) : Nat):=by
     rw [aeD (abb hd)];omega
    rw [show (l.getD i default).sz = Lk.sz (l.getD i default) from rfl,e1] at hd ⊢
    exact ⟨i + 1,by omega,⟨by omega,by omega⟩,by (refine aH ?_;exact wz)⟩
  ·have : i = l.length:=by omega
   subst this
   rw [acy] at hs ⊢
   rw [aeD (by rw [qw];omega)];rw [qw]
   congr 1;omega
theorem NK {T : Tb} (h : wX T) {l : List Lk} (hl : vY Lk.sz l ≤ 1048576:=by exact bZ) : PF T 21 [bf l] (bf l):=by
 rw [qw] at hl
 refine aT nR h.hT ?_
 simp only [wW,Lz]
 refine ev ?_
 refine ⟨by omega,?_⟩
 refine aO (fun _ _=>false) (α:=Nat) (fun i=>⟨bF [bf l,.any,.any,.bC 0 0 l.length,iv (i : Nat)],[some ⟨11,GY Lk.cells l [iv 0,iv 0,.bool false,.ak,.ak,.bool false,.ak,.ak,.bool false,.ak,.ak] i⟩],0,0,[],[]⟩) (fun i=>i ≤ l.length) (fun i=>l.length - i) rfl 0 ?_ ?_ ?_
 ·omega
 ·(refine aH ?_) <;> (try (refine ev1 @Zy ?_;try with_reducible exact True.intro)) <;> (repeat' (first | refine ⟨?_,?_⟩ | exact jI (by omega) | exact lZ (by simp) | exact jJ _))
 ·intro i hi
  have e1:=acA Lk.cells l [iv 0,iv 0,.bool false,.ak,.ak,.bool false,.ak,.ak,.bool false,.ak,.ak] hi
  refine ev1 @e1 ?_
  refine aG (fun hb=>?_) fun hb=>?_ <;> (refine vC @hb @e1 @mg ?_;try with_reducible exact True.intro)
  ·have k1:=Qw Lk.sz (l:=l) (i:=i) (by omega)
   refine ah (afx h.JC (x:=l.getD i default) (by first | omega | (change Lk.sz _ ≤ _;omega))) ?_
   have e0:=acC Lk.cells l [iv 0,iv 0,.bool false,.ak,.ak,.bool false,.ak,.ak,.bool false,.ak,.ak] (i:=i) (by omega)
   refine iP @e0 @e1 ?_
   have e2:=acB Lk.cells l [iv 0,iv 0,.bool false,.ak,.ak,.bool false,.ak,.ak,.bool false,.ak,.ak] (i:=i) (by omega)
   refine ⟨i + 1,by omega,by omega,ahx ?_ (by rw [← e2])⟩
   refine ev ?_
   repeat' (first | refine ⟨?_,?_⟩ | exact jI (by omega) | exact lZ (by simp))
  ·have : i = l.length:=by omega
   subst this
   rw [acz,BA (yE (f:=Lk.cells) (l:=l) (by intro x _ v hv;simp at hv;rcases hv with rfl | rfl | rfl | rfl | rfl | rfl | rfl | rfl | rfl | rfl | rfl <;> rfl)) (by simp),List.drop_zero,List.take_of_length_le (by simp)];rfl
theorem ac2 {T : Tb} (h : Df T) {a b : List Lk} (ha : BU Lk.wf a:=by exact bZ) (hb : BU Lk.wf b:=by exact bZ) : PF T 23 [bf a,bf b] (.bool (decide (a = b))):=by
 have l1:=ha.1
 have l2:=hb.1
 refine aT nR h.hT ?_
 simp only [wY,Lz]
 refine ev ?_
 refine aG (fun h1=>?_) fun h1=>?_ <;> (refine ev1 @h1 ?_;try with_reducible exact True.intro)
 ·have h1 : a.length = b.length:=by omega
  refine aO (fun _ _=>false) (α:=Nat) (fun i=>⟨bF [bf a,bf b,.any,.any,.any,iv (i : Nat)],[],0,0,[],[]⟩) (fun i=>i ≤ a.length ∧ ∀ j,j < i → a.getD j default = b.getD j default) (fun i=>a.length - i) rfl 0 ?_ ?_ ?_
  ·exact ⟨by omega,by intro j hj;omega⟩
  ·(refine aH ?_;exact wz)
  ·rintro i ⟨hi,hj⟩
   refine ev ?_
   refine aG (fun h2=>?_) fun h2=>?_ <;> (refine iP @h2 @mg ?_;try with_reducible exact True.intro)
   ·refine ah (afy h.Tq (x:=a.getD i default) (y:=b.getD i default) (ha.at_ (by omega)) (hb.at_ (by omega))) ?_
    refine ev ?_
    refine aG (fun h3=>?_) fun h3=>?_ <;> (refine ev1 @h3 ?_;try with_reducible exact True.intro)
    ·refine ⟨i + 1,by omega,⟨by omega,fun j hj'=>?_⟩,by (refine aH ?_;exact wz)⟩
     by_cases e : j = i
     ·subst e;exact h3
     ·exact hj j (by omega)
    ·have : ¬ a = b:=fun e=>h3 (by rw [e])
     simp [this]
   ·have : a = b:=BX h1 fun j h=>hj j (by omega)
    simp [this]
 ·have : ¬ a = b:=fun e=>h1 (by rw [e])
  simp [this]
def uZ : Fn:=⟨2,28,[.tmp 4],(.seq (rf 2 [oN 2 (.box (.t 0)),oK 3 1 (.box (.t 1)),oK 4 2 mF]) (.seq (sr [oN 5 (fd 0 2),oN 6 (lF 1 5),oN 7 (fd 0 3),oN 8 (lF 1 7),oN 9 (bt .neq 6 8)] (cd 9 (sr [oN 4 mF] .ret) .skip)) (.seq (sr [oN 10 (fd 1 2),oN 11 (lT 3 10),oN 12 (fd 1 3),oN 13 (lT 3 12),oN 14 (cl 40 [11,13]),oN 15 (nt 14)] (cd 15 (sr [oN 4 mF] .ret) .skip)) (.seq (sr [oN 16 (fd 4 2),oN 17 (lT 3 16),oN 18 (fd 4 3),oN 19 (lT 3 18),oN 20 (cl 40 [17,19]),oN 21 (nt 20)] (cd 21 (sr [oN 4 mF] .ret) .skip)) (.seq (sr [oN 22 (fd 7 2),oN 23 (lT 3 22),oN 24 (fd 7 3),oN 25 (lT 3 24),oN 26 (cl 40 [23,25]),oN 27 (nt 26)] (cd 27 (sr [oN 4 mF] .ret) .skip)) (sr [oN 4 mT] .ret))))))⟩
structure Bj (T : Tb) : Prop where
 hT : T 65 = some uZ
 fA : rG T
def rJ : Fn:=⟨2,27,[.tmp 4],(sr [oN 4 mF] (.seq (sr [oW 6 0,oN 7 (ln 6),oW 8 1,oN 9 (ln 8),oN 10 (bt .neq 7 9)] (cd 10 (sr [oN 4 mF] .ret) .skip)) (.seq (sr [oN 5 (.bY (cI 0))] (.block 0 (.loop (.seq (sr [oW 11 5,oW 12 0,oN 13 (ln 12),oN 14 (bt .lss 11 13)] (cd 14 .skip (.exit 0))) (.seq (.block 1 (.seq (rt 0 [oW 17 0,oW 18 5,oA 19 0 (ix 10 17 18) [0,1],oA 20 0 (lT 10 19) [2],oW 21 1,oW 22 5,oA 23 0 (ix 10 21 22) [4,5],oA 24 0 (lT 10 23) [6],oA 25 0 (cl 65 [20,24]) [3,7],oA 26 0 (nt 25) [8]]) (cd 26 (sr [oN 4 mF] .ret) .skip))) (rg [oW 15 5,oN 16 (bc .add 15 1),oW 5 16])))))) (sr [oN 4 mT] .ret))))⟩
structure yK (T : Tb) : Prop where
 hT : T 50 = some rJ
 OT : Bj T
def kX : Fn:=⟨2,22,[.tmp 4],(.seq (rf 2 [oN 2 (.box (.t 0)),oK 3 1 (.box (.t 1)),oK 4 2 mF]) (.seq (sr [oN 5 (fd 0 2),oN 6 (lF 1 5),oN 7 (fd 0 3),oN 8 (lF 1 7),oN 9 (bt .neq 6 8)] (cd 9 (sr [oN 4 mF] .ret) .skip)) (.seq (sr [oN 10 (fd 1 2),oN 11 (lT 3 10),oN 12 (fd 1 3),oN 13 (lT 3 12),oN 14 (cl 40 [11,13]),oN 15 (nt 14)] (cd 15 (sr [oN 4 mF] .ret) .skip)) (.seq (sr [oN 16 (fd 4 2),oN 17 (lF 1 16),oN 18 (fd 4 3),oN 19 (lF 1 18),oN 20 (cl 50 [17,19]),oN 21 (nt 20)] (cd 21 (sr [oN 4 mF] .ret) .skip)) (sr [oN 4 mT] .ret)))))⟩
structure qI (T : Tb) : Prop where
 hT : T 28 = some kX
 fA : rG T
 NM : yK T
def kF : Fn:=⟨2,27,[.tmp 4],(sr [oN 4 mF] (.seq (sr [oW 6 0,oN 7 (ln 6),oW 8 1,oN 9 (ln 8),oN 10 (bt .neq 7 9)] (cd 10 (sr [oN 4 mF] .ret) .skip)) (.seq (sr [oN 5 (.bY (cI 0))] (.block 0 (.loop (.seq (sr [oW 11 5,oW 12 0,oN 13 (ln 12),oN 14 (bt .lss 11 13)] (cd 14 .skip (.exit 0))) (.seq (.block 1 (.seq (rt 0 [oW 17 0,oW 18 5,oA 19 0 (ix 5 17 18) [0,1],oA 20 0 (lT 5 19) [2],oW 21 1,oW 22 5,oA 23 0 (ix 5 21 22) [4,5],oA 24 0 (lT 5 23) [6],oA 25 0 (cl 28 [20,24]) [3,7],oA 26 0 (nt 25) [8]]) (cd 26 (sr [oN 4 mF] .ret) .skip))) (rg [oW 15 5,oN 16 (bc .add 15 1),oW 5 16])))))) (sr [oN 4 mT] .ret))))⟩
structure pJ (T : Tb) : Prop where
 hT : T 307 = some kF
 II : qI T
theorem Z9 {T : Tb} (h : Bj T) {x y : Pa} (hx : x.wf:=by exact bZ) (hy : y.wf:=by exact bZ) : PF T 65 [paV x,paV y] (.bool (decide (x = y))):=by
 obtain ⟨w0,w1,w2⟩:=hx
 obtain ⟨v0,v1,v2⟩:=hy
 refine aT nR h.hT ?_
 simp only [uZ,Lz]
 refine ev ?_
 refine aG (fun hb0=>?_) fun hb0=>?_ <;> (refine ev1 @hb0 ?_;try with_reducible exact True.intro)
 rotate_left
 ·cases x;cases y;simp_all
 refine ah (zY h.fA (y:=x.share) (z:=y.share) w0 v0) ?_
 refine ev ?_
 refine aG (fun hb1=>?_) fun hb1=>?_ <;> (refine ev1 @hb1 ?_;try with_reducible exact True.intro)
 rotate_left
 ·cases x;cases y;simp_all
 refine ah (zY h.fA (y:=x.dx) (z:=y.dx) w1 v1) ?_
 refine ev ?_
 refine aG (fun hb2=>?_) fun hb2=>?_ <;> (refine ev1 @hb2 ?_;try with_reducible exact True.intro)
 rotate_left
 ·cases x;cases y;simp_all
 refine ah (zY h.fA (y:=x.dy) (z:=y.dy) w2 v2) ?_
 refine ev ?_
 refine aG (fun hb3=>?_) fun hb3=>?_ <;> (refine ev1 @hb3 ?_;try with_reducible exact True.intro)
 rotate_left
 ·cases x;cases y;simp_all
 ·cases x;cases y;simp_all
theorem Yh {T : Tb} (h : yK T) {a b : List Pa} (ha : BU Pa.wf a:=by exact bZ) (hb : BU Pa.wf b:=by exact bZ) : PF T 50 [kK a,kK b] (.bool (decide (a = b))):=by
 have l1:=ha.1
 have l2:=hb.1
 refine aT nR h.hT ?_
 simp only [rJ,Lz]
 refine ev ?_
 refine aG (fun h1=>?_) fun h1=>?_ <;> (refine ev1 @h1 ?_;try with_reducible exact True.intro)
 ·have h1 : a.length = b.length:=by omega
  refine aO (fun _ _=>false) (α:=Nat) (fun i=>⟨bF [kK a,kK b,.any,.any,.any,iv (i : Nat)],[],0,0,[],[]⟩) (fun i=>i ≤ a.length ∧ ∀ j,j < i → a.getD j default = b.getD j default) (fun i=>a.length - i) rfl 0 ?_ ?_ ?_
  ·exact ⟨by omega,by intro j hj;omega⟩
  ·(refine aH ?_;exact wz)
  ·rintro i ⟨hi,hj⟩
   refine ev ?_
   refine aG (fun h2=>?_) fun h2=>?_ <;> (refine iP @h2 @mg ?_;try with_reducible exact True.intro)
   ·refine ah (Z9 h.OT (x:=a.getD i default) (y:=b.getD i default) (ha.at_ (by omega)) (hb.at_ (by omega))) ?_
    refine ev ?_
    refine aG (fun h3=>?_) fun h3=>?_ <;> (refine ev1 @h3 ?_;try with_reducible exact True.intro)
    ·refine ⟨i + 1,by omega,⟨by omega,fun j hj'=>?_⟩,by (refine aH ?_;exact wz)⟩
     by_cases e : j = i
     ·subst e;exact h3
     ·exact hj j (by omega)
    ·have : ¬ a = b:=fun e=>h3 (by rw [e])
     simp [this]
   ·have : a = b:=BX h1 fun j h=>hj j (by omega)
    simp [this]
 ·have : ¬ a = b:=fun e=>h1 (by rw [e])
  simp [this]
theorem OU {T : Tb} (h : qI T) {x y : Cd} (hx : x.wf:=by exact bZ) (hy : y.wf:=by exact bZ) : PF T 28 [KP x,KP y] (.bool (decide (x = y))):=by
 obtain ⟨w0,w1⟩:=hx
 obtain ⟨v0,v1⟩:=hy
 refine aT nR h.hT ?_
 simp only [kX,Lz]
 refine ev ?_
 refine aG (fun hb0=>?_) fun hb0=>?_ <;> (refine ev1 @hb0 ?_;try with_reducible exact True.intro)
 rotate_left
 ·cases x;cases y;simp_all
 refine ah (zY h.fA (y:=x.total) (z:=y.total) w0 v0) ?_
 refine ev ?_
 refine aG (fun hb1=>?_) fun hb1=>?_ <;> (refine ev1 @hb1 ?_;try with_reducible exact True.intro)
 rotate_left
 ·cases x;cases y;simp_all
 refine ah (Yh h.NM (a:=x.ps) (b:=y.ps) w1 v1) ?_
 refine ev ?_
 refine aG (fun hb2=>?_) fun hb2=>?_ <;> (refine ev1 @hb2 ?_;try with_reducible exact True.intro)
 rotate_left
 ·cases x;cases y;simp_all
 ·cases x;cases y;simp_all
theorem yL {T : Tb} (h : pJ T) {a b : List Cd} (ha : BU Cd.wf a:=by exact bZ) (hb : BU Cd.wf b:=by exact bZ) : PF T 307 [Bz a,Bz b] (.bool (decide (a = b))):=by
 have l1:=ha.1
 have l2:=hb.1
 refine aT nR h.hT ?_
 simp only [kF,Lz]
 refine ev ?_
 refine aG (fun h1=>?_) fun h1=>?_ <;> (refine ev1 @h1 ?_;try with_reducible exact True.intro)
 ·have h1 : a.length = b.length:=by omega
  refine aO (fun _ _=>false) (α:=Nat) (fun i=>⟨bF [Bz a,Bz b,.any,.any,.any,iv (i : Nat)],[],0,0,[],[]⟩) (fun i=>i ≤ a.length ∧ ∀ j,j < i → a.getD j default = b.getD j default) (fun i=>a.length - i) rfl 0 ?_ ?_ ?_
  ·exact ⟨by omega,by intro j hj;omega⟩
  ·(refine aH ?_;exact wz)
  ·rintro i ⟨hi,hj⟩
   refine ev ?_
   refine aG (fun h2=>?_) fun h2=>?_ <;> (refine iP @h2 @mg ?_;try with_reducible exact True.intro)
   ·refine ah (OU h.II (x:=a.getD i default) (y:=b.getD i default) (ha.at_ (by omega)) (hb.at_ (by omega))) ?_
    refine ev ?_
    refine aG (fun h3=>?_) fun h3=>?_ <;> (refine ev1 @h3 ?_;try with_reducible exact True.intro)
    ·refine ⟨i + 1,by omega,⟨by omega,fun j hj'=>?_⟩,by (refine aH ?_;exact wz)⟩
     by_cases e : j = i
     ·subst e;exact h3
     ·exact hj j (by omega)
    ·have : ¬ a = b:=fun e=>h3 (by rw [e])
     simp [this]
   ·have : a = b:=BX h1 fun j h=>hj j (by omega)
    simp [this]
 ·have : ¬ a = b:=fun e=>h1 (by rw [e])
  simp [this]
def mM : Fn:=⟨2,111,[.tmp 4],(sr [oN 4 (.bY (cI 0))] (.seq (sr [oN 5 (.bY (cI 0))] (.block 0 (.loop (.seq (sr [oW 6 5,oW 7 0,oN 8 (ln 7),oN 9 (bt .lss 6 8)] (cd 9 .skip (.exit 0))) (.seq (.block 1 (sr [oW 12 0,oW 13 5,oW 14 1,oN 15 (ix 11 12 13),oN 16 (fd 0 15),oS (.store 1 (.t 16) (.t 14))] (sr [oW 17 1,oN 18 (bc .add 17 1),oW 1 18] (sr [oW 19 0,oW 20 5,oW 21 1,oN 22 (ix 11 19 20),oN 23 (fd 1 22),oS (.store 1 (.t 23) (.t 21))] (sr [oW 24 1,oN 25 (bc .add 24 1),oW 1 25] (sr [oW 26 0,oW 27 5,oW 28 1,oN 29 (bc .rem 28 3),oN 30 (bc .eql 29 0),oN 31 (ix 11 26 27),oN 32 (fd 2 31),oN 33 (fd 0 32),oN 34 (fd 0 33),oS (.store 1 (.t 34) (.t 30))] (sr [oW 35 1,oN 36 (bc .add 35 1),oW 1 36] (sr [oW 37 0,oW 38 5,oN 39 (ix 11 37 38),oN 40 (fd 2 39),oN 41 (fd 0 40),oN 42 (fd 1 41),oN 43 (lF 1 42),oW 44 1,oN 45 (cl 57 [43,44]),oW 1 45] (sr [oW 46 0,oW 47 5,oN 48 (ix 11 46 47),oN 49 (fd 2 48),oN 50 (fd 2 49),oN 51 (lF 1 50),oW 52 1,oN 53 (cl 57 [51,52]),oW 1 53] (sr [oW 54 0,oW 55 5,oW 56 1,oN 57 (bc .rem 56 3),oN 58 (bc .eql 57 0),oN 59 (ix 11 54 55),oN 60 (fd 5 59),oN 61 (fd 0 60),oN 62 (fd 0 61),oS (.store 1 (.t 62) (.t 58))] (sr [oW 63 1,oN 64 (bc .add 63 1),oW 1 64] (sr [oW 65 0,oW 66 5,oN 67 (ix 11 65 66),oN 68 (fd 5 67),oN 69 (fd 0 68),oN 70 (fd 1 69),oN 71 (lF 1 70),oW 72 1,oN 73 (cl 57 [71,72]),oW 1 73] (sr [oW 74 0,oW 75 5,oN 76 (ix 11 74 75),oN 77 (fd 5 76),oN 78 (fd 2 77),oN 79 (lF 1 78),oW 80 1,oN 81 (cl 57 [79,80]),oW 1 81] (sr [oW 82 0,oW 83 5,oW 84 1,oN 85 (bc .rem 84 3),oN 86 (bc .eql 85 0),oN 87 (ix 11 82 83),oN 88 (fd 8 87),oN 89 (fd 0 88),oN 90 (fd 0 89),oS (.store 1 (.t 90) (.t 86))] (sr [oW 91 1,oN 92 (bc .add 91 1),oW 1 92] (sr [oW 93 0,oW 94 5,oN 95 (ix 11 93 94),oN 96 (fd 8 95),oN 97 (fd 0 96),oN 98 (fd 1 97),oN 99 (lF 1 98),oW 100 1,oN 101 (cl 57 [99,100]),oW 1 101] (rg [oW 102 0,oW 103 5,oN 104 (ix 11 102 103),oN 105 (fd 8 104),oN 106 (fd 2 105),oN 107 (lF 1 106),oW 108 1,oN 109 (cl 57 [107,108]),oW 1 109]))))))))))))))))) (rg [oW 10 5,oN 11 (bc .add 10 1),oW 5 11])))))) (sr [oW 110 1,oW 4 110] .ret)))⟩
structure yM (T : Tb) : Prop where
 hT : T 118 = some mM
 aV : iD T
def kD : Fn:=⟨2,104,[.tmp 4],(sr [oN 4 (.bY (cI 0))] (.seq (sr [oN 5 (.bY (cI 0))] (.block 0 (.loop (.seq (sr [oW 6 5,oW 7 0,oN 8 (ln 7),oN 9 (bt .lss 6 8)] (cd 9 .skip (.exit 0))) (.seq (.block 1 (sr [oW 12 0,oW 13 5,oW 14 1,oN 15 (ix 10 12 13),oN 16 (fd 0 15),oS (.store 1 (.t 16) (.t 14))] (sr [oW 17 1,oN 18 (bc .add 17 1),oW 1 18] (sr [oW 19 0,oW 20 5,oW 21 1,oN 22 (bc .rem 21 3),oN 23 (bc .eql 22 0),oN 24 (ix 10 19 20),oN 25 (fd 1 24),oN 26 (fd 0 25),oN 27 (fd 0 26),oS (.store 1 (.t 27) (.t 23))] (sr [oW 28 1,oN 29 (bc .add 28 1),oW 1 29] (sr [oW 30 0,oW 31 5,oN 32 (ix 10 30 31),oN 33 (fd 1 32),oN 34 (fd 0 33),oN 35 (fd 1 34),oN 36 (lF 1 35),oW 37 1,oN 38 (cl 57 [36,37]),oW 1 38] (sr [oW 39 0,oW 40 5,oN 41 (ix 10 39 40),oN 42 (fd 1 41),oN 43 (fd 2 42),oN 44 (lF 1 43),oW 45 1,oN 46 (cl 57 [44,45]),oW 1 46] (sr [oW 47 0,oW 48 5,oW 49 1,oN 50 (bc .rem 49 3),oN 51 (bc .eql 50 0),oN 52 (ix 10 47 48),oN 53 (fd 4 52),oN 54 (fd 0 53),oN 55 (fd 0 54),oS (.store 1 (.t 55) (.t 51))] (sr [oW 56 1,oN 57 (bc .add 56 1),oW 1 57] (sr [oW 58 0,oW 59 5,oN 60 (ix 10 58 59),oN 61 (fd 4 60),oN 62 (fd 0 61),oN 63 (fd 1 62),oN 64 (lF 1 63),oW 65 1,oN 66 (cl 57 [64,65]),oW 1 66] (sr [oW 67 0,oW 68 5,oN 69 (ix 10 67 68),oN 70 (fd 4 69),oN 71 (fd 2 70),oN 72 (lF 1 71),oW 73 1,oN 74 (cl 57 [72,73]),oW 1 74] (sr [oW 75 0,oW 76 5,oW 77 1,oN 78 (bc .rem 77 3),oN 79 (bc .eql 78 0),oN 80 (ix 10 75 76),oN 81 (fd 7 80),oN 82 (fd 0 81),oN 83 (fd 0 82),oS (.store 1 (.t 83) (.t 79))] (sr [oW 84 1,oN 85 (bc .add 84 1),oW 1 85] (sr [oW 86 0,oW 87 5,oN 88 (ix 10 86 87),oN 89 (fd 7 88),oN 90 (fd 0 89),oN 91 (fd 1 90),oN 92 (lF 1 91),oW 93 1,oN 94 (cl 57 [92,93]),oW 1 94] (rg [oW 95 0,oW 96 5,oN 97 (ix 10 95 96),oN 98 (fd 7 97),oN 99 (fd 2 98),oN 100 (lF 1 99),oW 101 1,oN 102 (cl 57 [100,101]),oW 1 102]))))))))))))))) (rg [oW 10 5,oN 11 (bc .add 10 1),oW 5 11])))))) (sr [oW 103 1,oW 4 103] .ret)))⟩
structure vH (T : Tb) : Prop where
 hT : T 119 = some kD
 aV : iD T
def gG : Fn:=⟨2,55,[.tmp 4],(sr [oN 4 (.bY (cI 0))] (.seq (sr [oN 5 (.bY (cI 0))] (.block 0 (.loop (.seq (sr [oW 6 5,oW 7 0,oN 8 (ln 7),oN 9 (bt .lss 6 8)] (cd 9 .skip (.exit 0))) (.seq (.block 1 (sr [oW 12 0,oW 13 5,oW 14 1,oN 15 (ix 5 12 13),oN 16 (fd 0 15),oS (.store 1 (.t 16) (.t 14))] (sr [oW 17 1,oN 18 (bc .add 17 1),oW 1 18] (sr [oW 19 0,oW 20 5,oW 21 1,oN 22 (bc .rem 21 3),oN 23 (bc .eql 22 0),oN 24 (ix 5 19 20),oN 25 (fd 1 24),oN 26 (fd 0 25),oN 27 (fd 0 26),oS (.store 1 (.t 27) (.t 23))] (sr [oW 28 1,oN 29 (bc .add 28 1),oW 1 29] (sr [oW 30 0,oW 31 5,oN 32 (ix 5 30 31),oN 33 (fd 1 32),oN 34 (fd 0 33),oN 35 (fd 1 34),oN 36 (lF 1 35),oW 37 1,oN 38 (cl 57 [36,37]),oW 1 38] (sr [oW 39 0,oW 40 5,oN 41 (ix 5 39 40),oN 42 (fd 1 41),oN 43 (fd 2 42),oN 44 (lF 1 43),oW 45 1,oN 46 (cl 57 [44,45]),oW 1 46] (rg [oW 47 0,oW 48 5,oN 49 (ix 5 47 48),oN 50 (fd 4 49),oN 51 (lF 1 50),oW 52 1,oN 53 (cl 119 [51,52]),oW 1 53])))))))) (rg [oW 10 5,oN 11 (bc .add 10 1),oW 5 11])))))) (sr [oW 54 1,oW 4 54] .ret)))⟩
structure mO (T : Tb) : Prop where
 hT : T 385 = some gG
 aV : iD T
 Kw : vH T
def R.ct (x : R) : Nat:=1 + x.mag.length + x.den.length
def R.mk3 (k : Int) (x : R) : R:=⟨decide ((k).tmod 3 = 0),cnt x.mag.length (k + 1),cnt x.den.length (k + 1 + x.mag.length)⟩
def Pt.ct (x : Pt) : Nat:=1 + x.x.mag.length + x.x.den.length + 1 + x.y.mag.length + x.y.den.length
def Pt.mk3 (k : Int) (x : Pt) : Pt:=⟨⟨decide ((k).tmod 3 = 0),cnt x.x.mag.length (k + 1),cnt x.x.den.length (k + 1 + x.x.mag.length)⟩,⟨decide ((k + 1 + x.x.mag.length + x.x.den.length).tmod 3 = 0),cnt x.y.mag.length (k + 1 + x.x.mag.length + x.x.den.length + 1),cnt x.y.den.length (k + 1 + x.x.mag.length + x.x.den.length + 1 + x.y.mag.length)⟩⟩
def Lk.ct (x : Lk) : Nat:=1 + 1 + 1 + x.w.mag.length + x.w.den.length + 1 + x.dx.mag.length + x.dx.den.length + 1 + x.dy.mag.length + x.dy.den.length
def Lk.mk3 (k : Int) (x : Lk) : Lk:=⟨k,k + 1,⟨decide ((k + 1 + 1).tmod 3 = 0),cnt x.w.mag.length (k + 1 + 1 + 1),cnt x.w.den.length (k + 1 + 1 + 1 + x.w.mag.length)⟩,⟨decide ((k + 1 + 1 + 1 + x.w.mag.length + x.w.den.length).tmod 3 = 0),cnt x.dx.mag.length (k + 1 + 1 + 1 + x.w.mag.length + x.w.den.length + 1),cnt x.dx.den.length (k + 1 + 1 + 1 + x.w.mag.length + x.w.den.length + 1 + x.dx.mag.length)⟩,⟨decide ((k + 1 + 1 + 1 + x.w.mag.length + x.w.den.length + 1 + x.dx.mag.length + x.dx.den.length).tmod 3 = 0),cnt x.dy.mag.length (k + 1 + 1 + 1 + x.w.mag.length + x.w.den.length + 1 + x.dx.mag.length + x.dx.den.length + 1),cnt x.dy.den.length (k + 1 + 1 + 1 + x.w.mag.length + x.w.den.length + 1 + x.dx.mag.length + x.dx.den.length + 1 + x.dy.mag.length)⟩⟩
theorem VL {T : Tb} (h : yM T) {l : List Lk} {k : Int} (hl : vY Lk.sz l ≤ 1000000000:=by exact bZ) (hk : 0 ≤ k ∧ k + oP Lk.ct l l.length ≤ 1000000000000:=by exact bZ) :
  Mk T 118 (bf l) k (bf (Hr Lk.mk3 Lk.ct k l)) (k + oP Lk.ct l l.length):=by
 refine mk_iff fun σ v os ho hn=>?_
 have hll : l.length ≤ 1000000000:=by unfold vY at hl;omega
 rcases ho.VE with ⟨e,rfl,rfl⟩ | ⟨o,R0,os',rfl,_,_,hos,_⟩
 ·have el : l = []:=by simpa using e
  subst el
  have : ∃ r σ',Run T (.fn 118 [.sl 11 [],iv k] σ) (.fn r σ') ∧ (r = iv k ∧ σ' = σ):=by
   refine run_end nR h.hT ?_
   simp only [mM,Lz,St.enter,List.length_cons,List.length_nil,Nat.zero_add]
   refine ew ?_
   refine aO (fun _ _=>false) (α:=Nat) (fun i=>⟨bF [.sl 11 [],iv k,.any,.any,.any,iv 0],σ,σ.length,0,[],[]⟩) (fun i=>i = 0) (fun i=>i) rfl 0 ?_ ?_ ?_
   ·rfl
   ·(refine aH ?_;exact uT)
   ·rintro i rfl
    refine ew ?_
    refine aG (fun hc=>absurd hc (by omega)) fun hc=>?_
    (refine ew ?_;try with_reducible exact True.intro)
  obtain ⟨r,σ',h2,rfl,rfl⟩:=this
  exact ⟨σ',by simpa [oP] using h2,ho,Fr.refl _ _⟩
 ·rw [List.length_map] at ho ⊢
  have : ∃ r σ',Run T (.fn 118 [.bC o 0 l.length,iv k] σ) (.fn r σ') ∧ (r = iv (k + oP Lk.ct l l.length) ∧ bD σ' (.bC o 0 l.length) (bf (IB Lk.mk3 Lk.ct k l l.length)) os ∧ Fr os σ σ'):=by
   refine run_end (fun x d=>x == 57) h.hT ?_
   simp only [mM,Lz,St.enter,List.length_cons,List.length_nil,Nat.zero_add]
   refine ew ?_
   refine aO (fun x d=>x == 57) (α:=Nat × Store) (fun q=>⟨bF [.bC o 0 l.length,iv (k + oP Lk.ct l q.1),.any,.any,.any,iv (q.1 : Nat)],q.2,σ.length,0,[],[]⟩) (fun q=>q.1 ≤ l.length ∧ bD q.2 (.bC o 0 l.length) (bf (IB Lk.mk3 Lk.ct k l q.1)) os ∧ Fr os σ q.2) (fun q=>l.length - q.1) rfl (0,σ) ?_ ?_ ?_
   ·exact ⟨by omega,by rw [ZT];exact ho,Fr.refl _ _⟩
   ·(refine aH ?_) <;> (try (refine BZ @Q7 ?_;try with_reducible exact True.intro)) <;> (repeat' (first | refine ⟨?_,?_⟩ | exact jI (by omega) | exact lZ (by simp) | exact jJ _))
   ·rintro ⟨i,s⟩ ⟨hi,h2,h3⟩
    dsimp only at hi h2 h3
    have hls:=h3.len
    obtain ⟨A,hob,hM⟩:=h2.obj
    refine BZ @hob ?_
    refine aG (fun hc=>?_) fun hc=>?_
    ·have hil : i < l.length:=by omega
     obtain ⟨o',M',cs,oc,hv,Yi,hM',hRi,hcs,hoc,hoo,hno,hre⟩:=h2.VD hn (i:=i) (mg? (by rw [FH _ _ _ _ hi];exact hil))
     rw [List.length_map,FH _ _ _ _ hi] at hv
     cases hv
     rw [hob] at Yi
     cases Yi
     rw [VG _ _ _ _ hil] at hcs
     obtain ⟨x,hx⟩ : ∃ x,l.getD i default = x:=⟨_,rfl⟩
     rw [hx] at hcs
     have hcn:=X6 Lk.ct l hil
     have hcl:=NG Lk.ct l (i:=i + 1) hil
     have hms:=Rh Lk.mk3 Lk.ct k l hil
     rw [hx] at hcn hms
     rw [hcn] at hcl
     obtain ⟨kk,hkk⟩ : ∃ kk,k + (oP Lk.ct l i : Int) = kk:=⟨_,rfl⟩
     obtain ⟨c0,c1,c2,c3,c4,c5,c6,c7,c8,c9,c10,rfl⟩ : ∃ c0 c1 c2 c3 c4 c5 c6 c7 c8 c9 c10,cs = [c0,c1,c2,c3,c4,c5,c6,c7,c8,c9,c10]:=by
      have:=hcs.ow.len
      match cs,this with
      | [a0,a1,a2,a3,a4,a5,a6,a7,a8,a9,a10],_=>exact ⟨a0,a1,a2,a3,a4,a5,a6,a7,a8,a9,a10,rfl⟩
     have hlo:=aJ hob
     have rs : ∀ r,(A.set i r)[i]? = some r:=fun r=>by rw [List.getElem?_set_self (by omega)]
     have hct : Lk.ct x = 1 + 1 + 1 + x.w.mag.length + x.w.den.length + 1 + x.dx.mag.length + x.dx.den.length + 1 + x.dy.mag.length + x.dy.den.length:=rfl
     have hxs : Lk.sz x ≤ 1000000000:=by
      have:=Q5 Lk.sz hil
      rw [hx] at this
      omega
     simp only [Lk.sz,R.sz] at hxs
     have F0 : Fr (o :: oc) s s:=Fr.refl _ _
     have hcs:=hcs.WG 0 (.int .i64 (kk)) rfl
     have hcs:=hcs.WG 1 (.int .i64 (kk + 1)) rfl
     have hcs:=hcs.WG 2 (.bool (decide ((kk + 1 + 1).tmod 3 = 0))) rfl
     refine ew7 @hkk @hc @hob @hRi @hlo @rs @List.set_set.{0} ?_
     have hcs:=hcs.set (x:=some ⟨11,A.set i [.int .i64 (kk),.int .i64 (kk + 1),.bool (decide ((kk + 1 + 1).tmod 3 = 0)),c3,c4,c5,c6,c7,c8,c9,c10]⟩) hno
     have G0:=F0.trans (Iz (σ:=s) (o:=o) (x:=some ⟨11,A.set i [.int .i64 (kk),.int .i64 (kk + 1),.bool (decide ((kk + 1 + 1).tmod 3 = 0)),c3,c4,c5,c6,c7,c8,c9,c10]⟩) (by simp))
     obtain ⟨s1,hr,hcs,hf1⟩:=hcs.call 3 (dM h.aV (l:=x.w.mag) (k:=kk + 1 + 1 + 1) (by omega) (by omega)) rfl rfl
     refine fU hr rfl hf1.len (by simp) ?_
     have hb1:=(hf1.old o (by simpa using hlo) hno).trans (bn hlo)
     have hl1:=aJ hb1
     have F1:=G0.trans (hf1.mono (by simp +contextual))
     refine xX @hb1 @rs @hl1 @List.set_set.{0} ?_
     have G1:=F1
     obtain ⟨s2,hr,hcs,hf2⟩:=hcs.call 4 (dM h.aV (l:=x.w.den) (k:=kk + 1 + 1 + 1 + x.w.mag.length) (by omega) (by omega)) rfl rfl
     refine fU hr rfl hf2.len (by simp) ?_
     have hb2:=(hf2.old o hl1 hno).trans hb1
     have hl2:=aJ hb2
     have F2:=G1.trans (hf2.mono (by simp +contextual))
     have hcs:=hcs.WG 5 (.bool (decide ((kk + 1 + 1 + 1 + x.w.mag.length + x.w.den.length).tmod 3 = 0))) rfl
     refine xX @hb2 @rs @hl2 @List.set_set.{0} ?_
     have hcs:=hcs.set (x:=some ⟨11,A.set i [.int .i64 (kk),.int .i64 (kk + 1),.bool (decide ((kk + 1 + 1).tmod 3 = 0)),c3,c4,.bool (decide ((kk + 1 + 1 + 1 + x.w.mag.length + x.w.den.length).tmod 3 = 0)),c6,c7,c8,c9,c10]⟩) hno
     have G2:=F2.trans (Iz (σ:=s2) (o:=o) (x:=some ⟨11,A.set i [.int .i64 (kk),.int .i64 (kk + 1),.bool (decide ((kk + 1 + 1).tmod 3 = 0)),c3,c4,.bool (decide ((kk + 1 + 1 + 1 + x.w.mag.length + x.w.den.length).tmod 3 = 0)),c6,c7,c8,c9,c10]⟩) (by simp))
     obtain ⟨s3,hr,hcs,hf3⟩:=hcs.call 6 (dM h.aV (l:=x.dx.mag) (k:=kk + 1 + 1 + 1 + x.w.mag.length + x.w.den.length + 1) (by omega) (by omega)) rfl rfl
     refine fU hr rfl hf3.len (by simp) ?_
     have hb3:=(hf3.old o (by simpa using hl2) hno).trans (bn hl2)
     have hl3:=aJ hb3
     have F3:=G2.trans (hf3.mono (by simp +contextual))
     refine xX @hb3 @rs @hl3 @List.set_set.{0} ?_
     have G3:=F3
     obtain ⟨s4,hr,hcs,hf4⟩:=hcs.call 7 (dM h.aV (l:=x.dx.den) (k:=kk + 1 + 1 + 1 + x.w.mag.length + x.w.den.length + 1 + x.dx.mag.length) (by omega) (by omega)) rfl rfl
     refine fU hr rfl hf4.len (by simp) ?_
     have hb4:=(hf4.old o hl3 hno).trans hb3
     have hl4:=aJ hb4
     have F4:=G3.trans (hf4.mono (by simp +contextual))
     have hcs:=hcs.WG 8 (.bool (decide ((kk + 1 + 1 + 1 + x.w.mag.length + x.w.den.length + 1 + x.dx.mag.length + x.dx.den.length).tmod 3 = 0))) rfl
     refine xX @hb4 @rs @hl4 @List.set_set.{0} ?_
     have hcs:=hcs.set (x:=some ⟨11,A.set i [.int .i64 (kk),.int .i64 (kk + 1),.bool (decide ((kk + 1 + 1).tmod 3 = 0)),c3,c4,.bool (decide ((kk + 1 + 1 + 1 + x.w.mag.length + x.w.den.length).tmod 3 = 0)),c6,c7,.bool (decide ((kk + 1 + 1 + 1 + x.w.mag.length + x.w.den.length + 1 + x.dx.mag.length + x.dx.den.length).tmod 3 = 0)),c9,c10]⟩) hno
     have G4:=F4.trans (Iz (σ:=s4) (o:=o) (x:=some ⟨11,A.set i [.int .i64 (kk),.int .i64 (kk + 1),.bool (decide ((kk + 1 + 1).tmod 3 = 0)),c3,c4,.bool (decide ((kk + 1 + 1 + 1 + x.w.mag.length + x.w.den.length).tmod 3 = 0)),c6,c7,.bool (decide ((kk + 1 + 1 + 1 + x.w.mag.length + x.w.den.length + 1 + x.dx.mag.length + x.dx.den.length).tmod 3 = 0)),c9,c10]⟩) (by simp))
     obtain ⟨s5,hr,hcs,hf5⟩:=hcs.call 9 (dM h.aV (l:=x.dy.mag) (k:=kk + 1 + 1 + 1 + x.w.mag.length + x.w.den.length + 1 + x.dx.mag.length + x.dx.den.length + 1) (by omega) (by omega)) rfl rfl
     refine fU hr rfl hf5.len (by simp) ?_
     have hb5:=(hf5.old o (by simpa using hl4) hno).trans (bn hl4)
     have hl5:=aJ hb5
     have F5:=G4.trans (hf5.mono (by simp +contextual))
     refine xX @hb5 @rs @hl5 @List.set_set.{0} ?_
     have G5:=F5
     obtain ⟨s6,hr,hcs,hf6⟩:=hcs.call 10 (dM h.aV (l:=x.dy.den) (k:=kk + 1 + 1 + 1 + x.w.mag.length + x.w.den.length + 1 + x.dx.mag.length + x.dx.den.length + 1 + x.dy.mag.length) (by omega) (by omega)) rfl rfl
     refine fU hr rfl hf6.len (by simp) ?_
     have hb6:=(hf6.old o hl5 hno).trans hb5
     have hl6:=aJ hb6
     have F6:=G5.trans (hf6.mono (by simp +contextual))
     refine xX @hb6 @rs @hl6 @List.set_set.{0} ?_
     refine ⟨(i + 1,s6),by dsimp only;omega,⟨by dsimp only;omega,?_,?_⟩,by (refine aH ?_;exact uT)⟩
     ·dsimp only
      rw [← hms,hkk]
      show bD _ _ (.sl 11 (List.map Lk.cells _)) _
      rw [List.map_set]
      exact hre _ _ _ hcs hb6 F6
     ·exact h3.trans (F6.mono (by simpa using ⟨hoo,hoc⟩))
    ·have : i = l.length:=by omega
     subst this
     refine BZ @hc ?_
     exact ⟨h2,h3⟩
  obtain ⟨r,σ',h2,rfl,h3,h4⟩:=this
  rw [Q9] at h3
  exact ⟨σ',h2,h3,h4⟩
def Pa.ct (x : Pa) : Nat:=1 + 1 + x.share.mag.length + x.share.den.length + 1 + x.dx.mag.length + x.dx.den.length + 1 + x.dy.mag.length + x.dy.den.length
def Pa.mk3 (k : Int) (x : Pa) : Pa:=⟨k,⟨decide ((k + 1).tmod 3 = 0),cnt x.share.mag.length (k + 1 + 1),cnt x.share.den.length (k + 1 + 1 + x.share.mag.length)⟩,⟨decide ((k + 1 + 1 + x.share.mag.length + x.share.den.length).tmod 3 = 0),cnt x.dx.mag.length (k + 1 + 1 + x.share.mag.length + x.share.den.length + 1),cnt x.dx.den.length (k + 1 + 1 + x.share.mag.length + x.share.den.length + 1 + x.dx.mag.length)⟩,⟨decide ((k + 1 + 1 + x.share.mag.length + x.share.den.length + 1 + x.dx.mag.length + x.dx.den.length).tmod 3 = 0),cnt x.dy.mag.length (k + 1 + 1 + x.share.mag.length + x.share.den.length + 1 + x.dx.mag.length + x.dx.den.length + 1),cnt x.dy.den.length (k + 1 + 1 + x.share.mag.length + x.share.den.length + 1 + x.dx.mag.length + x.dx.den.length + 1 + x.dy.mag.length)⟩⟩
theorem Rq {T : Tb} (h : vH T) {l : List Pa} {k : Int} (hl : vY Pa.sz l ≤ 1000000000:=by exact bZ) (hk : 0 ≤ k ∧ k + oP Pa.ct l l.length ≤ 1000000000000:=by exact bZ) :
  Mk T 119 (kK l) k (kK (Hr Pa.mk3 Pa.ct k l)) (k + oP Pa.ct l l.length):=by
 refine mk_iff fun σ v os ho hn=>?_
 have hll : l.length ≤ 1000000000:=by unfold vY at hl;omega
 rcases ho.VE with ⟨e,rfl,rfl⟩ | ⟨o,R0,os',rfl,_,_,hos,_⟩
 ·have el : l = []:=by simpa using e
  subst el
  have : ∃ r σ',Run T (.fn 119 [.sl 10 [],iv k] σ) (.fn r σ') ∧ (r = iv k ∧ σ' = σ):=by
   refine run_end nR h.hT ?_
   simp only [kD,Lz,St.enter,List.length_cons,List.length_nil,Nat.zero_add]
   refine ew ?_
   refine aO (fun _ _=>false) (α:=Nat) (fun i=>⟨bF [.sl 10 [],iv k,.any,.any,.any,iv 0],σ,σ.length,0,[],[]⟩) (fun i=>i = 0) (fun i=>i) rfl 0 ?_ ?_ ?_
   ·rfl
   ·(refine aH ?_;exact uT)
   ·rintro i rfl
    refine ew ?_
    refine aG (fun hc=>absurd hc (by omega)) fun hc=>?_
    (refine ew ?_;try with_reducible exact True.intro)
  obtain ⟨r,σ',h2,rfl,rfl⟩:=this
  exact ⟨σ',by simpa [oP] using h2,ho,Fr.refl _ _⟩
 ·rw [List.length_map] at ho ⊢
  have : ∃ r σ',Run T (.fn 119 [.bC o 0 l.length,iv k] σ) (.fn r σ') ∧ (r = iv (k + oP Pa.ct l l.length) ∧ bD σ' (.bC o 0 l.length) (kK (IB Pa.mk3 Pa.ct k l l.length)) os ∧ Fr os σ σ'):=by
   refine run_end (fun x d=>x == 57) h.hT ?_
   simp only [kD,Lz,St.enter,List.length_cons,List.length_nil,Nat.zero_add]
   refine ew ?_
   refine aO (fun x d=>x == 57) (α:=Nat × Store) (fun q=>⟨bF [.bC o 0 l.length,iv (k + oP Pa.ct l q.1),.any,.any,.any,iv (q.1 : Nat)],q.2,σ.length,0,[],[]⟩) (fun q=>q.1 ≤ l.length ∧ bD q.2 (.bC o 0 l.length) (kK (IB Pa.mk3 Pa.ct k l q.1)) os ∧ Fr os σ q.2) (fun q=>l.length - q.1) rfl (0,σ) ?_ ?_ ?_
   ·exact ⟨by omega,by rw [ZT];exact ho,Fr.refl _ _⟩
   ·(refine aH ?_) <;> (try (refine BZ @Q7 ?_;try with_reducible exact True.intro)) <;> (repeat' (first | refine ⟨?_,?_⟩ | exact jI (by omega) | exact lZ (by simp) | exact jJ _))
   ·rintro ⟨i,s⟩ ⟨hi,h2,h3⟩
    dsimp only at hi h2 h3
    have hls:=h3.len
    obtain ⟨A,hob,hM⟩:=h2.obj
    refine BZ @hob ?_
    refine aG (fun hc=>?_) fun hc=>?_
    ·have hil : i < l.length:=by omega
     obtain ⟨o',M',cs,oc,hv,Yi,hM',hRi,hcs,hoc,hoo,hno,hre⟩:=h2.VD hn (i:=i) (mg? (by rw [FH _ _ _ _ hi];exact hil))
     rw [List.length_map,FH _ _ _ _ hi] at hv
     cases hv
     rw [hob] at Yi
     cases Yi
     rw [VG _ _ _ _ hil] at hcs
     obtain ⟨x,hx⟩ : ∃ x,l.getD i default = x:=⟨_,rfl⟩
     rw [hx] at hcs
     have hcn:=X6 Pa.ct l hil
     have hcl:=NG Pa.ct l (i:=i + 1) hil
     have hms:=Rh Pa.mk3 Pa.ct k l hil
     rw [hx] at hcn hms
     rw [hcn] at hcl
     obtain ⟨kk,hkk⟩ : ∃ kk,k + (oP Pa.ct l i : Int) = kk:=⟨_,rfl⟩
     obtain ⟨c0,c1,c2,c3,c4,c5,c6,c7,c8,c9,rfl⟩ : ∃ c0 c1 c2 c3 c4 c5 c6 c7 c8 c9,cs = [c0,c1,c2,c3,c4,c5,c6,c7,c8,c9]:=by
      have:=hcs.ow.len
      match cs,this with
      | [a0,a1,a2,a3,a4,a5,a6,a7,a8,a9],_=>exact ⟨a0,a1,a2,a3,a4,a5,a6,a7,a8,a9,rfl⟩
     have hlo:=aJ hob
     have rs : ∀ r,(A.set i r)[i]? = some r:=fun r=>by rw [List.getElem?_set_self (by omega)]
     have hct : Pa.ct x = 1 + 1 + x.share.mag.length + x.share.den.length + 1 + x.dx.mag.length + x.dx.den.length + 1 + x.dy.mag.length + x.dy.den.length:=rfl
     have hxs : Pa.sz x ≤ 1000000000:=by
      have:=Q5 Pa.sz hil
      rw [hx] at this
      omega
     simp only [Pa.sz,R.sz] at hxs
     have F0 : Fr (o :: oc) s s:=Fr.refl _ _
     have hcs:=hcs.WG 0 (.int .i64 (kk)) rfl
     have hcs:=hcs.WG 1 (.bool (decide ((kk + 1).tmod 3 = 0))) rfl
     refine ew7 @hkk @hc @hob @hRi @hlo @rs @List.set_set.{0} ?_
     have hcs:=hcs.set (x:=some ⟨10,A.set i [.int .i64 (kk),.bool (decide ((kk + 1).tmod 3 = 0)),c2,c3,c4,c5,c6,c7,c8,c9]⟩) hno
     have G0:=F0.trans (Iz (σ:=s) (o:=o) (x:=some ⟨10,A.set i [.int .i64 (kk),.bool (decide ((kk + 1).tmod 3 = 0)),c2,c3,c4,c5,c6,c7,c8,c9]⟩) (by simp))
     obtain ⟨s1,hr,hcs,hf1⟩:=hcs.call 2 (dM h.aV (l:=x.share.mag) (k:=kk + 1 + 1) (by omega) (by omega)) rfl rfl
     refine fU hr rfl hf1.len (by simp) ?_
     have hb1:=(hf1.old o (by simpa using hlo) hno).trans (bn hlo)
     have hl1:=aJ hb1
     have F1:=G0.trans (hf1.mono (by simp +contextual))
     refine xX @hb1 @rs @hl1 @List.set_set.{0} ?_
     have G1:=F1
     obtain ⟨s2,hr,hcs,hf2⟩:=hcs.call 3 (dM h.aV (l:=x.share.den) (k:=kk + 1 + 1 + x.share.mag.length) (by omega) (by omega)) rfl rfl
     refine fU hr rfl hf2.len (by simp) ?_
     have hb2:=(hf2.old o hl1 hno).trans hb1
     have hl2:=aJ hb2
     have F2:=G1.trans (hf2.mono (by simp +contextual))
     have hcs:=hcs.WG 4 (.bool (decide ((kk + 1 + 1 + x.share.mag.length + x.share.den.length).tmod 3 = 0))) rfl
     refine xX @hb2 @rs @hl2 @List.set_set.{0} ?_
     have hcs:=hcs.set (x:=some ⟨10,A.set i [.int .i64 (kk),.bool (decide ((kk + 1).tmod 3 = 0)),c2,c3,.bool (decide ((kk + 1 + 1 + x.share.mag.length + x.share.den.length).tmod 3 = 0)),c5,c6,c7,c8,c9]⟩) hno
     have G2:=F2.trans (Iz (σ:=s2) (o:=o) (x:=some ⟨10,A.set i [.int .i64 (kk),.bool (decide ((kk + 1).tmod 3 = 0)),c2,c3,.bool (decide ((kk + 1 + 1 + x.share.mag.length + x.share.den.length).tmod 3 = 0)),c5,c6,c7,c8,c9]⟩) (by simp))
     obtain ⟨s3,hr,hcs,hf3⟩:=hcs.call 5 (dM h.aV (l:=x.dx.mag) (k:=kk + 1 + 1 + x.share.mag.length + x.share.den.length + 1) (by omega) (by omega)) rfl rfl
     refine fU hr rfl hf3.len (by simp) ?_
     have hb3:=(hf3.old o (by simpa using hl2) hno).trans (bn hl2)
     have hl3:=aJ hb3
     have F3:=G2.trans (hf3.mono (by simp +contextual))
     refine xX @hb3 @rs @hl3 @List.set_set.{0} ?_
     have G3:=F3
     obtain ⟨s4,hr,hcs,hf4⟩:=hcs.call 6 (dM h.aV (l:=x.dx.den) (k:=kk + 1 + 1 + x.share.mag.length + x.share.den.length + 1 + x.dx.mag.length) (by omega) (by omega)) rfl rfl
     refine fU hr rfl hf4.len (by simp) ?_
     have hb4:=(hf4.old o hl3 hno).trans hb3
     have hl4:=aJ hb4
     have F4:=G3.trans (hf4.mono (by simp +contextual))
     have hcs:=hcs.WG 7 (.bool (decide ((kk + 1 + 1 + x.share.mag.length + x.share.den.length + 1 + x.dx.mag.length + x.dx.den.length).tmod 3 = 0))) rfl
     refine xX @hb4 @rs @hl4 @List.set_set.{0} ?_
     have hcs:=hcs.set (x:=some ⟨10,A.set i [.int .i64 (kk),.bool (decide ((kk + 1).tmod 3 = 0)),c2,c3,.bool (decide ((kk + 1 + 1 + x.share.mag.length + x.share.den.length).tmod 3 = 0)),c5,c6,.bool (decide ((kk + 1 + 1 + x.share.mag.length + x.share.den.length + 1 + x.dx.mag.length + x.dx.den.length).tmod 3 = 0)),c8,c9]⟩) hno
     have G4:=F4.trans (Iz (σ:=s4) (o:=o) (x:=some ⟨10,A.set i [.int .i64 (kk),.bool (decide ((kk + 1).tmod 3 = 0)),c2,c3,.bool (decide ((kk + 1 + 1 + x.share.mag.length + x.share.den.length).tmod 3 = 0)),c5,c6,.bool (decide ((kk + 1 + 1 + x.share.mag.length + x.share.den.length + 1 + x.dx.mag.length + x.dx.den.length).tmod 3 = 0)),c8,c9]⟩) (by simp))
     obtain ⟨s5,hr,hcs,hf5⟩:=hcs.call 8 (dM h.aV (l:=x.dy.mag) (k:=kk + 1 + 1 + x.share.mag.length + x.share.den.length + 1 + x.dx.mag.length + x.dx.den.length + 1) (by omega) (by omega)) rfl rfl
     refine fU hr rfl hf5.len (by simp) ?_
     have hb5:=(hf5.old o (by simpa using hl4) hno).trans (bn hl4)
     have hl5:=aJ hb5
     have F5:=G4.trans (hf5.mono (by simp +contextual))
     refine xX @hb5 @rs @hl5 @List.set_set.{0} ?_
     have G5:=F5
     obtain ⟨s6,hr,hcs,hf6⟩:=hcs.call 9 (dM h.aV (l:=x.dy.den) (k:=kk + 1 + 1 + x.share.mag.length + x.share.den.length + 1 + x.dx.mag.length + x.dx.den.length + 1 + x.dy.mag.length) (by omega) (by omega)) rfl rfl
     refine fU hr rfl hf6.len (by simp) ?_
     have hb6:=(hf6.old o hl5 hno).trans hb5
     have hl6:=aJ hb6
     have F6:=G5.trans (hf6.mono (by simp +contextual))
     refine xX @hb6 @rs @hl6 @List.set_set.{0} ?_
     refine ⟨(i + 1,s6),by dsimp only;omega,⟨by dsimp only;omega,?_,?_⟩,by (refine aH ?_;exact uT)⟩
     ·dsimp only
      rw [← hms,hkk]
      show bD _ _ (.sl 10 (List.map Pa.cells _)) _
      rw [List.map_set]
      exact hre _ _ _ hcs hb6 F6
     ·exact h3.trans (F6.mono (by simpa using ⟨hoo,hoc⟩))
    ·have : i = l.length:=by omega
     subst this
     refine BZ @hc ?_
     exact ⟨h2,h3⟩
  obtain ⟨r,σ',h2,rfl,h3,h4⟩:=this
  rw [Q9] at h3
  exact ⟨σ',h2,h3,h4⟩
def Cd.ct (x : Cd) : Nat:=1 + 1 + x.total.mag.length + x.total.den.length + oP Pa.ct x.ps x.ps.length
def Cd.mk3 (k : Int) (x : Cd) : Cd:=⟨k,⟨decide ((k + 1).tmod 3 = 0),cnt x.total.mag.length (k + 1 + 1),cnt x.total.den.length (k + 1 + 1 + x.total.mag.length)⟩,Hr Pa.mk3 Pa.ct (k + 1 + 1 + x.total.mag.length + x.total.den.length) x.ps⟩
theorem Jp {T : Tb} (h : mO T) {l : List Cd} {k : Int} (hl : vY Cd.sz l ≤ 1000000000:=by exact bZ) (hk : 0 ≤ k ∧ k + oP Cd.ct l l.length ≤ 1000000000000:=by exact bZ) :
  Mk T 385 (Bz l) k (Bz (Hr Cd.mk3 Cd.ct k l)) (k + oP Cd.ct l l.length):=by
 refine mk_iff fun σ v os ho hn=>?_
 have hll : l.length ≤ 1000000000:=by unfold vY at hl;omega
 rcases ho.VE with ⟨e,rfl,rfl⟩ | ⟨o,R0,os',rfl,_,_,hos,_⟩
 ·have el : l = []:=by simpa using e
  subst el
  have : ∃ r σ',Run T (.fn 385 [.sl 5 [],iv k] σ) (.fn r σ') ∧ (r = iv k ∧ σ' = σ):=by
   refine run_end nR h.hT ?_
   simp only [gG,Lz,St.enter,List.length_cons,List.length_nil,Nat.zero_add]
   refine ew ?_
   refine aO (fun _ _=>false) (α:=Nat) (fun i=>⟨bF [.sl 5 [],iv k,.any,.any,.any,iv 0],σ,σ.length,0,[],[]⟩) (fun i=>i = 0) (fun i=>i) rfl 0 ?_ ?_ ?_
   ·rfl
   ·(refine aH ?_;exact uT)
   ·rintro i rfl
    refine ew ?_
    refine aG (fun hc=>absurd hc (by omega)) fun hc=>?_
    (refine ew ?_;try with_reducible exact True.intro)
  obtain ⟨r,σ',h2,rfl,rfl⟩:=this
  exact ⟨σ',by simpa [oP] using h2,ho,Fr.refl _ _⟩
 ·rw [List.length_map] at ho ⊢
  have : ∃ r σ',Run T (.fn 385 [.bC o 0 l.length,iv k] σ) (.fn r σ') ∧ (r = iv (k + oP Cd.ct l l.length) ∧ bD σ' (.bC o 0 l.length) (Bz (IB Cd.mk3 Cd.ct k l l.length)) os ∧ Fr os σ σ'):=by
   refine run_end (fun x d=>x == 57 || x == 119) h.hT ?_
   simp only [gG,Lz,St.enter,List.length_cons,List.length_nil,Nat.zero_add]
   refine ew ?_
   refine aO (fun x d=>x == 57 || x == 119) (α:=Nat × Store) (fun q=>⟨bF [.bC o 0 l.length,iv (k + oP Cd.ct l q.1),.any,.any,.any,iv (q.1 : Nat)],q.2,σ.length,0,[],[]⟩) (fun q=>q.1 ≤ l.length ∧ bD q.2 (.bC o 0 l.length) (Bz (IB Cd.mk3 Cd.ct k l q.1)) os ∧ Fr os σ q.2) (fun q=>l.length - q.1) rfl (0,σ) ?_ ?_ ?_
   ·exact ⟨by omega,by rw [ZT];exact ho,Fr.refl _ _⟩
   ·(refine aH ?_) <;> (try (refine BZ @Q7 ?_;try with_reducible exact True.intro)) <;> (repeat' (first | refine ⟨?_,?_⟩ | exact jI (by omega) | exact lZ (by simp) | exact jJ _))
   ·rintro ⟨i,s⟩ ⟨hi,h2,h3⟩
    dsimp only at hi h2 h3
    have hls:=h3.len
    obtain ⟨A,hob,hM⟩:=h2.obj
    refine BZ @hob ?_
    refine aG (fun hc=>?_) fun hc=>?_
    ·have hil : i < l.length:=by omega
     obtain ⟨o',M',cs,oc,hv,Yi,hM',hRi,hcs,hoc,hoo,hno,hre⟩:=h2.VD hn (i:=i) (mg? (by rw [FH _ _ _ _ hi];exact hil))
     rw [List.length_map,FH _ _ _ _ hi] at hv
     cases hv
     rw [hob] at Yi
     cases Yi
     rw [VG _ _ _ _ hil] at hcs
     obtain ⟨x,hx⟩ : ∃ x,l.getD i default = x:=⟨_,rfl⟩
     rw [hx] at hcs
     have hcn:=X6 Cd.ct l hil
     have hcl:=NG Cd.ct l (i:=i + 1) hil
     have hms:=Rh Cd.mk3 Cd.ct k l hil
     rw [hx] at hcn hms
     rw [hcn] at hcl
     obtain ⟨kk,hkk⟩ : ∃ kk,k + (oP Cd.ct l i : Int) = kk:=⟨_,rfl⟩
     obtain ⟨c0,c1,c2,c3,c4,rfl⟩ : ∃ c0 c1 c2 c3 c4,cs = [c0,c1,c2,c3,c4]:=by
      have:=hcs.ow.len
      match cs,this with
      | [a0,a1,a2,a3,a4],_=>exact ⟨a0,a1,a2,a3,a4,rfl⟩
     have hlo:=aJ hob
     have rs : ∀ r,(A.set i r)[i]? = some r:=fun r=>by rw [List.getElem?_set_self (by omega)]
     have hct : Cd.ct x = 1 + 1 + x.total.mag.length + x.total.den.length + oP Pa.ct x.ps x.ps.length:=rfl
     have hxs : Cd.sz x ≤ 1000000000:=by
      have:=Q5 Cd.sz hil
      rw [hx] at this
      omega
     simp only [Cd.sz,R.sz] at hxs
     have F0 : Fr (o :: oc) s s:=Fr.refl _ _
     have hcs:=hcs.WG 0 (.int .i64 (kk)) rfl
     have hcs:=hcs.WG 1 (.bool (decide ((kk + 1).tmod 3 = 0))) rfl
     refine ew7 @hkk @hc @hob @hRi @hlo @rs @List.set_set.{0} ?_
     have hcs:=hcs.set (x:=some ⟨5,A.set i [.int .i64 (kk),.bool (decide ((kk + 1).tmod 3 = 0)),c2,c3,c4]⟩) hno
     have G0:=F0.trans (Iz (σ:=s) (o:=o) (x:=some ⟨5,A.set i [.int .i64 (kk),.bool (decide ((kk + 1).tmod 3 = 0)),c2,c3,c4]⟩) (by simp))
     obtain ⟨s1,hr,hcs,hf1⟩:=hcs.call 2 (dM h.aV (l:=x.total.mag) (k:=kk + 1 + 1) (by omega) (by omega)) rfl rfl
     refine fU hr rfl hf1.len (by simp) ?_
     have hb1:=(hf1.old o (by simpa using hlo) hno).trans (bn hlo)
     have hl1:=aJ hb1
     have F1:=G0.trans (hf1.mono (by simp +contextual))
     refine xX @hb1 @rs @hl1 @List.set_set.{0} ?_
     have G1:=F1
     obtain ⟨s2,hr,hcs,hf2⟩:=hcs.call 3 (dM h.aV (l:=x.total.den) (k:=kk + 1 + 1 + x.total.mag.length) (by omega) (by omega)) rfl rfl
     refine fU hr rfl hf2.len (by simp) ?_
     have hb2:=(hf2.old o hl1 hno).trans hb1
     have hl2:=aJ hb2
     have F2:=G1.trans (hf2.mono (by simp +contextual))
     refine xX @hb2 @rs @hl2 @List.set_set.{0} ?_
     have G2:=F2
     obtain ⟨s3,hr,hcs,hf3⟩:=hcs.call 4 (Rq h.Kw (l:=x.ps) (k:=kk + 1 + 1 + x.total.mag.length + x.total.den.length) (by omega) (by omega)) rfl rfl
     refine fU hr rfl hf3.len (by simp) ?_
     have hb3:=(hf3.old o hl2 hno).trans hb2
     have hl3:=aJ hb3
     have F3:=G2.trans (hf3.mono (by simp +contextual))
     refine xX @hb3 @rs @hl3 @List.set_set.{0} ?_
     refine ⟨(i + 1,s3),by dsimp only;omega,⟨by dsimp only;omega,?_,?_⟩,by (refine aH ?_;exact uT)⟩
     ·dsimp only
      rw [← hms,hkk]
      show bD _ _ (.sl 5 (List.map Cd.cells _)) _
      rw [List.map_set]
      exact hre _ _ _ hcs hb3 F3
     ·exact h3.trans (F3.mono (by simpa using ⟨hoo,hoc⟩))
    ·have : i = l.length:=by omega
     subst this
     refine BZ @hc ?_
     exact ⟨h2,h3⟩
  obtain ⟨r,σ',h2,rfl,h3,h4⟩:=this
  rw [Q9] at h3
  exact ⟨σ',h2,h3,h4⟩
def Tn.ct (x : Tn) : Nat:=1 + 1 + oP Lk.ct x.own x.own.length + 1 + 1 + x.cond.total.mag.length + x.cond.total.den.length + oP Pa.ct x.cond.ps x.cond.ps.length + oP Lk.ct x.msgs x.msgs.length + 1 + x.AL.mag.length + x.AL.den.length
def Tn.mk3 (k : Int) (x : Tn) : Tn:=⟨k,k + 1,Hr Lk.mk3 Lk.ct (k + 1 + 1) x.own,⟨k + 1 + 1 + oP Lk.ct x.own x.own.length,⟨decide ((k + 1 + 1 + oP Lk.ct x.own x.own.length + 1).tmod 3 = 0),cnt x.cond.total.mag.length (k + 1 + 1 + oP Lk.ct x.own x.own.length + 1 + 1),cnt x.cond.total.den.length (k + 1 + 1 + oP Lk.ct x.own x.own.length + 1 + 1 + x.cond.total.mag.length)⟩,Hr Pa.mk3 Pa.ct (k + 1 + 1 + oP Lk.ct x.own x.own.length + 1 + 1 + x.cond.total.mag.length + x.cond.total.den.length) x.cond.ps⟩,Hr Lk.mk3 Lk.ct (k + 1 + 1 + oP Lk.ct x.own x.own.length + 1 + 1 + x.cond.total.mag.length + x.cond.total.den.length + oP Pa.ct x.cond.ps x.cond.ps.length) x.msgs,⟨decide ((k + 1 + 1 + oP Lk.ct x.own x.own.length + 1 + 1 + x.cond.total.mag.length + x.cond.total.den.length + oP Pa.ct x.cond.ps x.cond.ps.length + oP Lk.ct x.msgs x.msgs.length).tmod 3 = 0),cnt x.AL.mag.length (k + 1 + 1 + oP Lk.ct x.own x.own.length + 1 + 1 + x.cond.total.mag.length + x.cond.total.den.length + oP Pa.ct x.cond.ps x.cond.ps.length + oP Lk.ct x.msgs x.msgs.length + 1),cnt x.AL.den.length (k + 1 + 1 + oP Lk.ct x.own x.own.length + 1 + 1 + x.cond.total.mag.length + x.cond.total.den.length + oP Pa.ct x.cond.ps x.cond.ps.length + oP Lk.ct x.msgs x.msgs.length + 1 + x.AL.mag.length)⟩⟩
def pV : Fn:=⟨2,10,[.tmp 4],(.seq (rf 1 [oN 2 (.box (.t 0)),oK 4 1 (.bY (cI 0))]) (sr [oN 5 (fd 1 2),oN 6 (lF 1 5),oW 7 1,oN 8 (cl 57 [6,7]),oW 1 8] (sr [oW 9 1,oW 4 9] .ret)))⟩
structure wZ (T : Tb) : Prop where
 hT : T 56 = some pV
 aV : iD T
def xg : Fn:=⟨2,14,[.tmp 4],(.seq (rf 1 [oN 2 (.box (.t 0)),oK 4 1 (.bY (cI 0))]) (sr [oN 5 (fd 0 2),oN 6 (lT 2 5),oW 7 1,oN 8 (cl 56 [6,7]),oW 1 8] (sr [oN 9 (fd 2 2),oN 10 (lF 1 9),oW 11 1,oN 12 (cl 57 [10,11]),oW 1 12] (sr [oW 13 1,oW 4 13] .ret))))⟩
structure Dh (T : Tb) : Prop where
 hT : T 41 = some xg
 LQ : wZ T
 aV : iD T
theorem ivc {a b : Int} (h : a = b) : iv a = iv b:=by rw [h]
def V.els : V → List V
 | .agg l=>l
 | _=>[]
def Bi.mY (x : Bi) : Nat:=x.mag.length
def Bi.mk2 (k : Int) (x : Bi) : Bi:=⟨x.neg,cnt x.mag.length k⟩
theorem Tt {T : Tb} (h : wZ T) {x : Bi} {k : Int} (hl : x.mag.length ≤ 1000000000:=by exact bZ) (hk : 0 ≤ k ∧ k + Bi.mY x ≤ 1000000000000:=by exact bZ) :
  Mk T 56 (Il x) k (Il (Bi.mk2 k x)) (k + Bi.mY x):=by
 refine mk_iff fun σ v os ho hn=>?_
 have hk':=hk
 simp only [Bi.mY] at hk'
 obtain ⟨cs,rfl,hcs⟩:=ho.dA
 replace hcs : Cs _ _ _ _:=⟨hcs,hn⟩
 obtain ⟨c0,c1,rfl⟩ : ∃ c0 c1,cs = [c0,c1]:=by
  have:=hcs.ow.len
  match cs,this with
  | [a0,a1],_=>exact ⟨a0,a1,rfl⟩
 have hlf:=hcs.ow.leaf rfl
 have hce:=oO hlf
 have OQ : c0.leaf = true ∧ c1.leaf = true:=by simpa using hlf
 have key : ∃ r σ',Run T (.fn 56 [.agg [c0,c1],iv k] σ) (.fn r σ') ∧ (r = iv (k + Bi.mY x) ∧ Cs σ' [c0,c1] ((Il (Bi.mk2 k x) : V).els) os ∧ Fr os σ σ'):=by
  refine run_end (fun x d=>x == 57) h.hT ?_
  simp only [pV,Lz,St.enter,List.length_cons,List.length_nil,Nat.zero_add]
  refine ew ?_
  have F0 : Fr os σ (σ ++ [some ⟨2,[[c0,c1]]⟩]):=abl
  replace hcs:=hcs.snoc (x:=some ⟨2,[[c0,c1]]⟩)
  have hno : σ.length ∉ os:=fun hm=>absurd (ho.lt _ hm) (by omega)
  refine sJ @hce @OQ ?_
  obtain ⟨s1,hr,hcs,hf1⟩:=hcs.call 1 (dM h.aV (l:=x.mag) (k:=k) (by first | omega | (simp only [Bi.mY,R.mY,Bi.mY];omega)) (by first | omega | (simp only [Bi.mY,R.mY,Bi.mY];omega))) rfl rfl
  refine fU hr rfl hf1.len (by simp) ?_
  have hb1:=(hf1.old σ.length (by simp) hno).trans (qG _ _)
  have F1:=F0.trans hf1
  have aug:=aJ hb1
  refine sJ @hb1 @OQ ?_
  exact ⟨ivc (by simp only [Bi.mY];first | done | omega),hcs,F1⟩
 obtain ⟨r,σ',h2,rfl,h3,h4⟩:=key
 exact ⟨σ',h2,gQ h3.ow,h4⟩
def R.mY (x : R) : Nat:=Bi.mY x.num + x.den.length
def R.mk2 (k : Int) (x : R) : R:=⟨x.neg,cnt x.mag.length k,cnt x.den.length (k + x.mag.length)⟩
theorem aac {T : Tb} (h : Dh T) {x : R} {k : Int} (hl : x.sz ≤ 1000000000:=by exact bZ) (hk : 0 ≤ k ∧ k + R.mY x ≤ 1000000000000:=by exact bZ) :
  Mk T 41 (aU x) k (aU (R.mk2 k x)) (k + R.mY x):=by
 refine mk_iff fun σ v os ho hn=>?_
 have hl':=hl
 simp only [R.sz] at hl'
 have hk':=hk
 simp only [R.mY,Bi.mY] at hk'
 obtain ⟨cs,rfl,hcs⟩:=ho.dA
 replace hcs : Cs _ _ _ _:=⟨hcs,hn⟩
 obtain ⟨c0,c1,c2,rfl⟩ : ∃ c0 c1 c2,cs = [c0,c1,c2]:=by
  have:=hcs.ow.len
  match cs,this with
  | [a0,a1,a2],_=>exact ⟨a0,a1,a2,rfl⟩
 have hlf:=hcs.ow.leaf rfl
 have hce:=oO hlf
 have OQ : c0.leaf = true ∧ c1.leaf = true ∧ c2.leaf = true:=by simpa using hlf
 have key : ∃ r σ',Run T (.fn 41 [.agg [c0,c1,c2],iv k] σ) (.fn r σ') ∧ (r = iv (k + R.mY x) ∧ Cs σ' [c0,c1,c2] ((aU (R.mk2 k x) : V).els) os ∧ Fr os σ σ'):=by
  refine run_end (fun x d=>x == 56 || x == 57) h.hT ?_
  simp only [xg,Lz,St.enter,List.length_cons,List.length_nil,Nat.zero_add]
  refine ew ?_
  have F0 : Fr os σ (σ ++ [some ⟨3,[[c0,c1,c2]]⟩]):=abl
  replace hcs:=hcs.snoc (x:=some ⟨3,[[c0,c1,c2]]⟩)
  have hno : σ.length ∉ os:=fun hm=>absurd (ho.lt _ hm) (by omega)
  refine sJ @hce @OQ ?_
  obtain ⟨s1,hr,hcs,hf1⟩:=hcs.part 0 2 (Tt h.LQ (x:=x.num) (k:=k) (by first | omega | (simp only [R.sz,R.mY,Bi.mY];omega)) (by first | omega | (simp only [R.sz,R.mY,Bi.mY];omega))) rfl (by simp)
  refine fU hr rfl hf1.len (by simp) ?_
  have hb1:=(hf1.old σ.length (by simp) hno).trans (qG _ _)
  have F1:=F0.trans hf1
  have aug:=aJ hb1
  refine sJ @hb1 @OQ ?_
  obtain ⟨s2,hr,hcs,hf2⟩:=hcs.call 2 (dM h.aV (l:=x.den) (k:=k + Bi.mY x.num) (by first | omega | (simp only [R.sz,R.mY,Bi.mY];omega)) (by first | omega | (simp only [R.sz,R.mY,Bi.mY];omega))) rfl rfl
  refine fU hr rfl hf2.len (by simp) ?_
  have hb2:=(hf2.old σ.length (aJ hb1) hno).trans (hb1)
  have F2:=F1.trans hf2
  have awT:=aJ hb2
  refine sJ @hb2 @OQ ?_
  exact ⟨ivc (by simp only [R.mY,Bi.mY];first | done | omega),hcs,F2⟩
 obtain ⟨r,σ',h2,rfl,h3,h4⟩:=key
 exact ⟨σ',h2,gQ h3.ow,h4⟩
def Pt.mY (x : Pt) : Nat:=x.x.mY + x.y.mY
def Pt.mk2 (k : Int) (x : Pt) : Pt:=⟨R.mk2 (k) x.x,R.mk2 (k + x.x.mY) x.y⟩
def Lk.mY (x : Lk) : Nat:=x.w.mY + x.dx.mY + x.dy.mY
def Lk.mk2 (k : Int) (x : Lk) : Lk:=⟨x.a,x.b,R.mk2 (k) x.w,R.mk2 (k + x.w.mY) x.dx,R.mk2 (k + x.w.mY + x.dx.mY) x.dy⟩
def Cd.mY (x : Cd) : Nat:=x.total.mY + oP Pa.ct x.ps x.ps.length
def Cd.mk2 (k : Int) (x : Cd) : Cd:=⟨x.node,R.mk2 (k) x.total,Hr Pa.mk3 Pa.ct (k + x.total.mY) x.ps⟩
theorem IJ {α : Type} {f : α → Nat} {l : List α} {x : α} {n : Nat} (h : vY f l ≤ n) (hx : x ∈ l) : f x ≤ n:=by
 have : ∀ l : List α,x ∈ l → f x ≤ (l.map f).sum:=by
  intro l
  induction l with
  | nil=>intro h;simp at h
  |
   cons y l ih =>
   intro h
   rw [List.map_cons,List.sum_cons]
   rcases List.mem_cons.1 h with rfl | h
   ·omega
   ·have:=ih h;omega
 have:=this l hx
 unfold vY at h
 omega
theorem ac3 {T : Tb} (h : Ac T) {x : Lk} (hl : x.sz ≤ 1048576:=by exact bZ) : PO T 44 [KO x] (KO x):=by
 simp only [Lk.sz,R.sz] at hl
 refine eX (fun x d=>x == 48) h.hT ?_
 simp only [uj,Lz,St.enter,List.length_cons,List.length_nil,Nat.zero_add]
 refine ew ?_
 have O:=fun s : Store=>@afj 3 s
 replace O:=fun s=>(O s).int .i64 x.a
 replace O:=fun s=>(O s).int .i64 x.b
 refine eH (Rn h.rH (r:=x.w) (by first | omega | (simp only [Lk.sz,R.sz];omega))) (by (refine ew ?_;try with_reducible exact True.intro)) ?_
 intro r σ1 os g
 have lq : 3 ≤ σ1.length:=g.len
 have B0:=g.at 0 (by simp) rfl
 have B1:=g.at 1 (by simp) rfl
 have B2:=g.at 2 (by simp) rfl
 replace O:=(O _).got g (by simp)
 obtain ⟨a0,d0,_,_,rfl,_,k1,k2⟩:=g.ow.Jf
 replace O:=O.flat rfl
 have la:=k1.leaf rfl
 have ld:=k2.leaf rfl
 have OQ:=And.intro la ld
 have fc:=fun q=>oO (cs:=[.bool x.w.neg,a0,d0]) (by simp [la,ld,show ∀ b,V.leaf (.bool b) = true from fun _=>rfl]) q
 clear g
 refine vW @B0 @B1 @B2 @lq @OQ @fc ?_
 refine eH (Rn h.rH (r:=x.dx) (by first | omega | (simp only [Lk.sz,R.sz];omega))) (by (refine vW @B0 @B1 @B2 @lq @OQ @fc ?_;try with_reducible exact True.intro)) ?_
 intro r σ2 os g
 have lp:=lq
 replace lq : 3 ≤ σ2.length:=by have:=g.len;simp at this;omega
 replace B0:=(g.old 0 (by simp;omega)).trans ((aI (by decide)).trans B0)
 replace B1:=(g.old 1 (by simp;omega)).trans ((aI (by decide)).trans B1)
 replace B2:=(g.old 2 (by simp;omega)).trans (bn (by omega))
 replace O:=(O.set (by decide)).got g (by simp;omega)
 obtain ⟨a1,d1,_,_,rfl,_,k1,k2⟩:=g.ow.Jf
 replace O:=O.flat rfl
 have la:=k1.leaf rfl
 have ld:=k2.leaf rfl
 replace OQ:=And.intro OQ (And.intro la ld)
 replace fc:=fun q=>oO (cs:=[.bool x.dx.neg,a1,d1]) (by simp [la,ld,show ∀ b,V.leaf (.bool b) = true from fun _=>rfl]) q
 clear g
 refine vW @B0 @B1 @B2 @lq @OQ @fc ?_
 refine eH (Rn h.rH (r:=x.dy) (by first | omega | (simp only [Lk.sz,R.sz];omega))) (by (refine vW @B0 @B1 @B2 @lq @OQ @fc ?_;try with_reducible exact True.intro)) ?_
 intro r σ3 os g
 have lp:=lq
 replace lq : 3 ≤ σ3.length:=by have:=g.len;simp at this;omega
 replace B0:=(g.old 0 (by simp;omega)).trans ((aI (by decide)).trans B0)
 replace B1:=(g.old 1 (by simp;omega)).trans ((aI (by decide)).trans B1)
 replace B2:=(g.old 2 (by simp;omega)).trans (bn (by omega))
 replace O:=(O.set (by decide)).got g (by simp;omega)
 obtain ⟨a2,d2,_,_,rfl,_,k1,k2⟩:=g.ow.Jf
 replace O:=O.flat rfl
 have la:=k1.leaf rfl
 have ld:=k2.leaf rfl
 replace OQ:=And.intro OQ (And.intro la ld)
 replace fc:=fun q=>oO (cs:=[.bool x.dy.neg,a2,d2]) (by simp [la,ld,show ∀ b,V.leaf (.bool b) = true from fun _=>rfl]) q
 clear g
 refine vW @B0 @B1 @B2 @lq @OQ @fc ?_
 exact ((O.set (by decide)).set (by decide)).fin
theorem aad {T : Tb} (h : wX T) {l : List Lk} (hl : vY Lk.sz l ≤ 1048576:=by exact bZ) : PO T 21 [bf l] (bf l):=by
 have hll : l.length ≤ 1048576:=by unfold vY at hl;omega
 exact alF (cl:=Lk.cells) (z:=[iv 0,iv 0,.bool false,.ak,.ak,.bool false,.ak,.ak,.bool false,.ak,.ak]) (h.hT.trans rfl) (by decide) hll (fun x hx=>⟨rfl,vZ l _ (List.mem_map.2 ⟨x,hx,rfl⟩),rfl⟩) fun x hx=>ac3 h.JC (x:=x) (IJ (f:=Lk.sz) hl hx)
def xk : Fn:=⟨1,15,[.cell 2 3 true],(.seq (rf 2 [oN 1 (.box (.t 0)),oK 2 1 (.alloc jK)]) (.seq (rt 0 [oN 3 (fd 0 1),oA 4 0 (fd 0 3) [0],oA 5 0 (lF 1 4) [1],oN 6 (fd 0 1),oA 7 0 (fd 1 6) [3],oA 8 0 (lF 1 7) [4],oA 9 0 (cl 139 [8]) [5],oA 10 0 (.build SC [(0,1,(.t 5)),(1,1,(.t 9))]) [2,6],oN 11 (fd 2 1),oA 12 0 (lF 1 11) [8],oA 13 0 (cl 139 [12]) [9,6],oA 14 0 (.build jK [(0,2,(.t 10)),(2,1,(.t 13))]) [7,10],⟨none,none,0,.store 3 (.t 2) (.t 14),[11,10,0,1,2,3,4,5,6,7,8,9,10,11]⟩]) .ret))⟩
structure Di (T : Tb) : Prop where
 hT : T 145 = some xk
 jw : kN T
def jP : Fn:=⟨1,40,[.cell 2 5 true],(.seq (rf 2 [oN 1 (.box (.t 0)),oK 2 1 (.alloc Lh)]) (.seq (rt 1 [oK 7 1 (fd 0 1),oA 8 1 (lF 1 7) [0],oK 9 1 (fd 1 1),oA 10 1 (lT 3 9) [2],oA 11 1 (cl 145 [10]) [3],oA 12 1 (.build Lh [(0,1,(.t 8)),(1,3,(.t 11))]) [1,4],oN 3 (.alloc Lh),⟨none,none,1,.store 5 (.t 3) (.t 12),[6,5,4,0,1,2,3,4,5,6]⟩]) (.seq (sr [oN 13 (fd 4 1),oN 14 (lF 1 13),oN 15 (ln 14),oN 16 (.bY (cI 0))] (.block 0 (.loop (sr [oN 17 (bt .lss 16 15)] (.seq (cd 17 .skip (.exit 0)) (.seq (.block 1 (.seq (rf 1 [oK 18 1 (ix 10 14 16),oK 19 1 (lT 10 18),oN 5 (.alloc QB),⟨none,none,1,.store 10 (.t 5) (.t 19),[]⟩]) (.seq (rt 1 [oK 20 1 (fd 0 5),oA 21 1 (lF 1 20) [0],oK 22 1 (fd 1 5),oA 23 1 (lT 3 22) [2],oA 24 1 (cl 145 [23]) [3],oK 25 1 (fd 4 5),oA 26 1 (lT 3 25) [5],oA 27 1 (cl 145 [26]) [6,4],oK 28 1 (fd 7 5),oA 29 1 (lT 3 28) [8],oA 30 1 (cl 145 [29]) [9,7],oA 31 1 (.build QB [(0,1,(.t 21)),(1,3,(.t 24)),(4,3,(.t 27)),(7,3,(.t 30))]) [1,4,7,10],oN 6 (.alloc QB),⟨none,none,1,.store 10 (.t 6) (.t 31),[12,11,10,0,1,2,3,4,5,6,7,8,9,10,11,12]⟩]) (rf 2 [oK 32 2 (fd 4 3),oK 33 2 (lF 1 32),oK 34 2 (lT 10 6),oN 35 (.dS 10 QB 1 [(0,(.t 34))]),oK 36 1 (.app 10 176 (.t 33) (.t 35)),oK 37 2 (fd 4 3),⟨none,none,2,.store 1 (.t 37) (.t 36),[]⟩])))) (rg [oN 38 (bc .add 16 1),oW 16 38]))))))) (sr [oN 39 (lT 5 3),oS (.store 5 (.t 2) (.t 39))] .ret))))⟩
structure nN (T : Tb) : Prop where
 hT : T 183 = some jP
 xq : Di T
theorem Gz {T : Tb} (h : Di T) {r : R} (hl : r.sz ≤ 1048576:=by exact bZ) : PO T 145 [aU r] (aU r):=by
 simp only [R.sz] at hl
 refine eX (fun x d=>x == 139) h.hT ?_
 simp only [xk,Lz,St.enter,List.length_cons,List.length_nil,Nat.zero_add]
 refine ew ?_
 have O:=fun s : Store=>(@afj 2 s).bool r.neg
 refine kP (Ou h.jw (l:=r.mag) (by omega)) (by (refine ew ?_;try with_reducible exact True.intro)) (by (refine ew ?_;try with_reducible exact True.intro)) ?_
 intro v1 σ1 o1 g
 have B1:=g.at 1 (by simp) rfl
 have B0:=g.at 0 (by simp) rfl
 have lq : 2 ≤ σ1.length:=g.len
 have lf:=g.lf rfl
 have lb:=g.lfb rfl
 replace O:=(O _).got g (by simp)
 refine yJ @B0 @B1 @lq @lf @lb ?_
 refine kP (Ou h.jw (l:=r.den) (by omega)) (by (refine ew ?_;try with_reducible exact True.intro)) (by (refine ew ?_;try with_reducible exact True.intro)) ?_
 intro v2 σ2 o2 g2
 replace B1:=(g2.old 1 (by omega)).trans B1
 have lq2 : 2 ≤ σ2.length:=by have:=g2.len;omega
 have lf2:=g2.lf rfl
 have lb2:=g2.lfb rfl
 replace O:=O.got g2 (by omega)
 refine vW @B1 @lq2 @lf2 @lb2 @lf @lb ?_
 refine ⟨by unfold iW;decide +kernel,?_⟩
 refine BZ @lq2 ?_
 exact (O.set (by decide)).fin
def pW : Fn:=⟨2,12,[.cell 4 3 true],(.seq (rf 3 [oN 2 (.box (.t 0)),oK 3 1 (.box (.t 1)),oK 4 2 (.alloc jK)]) (.seq (rt 0 [oN 5 (lT 3 2),oN 6 (lT 3 2),oA 7 0 (cl 201 [5,6]) [0,1],oN 8 (lT 3 3),oN 9 (lT 3 3),oA 10 0 (cl 201 [8,9]) [3,4,2],oA 11 0 (cl 189 [7,10]) [2,5,5],⟨none,none,0,.store 3 (.t 4) (.t 11),[6,6,0,1,2,3,4,5,6]⟩]) .ret))⟩
structure xu (T : Tb) : Prop where
 hT : T 202 = some pW
 dJ : jR T
 fM : tK T
def lU : Fn:=⟨2,12,[.cell 4 3 true],(.seq (rf 3 [oN 2 (.box (.t 0)),oK 3 1 (.box (.t 1)),oK 4 2 (.alloc jK)]) (.seq (rt 0 [oN 5 (lT 3 2),oN 6 (lT 3 2),oA 7 0 (cl 157 [5,6]) [0,1],oN 8 (lT 3 3),oN 9 (lT 3 3),oA 10 0 (cl 157 [8,9]) [3,4,2],oA 11 0 (cl 131 [7,10]) [2,5,5],⟨none,none,0,.store 3 (.t 4) (.t 11),[6,6,0,1,2,3,4,5,6]⟩]) .ret))⟩
structure sD (T : Tb) : Prop where
 hT : T 158 = some lU
 bP : eP T
 fO : jQ T
def sqR (x y : R) : R:=lQ (mulR x x) (mulR y y)
theorem afz (x y : R) : (sqR x y).cn:=D5 _ _
theorem Rt {T : Tb} (h : sD T) {x y : R} (hx : x.cn:=by exact LD) (hy : y.cn:=by exact LD) : PF T 158 [aU x,aU y] (aU (sqR x y)):=by
 refine aK nR h.hT ?_
 simp only [lU,Lz]
 refine ev ?_
 refine ah (vT h.fO hx hx) ?_
 refine ev ?_
 refine ah (vT h.fO hy hy) ?_
 refine ev ?_
 refine ah (yH h.bP) ?_
 refine ev ?_
 refine ⟨by unfold iW;decide +kernel,?_⟩
 exact aC _
theorem Uz {r : R} (h : r.wf:=by
 first | with_reducible assumption | exact dI LD) : r.wf:=h
theorem VN {T : Tb} (h : xu T) {x y : R} (hx : x.wf:=by exact Uz) (hy : y.wf:=by exact Uz) : PF T 202 [aU x,aU y] (aU (sqR x y)):=by
 refine aK nR h.hT ?_
 simp only [pW,Lz]
 refine ev ?_
 refine ah (rC h.fM hx hx) ?_
 refine ev ?_
 refine ah (rC h.fM hy hy) ?_
 refine ev ?_
 refine ah (ru h.dJ Uz Uz) ?_
 refine ev ?_
 refine ⟨by unfold iW;decide +kernel,?_⟩
 exact aC _
theorem LU {l : Lk} (h : ji l = true) : l.w.ok = true ∧ l.dx.ok = true ∧ l.dy.ok = true ∧ 0 < tN l.w:=by
 unfold ji at h
 simp only [Bool.and_eq_true,decide_eq_true_eq] at h
 exact ⟨Vx h.1.1.2,h.1.2,h.2,h.1.1.2⟩
theorem GH {l : Lk} (h : ji l = true) : l.w.cn ∧ l.dx.cn ∧ l.dy.cn:=by
 obtain ⟨a,b,c,_⟩:=LU h
 exact ⟨yg a,yg b,yg c⟩
def Au : List Int → Int → List Int
 | [],n=>[n]
 | x :: l,n=>if x < n then x :: Au l n else if x = n then x :: l else n :: x :: l
theorem abp {l : List Int} {n : Int} {k : Nat} (hk : k ≤ l.length) (h : ∀ j,j < k → l.getD j 0 < n) (h2 : k < l.length → ¬ l.getD k 0 < n) :
  Au l n = if k < l.length ∧ l.getD k 0 = n then l else l.take k ++ n :: l.drop k:=by
 induction l generalizing k with
 | nil=>simp [Au]
 |
  cons x l ih =>
  cases k with
  |
   zero =>
   have h3:=h2 (by simp)
   simp only [List.getD_cons_zero] at h3
   unfold Au
   rw [if_neg h3]
   by_cases e : x = n
   ·simp [e]
   ·simp [e]
  |
   succ k =>
   have h3:=h 0 (by omega)
   simp only [List.getD_cons_zero] at h3
   unfold Au
   rw [if_pos h3,ih (k:=k) (by simpa using hk) (fun j hj=>by have:=h (j + 1) (by omega);simpa using this) (fun hj=>by have:=h2 (by simpa using hj);simpa using this)]
   simp only [List.length_cons,List.getD_cons_succ,List.take_succ_cons,List.drop_succ_cons,List.cons_append,Nat.add_lt_add_iff_right]
   split <;> rfl
def Asc (l : List Int) : Prop:=l.Pairwise (· < ·)
theorem Dj {l : List Int} {n a : Int} : a ∈ Au l n ↔ a = n ∨ a ∈ l:=by
 induction l with
 | nil=>simp [Au]
 |
  cons x l ih =>
  unfold Au
  split
  ·rw [List.mem_cons,ih,List.mem_cons]
   constructor
   ·rintro (h | h | h) <;> simp [h]
   ·rintro (h | h | h) <;> simp [h]
  ·split
   ·rename_i e;subst e
    constructor
    ·intro h;exact .inr h
    ·rintro (h | h)
     ·rw [h];simp
     ·exact h
   ·simp
theorem FM {l : List Int} {n : Int} (h : Asc l) : Asc (Au l n):=by
 unfold Asc at *
 induction l with
 | nil=>simp [Au]
 |
  cons x l ih =>
  rw [List.pairwise_cons] at h
  unfold Au
  split
  ·rename_i hx
   rw [List.pairwise_cons]
   refine ⟨fun a ha=>?_,ih h.2⟩
   rcases Dj.1 ha with rfl | ha
   ·exact hx
   ·exact h.1 a ha
  ·split
   ·rw [List.pairwise_cons];exact h
   ·rename_i h1 h2
    have : n < x:=by omega
    rw [List.pairwise_cons,List.pairwise_cons]
    refine ⟨fun a ha=>?_,h⟩
    rcases List.mem_cons.1 ha with rfl | ha
    ·exact this
    ·have:=h.1 a ha;omega
theorem IK (l : List Int) (n : Int) : (Au l n).length ≤ l.length + 1:=by
 induction l with
 | nil=>simp [Au]
 |
  cons x l ih =>
  unfold Au
  split
  ·simp;omega
  ·split <;> simp
theorem Py : ∀ {l m : List Int},Asc l → Asc m → (∀ a,a ∈ l ↔ a ∈ m) → l = m
 | [],[],_,_,_=>rfl
 | [],y :: m,_,_,h=>absurd ((h y).2 (by simp)) (by simp)
 | x :: l,[],_,_,h=>absurd ((h x).1 (by simp)) (by simp)
 |
  x :: l,y :: m,hl,hm,h=>by
  unfold Asc at hl hm
  rw [List.pairwise_cons] at hl hm
  have e : x = y:=by
   rcases List.mem_cons.1 ((h x).1 (by simp)) with h1 | h1
   ·exact h1
   ·rcases List.mem_cons.1 ((h y).2 (by simp)) with h2 | h2
    ·exact h2.symm
    ·have:=hl.1 y h2;have:=hm.1 x h1;omega
  subst e
  congr 1
  refine Py hl.2 hm.2 fun a=>?_
  constructor
  ·intro ha
   rcases List.mem_cons.1 ((h a).1 (by simp [ha])) with h1 | h1
   ·have:=hl.1 a ha;omega
   ·exact h1
  ·intro ha
   rcases List.mem_cons.1 ((h a).2 (by simp [ha])) with h1 | h1
   ·have:=hm.1 a ha;omega
   ·exact h1
theorem FN : ∀ {a b : List Int},a.Nodup → (∀ x ∈ a,x ∈ b) → a.length ≤ b.length
 | [],b,_,_=>by simp
 |
  x :: a,b,hn,h=>by
  rw [List.nodup_cons] at hn
  have hx:=h x (by simp)
  have:=FN (a:=a) (b:=b.erase x) hn.2 fun y hy=>by
   have hyx : y ≠ x:=fun e=>hn.1 (e ▸ hy)
   exact (List.mem_erase_of_ne hyx).2 (h y (by simp [hy]))
  rw [List.length_erase_of_mem hx] at this
  have:=List.length_pos_of_mem hx
  simp only [List.length_cons];omega
theorem NP {a b : List Int} (hn : a.Nodup) (h : ∀ x ∈ a,x ∈ b) (hl : b.length ≤ a.length) : ∀ x ∈ b,x ∈ a:=by
 intro x hx
 refine Classical.byContradiction fun hxa=>?_
 have:=FN (a:=x :: a) (b:=b) (List.nodup_cons.2 ⟨hxa,hn⟩) fun y hy=>by
  rcases List.mem_cons.1 hy with rfl | hy
  ·exact hx
  ·exact h y hy
 simp at this;omega
theorem Yj : ∀ {a b : List Int},a.Nodup → (∀ x ∈ a,x ∈ b) → b.length ≤ a.length → b.Nodup
 | a,[],_,_,_=>List.nodup_nil
 |
  a,y :: b,hn,h,hl=>by
  have hya : y ∈ a:=NP hn h hl y (by simp)
  have h2:=Yj (a:=a.erase y) (b:=b) (hn.erase y) (fun x hx=>by
   have hxy : x ≠ y:=fun e=>by rw [e] at hx;exact (List.Nodup.not_mem_erase hn) hx
   have:=h x (List.mem_of_mem_erase hx)
   rcases List.mem_cons.1 this with e | k
   ·exact absurd e hxy
   ·exact k) (by rw [List.length_erase_of_mem hya];simp only [List.length_cons] at hl;omega)
  refine List.nodup_cons.2 ⟨fun hyb=>?_,h2⟩
  have:=FN (a:=a) (b:=b) hn fun x hx=>by
   rcases List.mem_cons.1 (h x hx) with e | k
   ·rw [e];exact hyb
   ·exact k
  simp only [List.length_cons] at hl;omega
theorem NQ {l : List Int} (h : Asc l) : l.Nodup:=by
 unfold Asc at h
 exact h.imp fun h e=>by omega
def Ae : Fn:=⟨2,48,[.tmp 4],(sr [oN 4 mN] (sr [oN 5 (.bY (cI 0))] (.seq (.block 0 (.loop (.seq (sr [oW 7 5,oW 8 0,oN 9 (ln 8),oN 10 (bt .lss 7 9),oW 11 10,oG 11 true 12 (oV 0),oG 11 true 13 (oV 5),oG 11 true 14 (ix 1 12 13),oG 11 true 15 (lF 1 14),oG 11 true 16 (oV 1),oG 11 true 17 (bt .lss 15 16),oN 18 (.pick (.t 11) (.t 17) (.c (.bool false)))] (cd 18 .skip (.exit 0))) (.block 1 (rg [oW 19 5,oN 20 (bc .add 19 1),oW 5 20]))))) (.seq (sr [oW 21 5,oW 22 0,oN 23 (ln 22),oN 24 (bt .lss 21 23),oW 25 24,oG 25 true 26 (oV 0),oG 25 true 27 (oV 5),oG 25 true 28 (ix 1 26 27),oG 25 true 29 (lF 1 28),oG 25 true 30 (oV 1),oG 25 true 31 (bt .eql 29 30),oN 32 (.pick (.t 25) (.t 31) (.c (.bool false)))] (cd 32 (sr [oW 33 0,oW 4 33] .ret) .skip)) (.seq (rf 2 [oN 34 (.dS 1 DW 0 []),oK 35 2 (oV 0),oK 36 2 (oV 5),oK 37 2 (.slice 1 (.t 35) none (some (.t 36))),oK 38 1 (.app 1 8 (.t 34) (.t 37)),oK 6 2 (oV 38)]) (.seq (rf 2 [oK 39 2 (oV 6),oK 40 2 (oV 1),oN 41 (.dS 1 DW 1 [(0,(.t 40))]),oK 42 1 (.app 1 8 (.t 39) (.t 41)),oK 6 2 (oV 42)]) (.seq (rf 1 [oK 43 1 (oV 6),oK 44 1 (oV 0),oK 45 1 (oV 5),oK 46 1 (.slice 1 (.t 44) (some (.t 45)) none),oN 47 (.app 1 8 (.t 43) (.t 46)),oK 4 1 (oV 47)]) .ret)))))))⟩
structure Af (T : Tb) : Prop where
 hT : T 237 = some Ae
def qJ : Fn:=⟨1,29,[.tmp 2],(sr [oN 2 mN] (.seq (rf 1 [oN 6 (.dS 1 DW 0 []),oK 3 1 (oV 6)]) (.seq (sr [oW 7 0,oN 8 (cl 193 [7]),oN 9 (nt 8)] (cd 9 (sr [oN 2 mN] .ret) .skip)) (.seq (sr [oW 10 0,oN 11 (ln 10),oN 12 (.bY (cI 0))] (.block 0 (.loop (sr [oN 13 (bt .lss 12 11)] (.seq (cd 13 .skip (.exit 0)) (.seq (.block 1 (.seq (rf 1 [oK 14 1 (ix 11 10 12),oK 15 1 (lT 11 14),oN 5 (.alloc Aq),⟨none,none,1,.store 11 (.t 5) (.t 15),[]⟩]) (.seq (sr [oN 16 (fd 0 5),oN 17 (lF 1 16),oN 18 (bc .gtr 17 0)] (cd 18 (rg [oW 19 3,oN 20 (fd 0 5),oN 21 (lF 1 20),oN 22 (cl 237 [19,21]),oW 3 22]) .skip)) (rg [oW 23 3,oN 24 (fd 1 5),oN 25 (lF 1 24),oN 26 (cl 237 [23,25]),oW 3 26])))) (rg [oN 27 (bc .add 12 1),oW 12 27]))))))) (sr [oW 28 3,oW 2 28] .ret)))))⟩
structure xw (T : Tb) : Prop where
 hT : T 222 = some qJ
 cZ : gu T
 um : Af T
def xA : Fn:=⟨1,34,[.tmp 2],(sr [oN 2 mN] (.seq (rf 1 [oN 7 (.dS 1 DW 0 []),oK 3 1 (oV 7)]) (.seq (sr [oN 4 (.bY (cI 1))] (.block 0 (.loop (.seq (sr [oW 8 4,oN 9 (bc .lss 8 10)] (cd 9 .skip (.exit 0))) (.seq (.block 1 (sr [oW 12 0,oN 13 (ln 12),oN 14 (.bY (cI 0))] (.block 2 (.loop (sr [oN 15 (bt .lss 14 13)] (.seq (cd 15 .skip (.exit 2)) (.seq (.block 3 (.seq (rf 1 [oK 16 1 (ix 11 12 14),oK 17 1 (lT 11 16),oN 6 (.alloc Aq),⟨none,none,1,.store 11 (.t 6) (.t 17),[]⟩]) (sr [oN 18 (fd 0 6),oN 19 (lF 1 18),oW 20 4,oN 21 (bt .eql 19 20),oW 22 21,oG 22 false 23 (fd 1 6),oG 22 false 24 (lF 1 23),oG 22 false 25 (oV 4),oG 22 false 26 (bt .eql 24 25),oN 27 (.pick (.t 22) (.c (.bool true)) (.t 26))] (cd 27 (.seq (rf 2 [oK 28 2 (oV 3),oK 29 2 (oV 4),oN 30 (.dS 1 DW 1 [(0,(.t 29))]),oK 31 1 (.app 1 8 (.t 28) (.t 30)),oK 3 2 (oV 31)]) (.exit 2)) .skip)))) (rg [oN 32 (bc .add 14 1),oW 14 32])))))))) (rg [oW 10 4,oN 11 (bc .add 10 1),oW 4 11])))))) (sr [oW 33 3,oW 2 33] .ret))))⟩
structure Dk (T : Tb) : Prop where
 hT : T 180 = some xA
theorem LV {T : Tb} (h : Af T) {l : List Int} {n : Int} (hl : l.length ≤ 100000000:=by exact bZ) : PF T 237 [ints l,iv n] (ints (Au l n)):=by
 refine aK nR h.hT ?_
 simp only [Ae,Lz]
 refine ev ?_
 refine aO (fun _ _=>false) (α:=Nat) (fun i=>⟨bF [ints l,iv n,.any,.any,.ak,iv (i : Nat)],[],0,0,[],[]⟩) (fun i=>i ≤ l.length ∧ ∀ j,j < i → l.getD j 0 < n) (fun i=>l.length - i) rfl 0 ?_ ?_ ?_
 ·exact ⟨by omega,by intro j hj;omega⟩
 ·(refine aH ?_;exact wz)
 ·rintro i ⟨hi,hj⟩
  refine ev ?_
  by_cases hc : (i : Int) < (l.length : Nat)
  ·by_cases hx : l.getD i 0 < n
   ·refine iP @hc @hx ?_
    refine ⟨i + 1,by omega,⟨by omega,fun j hj'=>?_⟩,by (refine aH ?_;exact wz)⟩
    by_cases e : j = i
    ·subst e;exact hx
    ·exact hj j (by omega)
   ·rw [abp hi hj fun _=>hx]
    by_cases he : l.getD i 0 = n
    ·refine ev4 @hc @hx @he @Int.lt_irrefl ?_
     rw [if_pos (by omega)]
     exact aC _
    ·rw [if_neg fun k=>he k.2]
     have hd : ¬ l.drop i = []:=by
      intro e
      have:=congrArg List.length e
      simp at this;omega
     have ld : (l.drop i).length = l.length - i:=by simp
     have lt : (l.take i).length = i:=by simp;omega
     obtain ⟨d,hde⟩ : ∃ d,l.drop i = d:=⟨_,rfl⟩
     obtain ⟨t,hte⟩ : ∃ t,l.take i = t:=⟨_,rfl⟩
     refine vC @hc @hx @he ?_
     rw [hde] at hd ld ⊢
     rw [hte] at lt ⊢
     simp only [Gm]
     refine ⟨fun e=>?_,fun e=>?_⟩
     ·subst e
      refine ⟨by omega,fun k=>absurd k hd,fun _=>⟨by omega,?_⟩⟩
      simp only [EVi]
      refine ev1 @EVi ?_
      exact aC _
     ·refine ⟨by omega,by omega,?_⟩
      simp only [EVi]
      refine ev1 @EVi ?_
      refine ⟨fun k=>absurd (Gm.1 k) hd,fun _=>⟨by simp;omega,?_⟩⟩
      rw [List.append_assoc]
      exact aC _
  ·have ei : i = l.length:=by omega
   subst ei
   rw [abp (Nat.le_refl _) hj fun h=>absurd h (Nat.lt_irrefl _),if_neg fun h=>Nat.lt_irrefl _ h.1]
   simp only [List.take_length,List.drop_length]
   refine iP @hc @List.drop_length.{0} ?_
   simp only [Gm]
   refine ⟨fun e=>?_,fun e=>⟨by omega,by omega,?_⟩⟩
   ·subst e
    refine ⟨by omega,?_⟩
    simp only [EVi]
    refine ev1 @EVi ?_
    exact aC _
   ·simp only [EVi]
    refine ev1 @EVi ?_
    exact ⟨fun _=>aC _,fun k=>absurd (by simp [aN]) k⟩
def Ky (out : List Int) (l : Lk) : List Int:=Au (if 0 < l.a then Au out l.a else out) l.b
def qK (l : List Lk) (i : Nat) : List Int:=(l.take i).foldl Ky []
theorem LX (l : List Lk) : qK l 0 = []:=by simp [qK]
theorem LY (l : List Lk) {i : Nat} (h : i < l.length) : qK l (i + 1) = Ky (qK l i) (l.getD i default):=by
 unfold qK
 rw [List.take_add_one,List.getElem?_eq_getElem h,List.getD_eq_getElem?_getD,List.getElem?_eq_getElem h]
 simp only [Option.toList,Option.getD,List.foldl_append,List.foldl_cons,List.foldl_nil]
theorem aae (out : List Int) (l : Lk) : (Ky out l).length ≤ out.length + 2:=by
 unfold Ky
 have h1:=IK (if 0 < l.a then Au out l.a else out) l.b
 have h2:=IK out l.a
 split at h1 <;> (split <;> omega)
theorem aaf (l : List Lk) {i : Nat} (h : i ≤ l.length) : (qK l i).length ≤ 2 * i:=by
 induction i with
 | zero=>simp [LX]
 |
  succ i ih =>
  rw [LY l h]
  have:=ih (by omega)
  have:=aae (qK l i) (l.getD i default)
  omega
def Kz (l : List Lk) : List Int:=if bg l = true then qK l l.length else []
theorem aag {T : Tb} (h : xw T) {l : List Lk} (hw : BU Lk.wf l:=by exact bZ) (hl : l.length ≤ 1048576:=by exact bZ) : PF T 222 [bf l] (ints (Kz l)):=by
 have ci:=nM h.cZ hw
 cases hb : bg l
 ·rw [hb] at ci
  rw [show Kz l = [] from by unfold Kz;rw [hb];rfl]
  refine aK nR h.hT ?_
  simp only [qJ,Lz]
  refine ev ?_
  refine ah ci ?_
  refine ev ?_
  exact of_eq_true (fK 1)
 ·rw [hb] at ci
  rw [show Kz l = qK l l.length from by unfold Kz;rw [hb];rfl]
  refine aK nR h.hT ?_
  simp only [qJ,Lz]
  refine ev ?_
  refine ah ci ?_
  refine ev ?_
  refine aO (fun _ _=>false) (α:=Nat) (fun i=>⟨bF [.any,.any,.ak,ints (qK l i),.any,.any,.any,.any,.any,.any,bf l,iv (l.length : Nat),iv (i : Nat)],[],0,0,[],[]⟩) (fun i=>i ≤ l.length) (fun i=>l.length - i) rfl 0 ?_ ?_ ?_
  ·omega
  ·rw [LX,show ints [] = .sl 1 [] from rfl]
   exact Lj
  ·intro i hi
   have hnl:=aaf l hi
   refine ev ?_
   refine aG (fun hc=>?_) fun hc=>?_ <;> (refine iP @hc @mg ?_;try with_reducible exact True.intro)
   ·have hil : i < l.length:=by omega
    have es:=LY l hil
    unfold Ky at es
    have c1:=LV h.um (l:=qK l i) (n:=(l.getD i default).a) (by omega)
    have c2:=LV h.um (l:=if 0 < (l.getD i default).a then Au (qK l i) (l.getD i default).a else qK l i) (n:=(l.getD i default).b) (by
     have:=IK (qK l i) (l.getD i default).a
     split <;> omega)
    rw [← es] at c2
    by_cases ha : 0 < (l.getD i default).a
    ·rw [if_pos ha] at c2
     refine ev1 @ha ?_
     refine ah c1 ?_
     refine ev ?_
     refine ah c2 ?_
     refine ev ?_
     exact ⟨i + 1,by omega,by omega,by exact Lj⟩
    ·rw [if_neg ha] at c2
     refine ev1 @ha ?_
     refine ah c2 ?_
     refine ev ?_
     exact ⟨i + 1,by omega,by omega,by exact Lj⟩
   ·have : i = l.length:=by omega
    subst this
    exact aC _
def ends (l : List Lk) (v : Int) : Bool:=l.any fun x=>decide (x.a = v) || decide (x.b = v)
def sF (l : List Lk) (v : Nat) : List Int:=((List.range v).filter fun (u : Nat)=>decide (1 ≤ u) && ends l u).map fun u=>((u : Nat) : Int)
theorem afA (l : List Lk) : sF l 1 = []:=by simp [sF]
theorem afB (l : List Lk) {v : Nat} (h : 1 ≤ v) : sF l (v + 1) = sF l v ++ (if ends l v = true then [((v : Nat) : Int)] else []):=by
 unfold sF
 rw [List.range_succ,List.filter_append,List.map_append]
 congr 1
 simp only [List.filter_cons,List.filter_nil,decide_eq_true h,Bool.true_and]
 split <;> rfl
theorem Ru (l : List Lk) (v : Nat) : (sF l v).length ≤ v:=by
 unfold sF
 rw [List.length_map]
 have:=List.length_filter_le (fun (u : Nat)=>decide (1 ≤ u) && ends l u) (List.range v)
 rw [List.length_range] at this;exact this
theorem Rw {l : List Lk} {v : Int} {k : Nat} (hk : k < l.length) (h : (l.getD k default).a = v ∨ (l.getD k default).b = v) : ends l v = true:=by
 unfold ends
 rw [List.any_eq_true]
 exact ⟨_,getD_mem hk,by simpa using h⟩
theorem aah {l : List Lk} {v : Int} (h : ∀ k,k < l.length → (l.getD k default).a ≠ v ∧ (l.getD k default).b ≠ v) : ends l v = false:=by
 unfold ends
 rw [List.any_eq_false]
 intro x hx
 obtain ⟨k,hk⟩:=List.mem_iff_getElem?.1 hx
 have hlt:=(List.getElem?_eq_some_iff.1 hk).1
 have:=h k hlt
 rw [List.getD_eq_getElem?_getD,hk] at this
 simpa using this
theorem apo {a b : St} (h : Fg a b:=by
 (simp only [← yF];refine BD (k:=3) (Ar _ _) rfl ?_;(try (refine ev ?_;try with_reducible exact True.intro));(repeat' (first | exact True.intro | omega | exact qV (by simp) (by simp) (by simp) | refine ⟨?_,?_⟩ | exact iQ rfl (by simp))))) : Fg a b:=h
theorem aai {T : Tb} (h : Dk T) {l : List Lk} (hw : BU Lk.wf l:=by exact bZ) : PF T 180 [bf l] (ints (sF l 10)):=by
 have hlen:=hw.1
 refine aK nR h.hT ?_
 simp only [xA,Lz]
 refine ev ?_
 refine aO (fun _ _=>false) (α:=Nat × List Int) (fun q=>⟨bF [bf l,.any,.ak,ZF q.2.length,iv (q.1 : Nat)],WE 1 (aN q.2),0,0,[],[]⟩) (fun q=>1 ≤ q.1 ∧ q.1 ≤ 10 ∧ q.2 = sF l q.1) (fun q=>10 - q.1) rfl (1,[]) ?_ ?_ ?_
 ·exact ⟨by omega,by omega,(afA l).symm⟩
 ·exact Lj
 ·rintro ⟨v,xs⟩ ⟨h1,h2,hx0⟩
  dsimp only at h1 h2 hx0
  have hx : xs.length ≤ 10:=by rw [hx0];have:=Ru l v;omega
  have es:=afB l h1
  rw [← hx0] at es
  (rcases xs with _ | ⟨x,xs⟩ <;> simp only [List.length_nil,List.length_cons,jX,jB,fD,dL] at hx ⊢)
  ·refine ev ?_
   refine aG (fun hc=>?_) fun hc=>?_ <;> (refine ev1 @hc ?_;try with_reducible exact True.intro)
   ·refine aO (fun _ _=>false) (α:=Nat) (fun k=>⟨bF [bf l,.any,.ak,.ak,iv (v : Nat),.any,.any,.any,.any,.any,.any,.any,bf l,iv (l.length : Nat),iv (k : Nat)],[],0,0,[],[]⟩) (fun k=>k ≤ l.length ∧ ∀ r,r < k → (l.getD r default).a ≠ (v : Nat) ∧ (l.getD r default).b ≠ (v : Nat)) (fun k=>l.length - k) rfl 0 ?_ ?_ ?_
    ·exact ⟨by omega,by intro j hj;omega⟩
    ·(refine aH ?_;exact wz)
    ·rintro k ⟨hk,hr⟩
     refine ev ?_
     refine aG (fun hd=>?_) fun hd=>?_ <;> (refine iP @hd @mg ?_;try with_reducible exact True.intro)
     ·have hkl : k < l.length:=by omega
      by_cases ha : (l.getD k default).a = (v : Nat)
      ·rw [Rw hkl (.inl ha)] at es
       refine ev1 @ha ?_
       exact ⟨by omega,(v + 1,([]) ++ [((v : Nat) : Int)]),by dsimp only;omega,⟨by dsimp only;omega,by dsimp only;omega,es.symm⟩,by exact CV⟩
      ·by_cases hb : (l.getD k default).b = (v : Nat)
       ·rw [Rw hkl (.inr hb)] at es
        refine iP @ha @hb ?_
        exact ⟨by omega,(v + 1,([]) ++ [((v : Nat) : Int)]),by dsimp only;omega,⟨by dsimp only;omega,by dsimp only;omega,es.symm⟩,by exact CV⟩
       ·refine iP @ha @hb ?_
        refine ⟨k + 1,by omega,⟨by omega,fun r hr'=>?_⟩,by exact Lj⟩
        by_cases e : r = k
        ·subst e;exact ⟨ha,hb⟩
        ·exact hr r (by omega)
     ·rw [aah fun r hr'=>hr r (by omega),if_neg (by simp),List.append_nil] at es
      exact ⟨(v + 1,[]),by dsimp only;omega,⟨by dsimp only;omega,by dsimp only;omega,es.symm⟩,by exact Lj⟩
   ·have ev : v = 10:=by omega
    subst ev
    rw [← hx0]
    exact of_eq_true (fK 1)
  ·refine ev ?_
   refine aG (fun hc=>?_) fun hc=>?_ <;> (refine ev1 @hc ?_;try with_reducible exact True.intro)
   ·refine aO (fun _ _=>false) (α:=Nat) (fun k=>⟨bF [bf l,.any,.ak,.bC 0 0 (x :: xs).length,iv (v : Nat),.any,.any,.any,.any,.any,.any,.any,bf l,iv (l.length : Nat),iv (k : Nat)],[some ⟨1,aN (x :: xs)⟩],0,0,[],[]⟩) (fun k=>k ≤ l.length ∧ ∀ r,r < k → (l.getD r default).a ≠ (v : Nat) ∧ (l.getD r default).b ≠ (v : Nat)) (fun k=>l.length - k) rfl 0 ?_ ?_ ?_
    ·exact ⟨by omega,by intro j hj;omega⟩
    ·(refine aH ?_;exact wz)
    ·rintro k ⟨hk,hr⟩
     refine ev ?_
     refine aG (fun hd=>?_) fun hd=>?_ <;> (refine iP @hd @mg ?_;try with_reducible exact True.intro)
     ·have hkl : k < l.length:=by omega
      by_cases ha : (l.getD k default).a = (v : Nat)
      ·rw [Rw hkl (.inl ha)] at es
       refine ev1 @ha ?_
       exact ⟨by omega,(v + 1,(x :: xs) ++ [((v : Nat) : Int)]),by dsimp only;omega,⟨by dsimp only;omega,by dsimp only;omega,es.symm⟩,by exact apo⟩
      ·by_cases hb : (l.getD k default).b = (v : Nat)
       ·rw [Rw hkl (.inr hb)] at es
        refine iP @ha @hb ?_
        exact ⟨by omega,(v + 1,(x :: xs) ++ [((v : Nat) : Int)]),by dsimp only;omega,⟨by dsimp only;omega,by dsimp only;omega,es.symm⟩,by exact apo⟩
       ·refine iP @ha @hb ?_
        refine ⟨k + 1,by omega,⟨by omega,fun r hr'=>?_⟩,by exact Vl⟩
        by_cases e : r = k
        ·subst e;exact ⟨ha,hb⟩
        ·exact hr r (by omega)
     ·rw [aah fun r hr'=>hr r (by omega),if_neg (by simp),List.append_nil] at es
      exact ⟨(v + 1,x :: xs),by dsimp only;omega,⟨by dsimp only;omega,by dsimp only;omega,es.symm⟩,by exact Vl⟩
   ·have ev : v = 10:=by omega
    subst ev
    rw [← hx0]
    exact aC _
def apq (l : List Cd) (i : Nat) : Prop :=
 kV (l.getD i default) = true ∧ (∀ k,k < (l.getD i default).ps.length → ((l.getD i default).ps.getD k default).node = 0 ∨ ∃ j,i < j ∧ j < l.length ∧ (l.getD j default).node = ((l.getD i default).ps.getD k default).node) ∧
  ∀ j,i < j → j < l.length → (l.getD j default).node ≠ (l.getD i default).node
noncomputable instance (l : List Cd) : Decidable (∀ i,i < l.length → apq l i):=Classical.propDecidable _
def Ag : Fn:=⟨2,17,[.tmp 4],(sr [oN 4 mF] (.seq (sr [oW 7 0,oN 8 (ln 7),oN 9 (.bY (cI 0))] (.block 0 (.loop (sr [oN 10 (bt .lss 9 8)] (.seq (cd 10 .skip (.exit 0)) (.seq (.block 1 (sr [oN 11 (ix 1 7 9),oN 12 (lF 1 11),oW 6 12] (sr [oW 13 6,oW 14 1,oN 15 (bt .eql 13 14)] (cd 15 (sr [oN 4 mT] .ret) .skip)))) (rg [oN 16 (bc .add 9 1),oW 9 16]))))))) (sr [oN 4 mF] .ret)))⟩
structure EK (T : Tb) : Prop where
 hT : T 236 = some Ag
def Ah : Fn:=⟨2,17,[.tmp 4],(sr [oN 4 mF] (.seq (sr [oW 7 0,oN 8 (ln 7),oN 9 (.bY (cI 0))] (.block 0 (.loop (sr [oN 10 (bt .lss 9 8)] (.seq (cd 10 .skip (.exit 0)) (.seq (.block 1 (sr [oN 11 (ix 1 7 9),oN 12 (lF 1 11),oW 6 12] (sr [oW 13 6,oW 14 1,oN 15 (bt .eql 13 14)] (cd 15 (sr [oN 4 mT] .ret) .skip)))) (rg [oN 16 (bc .add 9 1),oW 9 16]))))))) (sr [oN 4 mF] .ret)))⟩
structure EM (T : Tb) : Prop where
 hT : T 235 = some Ah
theorem afC {T : Tb} (h : EK T) {l : List Int} {n : Int} (hl : l.length ≤ 9223372036854775807:=by exact bZ) : PF T 236 [ints l,iv n] (.bool (decide (n ∈ l))):=by
 refine aT nR h.hT ?_
 simp only [Ag,Lz]
 refine ev ?_
 refine aO (fun _ _=>false) (α:=Nat) (fun i=>⟨bF [ints l,iv n,.any,.any,.bool false,.any,.any,ints l,iv (l.length : Nat),iv (i : Nat)],[],0,0,[],[]⟩) (fun i=>i ≤ l.length ∧ ∀ j,j < i → l.getD j 0 ≠ n) (fun i=>l.length - i) rfl 0 ?_ ?_ ?_
 ·exact ⟨by omega,by intro j hj;omega⟩
 ·exact Ei
 ·rintro i ⟨hi,hj⟩
  refine ev ?_
  refine aG (fun hc=>?_) fun hc=>?_ <;> (refine ev1 @hc ?_;try with_reducible exact True.intro)
  ·have hil : i < l.length:=by omega
   by_cases he : l.getD i 0 = n
   ·refine ev1 @he ?_
    have : n ∈ l:=by rw [← he,List.getD_eq_getElem?_getD,List.getElem?_eq_getElem hil];exact List.getElem_mem hil
    rw [decide_eq_true this]
   ·refine ev1 @he ?_
    refine ⟨i + 1,by omega,⟨by omega,fun j hj'=>?_⟩,by exact Ei⟩
    by_cases e : j = i
    ·subst e;exact he
    ·exact hj j (by omega)
  ·have : n ∉ l:=by
    intro hm
    obtain ⟨j,hj'⟩:=List.mem_iff_getElem?.1 hm
    have hlt:=(List.getElem?_eq_some_iff.1 hj').1
    refine hj j (by omega) ?_
    rw [List.getD_eq_getElem?_getD,hj'];rfl
   rw [decide_eq_false this]
theorem Yk {T : Tb} (h : EM T) {l : List Int} {n : Int} (hl : l.length ≤ 9223372036854775807:=by exact bZ) : PF T 235 [ints l,iv n] (.bool (decide (n ∈ l))):=by
 refine aT nR h.hT ?_
 simp only [Ah,Lz]
 refine ev ?_
 refine aO (fun _ _=>false) (α:=Nat) (fun i=>⟨bF [ints l,iv n,.any,.any,.bool false,.any,.any,ints l,iv (l.length : Nat),iv (i : Nat)],[],0,0,[],[]⟩) (fun i=>i ≤ l.length ∧ ∀ j,j < i → l.getD j 0 ≠ n) (fun i=>l.length - i) rfl 0 ?_ ?_ ?_
 ·exact ⟨by omega,by intro j hj;omega⟩
 ·exact Ei
 ·rintro i ⟨hi,hj⟩
  refine ev ?_
  refine aG (fun hc=>?_) fun hc=>?_ <;> (refine ev1 @hc ?_;try with_reducible exact True.intro)
  ·have hil : i < l.length:=by omega
   by_cases he : l.getD i 0 = n
   ·refine ev1 @he ?_
    have : n ∈ l:=by rw [← he,List.getD_eq_getElem?_getD,List.getElem?_eq_getElem hil];exact List.getElem_mem hil
    rw [decide_eq_true this]
   ·refine ev1 @he ?_
    refine ⟨i + 1,by omega,⟨by omega,fun j hj'=>?_⟩,by exact Ei⟩
    by_cases e : j = i
    ·subst e;exact he
    ·exact hj j (by omega)
  ·have : n ∉ l:=by
    intro hm
    obtain ⟨j,hj'⟩:=List.mem_iff_getElem?.1 hm
    have hlt:=(List.getElem?_eq_some_iff.1 hj').1
    refine hj j (by omega) ?_
    rw [List.getD_eq_getElem?_getD,hj'];rfl
   rw [decide_eq_false this]
def xB : Fn:=⟨2,41,[.tmp 4],(sr [oN 4 mF] (sr [oW 9 0,oN 10 (cl 222 [9]),oW 5 10] (.seq (rf 1 [oN 11 (.dS 1 DW 0 []),oK 6 1 (oV 11)]) (.seq (sr [oW 12 1,oN 13 (ln 12),oN 14 (.bY (cI 0))] (.block 0 (.loop (sr [oN 15 (bt .lss 14 13)] (.seq (cd 15 .skip (.exit 0)) (.seq (.block 1 (sr [oN 16 (ix 1 12 14),oN 17 (lF 1 16),oW 8 17] (.seq (sr [oW 18 5,oW 19 8,oN 20 (cl 235 [18,19]),oN 21 (nt 20),oW 22 21,oG 22 false 23 (oV 6),oG 22 false 24 (oV 8),oG 22 false 25 (cl 235 [23,24]),oN 26 (.pick (.t 22) (.c (.bool true)) (.t 25))] (cd 26 (sr [oN 4 mF] .ret) .skip)) (rf 2 [oK 27 2 (oV 6),oK 28 2 (oV 8),oN 29 (.dS 1 DW 1 [(0,(.t 28))]),oK 30 1 (.app 1 8 (.t 27) (.t 29)),oK 6 2 (oV 30)])))) (rg [oN 31 (bc .add 14 1),oW 14 31]))))))) (sr [oW 32 0,oN 33 (cl 193 [32]),oW 34 33,oG 34 true 35 (oV 1),oG 34 true 36 (ln 35),oG 34 true 37 (oV 5),oG 34 true 38 (ln 37),oG 34 true 39 (bt .eql 36 38),oN 40 (.pick (.t 34) (.t 39) (.c (.bool false))),oW 4 40] .ret)))))⟩
structure Dl (T : Tb) : Prop where
 hT : T 220 = some xB
 cZ : gu T
 Rx : xw T
 JD : EM T
def qL : Fn:=⟨2,29,[.tmp 4],(sr [oN 4 mF] (.seq (sr [oW 8 0,oN 9 (cl 89 [8]),oN 10 (nt 9)] (cd 10 (sr [oN 4 mF] .ret) .skip)) (sr [oW 11 0,oN 12 (cl 180 [11]),oW 5 12] (.seq (sr [oW 13 5,oN 14 (ln 13),oN 15 (.bY (cI 0))] (.block 0 (.loop (sr [oN 16 (bt .lss 15 14)] (.seq (cd 16 .skip (.exit 0)) (.seq (.block 1 (sr [oN 17 (ix 1 13 15),oN 18 (lF 1 17),oW 7 18] (sr [oW 19 1,oW 20 7,oN 21 (cl 236 [19,20]),oN 22 (nt 21)] (cd 22 (sr [oN 4 mF] .ret) .skip)))) (rg [oN 23 (bc .add 15 1),oW 15 23]))))))) (sr [oW 24 1,oN 25 (ln 24),oW 26 5,oN 27 (ln 26),oN 28 (bt .eql 25 27),oW 4 28] .ret)))))⟩
structure Dn (T : Tb) : Prop where
 hT : T 221 = some qL
 NR : yI T
 Ry : Dk T
 Tv : EK T
theorem nO {l : Lk} (h : ji l = true) : 0 ≤ l.a ∧ l.a < l.b ∧ l.b ≤ 9:=by
 unfold ji nd at h
 simp only [Bool.and_eq_true,decide_eq_true_eq] at h
 omega
theorem mP {l : List Lk} (h : bg l = true) {k : Nat} (hk : k < l.length) : ji (l.getD k default) = true:=by
 have:=XY.1 h k hk
 unfold D7 at this
 simp only [Bool.and_eq_true] at this
 exact this.1
theorem KA (l : List Lk) : ∀ i,i ≤ l.length → Asc (qK l i)
 | 0,_=>by rw [LX];exact List.Pairwise.nil
 |
  i + 1,h=>by
  rw [LY l h]
  unfold Ky
  refine FM ?_
  split
  ·exact FM (KA l i (by omega))
  ·exact KA l i (by omega)
theorem Rz (l : List Lk) (a : Int) : ∀ i,i ≤ l.length → (a ∈ qK l i ↔ ∃ k,k < i ∧ ((0 < (l.getD k default).a ∧ a = (l.getD k default).a) ∨ a = (l.getD k default).b))
 | 0,_=>by rw [LX];simp
 |
  i + 1,h=>by
  rw [LY l h]
  unfold Ky
  rw [Dj]
  have ih:=Rz l a i (by omega)
  constructor
  ·rintro (h1 | h1)
   ·exact ⟨i,by omega,.inr h1⟩
   ·split at h1
    ·rename_i hp
     rcases Dj.1 h1 with h1 | h1
     ·exact ⟨i,by omega,.inl ⟨hp,h1⟩⟩
     ·obtain ⟨k,h2,h3⟩:=ih.1 h1;exact ⟨k,by omega,h3⟩
    ·obtain ⟨k,h2,h3⟩:=ih.1 h1;exact ⟨k,by omega,h3⟩
  ·rintro ⟨k,h2,h3⟩
   by_cases e : k = i
   ·subst e
    rcases h3 with ⟨h4,h5⟩ | h5
    ·right;rw [if_pos h4,Dj];exact .inl h5
    ·exact .inl h5
   ·right
    have:=ih.2 ⟨k,by omega,h3⟩
    split
    ·exact Dj.2 (.inr this)
    ·exact this
theorem afD {l : List Lk} {v : Int} : ends l v = true ↔ ∃ k,k < l.length ∧ ((l.getD k default).a = v ∨ (l.getD k default).b = v):=by
 constructor
 ·intro h
  refine Classical.byContradiction fun k=>?_
  rw [aah fun j hj=>⟨fun e=>k ⟨j,hj,.inl e⟩,fun e=>k ⟨j,hj,.inr e⟩⟩] at h
  cases h
 ·rintro ⟨k,hk,h⟩;exact Rw hk h
theorem aaj (l : List Lk) (v : Nat) (a : Int) : a ∈ sF l v ↔ 1 ≤ a ∧ a < v ∧ ends l a = true:=by
 unfold sF
 rw [List.mem_map]
 constructor
 ·rintro ⟨u,hu,rfl⟩
  rw [List.mem_filter,List.mem_range,Bool.and_eq_true,decide_eq_true_eq] at hu
  exact ⟨by omega,by omega,hu.2.2⟩
 ·rintro ⟨h1,h2,h3⟩
  refine ⟨a.toNat,?_,by omega⟩
  rw [List.mem_filter,List.mem_range,Bool.and_eq_true,decide_eq_true_eq,show ((a.toNat : Nat) : Int) = a by omega]
  exact ⟨by omega,by omega,h3⟩
theorem RD (l : List Lk) (v : Nat) : Asc (sF l v):=by
 unfold sF Asc
 rw [List.pairwise_map]
 refine List.Pairwise.imp ?_ (List.Pairwise.filter _ List.pairwise_lt_range)
 intro a b h;omega
theorem afE {l : List Lk} (h : bg l = true) : qK l l.length = sF l 10:=by
 refine Py (KA l _ (Nat.le_refl _)) (RD l 10) fun a=>?_
 rw [Rz l a _ (Nat.le_refl _),aaj,afD]
 constructor
 ·rintro ⟨k,hk,h1⟩
  have:=nO (mP h hk)
  rcases h1 with ⟨h1,rfl⟩ | rfl
  ·exact ⟨by omega,by omega,k,hk,.inl rfl⟩
  ·exact ⟨by omega,by omega,k,hk,.inr rfl⟩
 ·rintro ⟨h1,h2,k,hk,h3⟩
  have:=nO (mP h hk)
  rcases h3 with rfl | rfl
  ·exact ⟨k,hk,.inl ⟨by omega,rfl⟩⟩
  ·exact ⟨k,hk,.inr rfl⟩
def xC (l : List Lk) : List Int:=if bg l = true then sF l 10 else []
theorem ac4 (l : List Lk) : Kz l = xC l:=by
 unfold Kz xC
 split
 ·rename_i h;exact afE h
 ·rfl
theorem afF {l : List Lk} (h : bg l = true) : xC l = sF l 10:=if_pos h
theorem KC (l : List Lk) : (xC l).length ≤ 10:=by
 unfold xC
 split
 ·exact Ru l 10
 ·simp
theorem aak (l : List Lk) : Asc (xC l):=by
 unfold xC
 split
 ·exact RD l 10
 ·exact List.Pairwise.nil
theorem Yl {T : Tb} (h : xw T) {l : List Lk} (hw : BU Lk.wf l:=by exact bZ) (hl : l.length ≤ 1048576:=by exact bZ) : PF T 222 [bf l] (ints (xC l)):=by
 rw [← ac4];exact aag h hw hl
def OV (l : List Lk) (o : List Int) : Prop:=bg l = true ∧ o.length = (xC l).length ∧ ∀ x ∈ xC l,x ∈ o
instance (l : List Lk) (o : List Int) : Decidable (OV l o):=inferInstanceAs (Decidable (_ ∧ _ ∧ _))
def JE (l : List Lk) (o : List Int) : Bool:=decide (OV l o)
theorem aal {T : Tb} (h : Dn T) {l : List Lk} {o : List Int} (hw : BU Lk.wf l:=by exact bZ) (ho : o.length ≤ 1048576:=by exact bZ) : PF T 221 [bf l,ints o] (.bool (JE l o)):=by
 have ci:=Vw h.NR hw
 have cn:=aai h.Ry hw
 cases hb : bg l
 ·rw [hb] at ci
  rw [show JE l o = false from decide_eq_false fun k=>by have:=k.1;rw [hb] at this;cases this]
  refine aT nR h.hT ?_
  simp only [qL,Lz]
  refine ev ?_
  refine ah ci ?_
  (refine ev ?_;try with_reducible exact True.intro)
 rw [hb] at ci
 rw [← afF hb] at cn
 have hnl:=KC l
 refine aT nR h.hT ?_
 simp only [qL,Lz]
 refine ev ?_
 refine ah ci ?_
 refine ev ?_
 refine ah cn ?_
 refine ev ?_
 obtain ⟨nd,hnd⟩ : ∃ nd,xC l = nd:=⟨_,rfl⟩
 have hord : OV l o ↔ o.length = nd.length ∧ ∀ x ∈ nd,x ∈ o:=by
  unfold OV;rw [hnd];exact ⟨fun h=>h.2,fun h=>⟨hb,h⟩⟩
 unfold JE
 rw [hnd] at hnl ⊢
 refine aO (fun _ _=>false) (α:=Nat) (fun i=>⟨bF [.any,ints o,.any,.any,.bool false,ints nd,.any,.any,.any,.any,.any,.any,.any,ints nd,iv (nd.length : Nat),iv (i : Nat)],[],0,0,[],[]⟩) (fun i=>i ≤ nd.length ∧ ∀ j,j < i → nd.getD j 0 ∈ o) (fun i=>nd.length - i) rfl 0 ?_ ?_ ?_
 ·exact ⟨by omega,by intro j hj;omega⟩
 ·exact Ei
 ·rintro i ⟨hi,hj⟩
  refine ev ?_
  refine aG (fun hc=>?_) fun hc=>?_ <;> (refine ev1 @hc ?_;try with_reducible exact True.intro)
  ·have hil : i < nd.length:=by omega
   have ch:=afC h.Tv (l:=o) (n:=nd.getD i 0) (by omega)
   refine ah ch ?_
   by_cases hm : nd.getD i 0 ∈ o
   ·rw [decide_eq_true hm]
    refine ev ?_
    refine ⟨i + 1,by omega,⟨by omega,fun j hj'=>?_⟩,by exact Ei⟩
    by_cases e : j = i
    ·subst e;exact hm
    ·exact hj j (by omega)
   ·rw [decide_eq_false hm]
    refine ev ?_
    rw [decide_eq_false]
    rw [hord]
    rintro ⟨_,h2⟩
    refine hm (h2 _ ?_)
    rw [List.getD_eq_getElem?_getD,List.getElem?_eq_getElem hil];exact List.getElem_mem hil
  ·have hall : ∀ x ∈ nd,x ∈ o:=by
    intro x hx
    obtain ⟨j,hj'⟩:=List.mem_iff_getElem?.1 hx
    have hlt:=(List.getElem?_eq_some_iff.1 hj').1
    have:=hj j (by omega)
    rw [List.getD_eq_getElem?_getD,hj'] at this
    exact this
   by_cases e : o.length = nd.length
   ·rw [decide_eq_true (hord.2 ⟨e,hall⟩)]
    simp [e]
   ·rw [decide_eq_false fun k=>e (hord.1 k).1]
    simp;omega
theorem afG {l : List Lk} {o : List Int} : OV l o ↔ (bg l = true ∧ o.length = (xC l).length) ∧ (∀ x ∈ o,x ∈ xC l) ∧ o.Nodup:=by
 have hn:=NQ (aak l)
 constructor
 ·rintro ⟨h1,h2,h3⟩
  have h4:=Yj hn h3 (by omega)
  exact ⟨⟨h1,h2⟩,NP hn h3 (by omega),h4⟩
 ·rintro ⟨⟨h1,h2⟩,h3,h4⟩
  exact ⟨h1,h2,NP h4 h3 (by omega)⟩
theorem Ym {o : List Int} {i : Nat} {x : Int} : x ∈ o.take i ↔ ∃ j,j < i ∧ j < o.length ∧ o.getD j 0 = x:=by
 constructor
 ·intro h
  obtain ⟨j,hj⟩:=List.mem_iff_getElem?.1 h
  rw [List.getElem?_take] at hj
  split at hj
  ·have hlt:=(List.getElem?_eq_some_iff.1 hj).1
   exact ⟨j,by omega,hlt,by rw [List.getD_eq_getElem?_getD,hj];rfl⟩
  ·cases hj
 ·rintro ⟨j,h1,h2,rfl⟩
  refine List.mem_iff_getElem?.2 ⟨j,?_⟩
  rw [List.getElem?_take,if_pos h1,List.getD_eq_getElem?_getD,List.getElem?_eq_getElem h2];rfl
theorem afH {o : List Int} : (∀ j,j < o.length → o.getD j 0 ∉ o.take j) → o.Nodup:=by
 intro h
 rw [List.nodup_iff_pairwise_ne,List.pairwise_iff_getElem]
 intro i j hi hj hij e
 refine h j hj (Ym.2 ⟨i,hij,hi,?_⟩)
 simp [List.getD_eq_getElem?_getD,hi,hj,e]
theorem aam {T : Tb} (h : Dl T) {l : List Lk} {o : List Int} (hw : BU Lk.wf l:=by exact bZ) (hl : l.length ≤ 1048576:=by exact bZ) (ho : o.length ≤ 1048576:=by exact bZ) : PF T 220 [bf l,ints o] (.bool (JE l o)):=by
 have ci:=nM h.cZ hw
 have cn:=Yl h.Rx hw
 have hnl:=KC l
 obtain ⟨nd,hnd⟩ : ∃ nd,xC l = nd:=⟨_,rfl⟩
 have hord : OV l o ↔ (bg l = true ∧ o.length = nd.length) ∧ (∀ x ∈ o,x ∈ nd) ∧ o.Nodup:=by rw [← hnd];exact afG
 unfold JE
 rw [hnd] at hnl cn
 refine aT nR h.hT ?_
 simp only [xB,Lz]
 refine ev ?_
 refine ah cn ?_
 refine ev ?_
 refine aO (fun _ _=>false) (α:=Nat × List Int) (fun q=>⟨bF [bf l,ints o,.any,.any,.bool false,ints nd,ZF q.2.length,.any,.any,.any,.any,.any,ints o,iv (o.length : Nat),iv (q.1 : Nat)],WE 1 (aN q.2),0,0,[],[]⟩) (fun q=>q.1 ≤ o.length ∧ q.2 = o.take q.1 ∧ ∀ j,j < q.1 → o.getD j 0 ∈ nd ∧ o.getD j 0 ∉ o.take j) (fun q=>o.length - q.1) rfl (0,[]) ?_ ?_ ?_
 ·exact ⟨by omega,by simp,by intro j hj;omega⟩
 ·exact Lj
 ·rintro ⟨i,xs⟩ ⟨hi,hx0,hj⟩
  dsimp only at hi hx0 hj
  have hx : xs.length ≤ 1048576:=by rw [hx0];simp;omega
  have hi0 : xs.length = i:=by rw [hx0];simp;omega
  have ch1:=Yk h.JD (l:=nd) (n:=o.getD i 0) (by omega)
  have ch2:=Yk h.JD (l:=xs) (n:=o.getD i 0) (by omega)
  have step : i < o.length → o.getD i 0 ∈ nd → o.getD i 0 ∉ xs → (xs ++ [o.getD i 0] = o.take (i + 1)) ∧ ∀ j,j < i + 1 → o.getD j 0 ∈ nd ∧ o.getD j 0 ∉ o.take j:=by
   intro h1 h2 h3
   refine ⟨?_,fun j hj'=>?_⟩
   ·rw [hx0,List.take_add_one,List.getElem?_eq_getElem h1,List.getD_eq_getElem?_getD,List.getElem?_eq_getElem h1];rfl
   ·by_cases e : j = i
    ·subst e;rw [← hx0];exact ⟨h2,h3⟩
    ·exact hj j (by omega)
  have apr : i < o.length → o.getD i 0 ∉ nd → ¬ OV l o:=by
   intro h1 h2 h3
   refine h2 ((hord.1 h3).2.1 _ ?_)
   rw [List.getD_eq_getElem?_getD,List.getElem?_eq_getElem h1];exact List.getElem_mem h1
  have auh : i < o.length → o.getD i 0 ∈ xs → ¬ OV l o:=by
   intro h1 h2 h3
   have h4:=(hord.1 h3).2.2
   rw [hx0] at h2
   obtain ⟨j,k1,k2,k3⟩:=Ym.1 h2
   rw [List.nodup_iff_pairwise_ne,List.pairwise_iff_getElem] at h4
   refine h4 j i k2 h1 k1 ?_
   simpa [List.getD_eq_getElem?_getD,k2,h1] using k3
  have fin : ¬ i < o.length → decide (OV l o) = (bg l && decide (o.length = nd.length)):=by
   intro h1
   have ei : i = o.length:=by omega
   subst ei
   have h2 : o.Nodup:=afH fun j hj'=>(hj j hj').2
   have h3 : ∀ x ∈ o,x ∈ nd:=by
    intro x hx
    obtain ⟨j,hj'⟩:=List.mem_iff_getElem?.1 hx
    have hlt:=(List.getElem?_eq_some_iff.1 hj').1
    have:=(hj j hlt).1
    rw [List.getD_eq_getElem?_getD,hj'] at this
    exact this
   have : OV l o ↔ bg l = true ∧ o.length = nd.length:=by rw [hord];exact ⟨fun h=>h.1,fun h=>⟨h,h3,h2⟩⟩
   rw [Bool.eq_iff_iff];simp [this]
  clear hx0 hj hord hw hnd
  (rcases xs with _ | ⟨x,xs⟩ <;> simp only [List.length_nil,List.length_cons,jX,jB,fD,dL] at hx ⊢)
  ·refine ev ?_
   refine aG (fun hc=>?_) fun hc=>?_ <;> (refine ev1 @hc ?_;try with_reducible exact True.intro)
   ·have hil : i < o.length:=by omega
    refine ah ch1 ?_
    by_cases h1 : o.getD i 0 ∈ nd
    ·rw [decide_eq_true h1]
     refine ev ?_
     refine abd ch2 (by simp [lW,bM,aN]) ?_
     rw [decide_eq_false (by simp)]
     refine ev ?_
     obtain ⟨s1,s2⟩:=step hil h1 (by simp)
     exact ⟨by omega,(i + 1,[] ++ [o.getD i 0]),by dsimp only;omega,⟨by dsimp only;omega,s1,s2⟩,by exact Ej⟩
    ·rw [decide_eq_false h1]
     refine ev ?_
     rw [decide_eq_false (apr hil h1)]
   ·rw [fin (by omega)]
    refine ah ci ?_
    cases bg l
    ·(refine ev ?_;try with_reducible exact True.intro)
    ·refine ev ?_
     simp only [V.bool.injEq,decide_eq_decide]
     omega
  ·refine ev ?_
   refine aG (fun hc=>?_) fun hc=>?_ <;> (refine ev1 @hc ?_;try with_reducible exact True.intro)
   ·have hil : i < o.length:=by omega
    refine ah ch1 ?_
    by_cases h1 : o.getD i 0 ∈ nd
    ·rw [decide_eq_true h1]
     refine ev ?_
     refine ah ch2 ?_
     by_cases h2 : o.getD i 0 ∈ x :: xs
     ·rw [decide_eq_true h2]
      refine ev ?_
      rw [decide_eq_false (auh hil h2)]
     ·rw [decide_eq_false h2]
      refine ev ?_
      obtain ⟨s1,s2⟩:=step hil h1 h2
      exact ⟨by omega,(i + 1,(x :: xs) ++ [o.getD i 0]),by dsimp only;omega,⟨by dsimp only;omega,s1,s2⟩,by exact CV⟩
    ·rw [decide_eq_false h1]
     refine ev ?_
     rw [decide_eq_false (apr hil h1)]
   ·rw [fin (by omega)]
    refine ah ci ?_
    cases bg l
    ·(refine ev ?_;try with_reducible exact True.intro)
    ·refine ev ?_
     simp only [V.bool.injEq,decide_eq_decide]
     omega
def xE : Fn:=⟨2,33,[.tmp 4],(sr [oN 4 mN] (.seq (rf 1 [oN 8 (.dS 1 DW 0 []),oK 5 1 (oV 8)]) (.seq (sr [oW 9 0,oN 10 (ln 9),oN 11 (.bY (cI 0))] (.block 0 (.loop (sr [oN 12 (bt .lss 11 10)] (.seq (cd 12 .skip (.exit 0)) (.seq (.block 1 (.seq (rf 1 [oK 13 1 (ix 11 9 11),oK 14 1 (lT 11 13),oN 7 (.alloc Aq),⟨none,none,1,.store 11 (.t 7) (.t 14),[]⟩]) (.seq (sr [oN 15 (fd 0 7),oN 16 (lF 1 15),oW 17 1,oN 18 (bt .eql 16 17)] (cd 18 (rg [oW 19 5,oN 20 (fd 1 7),oN 21 (lF 1 20),oN 22 (cl 237 [19,21]),oW 5 22]) .skip)) (sr [oN 23 (fd 1 7),oN 24 (lF 1 23),oW 25 1,oN 26 (bt .eql 24 25)] (cd 26 (rg [oW 27 5,oN 28 (fd 0 7),oN 29 (lF 1 28),oN 30 (cl 237 [27,29]),oW 5 30]) .skip))))) (rg [oN 31 (bc .add 11 1),oW 11 31]))))))) (sr [oW 32 5,oW 4 32] .ret))))⟩
structure Dp (T : Tb) : Prop where
 hT : T 238 = some xE
 um : Af T
theorem yN {k l : Lk} : bJ k l = true ↔ k.a < l.a ∨ (k.a = l.a ∧ k.b < l.b):=by simp [bJ]
theorem GI {k l m : Lk} (h : bJ k l = true) (h2 : bJ l m = true) : bJ k m = true:=by
 rw [yN] at *;omega
theorem UA {l : List Lk} (h : bg l = true) {i : Nat} (hi : i + 1 < l.length) : bJ (l.getD i default) (l.getD (i + 1) default) = true:=by
 have:=XY.1 h (i + 1) hi
 unfold D7 at this
 simp only [Bool.and_eq_true,Bool.or_eq_true,decide_eq_true_eq] at this
 rcases this.2 with h | h
 ·omega
 ·exact h
theorem Yn {l : List Lk} (h : bg l = true) : ∀ (j i : Nat),i < j → j < l.length → bJ (l.getD i default) (l.getD j default) = true
 | 0,i,hi,_=>by omega
 |
  j + 1,i,hi,hj=>by
  have ha:=UA h hj
  by_cases e : i = j
  ·subst e;exact ha
  ·exact GI (Yn h j i (by omega) (by omega)) ha
theorem IL {α : Type} [Inhabited α] {l : List α} {i : Nat} (h : i < l.length) : l.getD i default = l[i]:=by
 rw [List.getD_eq_getElem?_getD,List.getElem?_eq_getElem h];rfl
theorem Yo {l : List Lk} (h : bg l = true) : l.Pairwise fun k l=>bJ k l = true ∧ 0 ≤ k.a ∧ k.a < k.b ∧ 0 ≤ l.a ∧ l.a < l.b:=by
 rw [List.pairwise_iff_getElem]
 intro i j hi hj hij
 have h1:=Yn h j i hij hj
 have h2:=nO (mP h hi)
 have h3:=nO (mP h hj)
 rw [IL hi,IL hj] at h1
 rw [IL hi] at h2
 rw [IL hj] at h3
 exact ⟨h1,h2.1,h2.2.1,h3.1,h3.2.1⟩
theorem rM {l : List Lk} (h : bg l = true) {x : Lk} (hx : x ∈ l) : ji x = true:=by
 obtain ⟨i,hi⟩:=List.mem_iff_getElem?.1 hx
 have hlt:=(List.getElem?_eq_some_iff.1 hi).1
 have:=mP h hlt
 rwa [List.getD_eq_getElem?_getD,hi] at this
def aan (v : Int) (x : Lk) : Option Int:=if x.a = v then some x.b else if x.b = v then some x.a else none
def Dq (v : Int) (out : List Int) (x : Lk) : List Int:=if x.b = v then Au (if x.a = v then Au out x.b else out) x.a else (if x.a = v then Au out x.b else out)
def nbS (l : List Lk) (v : Int) (i : Nat) : List Int:=(l.take i).foldl (Dq v) []
def nbI (l : List Lk) (v : Int) (i : Nat) : List Int:=(l.take i).filterMap (aan v)
theorem ajD (l : List Lk) (v : Int) : nbS l v 0 = []:=by simp [nbS]
theorem take_snoc {α : Type} [Inhabited α] {l : List α} {i : Nat} (h : i < l.length) : l.take (i + 1) = l.take i ++ [l.getD i default]:=by
 rw [List.take_add_one,List.getElem?_eq_getElem h,List.getD_eq_getElem?_getD,List.getElem?_eq_getElem h];rfl
theorem ajE (l : List Lk) (v : Int) {i : Nat} (h : i < l.length) : nbS l v (i + 1) = Dq v (nbS l v i) (l.getD i default):=by
 unfold nbS;rw [take_snoc h,List.foldl_append];rfl
theorem aao (v : Int) (out : List Int) (x : Lk) : (Dq v out x).length ≤ out.length + 2:=by
 have h1:=IK (if x.a = v then Au out x.b else out) x.a
 have h2:=IK out x.b
 unfold Dq
 split at h1 <;> (split <;> (try split) <;> omega)
theorem aiE (l : List Lk) (v : Int) {i : Nat} (h : i ≤ l.length) : (nbS l v i).length ≤ 2 * i:=by
 induction i with
 | zero=>simp [ajD]
 |
  succ i ih =>
  rw [ajE l v h]
  have:=ih (by omega)
  have:=aao v (nbS l v i) (l.getD i default)
  omega
theorem aap {v : Int} {out : List Int} {x : Lk} {a : Int} : a ∈ Dq v out x ↔ a ∈ out ∨ (x.a = v ∧ a = x.b) ∨ (x.b = v ∧ a = x.a):=by
 unfold Dq
 split <;> split <;> simp_all [Dj] <;> (constructor <;> rintro (h | h) <;> simp_all)
theorem abq {v : Int} : ∀ (l : List Lk) (out : List Int) (a : Int),a ∈ l.foldl (Dq v) out ↔ a ∈ out ∨ ∃ x ∈ l,(x.a = v ∧ a = x.b) ∨ (x.b = v ∧ a = x.a)
 | [],out,a=>by simp
 |
  x :: l,out,a=>by
  rw [List.foldl_cons,abq l,aap]
  simp only [List.mem_cons,exists_eq_or_imp,or_assoc]
theorem aaq {v : Int} {out : List Int} {x : Lk} (h : Asc out) : Asc (Dq v out x):=by
 unfold Dq
 split <;> split <;> first | exact FM (FM h) | exact FM h | exact h
theorem abr {v : Int} : ∀ (l : List Lk) (out : List Int),Asc out → Asc (l.foldl (Dq v) out)
 | [],out,h=>h
 | x :: l,out,h=>abr l _ (aaq h)
theorem aps {l : List Lk} (h : bg l = true) (v : Int) : nbS l v l.length = nbI l v l.length:=by
 unfold nbS nbI
 rw [List.take_length]
 refine Py (abr _ _ .nil) ?_ fun a=>?_
 ·refine List.Pairwise.filterMap _ ?_ (Yo h)
  rintro k m ⟨h1,h2,h3,h4,h5⟩ b hb b' hb'
  rw [yN] at h1
  unfold aan at hb hb'
  split at hb <;> split at hb' <;> (try split at hb) <;> (try split at hb') <;> simp_all <;> omega
 ·rw [abq,List.mem_filterMap]
  simp only [List.not_mem_nil,false_or]
  constructor
  ·rintro ⟨x,hx,h1⟩
   refine ⟨x,hx,?_⟩
   have:=nO (rM h hx)
   unfold aan
   rcases h1 with ⟨h1,rfl⟩ | ⟨h1,rfl⟩
   ·rw [if_pos h1]
   ·rw [if_neg (by omega),if_pos h1]
  ·rintro ⟨x,hx,h1⟩
   refine ⟨x,hx,?_⟩
   unfold aan at h1
   split at h1
   ·simp_all
   ·split at h1 <;> simp_all
theorem ac5 {T : Tb} (h : Dp T) {l : List Lk} {v : Int} (hw : BU Lk.wf l:=by exact bZ) (hl : l.length ≤ 1048576:=by exact bZ) (hok : bg l = true:=by assumption) : PF T 238 [bf l,iv v] (ints (nbI l v l.length)):=by
 rw [← aps hok]
 refine aK nR h.hT ?_
 simp only [xE,Lz]
 refine ev ?_
 refine aO (fun _ _=>false) (α:=Nat) (fun i=>⟨bF [.any,iv v,.any,.any,.ak,ints (nbS l v i),.any,.any,.any,bf l,iv (l.length : Nat),iv (i : Nat)],[],0,0,[],[]⟩) (fun i=>i ≤ l.length) (fun i=>l.length - i) rfl 0 ?_ ?_ ?_
 ·omega
 ·rw [ajD,show ints [] = .sl 1 [] from rfl]
  exact Lj
 ·intro i hi
  have hnl:=aiE l v hi
  refine ev ?_
  refine aG (fun hc=>?_) fun hc=>?_ <;> (refine iP @hc @mg ?_;try with_reducible exact True.intro)
  ·have hil : i < l.length:=by omega
   have es:=ajE l v hil
   unfold Dq at es
   by_cases ha : (l.getD i default).a = v
   ·have c1:=LV h.um (l:=nbS l v i) (n:=(l.getD i default).b) (by omega)
    simp only [if_pos ha] at es
    by_cases hb : (l.getD i default).b = v
    ·have:=nO (mP hok hil)
     omega
    ·rw [if_neg hb] at es
     refine ev1 @ha ?_
     refine ah c1 ?_
     refine ev1 @hb ?_
     rw [← es]
     exact ⟨i + 1,by omega,by omega,by exact Lj⟩
   ·have c1:=LV h.um (l:=nbS l v i) (n:=(l.getD i default).a) (by omega)
    simp only [if_neg ha] at es
    by_cases hb : (l.getD i default).b = v
    ·rw [if_pos hb] at es
     refine iP @ha @hb ?_
     refine ah c1 ?_
     refine ev ?_
     rw [← es]
     exact ⟨i + 1,by omega,by omega,by exact Lj⟩
    ·rw [if_neg hb] at es
     refine iP @ha @hb ?_
     rw [← es]
     exact ⟨i + 1,by omega,by omega,by exact Lj⟩
  ·have : i = l.length:=by omega
   subst this
   exact aC _
def xG : Fn:=⟨1,17,[.cell 2 3 true],(.seq (rf 2 [oN 1 (.box (.t 0)),oK 2 1 (.alloc jK)]) (.seq (rt 4 [oK 3 4 (fd 0 1),oA 4 4 (fd 0 3) [0],oA 5 4 (lF 1 4) [1],oN 6 (.dS 1 DW 0 []),oK 7 4 (fd 0 1),oA 8 4 (fd 1 7) [4],oA 9 4 (lF 1 8) [5],oA 10 1 (.app 1 8 (.t 6) (.t 9)) [3,6],oA 11 4 (.build SC [(0,1,(.t 5)),(1,1,(.t 10))]) [2,7],oK 12 2 (.dS 1 DW 0 []),oK 13 4 (fd 2 1),oA 14 4 (lF 1 13) [10],oA 15 3 (.app 1 8 (.t 12) (.t 14)) [9,11,7],oA 16 4 (.build jK [(0,2,(.t 11)),(2,1,(.t 15))]) [8,12],⟨none,none,4,.store 3 (.t 2) (.t 16),[13,12,0,1,2,3,4,5,6,7,8,9,10,11,12,13]⟩]) .ret))⟩
structure xH (T : Tb) : Prop where
 hT : T 204 = some xG
def xI : Fn:=⟨1,17,[.cell 2 11 true],(.seq (rf 2 [oN 1 (.box (.t 0)),oK 2 1 (.alloc Aq)]) (.seq (rt 0 [oN 3 (fd 0 1),oA 4 0 (lF 1 3) [0],oN 5 (fd 1 1),oA 6 0 (lF 1 5) [2],oN 7 (fd 2 1),oA 8 0 (lT 3 7) [4],oA 9 0 (cl 204 [8]) [5],oN 10 (fd 5 1),oA 11 0 (lT 3 10) [7],oA 12 0 (cl 204 [11]) [8,6],oN 13 (fd 8 1),oA 14 0 (lT 3 13) [10],oA 15 0 (cl 204 [14]) [11,9],oA 16 0 (.build Aq [(0,1,(.t 4)),(1,1,(.t 6)),(2,3,(.t 9)),(5,3,(.t 12)),(8,3,(.t 15))]) [1,3,6,9,12],⟨none,none,0,.store 11 (.t 2) (.t 16),[13,12,0,1,2,3,4,5,6,7,8,9,10,11,12,13]⟩]) .ret))⟩
structure mQ (T : Tb) : Prop where
 hT : T 197 = some xI
 mV : xH T
def nP : Fn:=⟨2,35,[.tmp 4],(sr [oN 4 mN] (.seq (rf 1 [oN 8 (.dS 11 Aq 0 []),oK 5 1 (oV 8)]) (.seq (sr [oW 9 0,oN 10 (cl 193 [9]),oN 11 (nt 10)] (cd 11 (sr [oN 4 mN] .ret) .skip)) (.seq (sr [oW 12 0,oN 13 (ln 12),oN 14 (.bY (cI 0))] (.block 0 (.loop (sr [oN 15 (bt .lss 14 13)] (.seq (cd 15 .skip (.exit 0)) (.seq (.block 1 (.seq (rf 1 [oK 16 1 (ix 11 12 14),oK 17 1 (lT 11 16),oN 7 (.alloc Aq),⟨none,none,1,.store 11 (.t 7) (.t 17),[]⟩]) (sr [oN 18 (fd 0 7),oN 19 (lF 1 18),oW 20 1,oN 21 (bt .neq 19 20),oW 22 21,oG 22 true 23 (fd 1 7),oG 22 true 24 (lF 1 23),oG 22 true 25 (oV 1),oG 22 true 26 (bt .neq 24 25),oN 27 (.pick (.t 22) (.t 26) (.c (.bool false)))] (cd 27 (rf 2 [oK 28 2 (oV 5),oK 29 2 (lT 11 7),oK 30 2 (cl 197 [29]),oN 31 (.dS 11 Aq 1 [(0,(.t 30))]),oK 32 1 (.app 11 184 (.t 28) (.t 31)),oK 5 2 (oV 32)]) .skip)))) (rg [oN 33 (bc .add 14 1),oW 14 33]))))))) (sr [oW 34 5,oW 4 34] .ret)))))⟩
structure vI (T : Tb) : Prop where
 hT : T 227 = some nP
 cZ : gu T
 iw : mQ T
def nS : Fn:=⟨2,31,[.tmp 4],(sr [oN 4 mN] (.seq (rf 1 [oN 8 (.dS 11 Aq 0 []),oK 5 1 (oV 8)]) (.seq (sr [oW 9 0,oN 10 (ln 9),oN 11 (.bY (cI 0))] (.block 0 (.loop (sr [oN 12 (bt .lss 11 10)] (.seq (cd 12 .skip (.exit 0)) (.seq (.block 1 (.seq (rf 1 [oK 13 1 (ix 11 9 11),oK 14 1 (lT 11 13),oN 7 (.alloc Aq),⟨none,none,1,.store 11 (.t 7) (.t 14),[]⟩]) (sr [oN 15 (fd 0 7),oN 16 (lF 1 15),oW 17 1,oN 18 (bt .neq 16 17),oW 19 18,oG 19 true 20 (fd 1 7),oG 19 true 21 (lF 1 20),oG 19 true 22 (oV 1),oG 19 true 23 (bt .neq 21 22),oN 24 (.pick (.t 19) (.t 23) (.c (.bool false)))] (cd 24 (rf 2 [oK 25 2 (oV 5),oK 26 2 (lT 11 7),oN 27 (.dS 11 Aq 1 [(0,(.t 26))]),oK 28 1 (.app 11 184 (.t 25) (.t 27)),oK 5 2 (oV 28)]) .skip)))) (rg [oN 29 (bc .add 11 1),oW 11 29]))))))) (sr [oW 30 5,oW 4 30] .ret))))⟩
structure vJ (T : Tb) : Prop where
 hT : T 241 = some nS
def uo : Fn:=⟨3,46,[.cell 6 11 true,.tmp 7],(.seq (rf 1 [oN 6 (.alloc Aq),oK 7 1 mF]) (.seq (sr [oW 10 0,oN 11 (cl 193 [10]),oN 12 (nt 11)] (cd 12 (sr [oN 13 (.build Aq []),oS (.store 11 (.t 6) (.t 13)),oN 7 mF] .ret) .skip)) (.seq (sr [oW 14 0,oN 15 (ln 14),oN 16 (.bY (cI 0))] (.block 0 (.loop (sr [oN 17 (bt .lss 16 15)] (.seq (cd 17 .skip (.exit 0)) (.seq (.block 1 (.seq (rf 1 [oK 18 1 (ix 11 14 16),oK 19 1 (lT 11 18),oN 9 (.alloc Aq),⟨none,none,1,.store 11 (.t 9) (.t 19),[]⟩]) (sr [oN 20 (fd 0 9),oN 21 (lF 1 20),oW 22 1,oN 23 (bt .eql 21 22),oW 24 23,oG 24 true 25 (fd 1 9),oG 24 true 26 (lF 1 25),oG 24 true 27 (oV 2),oG 24 true 28 (bt .eql 26 27),oN 29 (.pick (.t 24) (.t 28) (.c (.bool false))),oW 30 29,oG 30 false 31 (fd 0 9),oG 30 false 32 (lF 1 31),oG 30 false 33 (oV 2),oG 30 false 34 (bt .eql 32 33),oG 30 false 35 (oV 34),oG 35 true 36 (fd 1 9),oG 35 true 37 (lF 1 36),oG 35 true 38 (oV 1),oG 35 true 39 (bt .eql 37 38),oG 30 false 40 (.pick (.t 35) (.t 39) (.c (.bool false))),oN 41 (.pick (.t 30) (.c (.bool true)) (.t 40))] (cd 41 (sr [oN 42 (lT 11 9),oN 43 (cl 197 [42]),oS (.store 11 (.t 6) (.t 43)),oN 7 mT] .ret) .skip)))) (rg [oN 44 (bc .add 16 1),oW 16 44]))))))) (sr [oN 45 (.build Aq []),oS (.store 11 (.t 6) (.t 45)),oN 7 mF] .ret))))⟩
structure EN (T : Tb) : Prop where
 hT : T 225 = some uo
 cZ : gu T
 iw : mQ T
theorem Pz {r : R} {a b : V} (h1 : bM (ints r.mag) a) (h2 : bM (ints r.den) b) : bM (aU r) (.agg [.bool r.neg,a,b]):=by
 simp only [Ip,Ns,Nr,Fj,true_and,and_true]
 exact ⟨h1,h2⟩
theorem Ji {l : List Int} (h : aN l = []) : bM (ints l) .ak:=by
 show bM (.sl 1 (aN l)) .ak
 rw [h];exact of_eq_true (fK 1)
theorem FP {T : Tb} (h : xH T) {r : R} (hl : r.sz ≤ 1048576:=by exact bZ) : PF T 204 [aU r] (aU r):=by
 simp only [R.sz] at hl
 refine aK nR h.hT ?_
 simp only [xG,Lz]
 refine ev ?_
 refine ⟨fun e1=>⟨fun e2=>?_,fun e2=>⟨by omega,?_⟩⟩,fun e1=>⟨by omega,fun e2=>?_,fun e2=>⟨by omega,?_⟩⟩⟩
 ·refine ⟨by unfold iW;decide +kernel,?_⟩
  exact Pz (Ji e1) (Ji e2)
 ·refine ⟨by unfold iW;decide +kernel,?_⟩
  exact Pz (Ji e1) (aC _)
 ·refine ⟨by unfold iW;decide +kernel,?_⟩
  exact Pz (aC _) (Ji e2)
 ·refine ⟨by unfold iW;decide +kernel,?_⟩
  exact Pz (aC _) (aC _)
theorem Cc {T : Tb} (h : mQ T) {x : Lk} (hl : x.sz ≤ 1048576:=by exact bZ) : PF T 197 [KO x] (KO x):=by
 simp only [Lk.sz,R.sz] at hl
 refine aK nR h.hT ?_
 simp only [xI,Lz]
 refine ev ?_
 refine ah (FP h.mV (r:=x.w) (by simp only [R.sz];omega)) ?_
 refine ev ?_
 refine ah (FP h.mV (r:=x.dx) (by simp only [R.sz];omega)) ?_
 refine ev ?_
 refine ah (FP h.mV (r:=x.dy) (by simp only [R.sz];omega)) ?_
 refine ev ?_
 refine ⟨by unfold iW;decide +kernel,?_⟩
 refine ev ?_
 exact aC _
def Y2 (v : Int) (x : Lk) : Bool:=decide (x.a ≠ v) && decide (x.b ≠ v)
def wo (l : List Lk) (v : Int) (i : Nat) : List Lk:=(l.take i).filter (Y2 v)
theorem apt (l : List Lk) (v : Int) : wo l v 0 = []:=by simp [wo]
theorem afI (l : List Lk) (v : Int) : wo l v l.length = l.filter (Y2 v):=by simp [wo]
theorem apu (l : List Lk) (v : Int) {i : Nat} (h : i < l.length) : wo l v (i + 1) = wo l v i ++ (if Y2 v (l.getD i default) = true then [l.getD i default] else []):=by
 unfold wo;rw [take_snoc h,List.filter_append,List.filter_cons]
 split <;> simp
theorem afJ (l : List Lk) (v : Int) (i : Nat) : (wo l v i).length ≤ i:=by
 unfold wo
 exact Nat.le_trans (List.length_filter_le _ _) (by simp;omega)
theorem aar {α : Type} (f : α → Nat) (p : α → Bool) (l : List α) : vY f (l.filter p) ≤ vY f l:=by
 unfold vY
 induction l with
 | nil=>simp
 |
  cons x l ih =>
  rw [List.filter_cons]
  split <;> simp only [List.length_cons,List.map_cons,List.sum_cons] <;> omega
abbrev Lk0 : Lk:=⟨0,0,R0,R0,R0⟩
theorem NS : bM (KO Lk0) (.agg [iv 0,iv 0,.bool false,.ak,.ak,.bool false,.ak,.ak,.bool false,.ak,.ak]):=by
 show bM (.agg [iv 0,iv 0,.bool false,.sl 1 [],.sl 1 [],.bool false,.sl 1 [],.sl 1 [],.bool false,.sl 1 [],.sl 1 []]) _
 simp only [Ip,Ns,Nr,Fj,aeW,fK,and_true]
theorem Yp {v w : V} {b : Bool} (h : bM v w) : bM (.eu [v,.bool b]) (.eu [w,.bool b]):=by
 simp only [bM,lW]
 exact ⟨_,rfl,_,_,rfl,h,_,_,rfl,rfl,rfl⟩
def lkP (a b : Int) (x : Lk) : Bool:=(decide (x.a = a) && decide (x.b = b)) || (decide (x.a = b) && decide (x.b = a))
def Tz (l : List Lk) (a b : Int) : Option Lk:=l.find? (lkP a b)
theorem alJ {l : List Lk} {a b : Int} {i : Nat} (hi : i < l.length) (hj : ∀ j,j < i → lkP a b (l.getD j default) = false) (h : lkP a b (l.getD i default) = true) : Tz l a b = some (l.getD i default):=by
 unfold Tz
 have : l = l.take i ++ l.getD i default :: l.drop (i + 1):=by
  conv=>lhs;rw [← List.take_append_drop i l,List.drop_eq_getElem_cons hi]
  rw [IL hi]
 rw [this,List.find?_append,List.find?_cons,← this,h]
 have : (l.take i).find? (lkP a b) = none:=by
  rw [List.find?_eq_none]
  intro x hx
  obtain ⟨j,hj'⟩:=List.mem_iff_getElem?.1 hx
  have hlt:=(List.getElem?_eq_some_iff.1 hj').1
  rw [List.length_take] at hlt
  have hlt' : j < i:=by omega
  have:=hj j hlt'
  rw [List.getElem?_take_of_lt hlt'] at hj'
  rw [List.getD_eq_getElem?_getD,hj'] at this
  simpa using this
 rw [this];rfl
theorem alK {l : List Lk} {a b : Int} (hj : ∀ j,j < l.length → lkP a b (l.getD j default) = false) : Tz l a b = none:=by
 unfold Tz
 rw [List.find?_eq_none]
 intro x hx
 obtain ⟨j,hj'⟩:=List.mem_iff_getElem?.1 hx
 have hlt:=(List.getElem?_eq_some_iff.1 hj').1
 have:=hj j hlt
 rw [List.getD_eq_getElem?_getD,hj'] at this
 simpa using this
theorem Yq {l : List Lk} {a b : Int} {x : Lk} (h : Tz l a b = some x) : x ∈ l:=List.mem_of_find?_eq_some h
def fG : Fn:=⟨2,104,[.cell 4 11 true,.cell 5 3 true,.tmp 6],(.seq (rf 4 [oN 2 (.box (.t 0)),oK 3 1 (.box (.t 1)),oK 4 2 (.alloc Aq),oK 5 3 (.alloc jK),oK 6 4 mF]) (.seq (sr [oN 10 (lT 11 2),oN 11 (cl 83 [10]),oN 12 (nt 11),oW 13 12,oG 13 false 14 (lT 11 3),oG 13 false 15 (cl 83 [14]),oG 13 false 16 (nt 15),oN 17 (.pick (.t 13) (.c (.bool true)) (.t 16)),oW 18 17,oG 18 false 19 (fd 0 2),oG 18 false 20 (lF 1 19),oG 18 false 21 (fd 0 3),oG 18 false 22 (lF 1 21),oG 18 false 23 (bt .neq 20 22),oN 24 (.pick (.t 18) (.c (.bool true)) (.t 23)),oW 25 24,oG 25 false 26 (fd 1 2),oG 25 false 27 (lF 1 26),oG 25 false 28 (fd 1 3),oG 25 false 29 (lF 1 28),oG 25 false 30 (bt .neq 27 29),oN 31 (.pick (.t 25) (.c (.bool true)) (.t 30))] (cd 31 (sr [oN 32 (.build Aq []),oN 33 (.build jK []),oS (.store 11 (.t 4) (.t 32)),oS (.store 3 (.t 5) (.t 33)),oN 6 mF] .ret) .skip)) (.seq (rf 1 [oK 34 1 (fd 2 2),oK 35 1 (lT 3 34),oK 36 1 (fd 2 3),oK 37 1 (lT 3 36),oK 38 1 (cl 189 [35,37]),oN 7 (.alloc jK),⟨none,none,1,.store 3 (.t 7) (.t 38),[]⟩]) (.seq (rf 1 [oK 39 1 (fd 0 2),oK 40 1 (lF 1 39),oK 41 1 (fd 1 2),oK 42 1 (lF 1 41),oK 43 1 (lT 3 7),oK 44 1 (.build Aq [(0,1,(.t 40)),(1,1,(.t 42)),(2,3,(.t 43))]),oN 8 (.alloc Aq),⟨none,none,1,.store 11 (.t 8) (.t 44),[]⟩]) (.seq (rt 0 [oN 45 (fd 2 2),oA 46 0 (lT 3 45) [0],oN 47 (fd 5 2),oA 48 0 (lT 3 47) [2],oA 49 0 (cl 201 [46,48]) [1,3],oN 50 (fd 2 3),oA 51 0 (lT 3 50) [5],oN 52 (fd 5 3),oA 53 0 (lT 3 52) [7],oA 54 0 (cl 201 [51,53]) [6,8,4],oA 55 0 (cl 189 [49,54]) [4,9,9],oN 56 (lT 3 7),oA 57 0 (cl 200 [55,56]) [10,11,10],oA 58 0 (fd 5 8) [0,1,2,3,4,5,6,7,8,9,10,11,12],⟨none,none,0,.store 3 (.t 58) (.t 57),[13,12,12,0,1,2,3,4,5,6,7,8,9,10,11,12]⟩]) (.seq (rt 0 [oN 59 (fd 2 2),oA 60 0 (lT 3 59) [0],oN 61 (fd 8 2),oA 62 0 (lT 3 61) [2],oA 63 0 (cl 201 [60,62]) [1,3],oN 64 (fd 2 3),oA 65 0 (lT 3 64) [5],oN 66 (fd 8 3),oA 67 0 (lT 3 66) [7],oA 68 0 (cl 201 [65,67]) [6,8,4],oA 69 0 (cl 189 [63,68]) [4,9,9],oN 70 (lT 3 7),oA 71 0 (cl 200 [69,70]) [10,11,10],oA 72 0 (fd 8 8) [0,1,2,3,4,5,6,7,8,9,10,11,12],⟨none,none,0,.store 3 (.t 72) (.t 71),[13,12,12,0,1,2,3,4,5,6,7,8,9,10,11,12]⟩]) (.seq (rt 1 [oK 73 1 (fd 2 2),oA 74 1 (lT 3 73) [0],oK 75 1 (fd 2 3),oA 76 1 (lT 3 75) [2],oA 77 1 (cl 201 [74,76]) [1,3],oK 78 1 (lT 3 7),oA 79 1 (cl 200 [77,78]) [4,5,4],oK 80 1 (fd 5 2),oA 81 1 (lT 3 80) [7],oK 82 1 (fd 5 3),oA 83 1 (lT 3 82) [9],oA 84 1 (cl 203 [81,83]) [8,10,6],oK 85 1 (fd 8 2),oA 86 1 (lT 3 85) [12],oK 87 1 (fd 8 3),oA 88 1 (lT 3 87) [14],oA 89 1 (cl 203 [86,88]) [13,15,11],oA 90 1 (cl 202 [84,89]) [11,16,16],oA 91 1 (cl 201 [79,90]) [6,17,17],oN 9 (.alloc jK),⟨none,none,1,.store 3 (.t 9) (.t 91),[19,18,18,0,1,2,3,4,5,6,7,8,9,10,11,12,13,14,15,16,17,18,19]⟩]) (.seq (sr [oN 92 (lT 11 8),oN 93 (cl 83 [92]),oN 94 (nt 93),oW 95 94,oG 95 false 96 (lT 3 9),oG 95 false 97 (cl 100 [96]),oG 95 false 98 (nt 97),oN 99 (.pick (.t 95) (.c (.bool true)) (.t 98))] (cd 99 (sr [oN 100 (.build Aq []),oN 101 (.build jK []),oS (.store 11 (.t 4) (.t 100)),oS (.store 3 (.t 5) (.t 101)),oN 6 mF] .ret) .skip)) (.seq (rt 0 [oN 102 (lT 11 8),oN 103 (lT 3 9),⟨none,none,0,.store 11 (.t 4) (.t 102),[0,0]⟩,⟨none,none,0,.store 3 (.t 5) (.t 103),[1,2,0,1,2]⟩,oA 6 0 mT [3,0,1,2,3]]) .ret)))))))))⟩
structure xJ (T : Tb) : Prop where
 hT : T 196 = some fG
 fV : kC T
 aX : eU T
 dJ : jR T
 oZ : zQ T
 fM : tK T
 LZ : xu T
 uq : zO T
def pX : Fn:=⟨2,91,[.cell 4 11 true,.cell 5 3 true,.tmp 6],(.seq (rf 4 [oN 2 (.box (.t 0)),oK 3 1 (.box (.t 1)),oK 4 2 (.alloc Aq),oK 5 3 (.alloc jK),oK 6 4 mF]) (.seq (rt 2 [oK 12 2 (fd 2 2),oA 13 2 (lT 3 12) [0],oK 14 2 (fd 2 3),oA 15 2 (lT 3 14) [2],oN 7 (.alloc jK),oK 8 1 (.alloc jK),⟨none,none,2,.store 3 (.t 7) (.t 13),[4,1,0,1,4,5]⟩,⟨none,none,2,.store 3 (.t 8) (.t 15),[5,3,6,0,1,2,3,4,5,6]⟩]) (.seq (rf 1 [oK 16 1 (lT 3 7),oK 17 1 (lT 3 8),oK 18 1 (cl 131 [16,17]),oN 9 (.alloc jK),⟨none,none,1,.store 3 (.t 9) (.t 18),[]⟩]) (.seq (rf 1 [oK 19 1 (fd 0 2),oK 20 1 (lF 1 19),oK 21 1 (fd 1 2),oK 22 1 (lF 1 21),oK 23 1 (lT 3 9),oK 24 1 (.build Aq [(0,1,(.t 20)),(1,1,(.t 22)),(2,3,(.t 23))]),oN 10 (.alloc Aq),⟨none,none,1,.store 11 (.t 10) (.t 24),[]⟩]) (.seq (rt 0 [oN 25 (lT 3 7),oN 26 (fd 5 2),oA 27 0 (lT 3 26) [1],oA 28 0 (cl 157 [25,27]) [0,2],oN 29 (lT 3 8),oN 30 (fd 5 3),oA 31 0 (lT 3 30) [5],oA 32 0 (cl 157 [29,31]) [4,6,3],oA 33 0 (cl 131 [28,32]) [3,7,7],oN 34 (lT 3 9),oA 35 0 (cl 156 [33,34]) [8,9,8],oA 36 0 (fd 5 10) [0,1,2,3,4,5,6,7,8,9,10],⟨none,none,0,.store 3 (.t 36) (.t 35),[11,10,10,0,1,2,3,4,5,6,7,8,9,10]⟩]) (.seq (rt 0 [oN 37 (lT 3 7),oN 38 (fd 8 2),oA 39 0 (lT 3 38) [1],oA 40 0 (cl 157 [37,39]) [0,2],oN 41 (lT 3 8),oN 42 (fd 8 3),oA 43 0 (lT 3 42) [5],oA 44 0 (cl 157 [41,43]) [4,6,3],oA 45 0 (cl 131 [40,44]) [3,7,7],oN 46 (lT 3 9),oA 47 0 (cl 156 [45,46]) [8,9,8],oA 48 0 (fd 8 10) [0,1,2,3,4,5,6,7,8,9,10],⟨none,none,0,.store 3 (.t 48) (.t 47),[11,10,10,0,1,2,3,4,5,6,7,8,9,10]⟩]) (.seq (rt 1 [oK 49 1 (lT 3 7),oK 50 1 (lT 3 8),oA 51 1 (cl 157 [49,50]) [0,1],oK 52 1 (lT 3 9),oA 53 1 (cl 156 [51,52]) [2,3,2],oK 54 1 (fd 5 2),oA 55 1 (lT 3 54) [5],oK 56 1 (fd 5 3),oA 57 1 (lT 3 56) [7],oA 58 1 (cl 159 [55,57]) [6,8,4],oK 59 1 (fd 8 2),oA 60 1 (lT 3 59) [10],oK 61 1 (fd 8 3),oA 62 1 (lT 3 61) [12],oA 63 1 (cl 159 [60,62]) [11,13,9],oA 64 1 (cl 158 [58,63]) [9,14,14],oA 65 1 (cl 157 [53,64]) [4,15,15],oN 11 (.alloc jK),⟨none,none,1,.store 3 (.t 11) (.t 65),[17,16,16,0,1,2,3,4,5,6,7,8,9,10,11,12,13,14,15,16,17]⟩]) (.seq (sr [oN 66 (fd 2 10),oN 67 (lT 3 66),oN 68 (cl 132 [67]),oN 69 (nt 68),oW 70 69,oG 70 false 71 (fd 5 10),oG 70 false 72 (lT 3 71),oG 70 false 73 (cl 132 [72]),oG 70 false 74 (nt 73),oN 75 (.pick (.t 70) (.c (.bool true)) (.t 74)),oW 76 75,oG 76 false 77 (fd 8 10),oG 76 false 78 (lT 3 77),oG 76 false 79 (cl 132 [78]),oG 76 false 80 (nt 79),oN 81 (.pick (.t 76) (.c (.bool true)) (.t 80)),oW 82 81,oG 82 false 83 (lT 3 11),oG 82 false 84 (cl 132 [83]),oG 82 false 85 (nt 84),oN 86 (.pick (.t 82) (.c (.bool true)) (.t 85))] (cd 86 (sr [oN 87 (.build Aq []),oN 88 (.build jK []),oS (.store 11 (.t 4) (.t 87)),oS (.store 3 (.t 5) (.t 88)),oN 6 mF] .ret) .skip)) (.seq (rt 0 [oN 89 (lT 11 10),oN 90 (lT 3 11),⟨none,none,0,.store 11 (.t 4) (.t 89),[0,0]⟩,⟨none,none,0,.store 3 (.t 5) (.t 90),[1,2,0,1,2]⟩,oA 6 0 mT [3,0,1,2,3]]) .ret)))))))))⟩
structure xK (T : Tb) : Prop where
 hT : T 140 = some pX
 bP : eP T
 aP : fE T
 o8 : lJ T
 fO : jQ T
 Jq : sD T
 uw : tH T
theorem L6 {v w x y : V} {b : Bool} (h : bM v w) (h2 : bM x y) : bM (.eu [v,x,.bool b]) (.eu [w,y,.bool b]):=by
 simp only [bM,lW]
 exact ⟨_,rfl,_,_,rfl,h,_,_,rfl,h2,_,_,rfl,rfl,rfl⟩
def iK (k l : Lk) : R:=lQ k.w l.w
def Dt (k l : Lk) : R:=vF (lQ (mulR k.w k.dx) (mulR l.w l.dx)) (iK k l)
def IQ (k l : Lk) : R:=vF (lQ (mulR k.w k.dy) (mulR l.w l.dy)) (iK k l)
def L8 (k l : Lk) : R:=mulR (vF (mulR k.w l.w) (iK k l)) (sqR (FB k.dx l.dx) (FB k.dy l.dy))
theorem NT (k l : Lk) : (iK k l).cn:=D5 _ _
theorem aat (k l : Lk) : (Dt k l).cn:=D6 _ _
theorem aau (k l : Lk) : (IQ k l).cn:=D6 _ _
theorem aav (k l : Lk) : (L8 k l).cn:=Pj _ _
def mgL (k l : Lk) : Lk:=⟨k.a,k.b,iK k l,Dt k l,IQ k l⟩
def L9 (k l : Lk) : Bool:=(iK k l).ok && (Dt k l).ok && (IQ k l).ok && (L8 k l).ok
def mgP (k l : Lk) : Bool:=ji k && ji l && decide (k.a = l.a) && decide (k.b = l.b)
def RF (k l : Lk) : Bool:=mgP k l && L9 k l
def aaw (k l : Lk) : Lk:=if RF k l = true then mgL k l else Lk0
def aax (k l : Lk) : R:=if RF k l = true then L8 k l else R0
theorem afK {r s : R} (hr : 0 < tN r) (hs : 0 < tN s) (ho : (lQ r s).ok = true) : 0 < tN (lQ r s):=by
 unfold tN at *
 rw [ae8] at ho
 rw [ae7] at ho ⊢
 cases h1 : r.q with
 | none=>rw [h1] at hr;simp [l7] at hr
 |
  some a =>
  cases h2 : s.q with
  | none=>rw [h2] at hs;simp [l7] at hs
  |
   some b =>
   simp only [h1,h2] at ho hr hs ⊢
   simp only [JZ] at ho ⊢
   have hf : fits (a + b) = true:=by
    cases hf : fits (a + b) with
    | true=>rfl
    | false=>rw [Uk hf] at ho;exact absurd rfl ho
   rw [Uj hf]
   simp only [l7] at hr hs ⊢
   have pos : ∀ q : Rat,0 < sgn q.num ↔ 0 < q:=by
    intro q
    rw [Rat.lt_iff,show (0 : Rat).num = 0 from rfl,show (0 : Rat).den = 1 from rfl,Int.zero_mul,Int.natCast_one,Int.mul_one]
    unfold sgn
    split
    ·constructor <;> intro h <;> omega
    ·split
     ·constructor <;> intro h <;> omega
     ·constructor <;> intro h <;> omega
   rw [pos] at hr hs ⊢
   have h3 : a + 0 < a + b:=Rat.add_lt_add_left.2 hs
   rw [Rat.add_zero] at h3
   exact Std.lt_trans hr h3
theorem Yr {k l : Lk} (h : mgP k l = true) : ji (mgL k l) = ((iK k l).ok && (Dt k l).ok && (IQ k l).ok):=by
 unfold mgP at h
 simp only [Bool.and_eq_true,decide_eq_true_eq] at h
 obtain ⟨⟨⟨h1,h2⟩,_⟩,_⟩:=h
 have p1:=(LU h1).2.2.2
 have p2:=(LU h2).2.2.2
 have h1':=h1
 unfold ji at h1'
 simp only [Bool.and_eq_true] at h1'
 unfold ji mgL
 rw [h1'.1.1.1.1.1,h1'.1.1.1.1.2,h1'.1.1.1.2]
 cases hw : (iK k l).ok with
 |
  false =>
  have : ¬ 0 < l7 (iK k l).q:=by rw [uN.1 hw];simp [l7]
  simp [this]
 |
  true =>
  have : 0 < l7 (iK k l).q:=afK p1 p2 hw
  simp [this]
theorem TA {T : Tb} (h : xJ T) {k l : Lk} (hk : k.wf:=by exact Uz) (hl : l.wf:=by exact Uz) : PF T 196 [KO k,KO l] (.eu [KO (aaw k l),aU (aax k l),.bool (RF k l)]):=by
 have ck:=qF h.fV hk
 have cl:=qF h.fV hl
 have bad : mgP k l = false → bM (.eu [KO (aaw k l),aU (aax k l),.bool (RF k l)]) (.eu [.agg [iv 0,iv 0,.bool false,.ak,.ak,.bool false,.ak,.ak,.bool false,.ak,.ak],.agg [.bool false,.ak,.ak],.bool false]):=by
  intro hp
  unfold aaw aax RF
  rw [hp]
  exact L6 NS jf
 cases h1 : ji k
 ·have hp:=bad (by unfold mgP;rw [h1];rfl)
  rw [h1] at ck
  clear bad
  refine aK nR h.hT ?_
  simp only [fG,Lz]
  refine ev ?_
  refine ah ck ?_
  refine ev ?_
  exact hp
 rw [h1] at ck
 cases h2 : ji l
 ·have hp:=bad (by unfold mgP;rw [h1,h2];rfl)
  rw [h2] at cl
  clear bad
  refine aK nR h.hT ?_
  simp only [fG,Lz]
  refine ev ?_
  refine ah ck ?_
  refine ev ?_
  refine ah cl ?_
  refine ev ?_
  exact hp
 rw [h2] at cl
 by_cases h3 : k.a = l.a
 case neg =>
  have hp:=bad (by unfold mgP;rw [h1,h2,decide_eq_false h3];rfl)
  clear bad
  refine aK nR h.hT ?_
  simp only [fG,Lz]
  refine ev ?_
  refine ah ck ?_
  refine ev ?_
  refine ah cl ?_
  refine ev1 @h3 ?_
  exact hp
 by_cases h4 : k.b = l.b
 case neg =>
  have hp:=bad (by unfold mgP;rw [h1,h2,decide_eq_true h3,decide_eq_false h4];rfl)
  have h3' : (k.a = l.a) = True:=eq_true h3
  clear bad
  refine aK nR h.hT ?_
  simp only [fG,Lz]
  refine ev ?_
  refine ah ck ?_
  refine ev ?_
  refine ah cl ?_
  refine iP @h3' @h4 ?_
  exact hp
 have hp : mgP k l = true:=by unfold mgP;rw [h1,h2,decide_eq_true h3,decide_eq_true h4];rfl
 have hv:=Yr hp
 have h3' : (k.a = l.a) = True:=eq_true h3
 have h4' : (k.b = l.b) = True:=eq_true h4
 clear bad
 obtain ⟨k1,k2,k3⟩:=hk
 obtain ⟨l1,l2,l3⟩:=hl
 have e1 : aaw k l = if L9 k l = true then mgL k l else Lk0:=by unfold aaw RF;rw [hp,Bool.true_and]
 have e2 : aax k l = if L9 k l = true then L8 k l else R0:=by unfold aax RF;rw [hp,Bool.true_and]
 have e3 : RF k l = L9 k l:=by unfold RF;rw [hp,Bool.true_and]
 rw [e1,e2,e3]
 clear e1 e2 e3
 have cv:=qF h.fV (l:=mgL k l) ⟨dI (NT _ _),dI (aat _ _),dI (aau _ _)⟩
 have co:=jh h.aX (r:=L8 k l) (dI (aav _ _))
 rw [hv] at cv
 refine aK nR h.hT ?_
 simp only [fG,Lz]
 refine ev ?_
 refine ah ck ?_
 refine ev ?_
 refine ah cl ?_
 refine iP @h3' @h4' ?_
 refine ah (ru h.dJ k1 l1) ?_
 refine ev ?_
 refine ah (rC h.fM k1 k2) ?_
 refine ev ?_
 refine ah (rC h.fM l1 l2) ?_
 refine ev ?_
 refine ah (ru h.dJ Uz Uz) ?_
 refine ev ?_
 refine ah (FC h.oZ Uz Uz) ?_
 refine ev ?_
 refine ⟨by unfold iW;decide +kernel,?_⟩
 refine ev ?_
 refine ah (rC h.fM k1 k3) ?_
 refine ev ?_
 refine ah (rC h.fM l1 l3) ?_
 refine ev ?_
 refine ah (ru h.dJ Uz Uz) ?_
 refine ev ?_
 refine ah (FC h.oZ Uz Uz) ?_
 refine ev ?_
 refine ⟨by unfold iW;decide +kernel,?_⟩
 refine ev ?_
 refine ah (rC h.fM k1 l1) ?_
 refine ev ?_
 refine ah (FC h.oZ Uz Uz) ?_
 refine ev ?_
 refine ah (Jc h.uq k2 l2) ?_
 refine ev ?_
 refine ah (Jc h.uq k3 l3) ?_
 refine ev ?_
 refine ah (VN h.LZ Uz Uz) ?_
 refine ev ?_
 refine ah (rC h.fM Uz (dI (afz _ _))) ?_
 refine ev ?_
 refine ⟨by unfold iW;decide +kernel,?_⟩
 refine ev ?_
 have hG : L9 k l = (((iK k l).ok && (Dt k l).ok && (IQ k l).ok) && (L8 k l).ok):=rfl
 rw [hG]
 clear hG
 cases hg : ((iK k l).ok && (Dt k l).ok && (IQ k l).ok)
 ·rw [hg] at cv
  refine ah cv ?_
  refine ev ?_
  exact L6 NS jf
 rw [hg] at cv
 refine ah cv ?_
 refine ev ?_
 cases hE : (L8 k l).ok
 ·rw [hE] at co
  refine ah co ?_
  refine ev ?_
  exact L6 NS jf
 rw [hE] at co
 refine ah co ?_
 refine ev ?_
 refine ⟨by unfold iW;decide +kernel,?_⟩
 refine ev ?_
 exact aC _
theorem alL {σ : Store} {c9 d3 e3 t9 u3 v3 : List V} {os : List Nat} {n m : Int} {b : Bool} (h : dX σ (c9 ++ (d3 ++ e3)) (t9 ++ (u3 ++ v3)) os) (hl : c9.length = t9.length) (hl2 : d3.length = u3.length) (hn : os.Nodup) :
  Fin σ (.eu [.agg (.int .i64 n :: .int .i64 m :: c9),.agg e3,.bool b]) (.eu [.agg (.int .i64 n :: .int .i64 m :: t9),.agg v3,.bool b]):=by
 obtain ⟨a1,a2,o1,o2,e,rfl,h1,h2⟩:=gB h
 obtain ⟨rfl,rfl⟩:=List.append_inj e (by rw [hl];exact h1.len.symm)
 obtain ⟨a3,a4,o3,o4,e,rfl,h3,h4⟩:=gB h2
 obtain ⟨rfl,rfl⟩:=List.append_inj e (by rw [hl2];exact h3.len.symm)
 refine rY (os:=o1 ++ o4) (LG (jD (gQ (D9 (D9 h1))) ?_)) ?_
 ·have:=jD (gQ h4) (jC (b:=b) (σ:=σ) iq)
  rwa [List.append_nil] at this
 ·refine hn.sublist ?_
  exact List.Sublist.append (List.Sublist.refl _) (List.sublist_append_right _ _)
theorem Got.abv {σ σ2 : Store} {r : V} {x : Lk} {y : R} {b : Bool} {os : List Nat} (g : Got σ σ2 r (.eu [KO x,aU y,.bool b]) os) : ∃ c3 c4 c6 c7 c9 c10 e1 e2,r = .eu [.agg [iv x.a,iv x.b,.bool x.w.neg,c3,c4,.bool x.dx.neg,c6,c7,.bool x.dy.neg,c9,c10],.agg [.bool y.neg,e1,e2],.bool b] ∧
  dX σ2 [iv x.a,iv x.b,.bool x.w.neg,c3,c4,.bool x.dx.neg,c6,c7,.bool x.dy.neg,c9,c10,.bool y.neg,e1,e2] (x.cells ++ y.cells) os:=by
 obtain ⟨v,w,rfl,g2⟩:=g.aua
 obtain ⟨cs,e,h⟩:=g2.ow.dA
 cases e
 obtain ⟨v1,vs,o1,o2,e1,rfl,h1,h2⟩:=h.inv
 cases e1
 obtain ⟨w1,vs2,o3,o4,e1,rfl,h3,h4⟩:=h2.inv
 cases e1
 obtain ⟨_,rfl⟩:=h4.Ea
 obtain ⟨c,rfl,h5⟩:=h1.dA
 obtain ⟨e,rfl,h6⟩:=h3.dA
 obtain ⟨c3,c4,c6,c7,c9,c10,rfl⟩:=h5.lk
 obtain ⟨e1,e2,rfl⟩:=h6.rat
 refine ⟨c3,c4,c6,c7,c9,c10,e1,e2,rfl,?_⟩
 rw [List.append_nil]
 exact dG h5 h6
theorem PD {σ : Store} : Fin σ (.eu [.agg [iv 0,iv 0,.bool false,.ak,.ak,.bool false,.ak,.ak,.bool false,.ak,.ak],.agg [.bool false,.ak,.ak],.bool false]) (.eu [KO Lk0,aU R0,.bool false]) :=
 ⟨.eu [KO Lk0,aU R0,.bool false],[],L6 NS jf,LG (jD (o1:=[]) (gQ (D9 (D9 (jC (jD (o1:=[]) gy (jD (o1:=[]) gy (jC (jD (o1:=[]) gy (jD (o1:=[]) gy (jC (jD (o1:=[]) gy (jD (o1:=[]) gy iq))))))))))))
  (jD (o1:=[]) (gQ (jC (jD (o1:=[]) gy (jD (o1:=[]) gy iq)))) (jC iq))),.nil⟩
theorem JF {T : Tb} (h : xK T) {k l : Lk} (hk : k.w.cn ∧ k.dx.cn ∧ k.dy.cn) (hl : l.w.cn ∧ l.dx.cn ∧ l.dy.cn) : PO T 140 [KO k,KO l] (.eu [KO (if L9 k l = true then mgL k l else Lk0),aU (if L9 k l = true then L8 k l else R0),.bool (L9 k l)]):=by
 obtain ⟨k1,k2,k3⟩:=hk
 obtain ⟨l1,l2,l3⟩:=hl
 refine eX (fun x d=>(x == 131 && d == 18) || (x == 156 && d == 35) || (x == 156 && d == 47) || (x == 156 && d == 53) || (x == 157 && d == 65)) h.hT ?_
 simp only [pX,Lz,St.enter,List.length_cons,List.length_nil,Nat.zero_add]
 refine ew ?_
 refine ⟨by unfold iW;decide +kernel,?_⟩
 refine ew ?_
 refine eH (show PO T 131 [aU k.w,aU l.w] (aU (iK k l)) from Ku h.bP k1 l1) (by (refine ew ?_;try with_reducible exact True.intro)) ?_
 intro r q1 o1 G
 have hO:=G.ow
 have gn:=G.nd
 have gf:=G.fresh
 have go:=G.old
 have gl:=G.len
 clear G
 obtain ⟨_,rfl,hQ1⟩:=hO.dA
 obtain ⟨x1,x2,rfl⟩:=hQ1.rat
 have E : Ep [some ⟨11,[[iv k.a,iv k.b,.bool k.w.neg,ints k.w.mag,ints k.w.den,.bool k.dx.neg,ints k.dx.mag,ints k.dx.den,.bool k.dy.neg,ints k.dy.mag,ints k.dy.den]]⟩,some ⟨11,[[iv l.a,iv l.b,.bool l.w.neg,ints l.w.mag,ints l.w.den,.bool l.dx.neg,ints l.dx.mag,ints l.dx.den,.bool l.dy.neg,ints l.dy.mag,ints l.dy.den]]⟩,some ⟨11,[[iv 0,iv 0,.bool false,.ak,.ak,.bool false,.ak,.ak,.bool false,.ak,.ak]]⟩,some ⟨3,[[.bool false,.ak,.ak]]⟩,some ⟨3,[[.bool k.w.neg,ints k.w.mag,ints k.w.den]]⟩,some ⟨3,[[.bool l.w.neg,ints l.w.mag,ints l.w.den]]⟩] [] [] [] [(0,⟨11,[[iv k.a,iv k.b,.bool k.w.neg,ints k.w.mag,ints k.w.den,.bool k.dx.neg,ints k.dx.mag,ints k.dx.den,.bool k.dy.neg,ints k.dy.mag,ints k.dy.den]]⟩),(1,⟨11,[[iv l.a,iv l.b,.bool l.w.neg,ints l.w.mag,ints l.w.den,.bool l.dx.neg,ints l.dx.mag,ints l.dx.den,.bool l.dy.neg,ints l.dy.mag,ints l.dy.den]]⟩),(2,⟨11,[[iv 0,iv 0,.bool false,.ak,.ak,.bool false,.ak,.ak,.bool false,.ak,.ak]]⟩),(3,⟨3,[[.bool false,.ak,.ak]]⟩),(4,⟨3,[[.bool k.w.neg,ints k.w.mag,ints k.w.den]]⟩),(5,⟨3,[[.bool l.w.neg,ints l.w.mag,ints l.w.den]]⟩)]:=⟨QZ,by simp [aj]⟩
 have E2:=E.got (s1:=[some ⟨11,[[iv k.a,iv k.b,.bool k.w.neg,ints k.w.mag,ints k.w.den,.bool k.dx.neg,ints k.dx.mag,ints k.dx.den,.bool k.dy.neg,ints k.dy.mag,ints k.dy.den]]⟩,some ⟨11,[[iv l.a,iv l.b,.bool l.w.neg,ints l.w.mag,ints l.w.den,.bool l.dx.neg,ints l.dx.mag,ints l.dx.den,.bool l.dy.neg,ints l.dy.mag,ints l.dy.den]]⟩,some ⟨11,[[iv 0,iv 0,.bool false,.ak,.ak,.bool false,.ak,.ak,.bool false,.ak,.ak]]⟩,some ⟨3,[[.bool false,.ak,.ak]]⟩,some ⟨3,[[.bool k.w.neg,ints k.w.mag,ints k.w.den]]⟩,some ⟨3,[[.bool l.w.neg,ints l.w.mag,ints l.w.den]]⟩] ++ [none]) (fun q hq=>by first | exact eY hq | (simp only [List.append_assoc];exact eY hq)) (by simp) (hQ1) (by simpa using gn) (by simpa using gf) (by simpa using go)
 have F0:=E.free (s1:=[some ⟨11,[[iv k.a,iv k.b,.bool k.w.neg,ints k.w.mag,ints k.w.den,.bool k.dx.neg,ints k.dx.mag,ints k.dx.den,.bool k.dy.neg,ints k.dy.mag,ints k.dy.den]]⟩,some ⟨11,[[iv l.a,iv l.b,.bool l.w.neg,ints l.w.mag,ints l.w.den,.bool l.dx.neg,ints l.dx.mag,ints l.dx.den,.bool l.dy.neg,ints l.dy.mag,ints l.dy.den]]⟩,some ⟨11,[[iv 0,iv 0,.bool false,.ak,.ak,.bool false,.ak,.ak,.bool false,.ak,.ak]]⟩,some ⟨3,[[.bool false,.ak,.ak]]⟩,some ⟨3,[[.bool k.w.neg,ints k.w.mag,ints k.w.den]]⟩,some ⟨3,[[.bool l.w.neg,ints l.w.mag,ints l.w.den]]⟩] ++ [none]) (p:=6) (by simpa using gf) (by simp) (by simp)
 have hq : 7 ≤ q1.length:=by simpa using gl
 clear E gn gf go gl
 have E : Ep q1 [.bool (iK k l).neg,x1,x2] [.bool (iK k l).neg,ints (iK k l).mag,ints (iK k l).den] _ [(0,⟨11,[[iv k.a,iv k.b,.bool k.w.neg,ints k.w.mag,ints k.w.den,.bool k.dx.neg,ints k.dx.mag,ints k.dx.den,.bool k.dy.neg,ints k.dy.mag,ints k.dy.den]]⟩),(1,⟨11,[[iv l.a,iv l.b,.bool l.w.neg,ints l.w.mag,ints l.w.den,.bool l.dx.neg,ints l.dx.mag,ints l.dx.den,.bool l.dy.neg,ints l.dy.mag,ints l.dy.den]]⟩),(2,⟨11,[[iv 0,iv 0,.bool false,.ak,.ak,.bool false,.ak,.ak,.bool false,.ak,.ak]]⟩),(3,⟨3,[[.bool false,.ak,.ak]]⟩),(4,⟨3,[[.bool k.w.neg,ints k.w.mag,ints k.w.den]]⟩),(5,⟨3,[[.bool l.w.neg,ints l.w.mag,ints l.w.den]]⟩)]:=E2
 clear E2
 replace E:=E.FI (p:=6) (ob:=⟨3,[[.bool (iK k l).neg,x1,x2]]⟩) (L':=[(0,⟨11,[[iv k.a,iv k.b,.bool k.w.neg,ints k.w.mag,ints k.w.den,.bool k.dx.neg,ints k.dx.mag,ints k.dx.den,.bool k.dy.neg,ints k.dy.mag,ints k.dy.den]]⟩),(1,⟨11,[[iv l.a,iv l.b,.bool l.w.neg,ints l.w.mag,ints l.w.den,.bool l.dx.neg,ints l.dx.mag,ints l.dx.den,.bool l.dy.neg,ints l.dy.mag,ints l.dy.den]]⟩),(2,⟨11,[[iv 0,iv 0,.bool false,.ak,.ak,.bool false,.ak,.ak,.bool false,.ak,.ak]]⟩),(3,⟨3,[[.bool false,.ak,.ak]]⟩),(4,⟨3,[[.bool k.w.neg,ints k.w.mag,ints k.w.den]]⟩),(5,⟨3,[[.bool l.w.neg,ints l.w.mag,ints l.w.den]]⟩),(6,⟨3,[[.bool (iK k l).neg,x1,x2]]⟩)]) F0 (by omega) (by simp)
 have R:=And.intro (E.res1 1 rfl rfl (au _ _)) (And.intro (fun x=>(E.snoc (x:=x)).res1 1 rfl rfl (au _ _)) (And.intro (E.res1 2 rfl rfl (au _ _)) (fun x=>(E.snoc (x:=x)).res1 2 rfl rfl (au _ _))))
 have LF:=And.intro (E.leaf 1 rfl rfl) (E.leaf 2 rfl rfl)
 have LO:=And.intro (E.at0 (p:=0) (ob:=⟨11,[[iv k.a,iv k.b,.bool k.w.neg,ints k.w.mag,ints k.w.den,.bool k.dx.neg,ints k.dx.mag,ints k.dx.den,.bool k.dy.neg,ints k.dy.mag,ints k.dy.den]]⟩) (by simp)) (And.intro (E.at0 (p:=1) (ob:=⟨11,[[iv l.a,iv l.b,.bool l.w.neg,ints l.w.mag,ints l.w.den,.bool l.dx.neg,ints l.dx.mag,ints l.dx.den,.bool l.dy.neg,ints l.dy.mag,ints l.dy.den]]⟩) (by simp)) (And.intro (E.at0 (p:=2) (ob:=⟨11,[[iv 0,iv 0,.bool false,.ak,.ak,.bool false,.ak,.ak,.bool false,.ak,.ak]]⟩) (by simp)) (And.intro (E.at0 (p:=3) (ob:=⟨3,[[.bool false,.ak,.ak]]⟩) (by simp)) (And.intro (E.at0 (p:=4) (ob:=⟨3,[[.bool k.w.neg,ints k.w.mag,ints k.w.den]]⟩) (by simp)) (And.intro (E.at0 (p:=5) (ob:=⟨3,[[.bool l.w.neg,ints l.w.mag,ints l.w.den]]⟩) (by simp)) (E.at0 (p:=6) (ob:=⟨3,[[.bool (iK k l).neg,x1,x2]]⟩) (by simp)))))))
 refine vW @R @LF @LO @aB @aS @List.set_set.{0} ?_
 obtain ⟨s1,hs⟩ : ∃ s,(q1.set 6 (some ⟨3,[[.bool (iK k l).neg,x1,x2]]⟩)) = s:=⟨_,rfl⟩
 have hls : q1.length = s1.length:=by rw [← hs];simp
 simp only [hs] at *
 clear hs
 simp only [hls] at *
 clear hls R LF LO
 have R:=And.intro (E.res1 1 rfl rfl (au _ _)) (And.intro (fun x=>(E.snoc (x:=x)).res1 1 rfl rfl (au _ _)) (And.intro (E.res1 2 rfl rfl (au _ _)) (fun x=>(E.snoc (x:=x)).res1 2 rfl rfl (au _ _))))
 have LF:=And.intro (E.leaf 1 rfl rfl) (E.leaf 2 rfl rfl)
 have LO:=And.intro (E.at0 (p:=0) (ob:=⟨11,[[iv k.a,iv k.b,.bool k.w.neg,ints k.w.mag,ints k.w.den,.bool k.dx.neg,ints k.dx.mag,ints k.dx.den,.bool k.dy.neg,ints k.dy.mag,ints k.dy.den]]⟩) (by simp)) (And.intro (E.at0 (p:=1) (ob:=⟨11,[[iv l.a,iv l.b,.bool l.w.neg,ints l.w.mag,ints l.w.den,.bool l.dx.neg,ints l.dx.mag,ints l.dx.den,.bool l.dy.neg,ints l.dy.mag,ints l.dy.den]]⟩) (by simp)) (And.intro (E.at0 (p:=2) (ob:=⟨11,[[iv 0,iv 0,.bool false,.ak,.ak,.bool false,.ak,.ak,.bool false,.ak,.ak]]⟩) (by simp)) (And.intro (E.at0 (p:=3) (ob:=⟨3,[[.bool false,.ak,.ak]]⟩) (by simp)) (And.intro (E.at0 (p:=4) (ob:=⟨3,[[.bool k.w.neg,ints k.w.mag,ints k.w.den]]⟩) (by simp)) (And.intro (E.at0 (p:=5) (ob:=⟨3,[[.bool l.w.neg,ints l.w.mag,ints l.w.den]]⟩) (by simp)) (E.at0 (p:=6) (ob:=⟨3,[[.bool (iK k l).neg,x1,x2]]⟩) (by simp)))))))
 refine vW @R @LF @LO @aB @aS @List.set_set.{0} ?_
 have E2:=E.push (ob:=⟨11,[[.int .i64 k.a,.int .i64 k.b,.bool (iK k l).neg,x1,x2,.bool false,.ak,.ak,.bool false,.ak,.ak]]⟩)
 clear E
 have E : Ep ((s1 ++ [none]).set s1.length (some ⟨11,[[.int .i64 k.a,.int .i64 k.b,.bool (iK k l).neg,x1,x2,.bool false,.ak,.ak,.bool false,.ak,.ak]]⟩)) [.bool (iK k l).neg,x1,x2] [.bool (iK k l).neg,ints (iK k l).mag,ints (iK k l).den] ([] ++ o1) [(0,⟨11,[[iv k.a,iv k.b,.bool k.w.neg,ints k.w.mag,ints k.w.den,.bool k.dx.neg,ints k.dx.mag,ints k.dx.den,.bool k.dy.neg,ints k.dy.mag,ints k.dy.den]]⟩),(1,⟨11,[[iv l.a,iv l.b,.bool l.w.neg,ints l.w.mag,ints l.w.den,.bool l.dx.neg,ints l.dx.mag,ints l.dx.den,.bool l.dy.neg,ints l.dy.mag,ints l.dy.den]]⟩),(2,⟨11,[[iv 0,iv 0,.bool false,.ak,.ak,.bool false,.ak,.ak,.bool false,.ak,.ak]]⟩),(3,⟨3,[[.bool false,.ak,.ak]]⟩),(4,⟨3,[[.bool k.w.neg,ints k.w.mag,ints k.w.den]]⟩),(5,⟨3,[[.bool l.w.neg,ints l.w.mag,ints l.w.den]]⟩),(6,⟨3,[[.bool (iK k l).neg,x1,x2]]⟩),(s1.length,⟨11,[[.int .i64 k.a,.int .i64 k.b,.bool (iK k l).neg,x1,x2,.bool false,.ak,.ak,.bool false,.ak,.ak]]⟩)]:=by rw [X3];exact E2
 clear E2 R LF LO
 obtain ⟨p10,hp⟩ : ∃ p,s1.length = p:=⟨_,rfl⟩
 obtain ⟨s2,hs⟩ : ∃ s,((s1 ++ [none]).set s1.length (some ⟨11,[[.int .i64 k.a,.int .i64 k.b,.bool (iK k l).neg,x1,x2,.bool false,.ak,.ak,.bool false,.ak,.ak]]⟩)) = s:=⟨_,rfl⟩
 have hls : s2.length = p10 + 1:=by rw [← hs,← hp];simp
 simp only [hs] at *
 clear hs
 simp only [hp] at *
 clear hp
 have R:=And.intro (E.res1 1 rfl rfl (au _ _)) (And.intro (fun x=>(E.snoc (x:=x)).res1 1 rfl rfl (au _ _)) (And.intro (E.res1 2 rfl rfl (au _ _)) (fun x=>(E.snoc (x:=x)).res1 2 rfl rfl (au _ _))))
 have LF:=And.intro (E.leaf 1 rfl rfl) (E.leaf 2 rfl rfl)
 have LO:=And.intro (E.at0 (p:=0) (ob:=⟨11,[[iv k.a,iv k.b,.bool k.w.neg,ints k.w.mag,ints k.w.den,.bool k.dx.neg,ints k.dx.mag,ints k.dx.den,.bool k.dy.neg,ints k.dy.mag,ints k.dy.den]]⟩) (by simp)) (And.intro (E.at0 (p:=1) (ob:=⟨11,[[iv l.a,iv l.b,.bool l.w.neg,ints l.w.mag,ints l.w.den,.bool l.dx.neg,ints l.dx.mag,ints l.dx.den,.bool l.dy.neg,ints l.dy.mag,ints l.dy.den]]⟩) (by simp)) (And.intro (E.at0 (p:=2) (ob:=⟨11,[[iv 0,iv 0,.bool false,.ak,.ak,.bool false,.ak,.ak,.bool false,.ak,.ak]]⟩) (by simp)) (And.intro (E.at0 (p:=3) (ob:=⟨3,[[.bool false,.ak,.ak]]⟩) (by simp)) (And.intro (E.at0 (p:=4) (ob:=⟨3,[[.bool k.w.neg,ints k.w.mag,ints k.w.den]]⟩) (by simp)) (And.intro (E.at0 (p:=5) (ob:=⟨3,[[.bool l.w.neg,ints l.w.mag,ints l.w.den]]⟩) (by simp)) (And.intro (E.at0 (p:=6) (ob:=⟨3,[[.bool (iK k l).neg,x1,x2]]⟩) (by simp)) (E.at0 (p:=p10) (ob:=⟨11,[[.int .i64 k.a,.int .i64 k.b,.bool (iK k l).neg,x1,x2,.bool false,.ak,.ak,.bool false,.ak,.ak]]⟩) (by simp))))))))
 refine ah (vT h.fO k1 k2) ?_
 refine vW @R @LF @LO @aB @aS @List.set_set.{0} ?_
 refine ah (vT h.fO l1 l2) ?_
 refine vW @R @LF @LO @aB @aS @List.set_set.{0} ?_
 refine ah (yH h.bP LD LD) ?_
 refine vW @R @LF @LO @aB @aS @List.set_set.{0} ?_
 refine Jg (fun o=>o ∈ ([] ++ o1)) (show PO T 156 [aU (lQ (mulR k.w k.dx) (mulR l.w l.dx)),aU (iK k l)] (aU (Dt k l)) from Kv h.o8 LD (NT k l)) (by (refine vW @R @LF @LO @aB @aS @List.set_set.{0} ?_;try with_reducible exact True.intro)) ?_ ?_
 ·intro o ho
  have ho : o ∈ reach s2 FD (aU (lQ (mulR k.w k.dx) (mulR l.w l.dx))) ++ (reach s2 (11 + 1) (.agg [.bool (iK k l).neg,x1,x2]) ++ []):=ho
  rw [show reach s2 FD (aU (lQ (mulR k.w k.dx) (mulR l.w l.dx))) = [] from by (refine ew ?_;try with_reducible exact True.intro),List.nil_append,List.append_nil] at ho
  obtain ⟨c,hc,ho⟩:=FK.1 ho
  rcases List.mem_cons.1 hc with e | hc
  ·rw [e] at ho;simp [reach] at ho
  rcases List.mem_cons.1 hc with e | hc
  ·rw [e] at ho;exact E.reach 1 rfl rfl _ o ho
  ·rw [List.mem_singleton.1 hc] at ho;exact E.reach 2 rfl rfl _ o ho
 intro Rr r q3 o3 hRr G
 have hO:=G.ow
 have gn:=G.nd
 have gf:=G.fresh
 have go:=G.old
 have gl:=G.len
 clear G
 obtain ⟨_,rfl,hQ3⟩:=hO.dA
 obtain ⟨x3,x4,rfl⟩:=hQ3.rat
 have E2:=E.got (s1:=s2) (fun q hq=>rfl) (Nat.le_refl _) hQ3 gn gf go
 have F : p10 ∉ ([] ++ o1) ++ o3:=by
  intro hm
  rcases List.mem_append.1 hm with hm | hm
  ·exact (E.l (p10,⟨11,[[.int .i64 k.a,.int .i64 k.b,.bool (iK k l).neg,x1,x2,.bool false,.ak,.ak,.bool false,.ak,.ak]]⟩) (by simp)).2 hm
  ·have:=gf _ hm;omega
 have hq3 : p10 + 1 ≤ q3.length:=by omega
 have hRn : ∀ o ∈ Rr,o ≠ p10:=fun o ho e=>(E.l (p10,⟨11,[[.int .i64 k.a,.int .i64 k.b,.bool (iK k l).neg,x1,x2,.bool false,.ak,.ak,.bool false,.ak,.ak]]⟩) (by simp)).2 (e ▸ hRr o ho)
 clear E gn gf go gl hO R LF LO hRr
 have E : Ep q3 [.bool (iK k l).neg,x1,x2,.bool (Dt k l).neg,x3,x4] [.bool (iK k l).neg,ints (iK k l).mag,ints (iK k l).den,.bool (Dt k l).neg,ints (Dt k l).mag,ints (Dt k l).den] (([] ++ o1) ++ o3) [(0,⟨11,[[iv k.a,iv k.b,.bool k.w.neg,ints k.w.mag,ints k.w.den,.bool k.dx.neg,ints k.dx.mag,ints k.dx.den,.bool k.dy.neg,ints k.dy.mag,ints k.dy.den]]⟩),(1,⟨11,[[iv l.a,iv l.b,.bool l.w.neg,ints l.w.mag,ints l.w.den,.bool l.dx.neg,ints l.dx.mag,ints l.dx.den,.bool l.dy.neg,ints l.dy.mag,ints l.dy.den]]⟩),(2,⟨11,[[iv 0,iv 0,.bool false,.ak,.ak,.bool false,.ak,.ak,.bool false,.ak,.ak]]⟩),(3,⟨3,[[.bool false,.ak,.ak]]⟩),(4,⟨3,[[.bool k.w.neg,ints k.w.mag,ints k.w.den]]⟩),(5,⟨3,[[.bool l.w.neg,ints l.w.mag,ints l.w.den]]⟩),(6,⟨3,[[.bool (iK k l).neg,x1,x2]]⟩),(p10,⟨11,[[.int .i64 k.a,.int .i64 k.b,.bool (iK k l).neg,x1,x2,.bool false,.ak,.ak,.bool false,.ak,.ak]]⟩)]:=E2
 clear E2
 have R:=And.intro (E.res1 1 rfl rfl (au _ _)) (And.intro (fun x=>(E.snoc (x:=x)).res1 1 rfl rfl (au _ _)) (And.intro (E.res1 2 rfl rfl (au _ _)) (And.intro (fun x=>(E.snoc (x:=x)).res1 2 rfl rfl (au _ _)) (And.intro (E.res1 4 rfl rfl (au _ _)) (And.intro (fun x=>(E.snoc (x:=x)).res1 4 rfl rfl (au _ _)) (And.intro (E.res1 5 rfl rfl (au _ _)) (fun x=>(E.snoc (x:=x)).res1 5 rfl rfl (au _ _))))))))
 have LF:=And.intro (E.leaf 1 rfl rfl) (And.intro (E.leaf 2 rfl rfl) (And.intro (E.leaf 4 rfl rfl) (E.leaf 5 rfl rfl)))
 have LO:=And.intro (E.at0 (p:=0) (ob:=⟨11,[[iv k.a,iv k.b,.bool k.w.neg,ints k.w.mag,ints k.w.den,.bool k.dx.neg,ints k.dx.mag,ints k.dx.den,.bool k.dy.neg,ints k.dy.mag,ints k.dy.den]]⟩) (by simp)) (And.intro (E.at0 (p:=1) (ob:=⟨11,[[iv l.a,iv l.b,.bool l.w.neg,ints l.w.mag,ints l.w.den,.bool l.dx.neg,ints l.dx.mag,ints l.dx.den,.bool l.dy.neg,ints l.dy.mag,ints l.dy.den]]⟩) (by simp)) (And.intro (E.at0 (p:=2) (ob:=⟨11,[[iv 0,iv 0,.bool false,.ak,.ak,.bool false,.ak,.ak,.bool false,.ak,.ak]]⟩) (by simp)) (And.intro (E.at0 (p:=3) (ob:=⟨3,[[.bool false,.ak,.ak]]⟩) (by simp)) (And.intro (E.at0 (p:=4) (ob:=⟨3,[[.bool k.w.neg,ints k.w.mag,ints k.w.den]]⟩) (by simp)) (And.intro (E.at0 (p:=5) (ob:=⟨3,[[.bool l.w.neg,ints l.w.mag,ints l.w.den]]⟩) (by simp)) (And.intro (E.at0 (p:=6) (ob:=⟨3,[[.bool (iK k l).neg,x1,x2]]⟩) (by simp)) (E.at0 (p:=p10) (ob:=⟨11,[[.int .i64 k.a,.int .i64 k.b,.bool (iK k l).neg,x1,x2,.bool false,.ak,.ak,.bool false,.ak,.ak]]⟩) (by simp))))))))
 refine vW @R @LF @LO @aB @aS @List.set_set.{0} ?_
 refine ⟨?_,?_⟩
 ·revert Rr
  refine Jh _ (fun R=>∀ o ∈ R,o ≠ p10) 2 10 rfl (fun _=>rfl) ?_ ?_
  ·intro R hR b hb w hw hm
   simp only [List.mem_cons,List.not_mem_nil,or_false] at hb
   rcases hb with rfl | rfl | rfl | rfl | rfl | rfl | rfl | rfl | rfl | rfl | rfl | rfl | rfl
   all_goals first | (cases hw;done) | (rw [List.mem_singleton.1 hw] at hm;exact hR _ hm rfl)
  ·have hn0 : 7 ≤ p10:=hq
   generalize p10 = m at hn0 ⊢
   revert m
   refine qH _ _ 7 (fun n hn=>?_) (fun n hn=>?_) ?_
   ·simp only [sh];split <;> omega
   ·simp [SE,sh];try omega
   ·unfold iW;decide +kernel
 clear hRn Rr
 replace E:=E.FI (p:=p10) (ob:=⟨11,[[.int .i64 k.a,.int .i64 k.b,.bool (iK k l).neg,x1,x2,.bool (Dt k l).neg,x3,x4,.bool false,.ak,.ak]]⟩) (L':=[(0,⟨11,[[iv k.a,iv k.b,.bool k.w.neg,ints k.w.mag,ints k.w.den,.bool k.dx.neg,ints k.dx.mag,ints k.dx.den,.bool k.dy.neg,ints k.dy.mag,ints k.dy.den]]⟩),(1,⟨11,[[iv l.a,iv l.b,.bool l.w.neg,ints l.w.mag,ints l.w.den,.bool l.dx.neg,ints l.dx.mag,ints l.dx.den,.bool l.dy.neg,ints l.dy.mag,ints l.dy.den]]⟩),(2,⟨11,[[iv 0,iv 0,.bool false,.ak,.ak,.bool false,.ak,.ak,.bool false,.ak,.ak]]⟩),(3,⟨3,[[.bool false,.ak,.ak]]⟩),(4,⟨3,[[.bool k.w.neg,ints k.w.mag,ints k.w.den]]⟩),(5,⟨3,[[.bool l.w.neg,ints l.w.mag,ints l.w.den]]⟩),(6,⟨3,[[.bool (iK k l).neg,x1,x2]]⟩),(p10,⟨11,[[.int .i64 k.a,.int .i64 k.b,.bool (iK k l).neg,x1,x2,.bool (Dt k l).neg,x3,x4,.bool false,.ak,.ak]]⟩)]) F (by omega) (by simp;try omega)
 clear R LF LO F
 obtain ⟨s3,hs⟩ : ∃ s,(q3.set p10 (some ⟨11,[[.int .i64 k.a,.int .i64 k.b,.bool (iK k l).neg,x1,x2,.bool (Dt k l).neg,x3,x4,.bool false,.ak,.ak]]⟩)) = s:=⟨_,rfl⟩
 have hls : q3.length = s3.length:=by rw [← hs];simp
 simp only [hs] at *
 clear hs
 simp only [hls] at *
 clear hls
 have R:=And.intro (E.res1 1 rfl rfl (au _ _)) (And.intro (fun x=>(E.snoc (x:=x)).res1 1 rfl rfl (au _ _)) (And.intro (E.res1 2 rfl rfl (au _ _)) (And.intro (fun x=>(E.snoc (x:=x)).res1 2 rfl rfl (au _ _)) (And.intro (E.res1 4 rfl rfl (au _ _)) (And.intro (fun x=>(E.snoc (x:=x)).res1 4 rfl rfl (au _ _)) (And.intro (E.res1 5 rfl rfl (au _ _)) (fun x=>(E.snoc (x:=x)).res1 5 rfl rfl (au _ _))))))))
 have LF:=And.intro (E.leaf 1 rfl rfl) (And.intro (E.leaf 2 rfl rfl) (And.intro (E.leaf 4 rfl rfl) (E.leaf 5 rfl rfl)))
 have LO:=And.intro (E.at0 (p:=0) (ob:=⟨11,[[iv k.a,iv k.b,.bool k.w.neg,ints k.w.mag,ints k.w.den,.bool k.dx.neg,ints k.dx.mag,ints k.dx.den,.bool k.dy.neg,ints k.dy.mag,ints k.dy.den]]⟩) (by simp)) (And.intro (E.at0 (p:=1) (ob:=⟨11,[[iv l.a,iv l.b,.bool l.w.neg,ints l.w.mag,ints l.w.den,.bool l.dx.neg,ints l.dx.mag,ints l.dx.den,.bool l.dy.neg,ints l.dy.mag,ints l.dy.den]]⟩) (by simp)) (And.intro (E.at0 (p:=2) (ob:=⟨11,[[iv 0,iv 0,.bool false,.ak,.ak,.bool false,.ak,.ak,.bool false,.ak,.ak]]⟩) (by simp)) (And.intro (E.at0 (p:=3) (ob:=⟨3,[[.bool false,.ak,.ak]]⟩) (by simp)) (And.intro (E.at0 (p:=4) (ob:=⟨3,[[.bool k.w.neg,ints k.w.mag,ints k.w.den]]⟩) (by simp)) (And.intro (E.at0 (p:=5) (ob:=⟨3,[[.bool l.w.neg,ints l.w.mag,ints l.w.den]]⟩) (by simp)) (And.intro (E.at0 (p:=6) (ob:=⟨3,[[.bool (iK k l).neg,x1,x2]]⟩) (by simp)) (E.at0 (p:=p10) (ob:=⟨11,[[.int .i64 k.a,.int .i64 k.b,.bool (iK k l).neg,x1,x2,.bool (Dt k l).neg,x3,x4,.bool false,.ak,.ak]]⟩) (by simp))))))))
 have awU : p10 + 1 ≤ s3.length:=by omega
 refine ah (vT h.fO k1 k3) ?_
 refine vW @R @LF @LO @aB @aS @List.set_set.{0} ?_
 refine ah (vT h.fO l1 l3) ?_
 refine vW @R @LF @LO @aB @aS @List.set_set.{0} ?_
 refine ah (yH h.bP LD LD) ?_
 refine vW @R @LF @LO @aB @aS @List.set_set.{0} ?_
 refine Jg (fun o=>o ∈ (([] ++ o1) ++ o3)) (show PO T 156 [aU (lQ (mulR k.w k.dy) (mulR l.w l.dy)),aU (iK k l)] (aU (IQ k l)) from Kv h.o8 LD (NT k l)) (by (refine vW @R @LF @LO @aB @aS @List.set_set.{0} ?_;try with_reducible exact True.intro)) ?_ ?_
 ·intro o ho
  have ho : o ∈ reach s3 FD (aU (lQ (mulR k.w k.dy) (mulR l.w l.dy))) ++ (reach s3 (11 + 1) (.agg [.bool (iK k l).neg,x1,x2]) ++ []):=ho
  rw [show reach s3 FD (aU (lQ (mulR k.w k.dy) (mulR l.w l.dy))) = [] from by (refine ew ?_;try with_reducible exact True.intro),List.nil_append,List.append_nil] at ho
  obtain ⟨c,hc,ho⟩:=FK.1 ho
  rcases List.mem_cons.1 hc with e | hc
  ·rw [e] at ho;simp [reach] at ho
  rcases List.mem_cons.1 hc with e | hc
  ·rw [e] at ho;exact E.reach 1 rfl rfl _ o ho
  ·rw [List.mem_singleton.1 hc] at ho;exact E.reach 2 rfl rfl _ o ho
 intro Rr r q5 o5 hRr G
 have hO:=G.ow
 have gn:=G.nd
 have gf:=G.fresh
 have go:=G.old
 have gl:=G.len
 clear G
 obtain ⟨_,rfl,hQ5⟩:=hO.dA
 obtain ⟨x5,x6,rfl⟩:=hQ5.rat
 have E2:=E.got (s1:=s3) (fun q hq=>rfl) (Nat.le_refl _) hQ5 gn gf go
 have F : p10 ∉ (([] ++ o1) ++ o3) ++ o5:=by
  intro hm
  rcases List.mem_append.1 hm with hm | hm
  ·exact (E.l (p10,⟨11,[[.int .i64 k.a,.int .i64 k.b,.bool (iK k l).neg,x1,x2,.bool (Dt k l).neg,x3,x4,.bool false,.ak,.ak]]⟩) (by simp)).2 hm
  ·have:=gf _ hm;omega
 have hq5 : p10 + 1 ≤ q5.length:=by omega
 have hRn : ∀ o ∈ Rr,o ≠ p10:=fun o ho e=>(E.l (p10,⟨11,[[.int .i64 k.a,.int .i64 k.b,.bool (iK k l).neg,x1,x2,.bool (Dt k l).neg,x3,x4,.bool false,.ak,.ak]]⟩) (by simp)).2 (e ▸ hRr o ho)
 clear E gn gf go gl hO R LF LO hRr
 have E : Ep q5 [.bool (iK k l).neg,x1,x2,.bool (Dt k l).neg,x3,x4,.bool (IQ k l).neg,x5,x6] [.bool (iK k l).neg,ints (iK k l).mag,ints (iK k l).den,.bool (Dt k l).neg,ints (Dt k l).mag,ints (Dt k l).den,.bool (IQ k l).neg,ints (IQ k l).mag,ints (IQ k l).den] ((([] ++ o1) ++ o3) ++ o5) [(0,⟨11,[[iv k.a,iv k.b,.bool k.w.neg,ints k.w.mag,ints k.w.den,.bool k.dx.neg,ints k.dx.mag,ints k.dx.den,.bool k.dy.neg,ints k.dy.mag,ints k.dy.den]]⟩),(1,⟨11,[[iv l.a,iv l.b,.bool l.w.neg,ints l.w.mag,ints l.w.den,.bool l.dx.neg,ints l.dx.mag,ints l.dx.den,.bool l.dy.neg,ints l.dy.mag,ints l.dy.den]]⟩),(2,⟨11,[[iv 0,iv 0,.bool false,.ak,.ak,.bool false,.ak,.ak,.bool false,.ak,.ak]]⟩),(3,⟨3,[[.bool false,.ak,.ak]]⟩),(4,⟨3,[[.bool k.w.neg,ints k.w.mag,ints k.w.den]]⟩),(5,⟨3,[[.bool l.w.neg,ints l.w.mag,ints l.w.den]]⟩),(6,⟨3,[[.bool (iK k l).neg,x1,x2]]⟩),(p10,⟨11,[[.int .i64 k.a,.int .i64 k.b,.bool (iK k l).neg,x1,x2,.bool (Dt k l).neg,x3,x4,.bool false,.ak,.ak]]⟩)]:=E2
 clear E2
 have R:=And.intro (E.res1 1 rfl rfl (au _ _)) (And.intro (fun x=>(E.snoc (x:=x)).res1 1 rfl rfl (au _ _)) (And.intro (E.res1 2 rfl rfl (au _ _)) (And.intro (fun x=>(E.snoc (x:=x)).res1 2 rfl rfl (au _ _)) (And.intro (E.res1 4 rfl rfl (au _ _)) (And.intro (fun x=>(E.snoc (x:=x)).res1 4 rfl rfl (au _ _)) (And.intro (E.res1 5 rfl rfl (au _ _)) (And.intro (fun x=>(E.snoc (x:=x)).res1 5 rfl rfl (au _ _)) (And.intro (E.res1 7 rfl rfl (au _ _)) (And.intro (fun x=>(E.snoc (x:=x)).res1 7 rfl rfl (au _ _)) (And.intro (E.res1 8 rfl rfl (au _ _)) (fun x=>(E.snoc (x:=x)).res1 8 rfl rfl (au _ _))))))))))))
 have LF:=And.intro (E.leaf 1 rfl rfl) (And.intro (E.leaf 2 rfl rfl) (And.intro (E.leaf 4 rfl rfl) (And.intro (E.leaf 5 rfl rfl) (And.intro (E.leaf 7 rfl rfl) (E.leaf 8 rfl rfl)))))
 have LO:=And.intro (E.at0 (p:=0) (ob:=⟨11,[[iv k.a,iv k.b,.bool k.w.neg,ints k.w.mag,ints k.w.den,.bool k.dx.neg,ints k.dx.mag,ints k.dx.den,.bool k.dy.neg,ints k.dy.mag,ints k.dy.den]]⟩) (by simp)) (And.intro (E.at0 (p:=1) (ob:=⟨11,[[iv l.a,iv l.b,.bool l.w.neg,ints l.w.mag,ints l.w.den,.bool l.dx.neg,ints l.dx.mag,ints l.dx.den,.bool l.dy.neg,ints l.dy.mag,ints l.dy.den]]⟩) (by simp)) (And.intro (E.at0 (p:=2) (ob:=⟨11,[[iv 0,iv 0,.bool false,.ak,.ak,.bool false,.ak,.ak,.bool false,.ak,.ak]]⟩) (by simp)) (And.intro (E.at0 (p:=3) (ob:=⟨3,[[.bool false,.ak,.ak]]⟩) (by simp)) (And.intro (E.at0 (p:=4) (ob:=⟨3,[[.bool k.w.neg,ints k.w.mag,ints k.w.den]]⟩) (by simp)) (And.intro (E.at0 (p:=5) (ob:=⟨3,[[.bool l.w.neg,ints l.w.mag,ints l.w.den]]⟩) (by simp)) (And.intro (E.at0 (p:=6) (ob:=⟨3,[[.bool (iK k l).neg,x1,x2]]⟩) (by simp)) (E.at0 (p:=p10) (ob:=⟨11,[[.int .i64 k.a,.int .i64 k.b,.bool (iK k l).neg,x1,x2,.bool (Dt k l).neg,x3,x4,.bool false,.ak,.ak]]⟩) (by simp))))))))
 refine vW @R @LF @LO @aB @aS @List.set_set.{0} ?_
 refine ⟨?_,?_⟩
 ·revert Rr
  refine Jh _ (fun R=>∀ o ∈ R,o ≠ p10) 2 10 rfl (fun _=>rfl) ?_ ?_
  ·intro R hR b hb w hw hm
   simp only [List.mem_cons,List.not_mem_nil,or_false] at hb
   rcases hb with rfl | rfl | rfl | rfl | rfl | rfl | rfl | rfl | rfl | rfl | rfl | rfl | rfl
   all_goals first | (cases hw;done) | (rw [List.mem_singleton.1 hw] at hm;exact hR _ hm rfl)
  ·refine kW (L':=p10 + 1) (by omega) ?_
   have hn0 : 7 ≤ p10:=hq
   generalize p10 = m at hn0 ⊢
   revert m
   refine qH _ _ 7 (fun n hn=>?_) (fun n hn=>?_) ?_
   ·simp only [sh];split <;> omega
   ·simp [SE,sh];try omega
   ·unfold iW;decide +kernel
 clear hRn Rr
 replace E:=E.FI (p:=p10) (ob:=⟨11,[[.int .i64 k.a,.int .i64 k.b,.bool (iK k l).neg,x1,x2,.bool (Dt k l).neg,x3,x4,.bool (IQ k l).neg,x5,x6]]⟩) (L':=[(0,⟨11,[[iv k.a,iv k.b,.bool k.w.neg,ints k.w.mag,ints k.w.den,.bool k.dx.neg,ints k.dx.mag,ints k.dx.den,.bool k.dy.neg,ints k.dy.mag,ints k.dy.den]]⟩),(1,⟨11,[[iv l.a,iv l.b,.bool l.w.neg,ints l.w.mag,ints l.w.den,.bool l.dx.neg,ints l.dx.mag,ints l.dx.den,.bool l.dy.neg,ints l.dy.mag,ints l.dy.den]]⟩),(2,⟨11,[[iv 0,iv 0,.bool false,.ak,.ak,.bool false,.ak,.ak,.bool false,.ak,.ak]]⟩),(3,⟨3,[[.bool false,.ak,.ak]]⟩),(4,⟨3,[[.bool k.w.neg,ints k.w.mag,ints k.w.den]]⟩),(5,⟨3,[[.bool l.w.neg,ints l.w.mag,ints l.w.den]]⟩),(6,⟨3,[[.bool (iK k l).neg,x1,x2]]⟩),(p10,⟨11,[[.int .i64 k.a,.int .i64 k.b,.bool (iK k l).neg,x1,x2,.bool (Dt k l).neg,x3,x4,.bool (IQ k l).neg,x5,x6]]⟩)]) F (by omega) (by simp;try omega)
 clear R LF LO F
 obtain ⟨s5,hs⟩ : ∃ s,(q5.set p10 (some ⟨11,[[.int .i64 k.a,.int .i64 k.b,.bool (iK k l).neg,x1,x2,.bool (Dt k l).neg,x3,x4,.bool (IQ k l).neg,x5,x6]]⟩)) = s:=⟨_,rfl⟩
 have hls : q5.length = s5.length:=by rw [← hs];simp
 simp only [hs] at *
 clear hs
 simp only [hls] at *
 clear hls
 have R:=And.intro (E.res1 1 rfl rfl (au _ _)) (And.intro (fun x=>(E.snoc (x:=x)).res1 1 rfl rfl (au _ _)) (And.intro (E.res1 2 rfl rfl (au _ _)) (And.intro (fun x=>(E.snoc (x:=x)).res1 2 rfl rfl (au _ _)) (And.intro (E.res1 4 rfl rfl (au _ _)) (And.intro (fun x=>(E.snoc (x:=x)).res1 4 rfl rfl (au _ _)) (And.intro (E.res1 5 rfl rfl (au _ _)) (And.intro (fun x=>(E.snoc (x:=x)).res1 5 rfl rfl (au _ _)) (And.intro (E.res1 7 rfl rfl (au _ _)) (And.intro (fun x=>(E.snoc (x:=x)).res1 7 rfl rfl (au _ _)) (And.intro (E.res1 8 rfl rfl (au _ _)) (fun x=>(E.snoc (x:=x)).res1 8 rfl rfl (au _ _))))))))))))
 have LF:=And.intro (E.leaf 1 rfl rfl) (And.intro (E.leaf 2 rfl rfl) (And.intro (E.leaf 4 rfl rfl) (And.intro (E.leaf 5 rfl rfl) (And.intro (E.leaf 7 rfl rfl) (E.leaf 8 rfl rfl)))))
 have LO:=And.intro (E.at0 (p:=0) (ob:=⟨11,[[iv k.a,iv k.b,.bool k.w.neg,ints k.w.mag,ints k.w.den,.bool k.dx.neg,ints k.dx.mag,ints k.dx.den,.bool k.dy.neg,ints k.dy.mag,ints k.dy.den]]⟩) (by simp)) (And.intro (E.at0 (p:=1) (ob:=⟨11,[[iv l.a,iv l.b,.bool l.w.neg,ints l.w.mag,ints l.w.den,.bool l.dx.neg,ints l.dx.mag,ints l.dx.den,.bool l.dy.neg,ints l.dy.mag,ints l.dy.den]]⟩) (by simp)) (And.intro (E.at0 (p:=2) (ob:=⟨11,[[iv 0,iv 0,.bool false,.ak,.ak,.bool false,.ak,.ak,.bool false,.ak,.ak]]⟩) (by simp)) (And.intro (E.at0 (p:=3) (ob:=⟨3,[[.bool false,.ak,.ak]]⟩) (by simp)) (And.intro (E.at0 (p:=4) (ob:=⟨3,[[.bool k.w.neg,ints k.w.mag,ints k.w.den]]⟩) (by simp)) (And.intro (E.at0 (p:=5) (ob:=⟨3,[[.bool l.w.neg,ints l.w.mag,ints l.w.den]]⟩) (by simp)) (And.intro (E.at0 (p:=6) (ob:=⟨3,[[.bool (iK k l).neg,x1,x2]]⟩) (by simp)) (E.at0 (p:=p10) (ob:=⟨11,[[.int .i64 k.a,.int .i64 k.b,.bool (iK k l).neg,x1,x2,.bool (Dt k l).neg,x3,x4,.bool (IQ k l).neg,x5,x6]]⟩) (by simp))))))))
 have awV : p10 + 1 ≤ s5.length:=by omega
 refine ah (vT h.fO k1 l1) ?_
 refine vW @R @LF @LO @aB @aS @List.set_set.{0} ?_
 refine Jg (fun o=>o ∈ ((([] ++ o1) ++ o3) ++ o5)) (show PO T 156 [aU (mulR k.w l.w),aU (iK k l)] (aU (vF (mulR k.w l.w) (iK k l))) from Kv h.o8 LD (NT k l)) (by (refine vW @R @LF @LO @aB @aS @List.set_set.{0} ?_;try with_reducible exact True.intro)) ?_ ?_
 ·intro o ho
  have ho : o ∈ reach (s5 ++ [none]) FD (aU (mulR k.w l.w)) ++ (reach (s5 ++ [none]) (11 + 1) (.agg [.bool (iK k l).neg,x1,x2]) ++ []):=ho
  rw [show reach (s5 ++ [none]) FD (aU (mulR k.w l.w)) = [] from by (refine ew ?_;try with_reducible exact True.intro),List.nil_append,List.append_nil] at ho
  obtain ⟨c,hc,ho⟩:=FK.1 ho
  rcases List.mem_cons.1 hc with e | hc
  ·rw [e] at ho;simp [reach] at ho
  rcases List.mem_cons.1 hc with e | hc
  ·rw [e] at ho;exact E.snoc.reach 1 rfl rfl _ o ho
  ·rw [List.mem_singleton.1 hc] at ho;exact E.snoc.reach 2 rfl rfl _ o ho
 intro Ra r q7 o7 hRa G
 have hO:=G.ow
 have gn:=G.nd
 have gf:=G.fresh
 have go:=G.old
 have gl:=G.len
 clear G
 obtain ⟨_,rfl,hQ7⟩:=hO.dA
 obtain ⟨x7,x8,rfl⟩:=hQ7.rat
 have E2:=E.got (s1:=s5 ++ [none]) (fun q hq=>eY hq) (by simp) hQ7 gn gf go
 have F : s5.length ∉ ((([] ++ o1) ++ o3) ++ o5) ++ o7:=by
  intro hm
  rcases List.mem_append.1 hm with hm | hm
  ·exact absurd (E.c.lt _ hm) (Nat.lt_irrefl _)
  ·have:=gf _ hm;simp at this;omega
 have hq7 : s5.length + 1 ≤ q7.length:=by simpa using gl
 have auj : ∀ o ∈ Ra,o ≠ s5.length:=fun o ho e=>absurd (E.c.lt _ (e ▸ hRa o ho)) (Nat.lt_irrefl _)
 have EL:=E.lt
 clear E gn gf go gl hO R LF LO hRa
 have E : Ep q7 [.bool (iK k l).neg,x1,x2,.bool (Dt k l).neg,x3,x4,.bool (IQ k l).neg,x5,x6,.bool (vF (mulR k.w l.w) (iK k l)).neg,x7,x8] [.bool (iK k l).neg,ints (iK k l).mag,ints (iK k l).den,.bool (Dt k l).neg,ints (Dt k l).mag,ints (Dt k l).den,.bool (IQ k l).neg,ints (IQ k l).mag,ints (IQ k l).den,.bool (vF (mulR k.w l.w) (iK k l)).neg,ints (vF (mulR k.w l.w) (iK k l)).mag,ints (vF (mulR k.w l.w) (iK k l)).den] (((([] ++ o1) ++ o3) ++ o5) ++ o7) [(0,⟨11,[[iv k.a,iv k.b,.bool k.w.neg,ints k.w.mag,ints k.w.den,.bool k.dx.neg,ints k.dx.mag,ints k.dx.den,.bool k.dy.neg,ints k.dy.mag,ints k.dy.den]]⟩),(1,⟨11,[[iv l.a,iv l.b,.bool l.w.neg,ints l.w.mag,ints l.w.den,.bool l.dx.neg,ints l.dx.mag,ints l.dx.den,.bool l.dy.neg,ints l.dy.mag,ints l.dy.den]]⟩),(2,⟨11,[[iv 0,iv 0,.bool false,.ak,.ak,.bool false,.ak,.ak,.bool false,.ak,.ak]]⟩),(3,⟨3,[[.bool false,.ak,.ak]]⟩),(4,⟨3,[[.bool k.w.neg,ints k.w.mag,ints k.w.den]]⟩),(5,⟨3,[[.bool l.w.neg,ints l.w.mag,ints l.w.den]]⟩),(6,⟨3,[[.bool (iK k l).neg,x1,x2]]⟩),(p10,⟨11,[[.int .i64 k.a,.int .i64 k.b,.bool (iK k l).neg,x1,x2,.bool (Dt k l).neg,x3,x4,.bool (IQ k l).neg,x5,x6]]⟩)]:=E2
 clear E2
 have R:=And.intro (E.res1 1 rfl rfl (au _ _)) (And.intro (fun x=>(E.snoc (x:=x)).res1 1 rfl rfl (au _ _)) (And.intro (E.res1 2 rfl rfl (au _ _)) (And.intro (fun x=>(E.snoc (x:=x)).res1 2 rfl rfl (au _ _)) (And.intro (E.res1 4 rfl rfl (au _ _)) (And.intro (fun x=>(E.snoc (x:=x)).res1 4 rfl rfl (au _ _)) (And.intro (E.res1 5 rfl rfl (au _ _)) (And.intro (fun x=>(E.snoc (x:=x)).res1 5 rfl rfl (au _ _)) (And.intro (E.res1 7 rfl rfl (au _ _)) (And.intro (fun x=>(E.snoc (x:=x)).res1 7 rfl rfl (au _ _)) (And.intro (E.res1 8 rfl rfl (au _ _)) (And.intro (fun x=>(E.snoc (x:=x)).res1 8 rfl rfl (au _ _)) (And.intro (E.res1 10 rfl rfl (au _ _)) (And.intro (fun x=>(E.snoc (x:=x)).res1 10 rfl rfl (au _ _)) (And.intro (E.res1 11 rfl rfl (au _ _)) (fun x=>(E.snoc (x:=x)).res1 11 rfl rfl (au _ _))))))))))))))))
 have LF:=And.intro (E.leaf 1 rfl rfl) (And.intro (E.leaf 2 rfl rfl) (And.intro (E.leaf 4 rfl rfl) (And.intro (E.leaf 5 rfl rfl) (And.intro (E.leaf 7 rfl rfl) (And.intro (E.leaf 8 rfl rfl) (And.intro (E.leaf 10 rfl rfl) (E.leaf 11 rfl rfl)))))))
 have LO:=And.intro (E.at0 (p:=0) (ob:=⟨11,[[iv k.a,iv k.b,.bool k.w.neg,ints k.w.mag,ints k.w.den,.bool k.dx.neg,ints k.dx.mag,ints k.dx.den,.bool k.dy.neg,ints k.dy.mag,ints k.dy.den]]⟩) (by simp)) (And.intro (E.at0 (p:=1) (ob:=⟨11,[[iv l.a,iv l.b,.bool l.w.neg,ints l.w.mag,ints l.w.den,.bool l.dx.neg,ints l.dx.mag,ints l.dx.den,.bool l.dy.neg,ints l.dy.mag,ints l.dy.den]]⟩) (by simp)) (And.intro (E.at0 (p:=2) (ob:=⟨11,[[iv 0,iv 0,.bool false,.ak,.ak,.bool false,.ak,.ak,.bool false,.ak,.ak]]⟩) (by simp)) (And.intro (E.at0 (p:=3) (ob:=⟨3,[[.bool false,.ak,.ak]]⟩) (by simp)) (And.intro (E.at0 (p:=4) (ob:=⟨3,[[.bool k.w.neg,ints k.w.mag,ints k.w.den]]⟩) (by simp)) (And.intro (E.at0 (p:=5) (ob:=⟨3,[[.bool l.w.neg,ints l.w.mag,ints l.w.den]]⟩) (by simp)) (And.intro (E.at0 (p:=6) (ob:=⟨3,[[.bool (iK k l).neg,x1,x2]]⟩) (by simp)) (E.at0 (p:=p10) (ob:=⟨11,[[.int .i64 k.a,.int .i64 k.b,.bool (iK k l).neg,x1,x2,.bool (Dt k l).neg,x3,x4,.bool (IQ k l).neg,x5,x6]]⟩) (by simp))))))))
 refine vW @R @LF @LO @aB @aS @List.set_set.{0} ?_
 refine ah (Jd h.uw k2 l2) ?_
 refine vW @R @LF @LO @aB @aS @List.set_set.{0} ?_
 refine ah (Jd h.uw k3 l3) ?_
 refine vW @R @LF @LO @aB @aS @List.set_set.{0} ?_
 refine ah (Rt h.Jq LD LD) ?_
 refine vW @R @LF @LO @aB @aS @List.set_set.{0} ?_
 refine Jg (fun o=>o ∈ (((([] ++ o1) ++ o3) ++ o5) ++ o7)) (show PO T 157 [aU (vF (mulR k.w l.w) (iK k l)),aU (sqR (FB k.dx l.dx) (FB k.dy l.dy))] (aU (L8 k l)) from Z8 h.fO LD (afz _ _)) (by (refine vW @R @LF @LO @aB @aS @List.set_set.{0} ?_;try with_reducible exact True.intro)) ?_ ?_
 ·intro o ho
  have ho : o ∈ reach q7 (11 + 1) (.agg [.bool (vF (mulR k.w l.w) (iK k l)).neg,x7,x8]) ++ (reach q7 FD (aU (sqR (FB k.dx l.dx) (FB k.dy l.dy))) ++ []):=ho
  rw [show reach q7 FD (aU (sqR (FB k.dx l.dx) (FB k.dy l.dy))) = [] from by (refine ew ?_;try with_reducible exact True.intro),List.append_nil,List.append_nil] at ho
  obtain ⟨c,hc,ho⟩:=FK.1 ho
  rcases List.mem_cons.1 hc with e | hc
  ·rw [e] at ho;simp [reach] at ho
  rcases List.mem_cons.1 hc with e | hc
  ·rw [e] at ho;exact E.reach 10 rfl rfl _ o ho
  ·rw [List.mem_singleton.1 hc] at ho;exact E.reach 11 rfl rfl _ o ho
 intro Rb r q9 o9 hRb G
 have hO:=G.ow
 have gn:=G.nd
 have gf:=G.fresh
 have go:=G.old
 have gl:=G.len
 clear G
 obtain ⟨_,rfl,hQ9⟩:=hO.dA
 obtain ⟨x9,x10,rfl⟩:=hQ9.rat
 have E2:=E.got (s1:=q7) (fun q hq=>rfl) (Nat.le_refl _) hQ9 gn gf go
 have F9 : s5.length ∉ (((([] ++ o1) ++ o3) ++ o5) ++ o7) ++ o9:=by
  intro hm
  rcases List.mem_append.1 hm with hm | hm
  ·exact F hm
  ·have:=gf _ hm;omega
 have hq9 : s5.length + 1 ≤ q9.length:=by omega
 have auk : ∀ o ∈ Rb,o ≠ s5.length:=fun o ho e=>F (e ▸ hRb o ho)
 clear E F gn gf go gl hO R LF LO hRb
 have E : Ep q9 [.bool (iK k l).neg,x1,x2,.bool (Dt k l).neg,x3,x4,.bool (IQ k l).neg,x5,x6,.bool (vF (mulR k.w l.w) (iK k l)).neg,x7,x8,.bool (L8 k l).neg,x9,x10] [.bool (iK k l).neg,ints (iK k l).mag,ints (iK k l).den,.bool (Dt k l).neg,ints (Dt k l).mag,ints (Dt k l).den,.bool (IQ k l).neg,ints (IQ k l).mag,ints (IQ k l).den,.bool (vF (mulR k.w l.w) (iK k l)).neg,ints (vF (mulR k.w l.w) (iK k l)).mag,ints (vF (mulR k.w l.w) (iK k l)).den,.bool (L8 k l).neg,ints (L8 k l).mag,ints (L8 k l).den] ((((([] ++ o1) ++ o3) ++ o5) ++ o7) ++ o9) [(0,⟨11,[[iv k.a,iv k.b,.bool k.w.neg,ints k.w.mag,ints k.w.den,.bool k.dx.neg,ints k.dx.mag,ints k.dx.den,.bool k.dy.neg,ints k.dy.mag,ints k.dy.den]]⟩),(1,⟨11,[[iv l.a,iv l.b,.bool l.w.neg,ints l.w.mag,ints l.w.den,.bool l.dx.neg,ints l.dx.mag,ints l.dx.den,.bool l.dy.neg,ints l.dy.mag,ints l.dy.den]]⟩),(2,⟨11,[[iv 0,iv 0,.bool false,.ak,.ak,.bool false,.ak,.ak,.bool false,.ak,.ak]]⟩),(3,⟨3,[[.bool false,.ak,.ak]]⟩),(4,⟨3,[[.bool k.w.neg,ints k.w.mag,ints k.w.den]]⟩),(5,⟨3,[[.bool l.w.neg,ints l.w.mag,ints l.w.den]]⟩),(6,⟨3,[[.bool (iK k l).neg,x1,x2]]⟩),(p10,⟨11,[[.int .i64 k.a,.int .i64 k.b,.bool (iK k l).neg,x1,x2,.bool (Dt k l).neg,x3,x4,.bool (IQ k l).neg,x5,x6]]⟩)]:=E2
 clear E2
 have R:=And.intro (E.res1 1 rfl rfl (au _ _)) (And.intro (fun x=>(E.snoc (x:=x)).res1 1 rfl rfl (au _ _)) (And.intro (E.res1 2 rfl rfl (au _ _)) (And.intro (fun x=>(E.snoc (x:=x)).res1 2 rfl rfl (au _ _)) (And.intro (E.res1 4 rfl rfl (au _ _)) (And.intro (fun x=>(E.snoc (x:=x)).res1 4 rfl rfl (au _ _)) (And.intro (E.res1 5 rfl rfl (au _ _)) (And.intro (fun x=>(E.snoc (x:=x)).res1 5 rfl rfl (au _ _)) (And.intro (E.res1 7 rfl rfl (au _ _)) (And.intro (fun x=>(E.snoc (x:=x)).res1 7 rfl rfl (au _ _)) (And.intro (E.res1 8 rfl rfl (au _ _)) (And.intro (fun x=>(E.snoc (x:=x)).res1 8 rfl rfl (au _ _)) (And.intro (E.res1 10 rfl rfl (au _ _)) (And.intro (fun x=>(E.snoc (x:=x)).res1 10 rfl rfl (au _ _)) (And.intro (E.res1 11 rfl rfl (au _ _)) (And.intro (fun x=>(E.snoc (x:=x)).res1 11 rfl rfl (au _ _)) (And.intro (E.res1 13 rfl rfl (au _ _)) (And.intro (fun x=>(E.snoc (x:=x)).res1 13 rfl rfl (au _ _)) (And.intro (E.res1 14 rfl rfl (au _ _)) (fun x=>(E.snoc (x:=x)).res1 14 rfl rfl (au _ _))))))))))))))))))))
 have LF:=And.intro (E.leaf 1 rfl rfl) (And.intro (E.leaf 2 rfl rfl) (And.intro (E.leaf 4 rfl rfl) (And.intro (E.leaf 5 rfl rfl) (And.intro (E.leaf 7 rfl rfl) (And.intro (E.leaf 8 rfl rfl) (And.intro (E.leaf 10 rfl rfl) (And.intro (E.leaf 11 rfl rfl) (And.intro (E.leaf 13 rfl rfl) (E.leaf 14 rfl rfl)))))))))
 have LO:=And.intro (E.at0 (p:=0) (ob:=⟨11,[[iv k.a,iv k.b,.bool k.w.neg,ints k.w.mag,ints k.w.den,.bool k.dx.neg,ints k.dx.mag,ints k.dx.den,.bool k.dy.neg,ints k.dy.mag,ints k.dy.den]]⟩) (by simp)) (And.intro (E.at0 (p:=1) (ob:=⟨11,[[iv l.a,iv l.b,.bool l.w.neg,ints l.w.mag,ints l.w.den,.bool l.dx.neg,ints l.dx.mag,ints l.dx.den,.bool l.dy.neg,ints l.dy.mag,ints l.dy.den]]⟩) (by simp)) (And.intro (E.at0 (p:=2) (ob:=⟨11,[[iv 0,iv 0,.bool false,.ak,.ak,.bool false,.ak,.ak,.bool false,.ak,.ak]]⟩) (by simp)) (And.intro (E.at0 (p:=3) (ob:=⟨3,[[.bool false,.ak,.ak]]⟩) (by simp)) (And.intro (E.at0 (p:=4) (ob:=⟨3,[[.bool k.w.neg,ints k.w.mag,ints k.w.den]]⟩) (by simp)) (And.intro (E.at0 (p:=5) (ob:=⟨3,[[.bool l.w.neg,ints l.w.mag,ints l.w.den]]⟩) (by simp)) (And.intro (E.at0 (p:=6) (ob:=⟨3,[[.bool (iK k l).neg,x1,x2]]⟩) (by simp)) (E.at0 (p:=p10) (ob:=⟨11,[[.int .i64 k.a,.int .i64 k.b,.bool (iK k l).neg,x1,x2,.bool (Dt k l).neg,x3,x4,.bool (IQ k l).neg,x5,x6]]⟩) (by simp))))))))
 refine vW @R @LF @LO @aB @aS @List.set_set.{0} ?_
 refine ⟨?_,?_⟩
 ·revert Rb
  refine Jh _ (fun R=>∀ o ∈ R,o ≠ s5.length) 2 16 rfl (fun _=>rfl) ?_ ?_
  ·intro R hR b hb w hw hm
   simp only [List.mem_cons,List.not_mem_nil,or_false] at hb
   rcases hb with rfl | rfl | rfl | rfl | rfl | rfl | rfl | rfl | rfl | rfl | rfl | rfl | rfl | rfl | rfl | rfl | rfl | rfl | rfl
   all_goals first | (cases hw;done) | (rw [List.mem_singleton.1 hw] at hm;exact hR _ hm rfl)
  revert Ra
  refine Jh _ (fun R=>∀ o ∈ R,o ≠ s5.length) 14 4 rfl (fun _=>rfl) ?_ ?_
  ·intro R hR b hb w hw hm
   simp only [List.mem_cons,List.not_mem_nil,or_false] at hb
   rcases hb with rfl | rfl | rfl | rfl | rfl | rfl | rfl | rfl | rfl | rfl | rfl | rfl | rfl | rfl | rfl | rfl | rfl | rfl | rfl
   all_goals first | (cases hw;done) | (rw [List.mem_singleton.1 hw] at hm;exact hR _ hm rfl)
  have hn0 : 7 ≤ s5.length:=by omega
  clear EL E hls
  generalize s5.length = m at hn0 ⊢
  revert m
  refine qH _ _ 7 (fun n hn=>?_) (fun n hn=>?_) ?_
  ·simp only [sh];split <;> omega
  ·simp [SE,sh];try omega
  ·unfold iW;decide +kernel
 clear auj auk Ra Rb
 replace E:=E.FI (p:=s5.length) (ob:=⟨3,[[.bool (L8 k l).neg,x9,x10]]⟩) (L':=[(0,⟨11,[[iv k.a,iv k.b,.bool k.w.neg,ints k.w.mag,ints k.w.den,.bool k.dx.neg,ints k.dx.mag,ints k.dx.den,.bool k.dy.neg,ints k.dy.mag,ints k.dy.den]]⟩),(1,⟨11,[[iv l.a,iv l.b,.bool l.w.neg,ints l.w.mag,ints l.w.den,.bool l.dx.neg,ints l.dx.mag,ints l.dx.den,.bool l.dy.neg,ints l.dy.mag,ints l.dy.den]]⟩),(2,⟨11,[[iv 0,iv 0,.bool false,.ak,.ak,.bool false,.ak,.ak,.bool false,.ak,.ak]]⟩),(3,⟨3,[[.bool false,.ak,.ak]]⟩),(4,⟨3,[[.bool k.w.neg,ints k.w.mag,ints k.w.den]]⟩),(5,⟨3,[[.bool l.w.neg,ints l.w.mag,ints l.w.den]]⟩),(6,⟨3,[[.bool (iK k l).neg,x1,x2]]⟩),(p10,⟨11,[[.int .i64 k.a,.int .i64 k.b,.bool (iK k l).neg,x1,x2,.bool (Dt k l).neg,x3,x4,.bool (IQ k l).neg,x5,x6]]⟩),(s5.length,⟨3,[[.bool (L8 k l).neg,x9,x10]]⟩)]) F9 (by omega) (by simp;try omega)
 clear R LF LO F9 EL
 obtain ⟨p11,apv⟩ : ∃ p,s5.length = p:=⟨_,rfl⟩
 simp only [apv] at *
 clear apv
 obtain ⟨s11,hs⟩ : ∃ s,(q9.set p11 (some ⟨3,[[.bool (L8 k l).neg,x9,x10]]⟩)) = s:=⟨_,rfl⟩
 have hls : q9.length = s11.length:=by rw [← hs];simp
 simp only [hs] at *
 clear hs
 simp only [hls] at *
 clear hls
 have R:=And.intro (E.res1 1 rfl rfl (au _ _)) (And.intro (fun x=>(E.snoc (x:=x)).res1 1 rfl rfl (au _ _)) (And.intro (E.res1 2 rfl rfl (au _ _)) (And.intro (fun x=>(E.snoc (x:=x)).res1 2 rfl rfl (au _ _)) (And.intro (E.res1 4 rfl rfl (au _ _)) (And.intro (fun x=>(E.snoc (x:=x)).res1 4 rfl rfl (au _ _)) (And.intro (E.res1 5 rfl rfl (au _ _)) (And.intro (fun x=>(E.snoc (x:=x)).res1 5 rfl rfl (au _ _)) (And.intro (E.res1 7 rfl rfl (au _ _)) (And.intro (fun x=>(E.snoc (x:=x)).res1 7 rfl rfl (au _ _)) (And.intro (E.res1 8 rfl rfl (au _ _)) (And.intro (fun x=>(E.snoc (x:=x)).res1 8 rfl rfl (au _ _)) (And.intro (E.res1 10 rfl rfl (au _ _)) (And.intro (fun x=>(E.snoc (x:=x)).res1 10 rfl rfl (au _ _)) (And.intro (E.res1 11 rfl rfl (au _ _)) (And.intro (fun x=>(E.snoc (x:=x)).res1 11 rfl rfl (au _ _)) (And.intro (E.res1 13 rfl rfl (au _ _)) (And.intro (fun x=>(E.snoc (x:=x)).res1 13 rfl rfl (au _ _)) (And.intro (E.res1 14 rfl rfl (au _ _)) (fun x=>(E.snoc (x:=x)).res1 14 rfl rfl (au _ _))))))))))))))))))))
 have LF:=And.intro (E.leaf 1 rfl rfl) (And.intro (E.leaf 2 rfl rfl) (And.intro (E.leaf 4 rfl rfl) (And.intro (E.leaf 5 rfl rfl) (And.intro (E.leaf 7 rfl rfl) (And.intro (E.leaf 8 rfl rfl) (And.intro (E.leaf 10 rfl rfl) (And.intro (E.leaf 11 rfl rfl) (And.intro (E.leaf 13 rfl rfl) (E.leaf 14 rfl rfl)))))))))
 have LO:=And.intro (E.at0 (p:=0) (ob:=⟨11,[[iv k.a,iv k.b,.bool k.w.neg,ints k.w.mag,ints k.w.den,.bool k.dx.neg,ints k.dx.mag,ints k.dx.den,.bool k.dy.neg,ints k.dy.mag,ints k.dy.den]]⟩) (by simp)) (And.intro (E.at0 (p:=1) (ob:=⟨11,[[iv l.a,iv l.b,.bool l.w.neg,ints l.w.mag,ints l.w.den,.bool l.dx.neg,ints l.dx.mag,ints l.dx.den,.bool l.dy.neg,ints l.dy.mag,ints l.dy.den]]⟩) (by simp)) (And.intro (E.at0 (p:=2) (ob:=⟨11,[[iv 0,iv 0,.bool false,.ak,.ak,.bool false,.ak,.ak,.bool false,.ak,.ak]]⟩) (by simp)) (And.intro (E.at0 (p:=3) (ob:=⟨3,[[.bool false,.ak,.ak]]⟩) (by simp)) (And.intro (E.at0 (p:=4) (ob:=⟨3,[[.bool k.w.neg,ints k.w.mag,ints k.w.den]]⟩) (by simp)) (And.intro (E.at0 (p:=5) (ob:=⟨3,[[.bool l.w.neg,ints l.w.mag,ints l.w.den]]⟩) (by simp)) (And.intro (E.at0 (p:=6) (ob:=⟨3,[[.bool (iK k l).neg,x1,x2]]⟩) (by simp)) (And.intro (E.at0 (p:=p10) (ob:=⟨11,[[.int .i64 k.a,.int .i64 k.b,.bool (iK k l).neg,x1,x2,.bool (Dt k l).neg,x3,x4,.bool (IQ k l).neg,x5,x6]]⟩) (by simp)) (E.at0 (p:=p11) (ob:=⟨3,[[.bool (L8 k l).neg,x9,x10]]⟩) (by simp)))))))))
 have gW:=Je h.aP (NT k l)
 cases hbW : (iK k l).ok
 ·rw [hbW] at gW
  refine vW @R @LF @LO @aB @aS @List.set_set.{0} ?_
  refine ah gW ?_
  refine vW @R @LF @LO @aB @aS @List.set_set.{0} ?_
  have hG : L9 k l = false:=by unfold L9;rw [hbW];simp
  rw [hG]
  exact PD
 rw [hbW] at gW
 refine vW @R @LF @LO @aB @aS @List.set_set.{0} ?_
 refine ah gW ?_
 refine vW @R @LF @LO @aB @aS @List.set_set.{0} ?_
 have gX:=Je h.aP (aat k l)
 cases hbX : (Dt k l).ok
 ·rw [hbX] at gX
  skip
  refine ah gX ?_
  refine vW @R @LF @LO @aB @aS @List.set_set.{0} ?_
  have hG : L9 k l = false:=by unfold L9;rw [hbX];simp
  rw [hG]
  exact PD
 rw [hbX] at gX
 skip
 refine ah gX ?_
 refine vW @R @LF @LO @aB @aS @List.set_set.{0} ?_
 have gY:=Je h.aP (aau k l)
 cases hbY : (IQ k l).ok
 ·rw [hbY] at gY
  skip
  refine ah gY ?_
  refine vW @R @LF @LO @aB @aS @List.set_set.{0} ?_
  have hG : L9 k l = false:=by unfold L9;rw [hbY];simp
  rw [hG]
  exact PD
 rw [hbY] at gY
 skip
 refine ah gY ?_
 refine vW @R @LF @LO @aB @aS @List.set_set.{0} ?_
 have gE:=Je h.aP (aav k l)
 cases hbE : (L8 k l).ok
 ·rw [hbE] at gE
  skip
  refine ah gE ?_
  refine vW @R @LF @LO @aB @aS @List.set_set.{0} ?_
  have hG : L9 k l = false:=by unfold L9;rw [hbE];simp
  rw [hG]
  exact PD
 rw [hbE] at gE
 skip
 refine ah gE ?_
 refine vW @R @LF @LO @aB @aS @List.set_set.{0} ?_
 have hG : L9 k l = true:=by unfold L9;rw [hbW,hbX,hbY,hbE];rfl
 rw [hG]
 refine ⟨?_,?_⟩
 ·refine kW (L':=p11 + 1) (by omega) ?_
  have hn0 : 7 ≤ p10:=by omega
  have hn1 : p10 + 1 ≤ p11:=by omega
  clear E R LF LO
  obtain ⟨d,hd⟩ : ∃ d,p11 = p10 + (d + 1):=⟨p11 - p10 - 1,by omega⟩
  rw [hd]
  clear hd hn1
  generalize p10 = m at hn0 ⊢
  revert m
  refine qH _ _ 7 (fun n hn=>?_) (fun n hn=>?_) ?_
  ·simp only [sh];split <;> omega
  ·simp [SE,sh];rw [if_neg (by omega)];omega
  ·have hn2 : 8 ≤ 7 + (d + 1):=by omega
   generalize 7 + (d + 1) = m at hn2 ⊢
   revert m
   refine qH _ _ 8 (fun n hn=>?_) (fun n hn=>?_) ?_
   ·simp only [sh];split <;> omega
   ·simp [SE,sh];try omega
   ·unfold iW;decide +kernel
 rw [if_pos rfl,if_pos rfl]
 have n2:=(E.l (2,⟨11,[[iv 0,iv 0,.bool false,.ak,.ak,.bool false,.ak,.ak,.bool false,.ak,.ak]]⟩) (by simp)).2
 have n3:=(E.l (3,⟨3,[[.bool false,.ak,.ak]]⟩) (by simp)).2
 have E3:=(E.c.set (o:=2) (x:=some ⟨11,[[.int .i64 k.a,.int .i64 k.b,.bool (iK k l).neg,x1,x2,.bool (Dt k l).neg,x3,x4,.bool (IQ k l).neg,x5,x6]]⟩) n2).set (o:=3) (x:=some ⟨3,[[.bool (L8 k l).neg,x9,x10]]⟩) n3
 exact alL (c9:=[.bool (iK k l).neg,x1,x2,.bool (Dt k l).neg,x3,x4,.bool (IQ k l).neg,x5,x6]) (d3:=[.bool (vF (mulR k.w l.w) (iK k l)).neg,x7,x8]) (e3:=[.bool (L8 k l).neg,x9,x10]) (t9:=[.bool (iK k l).neg,ints (iK k l).mag,ints (iK k l).den,.bool (Dt k l).neg,ints (Dt k l).mag,ints (Dt k l).den,.bool (IQ k l).neg,ints (IQ k l).mag,ints (IQ k l).den]) (u3:=[.bool (vF (mulR k.w l.w) (iK k l)).neg,ints (vF (mulR k.w l.w) (iK k l)).mag,ints (vF (mulR k.w l.w) (iK k l)).den]) (v3:=[.bool (L8 k l).neg,ints (L8 k l).mag,ints (L8 k l).den]) E3.ow rfl rfl E3.nd
abbrev Gd:=Nat → Nat → Bool
def Yt (g : Gd) (i j : Nat) (b : Bool) : Gd:=fun x y=>if x = i ∧ y = j then b else g x y
def grow (g : Gd) (a : Nat) : List (List V):=(List.range 10).map fun j=>[.bool (g a j)]
theorem afL {g : Gd} {a j : Nat} {b : Bool} : (grow g a).set j [.bool b] = grow (Yt g a j b) a:=by
 apply List.ext_getElem?
 intro n
 rw [List.getElem?_set]
 simp only [grow,List.getElem?_map,List.length_map,List.length_range]
 by_cases hn : n < 10
 ·rw [List.getElem?_range hn]
  by_cases e : j = n
  ·rw [if_pos e,if_pos (by omega)]
   simp only [Option.map_some,Yt]
   rw [if_pos (by simp [e])]
  ·rw [if_neg e]
   simp only [Option.map_some,Yt]
   rw [if_neg (by omega)]
 ·rw [List.getElem?_eq_none (by simp;omega)]
  split
  ·split
   ·omega
   ·rfl
  ·rfl
theorem aiF {g : Gd} {a c j : Nat} {b : Bool} (h : c ≠ a) : grow (Yt g a j b) c = grow g c:=by
 unfold grow Yt
 apply List.map_congr_left
 intro k _
 rw [if_neg (by omega)]
end Go.Ml
end
