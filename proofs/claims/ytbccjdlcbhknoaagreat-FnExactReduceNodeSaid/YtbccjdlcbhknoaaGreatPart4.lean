/- A small language for the functions of this claim, its soundness, contracts. -/
import Derived.Test.YtbccjdlcbhknoaaGreatPart3
set_option linter.unusedSimpArgs false
set_option linter.unusedVariables false
set_option maxRecDepth 100000
set_option maxHeartbeats 16000000
section
namespace Go.Ml
theorem OX {σ : Store} {p n : Nat} {L : List Lk} (h : aj σ p = some ⟨11,L.map Lk.cells⟩) (hn : n = L.length) : resolve σ FD (.bC p 0 n) = some (bf L):=by
 have:=Fb (n:=10) h (vw L)
 rw [List.length_map] at this
 rw [hn];exact this
theorem TS (env : Nat → V) (n : Nat) (x : Src) (lo hi : Option Src) : I.reads env (.slice n x lo hi) = iI (x.ev env):=by simp [I.reads,I.mO]
theorem TT {σ : Store} {v u e t : V} {b : Bool} {os : List Nat} (hr : resolve σ FD v = some u) (h : bD σ e t os) (hn : os.Nodup) : Zg σ (.eF [v,e,.bool b]) [(false,u),(true,t),(false,.bool b)]:=by
 refine ⟨[v,e,.bool b],os,aC _,?_,hn⟩
 simp only [Oo,if_true,Bool.false_eq_true,if_false]
 exact ⟨v,[e,.bool b],[],os,rfl,rfl,⟨hr,rfl⟩,e,[.bool b],os,[],rfl,by simp,h,.bool b,[],[],[],rfl,rfl,⟨rfl,rfl⟩,rfl,rfl⟩
theorem Vh {σ : Store} : Zg σ (.eF [.ak,.agg [.bool false,.ak,.ak],.bool false]) [(false,bf []),(true,aU R0),(false,.bool false)]:=by
 refine ⟨[.sl 11 [],aU R0,.bool false],[],?_,?_,.nil⟩
 ·exact I8
 ·simp only [Oo,if_true,Bool.false_eq_true,if_false]
  refine ⟨_,_,[],[],rfl,rfl,⟨rfl,rfl⟩,_,_,[],[],rfl,rfl,?_,_,[],[],[],rfl,rfl,⟨rfl,rfl⟩,rfl,rfl⟩
  exact fD (jG (jh (o1:=[]) eX (jh (o1:=[]) eX iq)))
theorem Vj {σ : Store} {p n : Nat} {A B : List Lk} {m : Lk} {y : R} {c3 c4 c6 c7 c9 c10 e1 e2 : V} {os : List Nat} (C : Cs σ [iv m.a,iv m.b,.bool m.w.neg,c3,c4,.bool m.dx.neg,c6,c7,.bool m.dy.neg,c9,c10,.bool y.neg,e1,e2] (m.cells ++ y.cells) os)
  (h : aj σ p = some ⟨11,A.map Lk.cells ++ ([iv m.a,iv m.b,.bool m.w.neg,c3,c4,.bool m.dx.neg,c6,c7,.bool m.dy.neg,c9,c10] :: B.map Lk.cells)⟩) (hn : n = A.length + (B.length + 1)) :
  Zg σ (.eF [.bC p 0 n,.agg [.bool y.neg,e1,e2],.bool true]) [(false,bf (A ++ m :: B)),(true,aU y),(false,.bool true)]:=by
 obtain ⟨a1,a2,o1,o2,e,rfl,k1,k2⟩:=gu C.ow
 obtain ⟨rfl,rfl⟩:=List.append_inj (show [iv m.a,iv m.b,.bool m.w.neg,c3,c4,.bool m.dx.neg,c6,c7,.bool m.dy.neg,c9,c10] ++ [.bool y.neg,e1,e2] = a1 ++ a2 from e) k1.len.symm
 have nd:=(List.nodup_append.1 C.nd)
 refine TT ?_ (fD k2) nd.2.1
 have hm : resolve σ 12 (.agg [iv m.a,iv m.b,.bool m.w.neg,c3,c4,.bool m.dx.neg,c6,c7,.bool m.dy.neg,c9,c10]) = some (.agg m.cells):=JU 12 (fD k1) (akD 9 m)
 rw [resolve] at hm
 have hr : [iv m.a,iv m.b,.bool m.w.neg,c3,c4,.bool m.dx.neg,c6,c7,.bool m.dy.neg,c9,c10].mapM (resolve σ 11) = some m.cells:=by
  obtain ⟨w,hw,e⟩:=Option.map_eq_some_iff.1 hm
  rw [hw]
  exact congrArg some (V.agg.inj e)
 show resolve σ (11 + 1) _ = _
 rw [resolve]
 have hl : (A.map Lk.cells ++ ([iv m.a,iv m.b,.bool m.w.neg,c3,c4,.bool m.dx.neg,c6,c7,.bool m.dy.neg,c9,c10] :: B.map Lk.cells)).length = n:=by simp;omega
 simp only [h,Nat.zero_add,hl,Nat.le_refl,if_true,List.drop_zero]
 rw [List.take_of_length_le (by omega),List.mapM_append,List.mapM_cons,hr,pV (vw A),pV (vw B)]
 simp
def adT (s : List Lk) (l : Lk) : List (Bool × V):=[(false,bf (((J4 s l).map (·.1)).getD [])),(true,aU (((J4 s l).map (·.2)).getD R0)),(false,.bool (J4 s l).isSome)]
theorem ZF {T : Tb} (h : CZ T) {S : List Lk} {l : Lk} (hw : Hl Lk.wf S) (h1 : bU S = true) (h2 : jg l = true) (hz : S.length ≤ 1048576) : PX T 130 [bf S,IL l] (adT S l):=by
 unfold adT
 have hpl:=LC l S
 refine La (fun x d=>(x == 39 && d == 52) || (x == 140 && d == 59)) h.hT ?_
 simp only [xu,Lz,St.enter,List.length_cons,List.length_nil,Nat.zero_add]
 refine ew ?_
 refine aQ (fun x d=>(x == 39 && d == 52) || (x == 140 && d == 59)) (α:=Nat) (fun i=>⟨bM [bf S,.any,.any,.ptr 0 0 0,.any,.ptr 1 0 0,.any,iv (i : Nat)],[some ⟨11,[l.cells]⟩,some ⟨3,[[.bool false,.ak,.ak]]⟩],0,0,[],[]⟩) (fun i=>i ≤ Bd l S) (fun i=>Bd l S - i) rfl 0 ?_ ?_ ?_
 ·omega
 ·(refine aI ?_;exact wI)
 ·intro i hi
  have hT : ∀ k,List.take k (S.map Lk.cells) = (S.take k).map Lk.cells:=fun k=>List.map_take.symm
  have hD : ∀ k,List.drop k (S.map Lk.cells) = (S.drop k).map Lk.cells:=fun k=>List.map_drop.symm
  have hap : (∀ A,A.map Lk.cells ++ [l.cells] = (A ++ [l]).map Lk.cells) ∧ ∀ A B : List Lk,A.map Lk.cells ++ B.map Lk.cells = (A ++ B).map Lk.cells:=⟨fun A=>by simp,fun A B=>by simp⟩
  have hl2 : (List.take i S).length ≤ 1048576:=by rw [List.length_take];omega
  have hl1 : (List.drop i S).length ≤ 1048576:=by rw [List.length_drop];omega
  have hnT : i = 0 → (List.map Lk.cells (List.take i S) = []) = True:=fun h0=>eq_true (by rw [h0];rfl)
  have hnF : 0 < i → (List.map Lk.cells (List.take i S) = []) = False:=fun h0=>eq_false (by intro e;have:=congrArg List.length e;rw [List.length_map,List.length_take] at this;have h9 : ([] : List (List V)).length = 0:=rfl;omega)
  by_cases hc : (i : Int) < (S.length : Nat)
  ·have hil : i < S.length:=by omega
   have hne : ¬ (i : Int) = (S.length : Nat):=by omega
   have hpa:=Vf hi hil
   have hrow:=mg (f:=Lk.cells) hil
   have hdF : (List.map Lk.cells (List.drop i S) = []) = False:=eq_false (by intro e;have:=congrArg List.length e;rw [List.length_map,List.length_drop] at this;have h9 : ([] : List (List V)).length = 0:=rfl;omega)
   generalize hx : S.getD i default = x at hpa hrow
   have cl1:=Ec h.nC (k:=x) (l:=l)
   rw [hpa] at cl1
   refine sK @hc @hrow ?_
   refine ah cl1 ?_
   by_cases hip : i < Bd l S
   ·rw [decide_eq_true hip]
    refine ew ?_
    exact ⟨i + 1,by omega,by omega,by (refine aI ?_;exact wI)⟩
   ·rw [decide_eq_false hip]
    have hie : i = Bd l S:=by omega
    have cl2:=Ec h.nC (k:=l) (l:=x)
    have XL : bJ l x = true → J4 S l = some (S.take i ++ l :: S.drop i,iU 0):=fun h=>by
     unfold J4
     dsimp only
     rw [← hie,hx]
     exact if_pos (.inr h)
    rcases Nat.eq_zero_or_pos i with h0 | h0
    ·have hn:=hnT h0
     refine vJ @hc @hrow @hT @hn @hne ?_
     refine ah cl2 ?_
     cases hlx : bJ l x
     ·refine vJ @hc @hrow @hT @hn @hne ?_
      have hxo : jg x = true:=hx ▸ qx h1 hil
      have hab : x.a = l.a ∧ x.b = l.b:=by
       rw [decide_eq_false hip] at hpa
       unfold bJ at hpa hlx
       simp at hpa hlx
       omega
      have aeO : J4 S l = if Ls x l = true then some (S.take i ++ mgL x l :: S.drop (i + 1),Lr x l) else none:=by
       unfold J4
       dsimp only
       rw [← hie,hx,if_neg (by rw [hlx];simp;omega)]
      rw [aeO]
      have po:=Jo h.DL (Gi hxo) (Gi h2)
      refine iO po (by (refine ew ?_;try with_reducible exact True.intro)) (by (refine ew ?_;try with_reducible exact True.intro)) ?_
      cases hg : Ls x l
      ·intro r q os G
       obtain ⟨c3,c4,c6,c7,c9,c10,e1,e2,rfl,hO⟩:=G.aaz
       rw [if_neg (by decide),if_neg (by decide)] at hO ⊢
       have L3:=hO.leaf (by rfl)
       simp only [List.all_cons,List.all_nil,Bool.and_true,Bool.and_eq_true] at L3
       have gl : 6 ≤ q.length:=by have:=G.len;simp at this;omega
       have O0:=(G.old 1 (by simp)).trans rfl
       refine sK @L3 @O0 ?_
       refine ⟨by unfold jl;decide +kernel,?_⟩
       exact .inl Vh
      ·intro r q os G
       obtain ⟨c3,c4,c6,c7,c9,c10,e1,e2,rfl,hO⟩:=G.aaz
       rw [if_pos rfl,if_pos rfl] at hO ⊢
       have L3:=hO.leaf (by rfl)
       simp only [List.all_cons,List.all_nil,Bool.and_true,Bool.and_eq_true] at L3
       have gl : 6 ≤ q.length:=by have:=G.len;simp at this;omega
       have O0:=(G.old 1 (by simp)).trans rfl
       refine sK @L3 @O0 ?_
       refine ⟨by unfold jl;decide +kernel,?_⟩
       have hl3 : (List.drop (i + 1) S).length ≤ 1048576:=by rw [List.length_drop];omega
       have hln : (List.drop (i + 1) S).length = S.length - (i + 1):=by rw [List.length_drop]
       have hb1 : ((i : Int) + 1 ≤ (S.length : Nat)) = True:=eq_true (by omega)
       have hb0 : (0 ≤ (i : Int) + 1) = True:=eq_true (by omega)
       have ht1 : ((i : Int) + 1).toNat = i + 1:=by omega
       have TD:=And.intro @TS (And.intro (And.intro hT hD) (And.intro hb1 (And.intro hb0 ht1)))
       have hti : (List.take i S).length = i:=by rw [List.length_take];omega
       by_cases hde : List.map Lk.cells (List.drop (i + 1) S) = []
       ·have hdz : (List.drop (i + 1) S).length = 0:=by have:=congrArg List.length hde;rw [List.length_map] at this;exact this
        refine CO @hde @O0 @TD ?_
        refine ⟨by (try simp only [List.length_append,List.length_map,List.length_cons,List.length_nil]);omega,?_⟩
        refine CO @hde @O0 @TD ?_
        rw [if_pos (by rw [L3.2.2.2.2.2.2.2.2.2.2.2.2.1,L3.2.2.2.2.2.2.2.2.2.2.2.2.2];rfl)]
        refine ⟨?_,?_⟩
        ·have hn0 : 6 ≤ List.length q:=gl
         generalize List.length q = m at hn0 ⊢
         revert m
         refine qo _ _ 6 (fun n hn=>?_) (fun n hn=>?_) ?_
         ·simp only [sh];split <;> omega
         ·simp [Rq,sh];try omega
         ·unfold jl;decide +kernel
        have hlt:=hO.lt
        have hfr:=G.fresh
        refine .inl (Vj (A:=S.take i) (B:=S.drop (i + 1)) (Cs.frame (⟨hO,G.nd⟩ : Cs q _ _ os) fun o ho=>?_) ?_ ?_)
        ·have k1:=hlt o ho
         have k2:=hfr o ho
         simp only [List.length_cons,List.length_nil] at k2
         simp (disch:=first | omega | (simp;done) | (simp;omega)) only [aH,aO]
        ·simp (disch:=first | omega | (simp;done) | (simp;omega)) only [aH,aX,aO]
         rw [show List.map Lk.cells (List.take i S) = [] from of_eq_true hn];first | rfl | (rw [hde];rfl) | simp
        ·(try simp only [List.length_append,List.length_map,List.length_cons,List.length_nil]);omega
       ·refine CO @hde @O0 @TD ?_
        refine ⟨by (try simp only [List.length_append,List.length_map,List.length_cons,List.length_nil]);omega,?_⟩
        refine CO @hde @O0 @TD ?_
        refine ⟨by (try simp only [List.length_append,List.length_map,List.length_cons,List.length_nil]);omega,?_⟩
        rw [if_pos (by rw [L3.2.2.2.2.2.2.2.2.2.2.2.2.1,L3.2.2.2.2.2.2.2.2.2.2.2.2.2];rfl)]
        refine ⟨?_,?_⟩
        ·have hn0 : 6 ≤ List.length q:=gl
         generalize List.length q = m at hn0 ⊢
         revert m
         refine qo _ _ 6 (fun n hn=>?_) (fun n hn=>?_) ?_
         ·simp only [sh];split <;> omega
         ·simp [Rq,sh];try omega
         ·unfold jl;decide +kernel
        have hlt:=hO.lt
        have hfr:=G.fresh
        refine .inl (Vj (A:=S.take i) (B:=S.drop (i + 1)) (Cs.frame (⟨hO,G.nd⟩ : Cs q _ _ os) fun o ho=>?_) ?_ ?_)
        ·have k1:=hlt o ho
         have k2:=hfr o ho
         simp only [List.length_cons,List.length_nil] at k2
         simp (disch:=first | omega | (simp;done) | (simp;omega)) only [aH,aO]
        ·simp (disch:=first | omega | (simp;done) | (simp;omega)) only [aH,aX,aO]
         rw [show List.map Lk.cells (List.take i S) = [] from of_eq_true hn];first | rfl | (rw [hde];rfl) | simp
        ·(try simp only [List.length_append,List.length_map,List.length_cons,List.length_nil]);omega
     ·rw [XL hlx]
      refine xQ @hrow @hT @hD @hn @hdF @hap ?_
      refine ⟨by omega,by omega,?_⟩
      refine fJ (sU h.dw (n:=0)) (by (refine ew ?_;try with_reducible exact True.intro)) ?_
      intro r q os G
      have gl : 7 ≤ q.length:=by have:=G.len;simp at this;omega
      have hop : aj q 6 = some ⟨11,l.cells :: List.map Lk.cells (List.drop i S)⟩:=(G.old 6 (by simp)).trans rfl
      have ho1:=(G.old 1 (by simp)).trans rfl
      have n1 : 1 ∉ os:=fun hm=>by have:=G.fresh 1 hm;simp at this
      obtain ⟨_,rfl,hQ⟩:=G.ow.bP
      obtain ⟨y1,y2,rfl⟩:=hQ.rat
      have E : Ep q [.bool (iU 0).neg,y1,y2] [.bool (iU 0).neg,ints (iU 0).mag,ints (iU 0).den] os []:=⟨⟨hQ,G.nd⟩,by simp⟩
      have LF:=And.intro (E.leaf 1 rfl rfl) (E.leaf 2 rfl rfl)
      have C:=E.c.set (o:=1) (x:=some ⟨3,[[.bool (iU 0).neg,y1,y2]]⟩) n1
      refine sK @LF @ho1 ?_
      refine .inl (TT (OX (L:=S.take i ++ l :: S.drop i) ?_ ?_) (fD C.ow) C.nd)
      ·rw [aH (by decide)]
       refine hop.trans ?_
       rw [h0];simp
      ·rw [h0];simp;omega
    ·have hn:=hnF h0
     refine vJ @hc @hrow @hT @hn @hne ?_
     refine xQ @hrow @hT @hD @hn @hdF @hap ?_
     refine ⟨by omega,?_⟩
     refine ah cl2 ?_
     cases hlx : bJ l x
     ·refine CJ @hrow ?_
      have hxo : jg x = true:=hx ▸ qx h1 hil
      have hab : x.a = l.a ∧ x.b = l.b:=by
       rw [decide_eq_false hip] at hpa
       unfold bJ at hpa hlx
       simp at hpa hlx
       omega
      have aeO : J4 S l = if Ls x l = true then some (S.take i ++ mgL x l :: S.drop (i + 1),Lr x l) else none:=by
       unfold J4
       dsimp only
       rw [← hie,hx,if_neg (by rw [hlx];simp;omega)]
      rw [aeO]
      have po:=Jo h.DL (Gi hxo) (Gi h2)
      refine iO po (by (refine ew ?_;try with_reducible exact True.intro)) (by (refine ew ?_;try with_reducible exact True.intro)) ?_
      cases hg : Ls x l
      ·intro r q os G
       obtain ⟨c3,c4,c6,c7,c9,c10,e1,e2,rfl,hO⟩:=G.aaz
       rw [if_neg (by decide),if_neg (by decide)] at hO ⊢
       have L3:=hO.leaf (by rfl)
       simp only [List.all_cons,List.all_nil,Bool.and_true,Bool.and_eq_true] at L3
       have gl : 6 ≤ q.length:=by have:=G.len;simp at this;omega
       have O0:=(G.old 1 (by simp)).trans rfl
       have O3 : aj q 3 = some ⟨11,List.map Lk.cells (List.take i S)⟩:=(G.old 3 (by simp)).trans rfl
       refine sK @L3 @O0 ?_
       refine ⟨by unfold jl;decide +kernel,?_⟩
       exact .inl Vh
      ·intro r q os G
       obtain ⟨c3,c4,c6,c7,c9,c10,e1,e2,rfl,hO⟩:=G.aaz
       rw [if_pos rfl,if_pos rfl] at hO ⊢
       have L3:=hO.leaf (by rfl)
       simp only [List.all_cons,List.all_nil,Bool.and_true,Bool.and_eq_true] at L3
       have gl : 6 ≤ q.length:=by have:=G.len;simp at this;omega
       have O0:=(G.old 1 (by simp)).trans rfl
       have O3 : aj q 3 = some ⟨11,List.map Lk.cells (List.take i S)⟩:=(G.old 3 (by simp)).trans rfl
       refine sK @L3 @O0 ?_
       refine ⟨by unfold jl;decide +kernel,?_⟩
       have hl3 : (List.drop (i + 1) S).length ≤ 1048576:=by rw [List.length_drop];omega
       have hln : (List.drop (i + 1) S).length = S.length - (i + 1):=by rw [List.length_drop]
       have hb1 : ((i : Int) + 1 ≤ (S.length : Nat)) = True:=eq_true (by omega)
       have hb0 : (0 ≤ (i : Int) + 1) = True:=eq_true (by omega)
       have ht1 : ((i : Int) + 1).toNat = i + 1:=by omega
       have TD:=And.intro @TS (And.intro (And.intro hT hD) (And.intro hb1 (And.intro hb0 ht1)))
       have hti : (List.take i S).length = i:=by rw [List.length_take];omega
       by_cases hde : List.map Lk.cells (List.drop (i + 1) S) = []
       ·have hdz : (List.drop (i + 1) S).length = 0:=by have:=congrArg List.length hde;rw [List.length_map] at this;exact this
        refine CO @hde ((And.intro O0 O3)) @TD ?_
        refine ⟨by (try simp only [List.length_append,List.length_map,List.length_cons,List.length_nil]);omega,?_⟩
        refine CO @hde ((And.intro O0 O3)) @TD ?_
        rw [if_pos (by rw [L3.2.2.2.2.2.2.2.2.2.2.2.2.1,L3.2.2.2.2.2.2.2.2.2.2.2.2.2];rfl)]
        refine ⟨?_,?_⟩
        ·have hn0 : 6 ≤ List.length q:=gl
         generalize List.length q = m at hn0 ⊢
         revert m
         refine qo _ _ 6 (fun n hn=>?_) (fun n hn=>?_) ?_
         ·simp only [sh];split <;> omega
         ·simp [Rq,sh];try omega
         ·unfold jl;decide +kernel
        have hlt:=hO.lt
        have hfr:=G.fresh
        refine .inl (Vj (A:=S.take i) (B:=S.drop (i + 1)) (Cs.frame (⟨hO,G.nd⟩ : Cs q _ _ os) fun o ho=>?_) ?_ ?_)
        ·have k1:=hlt o ho
         have k2:=hfr o ho
         simp only [List.length_cons,List.length_nil] at k2
         simp (disch:=first | omega | (simp;done) | (simp;omega)) only [aH,aO]
        ·simp (disch:=first | omega | (simp;done) | (simp;omega)) only [aH,aX,aO]
         first | rfl | (rw [hde];rfl) | (simp;done) | (simp;omega)
        ·(try simp only [List.length_append,List.length_map,List.length_cons,List.length_nil]);omega
       ·refine CO @hde ((And.intro O0 O3)) @TD ?_
        refine ⟨by (try simp only [List.length_append,List.length_map,List.length_cons,List.length_nil]);omega,?_⟩
        refine CO @hde ((And.intro O0 O3)) @TD ?_
        refine ⟨by (try simp only [List.length_append,List.length_map,List.length_cons,List.length_nil]);omega,?_⟩
        rw [if_pos (by rw [L3.2.2.2.2.2.2.2.2.2.2.2.2.1,L3.2.2.2.2.2.2.2.2.2.2.2.2.2];rfl)]
        refine ⟨?_,?_⟩
        ·have hn0 : 6 ≤ List.length q:=gl
         generalize List.length q = m at hn0 ⊢
         revert m
         refine qo _ _ 6 (fun n hn=>?_) (fun n hn=>?_) ?_
         ·simp only [sh];split <;> omega
         ·simp [Rq,sh];try omega
         ·unfold jl;decide +kernel
        have hlt:=hO.lt
        have hfr:=G.fresh
        refine .inl (Vj (A:=S.take i) (B:=S.drop (i + 1)) (Cs.frame (⟨hO,G.nd⟩ : Cs q _ _ os) fun o ho=>?_) ?_ ?_)
        ·have k1:=hlt o ho
         have k2:=hfr o ho
         simp only [List.length_cons,List.length_nil] at k2
         simp (disch:=first | omega | (simp;done) | (simp;omega)) only [aH,aO]
        ·simp (disch:=first | omega | (simp;done) | (simp;omega)) only [aH,aX,aO]
         first | rfl | (rw [hde];rfl) | (simp;done) | (simp;omega)
        ·(try simp only [List.length_append,List.length_map,List.length_cons,List.length_nil]);omega
     ·rw [XL hlx]
      refine xQ @hrow @hT @hD @hn @hdF @hap ?_
      refine ⟨by omega,by simp only [List.length_append,List.length_cons,List.length_nil];omega,?_⟩
      refine fJ (sU h.dw (n:=0)) (by (refine ew ?_;try with_reducible exact True.intro)) ?_
      intro r q os G
      have gl : 7 ≤ q.length:=by have:=G.len;simp at this;omega
      have hop : aj q 6 = some ⟨11,List.map Lk.cells (List.take i S ++ [l] ++ List.drop i S)⟩:=(G.old 6 (by simp)).trans rfl
      have ho1:=(G.old 1 (by simp)).trans rfl
      have n1 : 1 ∉ os:=fun hm=>by have:=G.fresh 1 hm;simp at this
      obtain ⟨_,rfl,hQ⟩:=G.ow.bP
      obtain ⟨y1,y2,rfl⟩:=hQ.rat
      have E : Ep q [.bool (iU 0).neg,y1,y2] [.bool (iU 0).neg,ints (iU 0).mag,ints (iU 0).den] os []:=⟨⟨hQ,G.nd⟩,by simp⟩
      have LF:=And.intro (E.leaf 1 rfl rfl) (E.leaf 2 rfl rfl)
      have C:=E.c.set (o:=1) (x:=some ⟨3,[[.bool (iU 0).neg,y1,y2]]⟩) n1
      refine sK @LF @ho1 ?_
      refine .inl (TT (OX (L:=S.take i ++ l :: S.drop i) ?_ ?_) (fD C.ow) C.nd)
      ·rw [aH (by decide)]
       refine hop.trans ?_
       simp
      ·simp;omega
  ·have hie : i = S.length:=by omega
   have hpe : Bd l S = S.length:=by omega
   have ato : J4 S l = some (S ++ [l],iU 0):=by
    unfold J4
    dsimp only
    rw [hpe,if_pos (.inl rfl),List.take_length,List.drop_length]
   have hde : List.map Lk.cells (List.drop i S) = []:=by rw [List.drop_eq_nil_of_le (by omega)];rfl
   have htk : List.take i S = S:=List.take_of_length_le (by omega)
   have hci : ((i : Int) = (S.length : Nat)) = True:=eq_true (by omega)
   rw [ato]
   have hd0 : (List.drop i (List.map Lk.cells S) = []) = True:=eq_true (by rw [List.drop_eq_nil_of_le (by simp;omega)])
   rcases Nat.eq_zero_or_pos i with h0 | h0
   ·have hn : (List.map Lk.cells S = []) = True:=eq_true (by have:=of_eq_true (hnT h0);rw [htk] at this;exact this)
    refine yF @hc @hci @hn @hd0 ?_
    refine ⟨by omega,?_⟩
    refine yF @hc @hci @hn @hd0 ?_
    refine fJ (sU h.dw (n:=0)) (by (refine ew ?_;try with_reducible exact True.intro)) ?_
    intro r q os G
    have gl : 6 ≤ q.length:=by have:=G.len;simp at this;omega
    have hop : aj q 5 = some ⟨11,[l.cells]⟩:=(G.old 5 (by simp)).trans rfl
    have ho1:=(G.old 1 (by simp)).trans rfl
    have n1 : 1 ∉ os:=fun hm=>by have:=G.fresh 1 hm;simp at this
    obtain ⟨_,rfl,hQ⟩:=G.ow.bP
    obtain ⟨y1,y2,rfl⟩:=hQ.rat
    have E : Ep q [.bool (iU 0).neg,y1,y2] [.bool (iU 0).neg,ints (iU 0).mag,ints (iU 0).den] os []:=⟨⟨hQ,G.nd⟩,by simp⟩
    have LF:=And.intro (E.leaf 1 rfl rfl) (E.leaf 2 rfl rfl)
    have C:=E.c.set (o:=1) (x:=some ⟨3,[[.bool (iU 0).neg,y1,y2]]⟩) n1
    refine sK @LF @ho1 ?_
    refine .inl (TT (OX (L:=S ++ [l]) ?_ ?_) (fD C.ow) C.nd)
    ·rw [aH (by decide)]
     refine hop.trans ?_
     rw [List.map_append,of_eq_true hn];rfl
    ·have:=congrArg List.length (of_eq_true hn);simp at this ⊢;simp [this]
   ·have hn : (List.map Lk.cells S = []) = False:=eq_false (by have:=of_eq_false (hnF h0);rw [htk] at this;exact this)
    refine yF @hc @hci @hn @hd0 ?_
    refine ⟨by omega,?_⟩
    refine yF @hc @hci @hn @hd0 ?_
    refine ⟨by (try simp only [List.length_append,List.length_map,List.length_cons,List.length_nil]);omega,?_⟩
    refine fJ (sU h.dw (n:=0)) (by (refine ew ?_;try with_reducible exact True.intro)) ?_
    intro r q os G
    have gl : 6 ≤ q.length:=by have:=G.len;simp at this;omega
    have hop : aj q 5 = some ⟨11,List.map Lk.cells S ++ [l.cells]⟩:=(G.old 5 (by simp)).trans rfl
    have ho1:=(G.old 1 (by simp)).trans rfl
    have n1 : 1 ∉ os:=fun hm=>by have:=G.fresh 1 hm;simp at this
    obtain ⟨_,rfl,hQ⟩:=G.ow.bP
    obtain ⟨y1,y2,rfl⟩:=hQ.rat
    have E : Ep q [.bool (iU 0).neg,y1,y2] [.bool (iU 0).neg,ints (iU 0).mag,ints (iU 0).den] os []:=⟨⟨hQ,G.nd⟩,by simp⟩
    have LF:=And.intro (E.leaf 1 rfl rfl) (E.leaf 2 rfl rfl)
    have C:=E.c.set (o:=1) (x:=some ⟨3,[[.bool (iU 0).neg,y1,y2]]⟩) n1
    refine sK @LF @ho1 ?_
    refine .inl (TT (OX (L:=S ++ [l]) ?_ ?_) (fD C.ow) C.nd)
    ·rw [aH (by decide)]
     refine hop.trans ?_
     rw [List.map_append];rfl
    ·simp
theorem ZG {α : Type} {f : α → Nat} {k : Nat} : ∀ {l : List α},(∀ x ∈ l,f x ≤ k) → Aq f l ≤ l.length * (k + 1)
 | [],_=>by simp [Aq]
 |
  x :: l,h=>by
  have h1:=h x (by simp)
  have h2:=ZG (f:=f) (k:=k) (l:=l) fun y hy=>h y (by simp [hy])
  unfold Aq at h2 ⊢
  simp only [List.length_cons,List.map_cons,List.sum_cons]
  rw [Nat.succ_mul]
  omega
theorem TU {l : List Lk} (h : bU l = true) : ∀ i,i < l.length → (i : Int) ≤ 10 * (l.getD i default).a + (l.getD i default).b
 |
  0,hi=>by
  have:=qR (qx h hi)
  omega
 |
  i + 1,hi=>by
  have k1:=TU h i (by omega)
  have k2:=TQ h hi
  have k3:=qR (qx h hi)
  have k4:=qR (qx h (show i < l.length by omega))
  unfold bJ at k2
  simp only [Bool.or_eq_true,Bool.and_eq_true,decide_eq_true_eq] at k2
  omega
theorem Fe {l : List Lk} (h : bU l = true) : l.length ≤ 100:=by
 rcases Nat.lt_or_ge 100 l.length with hl | hl
 ·have k1:=TU h (l.length - 1) (by omega)
  have k3:=qR (qx h (show l.length - 1 < l.length by omega))
  omega
 ·exact hl
theorem ahI {s : List Lk} {l : Lk} {t : List Lk} {e : R} (h : J4 s l = some (t,e)) (h1 : bU s = true) (h2 : jg l = true) : (∀ x ∈ t,x.w.cn ∧ x.dx.cn ∧ x.dy.cn) ∧ e.cn ∧ t.length ≤ s.length + 1:=by
 unfold J4 at h
 dsimp only at h
 have hp:=LC l s
 have hs : ∀ x ∈ s,x.w.cn ∧ x.dx.cn ∧ x.dy.cn:=fun x hx=>Gi (qU h1 hx)
 split at h
 ·cases h
  refine ⟨fun x hx=>?_,IW (by decide),by simp;omega⟩
  simp only [List.mem_append,List.mem_cons] at hx
  rcases hx with hx | rfl | hx
  ·exact hs x (List.mem_of_mem_take hx)
  ·exact Gi h2
  ·exact hs x (List.mem_of_mem_drop hx)
 ·rename_i hc
  split at h
  ·cases h
   refine ⟨fun x hx=>?_,Zz _ _,by simp;omega⟩
   simp only [List.mem_append,List.mem_cons] at hx
   rcases hx with hx | rfl | hx
   ·exact hs x (List.mem_of_mem_take hx)
   ·exact ⟨Np _ _,Zx _ _,Zy _ _⟩
   ·exact hs x (List.mem_of_mem_drop hx)
  ·cases h
theorem aeP {x : Lk} (h : x.w.cn ∧ x.dx.cn ∧ x.dy.cn) : x.sz ≤ 144:=by
 have a:=MV h.1
 have b:=MV h.2.1
 have c:=MV h.2.2
 unfold Lk.sz R.sz
 omega
theorem ZH (s : List Lk) (l : Lk) : (∀ x ∈ adV s l,x.w.cn ∧ x.dx.cn ∧ x.dy.cn) ∧ (adE s l).cn ∧ (adV s l).length ≤ 101:=by
 by_cases h : bU s = true ∧ jg l = true
 ·obtain ⟨e1,e2,_⟩:=OW h.1 h.2
  have hl:=Fe h.1
  rw [e1,e2]
  cases hr : J4 s l with
  | none=>exact ⟨by simp,ahm,by simp⟩
  |
   some p =>
   obtain ⟨k1,k2,k3⟩:=ahI (t:=p.1) (e:=p.2) hr h.1 h.2
   exact ⟨k1,k2,by simp only [Option.map_some,Option.getD_some];omega⟩
 ·obtain ⟨e1,e2,_⟩:=ZC h
  rw [e1,e2]
  exact ⟨by simp,ahm,by simp⟩
theorem mapM_mono {σ σ2 : Store} {n : Nat} (ih : ∀ v t : V,resolve σ n v = some t → resolve σ2 n v = some t) : ∀ (l l' : List V),l.mapM (resolve σ n) = some l' → l.mapM (resolve σ2 n) = some l'
 | [],l',h=>h
 |
  x :: l,l',h=>by
  rw [List.mapM_cons] at h ⊢
  cases hx : resolve σ n x with
  | none=>rw [hx] at h;cases h
  |
   some y =>
   rw [hx] at h
   rw [ih _ _ hx]
   cases hl : l.mapM (resolve σ n) with
   | none=>rw [hl] at h;cases h
   | some ys=>rw [hl] at h;rw [mapM_mono ih _ _ hl];exact h
theorem QO {σ σ2 : Store} {n : Nat} (ih : ∀ v t : V,resolve σ n v = some t → resolve σ2 n v = some t) : ∀ (l : List (List V)) (l' : List (List V)),(l.mapM fun (r : List V)=>r.mapM (resolve σ n)) = some l' → (l.mapM fun (r : List V)=>r.mapM (resolve σ2 n)) = some l'
 | [],l',h=>h
 |
  x :: l,l',h=>by
  rw [List.mapM_cons] at h ⊢
  cases hx : x.mapM (resolve σ n) with
  | none=>rw [hx] at h;cases h
  |
   some y =>
   rw [hx] at h
   rw [mapM_mono ih _ _ hx]
   cases hl : l.mapM fun (r : List V)=>r.mapM (resolve σ n) with
   | none=>rw [hl] at h;cases h
   | some ys=>rw [hl] at h;rw [QO ih _ _ hl];exact h
theorem LD {σ σ2 : Store} (hs : ∀ o ob,aj σ o = some ob → aj σ2 o = some ob) : ∀ (n : Nat) (v t : V),resolve σ n v = some t → resolve σ2 n v = some t
 | 0,_,_,h=>by simp [resolve] at h
 |
  n + 1,v,t,h=>by
  have ih:=LD hs n
  cases v with
  |
   bC o s l =>
   simp only [resolve] at h ⊢
   cases ho : aj σ o with
   | none=>rw [ho] at h;cases h
   |
    some ob =>
    rw [ho] at h
    rw [hs _ _ ho]
    dsimp only at h ⊢
    split at h
    ·rename_i hl
     rw [if_pos hl]
     obtain ⟨rows,h1,rfl⟩:=Option.map_eq_some_iff.1 h
     rw [QO ih _ _ h1]
     rfl
    ·cases h
  |
   ptr o r off =>
   simp only [resolve] at h ⊢
   cases ho : aj σ o with
   | none=>rw [ho] at h;cases h
   |
    some ob =>
    rw [ho] at h
    rw [hs _ _ ho]
    dsimp only at h ⊢
    cases hr : ob.rows[r]? with
    | none=>rw [hr] at h;cases h
    |
     some row =>
     rw [hr] at h
     dsimp only at h ⊢
     obtain ⟨rows,h1,rfl⟩:=Option.map_eq_some_iff.1 h
     rw [mapM_mono ih _ _ h1]
     rfl
  |
   agg cs =>
   simp only [resolve] at h ⊢
   obtain ⟨rows,h1,rfl⟩:=Option.map_eq_some_iff.1 h
   rw [mapM_mono ih _ _ h1]
   rfl
  |
   eF cs =>
   simp only [resolve] at h ⊢
   obtain ⟨rows,h1,rfl⟩:=Option.map_eq_some_iff.1 h
   rw [mapM_mono ih _ _ h1]
   rfl
  | _=>simpa only [resolve] using h
theorem Ah {σ : Store} {n k : Nat} {w : V} {rows : List (List V)} (h : resolve σ (n + 1) w = some (.sl k rows)) : w.leaf = true:=by
 cases w with
 | bC=>rfl
 | sl=>rfl
 | ptr o r off=>obtain ⟨_,_,e⟩:=OD h;cases e
 | agg cs=>simp only [resolve] at h;obtain ⟨_,_,e⟩:=Option.map_eq_some_iff.1 h;cases e
 | eF cs=>simp only [resolve] at h;obtain ⟨_,_,e⟩:=Option.map_eq_some_iff.1 h;cases e
 | _=>simp only [resolve] at h;cases h
theorem aeQ {α : Type} [Inhabited α] {f : α → Prop} {l : List α} (h : Hl f l) {k : Nat} (hk : k < l.length) : f (l.getD k default):=by
 refine h.2 _ ?_
 rw [List.getD_eq_getElem?_getD,List.getElem?_eq_getElem hk];exact List.getElem_mem hk
theorem Ep.renew {s s1 σ2 : Store} {cs ts rs trs : List V} {os os2 : List Nat} {L : List (Nat × Obj)} (E : Ep s cs ts os L) (h1 : ∀ o,o < s.length → aj s1 o = aj s o) (hl : s.length ≤ s1.length) (ho : dY σ2 rs trs os2) (hn : os2.Nodup) (hf : ∀ o ∈ os2,s1.length ≤ o)
  (old : ∀ o,o < s1.length → aj σ2 o = aj s1 o) : Ep σ2 rs trs os2 L :=
 ⟨⟨ho,hn⟩,fun q hq=>⟨(old _ (Nat.lt_of_lt_of_le (E.lt q hq) hl)).trans ((h1 _ (E.lt q hq)).trans (E.l q hq).1),fun hm=>by have:=hf _ hm;have:=E.lt q hq;omega⟩⟩
def qV : Fn:=⟨1,41,[.tmp 2,.cell 3 3 true,.tmp 4],(.seq (rf 1 [oK 2 1 mN,oN 3 (.alloc kK),oK 4 1 mF]) (.seq (rf 1 [oN 12 (.eG 11 xW 0 []),oK 5 1 (oV 12)]) (.seq (rf 1 [oK 13 1 (.call 36 [(cI 0)]),oN 6 (.alloc kK),⟨none,none,1,.store 3 (.t 6) (.t 13),[]⟩]) (.seq (sr [oW 14 0,oN 15 (ln 14),oN 16 (.bZ (cI 0))] (.block 0 (.loop (sr [oN 17 (bt .lss 16 15)] (.seq (cd 17 .skip (.exit 0)) (.seq (.block 1 (.seq (rf 1 [oK 18 1 (ix 11 14 16),oK 19 1 (lT 11 18),oN 8 (.alloc xW),⟨none,none,1,.store 11 (.t 8) (.t 19),[]⟩]) (.seq (rf 1 [oK 21 1 (oV 5),oK 22 1 (lT 11 8),oK 23 1 (cl 188 [21,22]),oK 20 1 (oV 23),oK 24 1 (ex 0 20),oK 25 1 (ex 1 20),oK 26 1 (ex 2 20),oN 10 (.alloc kK),oK 9 1 (oV 24),⟨none,none,1,.store 3 (.t 10) (.t 25),[]⟩,oK 11 1 (oV 26)]) (.seq (sr [oW 27 11,oN 28 (nt 27)] (cd 28 (sr [oN 29 (.build kK []),oN 2 mN,oS (.store 3 (.t 3) (.t 29)),oN 4 mF] .ret) .skip)) (sr [oW 30 9,oW 5 30] (rg [oN 31 (lT 3 6),oN 32 (lT 3 10),oN 33 (cl 189 [31,32]),oS (.store 3 (.t 6) (.t 33))])))))) (rg [oN 34 (bc .add 16 1),oW 16 34]))))))) (.seq (sr [oN 35 (lT 3 6),oN 36 (cl 100 [35]),oN 37 (nt 36)] (cd 37 (sr [oN 38 (.build kK []),oN 2 mN,oS (.store 3 (.t 3) (.t 38)),oN 4 mF] .ret) .skip)) (.seq (rt 0 [oW 39 5,oN 40 (lT 3 6),oA 2 0 (oV 39) [0,0],⟨none,none,0,.store 3 (.t 3) (.t 40),[1,2,0,1,2]⟩,oA 4 0 mT [3,0,1,2,3]]) .ret))))))⟩
structure yK (T : Tb) : Prop where
 hT : T 179 = some qV
 dI : jw T
 aW : fQ T
 QS : CY T
 eP : lQ T
def qW : Fn:=⟨1,42,[.tmp 2,.cell 3 3 true,.tmp 4],(.seq (rf 1 [oK 2 1 mN,oN 3 (.alloc kK),oK 4 1 mF]) (.seq (rf 1 [oN 12 (.eG 11 xW 0 []),oK 5 1 (oV 12)]) (.seq (rf 1 [oK 13 1 (.call 39 [(cI 0)]),oN 6 (.alloc kK),⟨none,none,1,.store 3 (.t 6) (.t 13),[]⟩]) (.seq (sr [oW 14 0,oN 15 (ln 14),oN 16 (.bZ (cI 0))] (.block 0 (.loop (sr [oN 17 (bt .lss 16 15)] (.seq (cd 17 .skip (.exit 0)) (.seq (.block 1 (.seq (rf 1 [oK 18 1 (ix 11 14 16),oK 19 1 (lT 11 18),oN 8 (.alloc xW),⟨none,none,1,.store 11 (.t 8) (.t 19),[]⟩]) (.seq (rf 1 [oK 21 1 (oV 5),oK 22 1 (lT 11 8),oK 23 1 (cl 130 [21,22]),oK 20 1 (oV 23),oK 24 1 (ex 0 20),oK 25 1 (ex 1 20),oK 26 1 (ex 2 20),oN 10 (.alloc kK),oK 9 1 (oV 24),⟨none,none,1,.store 3 (.t 10) (.t 25),[]⟩,oK 11 1 (oV 26)]) (sr [oN 27 (lT 3 6),oN 28 (lT 3 10),oN 29 (cl 131 [27,28]),oS (.store 3 (.t 6) (.t 29))] (.seq (sr [oW 30 11,oN 31 (nt 30),oW 32 31,oG 32 false 33 (lT 3 6),oG 32 false 34 (cl 132 [33]),oG 32 false 35 (nt 34),oN 36 (.pick (.t 32) (.c (.bool true)) (.t 35))] (cd 36 (sr [oN 37 (.build kK []),oN 2 mN,oS (.store 3 (.t 3) (.t 37)),oN 4 mF] .ret) .skip)) (rg [oW 38 9,oW 5 38])))))) (rg [oN 39 (bc .add 16 1),oW 16 39]))))))) (.seq (rt 0 [oW 40 5,oN 41 (lT 3 6),oA 2 0 (oV 40) [0,0],⟨none,none,0,.store 3 (.t 3) (.t 41),[1,2,0,1,2]⟩,oA 4 0 mT [3,0,1,2,3]]) .ret)))))⟩
structure yL (T : Tb) : Prop where
 hT : T 109 = some qW
 dw : ig T
 QT : CZ T
 dA : fH T
 aP : gq T
theorem vK {l : List Lk} : bU l = true ↔ (∀ x ∈ l,jg x = true) ∧ l.Pairwise fun k l=>bJ k l = true:=by
 constructor
 ·intro h
  exact ⟨fun x hx=>qU h hx,(XH h).imp fun h=>h.1⟩
 ·rintro ⟨h1,h2⟩
  unfold bU
  refine Y8 fun i hi=>?_
  have a:=h1 (l.getD i default) (getD_mem hi)
  unfold DF
  rw [List.pairwise_iff_getElem] at h2
  rcases Nat.eq_zero_or_pos i with h0 | h0
  ·subst h0;rw [a,decide_eq_true rfl];rfl
  ·have:=h2 (i - 1) i (by omega) hi (by omega)
   have e1 : l.getD (i - 1) default = l[i - 1]:=by rw [List.getD_eq_getElem?_getD,List.getElem?_eq_getElem];rfl
   have e2 : l.getD i default = l[i]:=by rw [List.getD_eq_getElem?_getD,List.getElem?_eq_getElem];rfl
   rw [← e1,← e2] at this
   rw [a,this,Bool.or_true];rfl
theorem ZI {k l : Lk} (h1 : bJ k l = false) (h2 : bJ l k = false) : k.a = l.a ∧ k.b = l.b:=by
 unfold bJ at h1 h2
 simp at h1 h2
 omega
theorem Vk {k l m : Lk} (ha : l.a = m.a) (hb : l.b = m.b) : bJ k l = bJ k m ∧ bJ l k = bJ m k:=by
 unfold bJ;rw [ha,hb];exact ⟨rfl,rfl⟩
theorem XM {l : Lk} : ∀ {s : List Lk} {x : Lk},x ∈ s.take (Bd l s) → bJ x l = true
 | [],x,h=>by simp [Bd] at h
 |
  y :: s,x,h=>by
  unfold Bd at h
  split at h
  ·rename_i hy
   rw [List.take_succ_cons] at h
   rcases List.mem_cons.1 h with rfl | h
   ·exact hy
   ·exact XM h
  ·simp at h
theorem ab5 {l : Lk} {s : List Lk} (h : s.Pairwise fun k l=>bJ k l = true) : ∀ x ∈ s.drop (Bd l s),bJ x l = false:=by
 induction s with
 | nil=>intro x hx;simp at hx
 |
  cons y s ih =>
  rw [List.pairwise_cons] at h
  intro x hx
  unfold Bd at hx
  split at hx
  ·rw [List.drop_succ_cons] at hx
   exact ih h.2 x hx
  ·rename_i hy
   rw [List.drop_zero] at hx
   have hy : bJ y l = false:=by simpa using hy
   rcases List.mem_cons.1 hx with rfl | hx
   ·exact hy
   ·cases hxl : bJ x l
    ·rfl
    ·have:=Gj (h.1 x hx) hxl
     rw [this] at hy;cases hy
theorem aeR {A B : List Lk} {m : Lk} (h : (A ++ B).Pairwise fun k l=>bJ k l = true) (h1 : ∀ x ∈ A,bJ x m = true) (h2 : ∀ x ∈ B,bJ m x = true) : (A ++ m :: B).Pairwise fun k l=>bJ k l = true:=by
 rw [List.pairwise_append] at h ⊢
 refine ⟨h.1,List.pairwise_cons.2 ⟨h2,h.2.1⟩,fun x hx y hy=>?_⟩
 rcases List.mem_cons.1 hy with rfl | hy
 ·exact h1 x hx
 ·exact h.2.2 x hx y hy
theorem akO {s : List Lk} {l : Lk} {t : List Lk} {e : R} (h : J4 s l = some (t,e)) (h1 : bU s = true) (h2 : jg l = true) : bU t = true:=by
 obtain ⟨hv,hp⟩:=vK.1 h1
 have hpl:=LC l s
 have hpre:=@XM l s
 have hpost:=ab5 (l:=l) hp
 unfold J4 at h
 dsimp only at h
 generalize Bd l s = i at *
 have hsp : s.take i ++ s.drop i = s:=List.take_append_drop i s
 split at h
 ·rename_i hc
  cases h
  refine vK.2 ⟨fun x hx=>?_,aeR (by rw [hsp];exact hp) (fun x hx=>hpre hx) fun x hx=>?_⟩
  ·simp only [List.mem_append,List.mem_cons] at hx
   rcases hx with hx | rfl | hx
   ·exact hv x (List.mem_of_mem_take hx)
   ·exact h2
   ·exact hv x (List.mem_of_mem_drop hx)
  ·rcases hc with hc | hc
   ·rw [hc,List.drop_length] at hx;cases hx
   ·by_cases hi : i < s.length
    ·have hd : s.drop i = s.getD i default :: s.drop (i + 1):=by
      rw [List.drop_eq_getElem_cons hi,List.getD_eq_getElem?_getD,List.getElem?_eq_getElem hi];rfl
     rw [hd] at hx
     rcases List.mem_cons.1 hx with rfl | hx
     ·exact hc
     ·have hpd:=hp.drop (i:=i)
      rw [hd,List.pairwise_cons] at hpd
      exact Gj hc (hpd.1 x hx)
    ·rw [List.drop_eq_nil_of_le (by omega)] at hx;cases hx
 ·rename_i hc
  split at h
  ·rename_i hg
   cases h
   have hi : i < s.length:=by
    rcases Nat.lt_or_ge i s.length with k | k
    ·exact k
    ·exact absurd (.inl (by omega)) hc
   have hd : s.drop i = s.getD i default :: s.drop (i + 1):=by
    rw [List.drop_eq_getElem_cons hi,List.getD_eq_getElem?_getD,List.getElem?_eq_getElem hi];rfl
   have hx0:=hpost (s.getD i default) (by rw [hd];simp)
   have hxl : bJ l (s.getD i default) = false:=by
    cases hq : bJ l (s.getD i default)
    ·rfl
    ·exact absurd (.inr hq) hc
   have hsm:=getD_mem (l:=s) hi
   generalize s.getD i default = x at *
   obtain ⟨ea,eb⟩:=ZI hx0 hxl
   have hP : mgP x l = true:=by unfold mgP;rw [hv x hsm,h2,decide_eq_true ea,decide_eq_true eb];rfl
   have hm : jg (mgL x l) = true:=by
    rw [XK hP]
    unfold Ls at hg
    simp only [Bool.and_eq_true] at hg ⊢
    exact hg.1
   have hcg:=fun k=>Vk (k:=k) (l:=mgL x l) (m:=x) rfl rfl
   have hp2 : (s.take i ++ x :: s.drop (i + 1)).Pairwise fun k l=>bJ k l = true:=by rw [← hd,hsp];exact hp
   rw [List.pairwise_append] at hp2
   refine vK.2 ⟨fun y hy=>?_,aeR ?_ (fun y hy=>?_) fun y hy=>?_⟩
   ·simp only [List.mem_append,List.mem_cons] at hy
    rcases hy with hy | rfl | hy
    ·exact hv y (List.mem_of_mem_take hy)
    ·exact hm
    ·exact hv y (List.mem_of_mem_drop hy)
   ·rw [List.pairwise_append]
    exact ⟨hp2.1,(List.pairwise_cons.1 hp2.2.1).2,fun a ha b hb=>hp2.2.2 a ha b (List.mem_cons_of_mem _ hb)⟩
   ·rw [(hcg y).1];exact hp2.2.2 y hy x (by simp)
   ·rw [(hcg y).2];exact (List.pairwise_cons.1 hp2.2.1).1 y hy
  ·cases h
theorem akP {s : List Lk} {l : Lk} (h : Ov s l = true) : bU (adV s l) = true ∧ bU s = true ∧ jg l = true:=by
 unfold Ov at h
 simp only [Bool.and_eq_true] at h
 obtain ⟨⟨h1,h2⟩,h3⟩:=h
 refine ⟨?_,h1,h2⟩
 rw [(OW h1 h2).1]
 cases hr : J4 s l with
 | none=>rw [hr] at h3;cases h3
 | some p=>exact akO (t:=p.1) (e:=p.2) hr h1 h2
def N7 (l : List Lk) : Nat → Option (List Lk × R)
 | 0=>some ([],iU 0)
 |
  k + 1=>match N7 l k with
  | none=>none
  | some p=>if Ov p.1 (l.getD k default) = true then some (adV p.1 (l.getD k default),qj p.2 (adE p.1 (l.getD k default))) else none
def Vl (l : List Lk) : Option (List Lk × R):=match N7 l l.length with
 | none=>none
 | some p=>if p.2.ok = true then some p else none
def G9 (l : List Lk) : Bool:=(Vl l).isSome
def Vm (l : List Lk) : List Lk:=((Vl l).map (·.1)).getD []
def XO (l : List Lk) : R:=((Vl l).map (·.2)).getD R0
theorem XP {l : List Lk} {k : Nat} (h : N7 l k = none) : ∀ n,k ≤ n → N7 l n = none
 | 0,hn=>by rw [Nat.le_zero.1 hn] at h;exact h
 |
  n + 1,hn=>by
  rcases Nat.lt_or_ge k (n + 1) with hk | hk
  ·simp only [N7,XP h n (by omega)]
  ·rw [show n + 1 = k by omega];exact h
theorem aeS {r s : R} (h : r.ok = false) : (qj r s).ok = false:=by
 rw [uo,ad7,uo.1 h,Xa]
theorem aaB {l : List Lk} {k : Nat} {p : List Lk × R} (h : N7 l k = some p) (hb : p.2.ok = false) : ∀ n,k ≤ n → ∀ q,N7 l n = some q → q.2.ok = false
 | 0,hn,q,hq=>by rw [Nat.le_zero.1 hn] at h;rw [h] at hq;cases hq;exact hb
 |
  n + 1,hn,q,hq=>by
  rcases Nat.lt_or_ge k (n + 1) with hk | hk
  ·simp only [N7] at hq
   cases hf : N7 l n with
   | none=>rw [hf] at hq;cases hq
   |
    some r =>
    rw [hf] at hq
    dsimp only at hq
    split at hq
    ·cases hq
     exact aeS (aaB h hb n (by omega) r hf)
    ·cases hq
  ·rw [show n + 1 = k by omega] at hq;rw [h] at hq;cases hq;exact hb
theorem Vo {l : List Lk} : ∀ {k : Nat} {p : List Lk × R},N7 l k = some p → bU p.1 = true ∧ p.2.cn ∧ (∀ x ∈ p.1,x.w.cn ∧ x.dx.cn ∧ x.dy.cn) ∧ p.1.length ≤ 101
 | 0,p,h=>by cases h;exact ⟨by decide,IW (by decide),by simp,by simp⟩
 |
  k + 1,p,h=>by
  simp only [N7] at h
  cases hf : N7 l k with
  | none=>rw [hf] at h;cases h
  |
   some r =>
   rw [hf] at h
   dsimp only at h
   split at h
   ·rename_i hk
    cases h
    have:=ZH r.1 (l.getD k default)
    exact ⟨(akP hk).1,IV _ _,this.1,this.2.2⟩
   ·cases h
theorem C9 {l : List Lk} (h : Vl l = none) : Vm l = [] ∧ XO l = R0 ∧ G9 l = false:=by
 unfold Vm XO G9;rw [h];exact ⟨rfl,rfl,rfl⟩
theorem N8 {l : List Lk} {k : Nat} (h : N7 l k = none) (hk : k ≤ l.length) : Vl l = none:=by
 unfold Vl;rw [XP h l.length hk]
theorem ZJ {l : List Lk} {k : Nat} {p : List Lk × R} (h : N7 l k = some p) (hb : p.2.ok = false) (hk : k ≤ l.length) : Vl l = none:=by
 unfold Vl
 cases hf : N7 l l.length with
 | none=>rfl
 | some q=>dsimp only;rw [if_neg (by rw [aaB h hb _ hk q hf];simp)]
theorem akQ {l : List Lk} : (∀ x ∈ Vm l,x.w.cn ∧ x.dx.cn ∧ x.dy.cn) ∧ (XO l).cn ∧ (Vm l).length ≤ 101 ∧ bU (Vm l) = true:=by
 cases hg : Vl l with
 |
  none =>
  obtain ⟨e1,e2,_⟩:=C9 hg
  rw [e1,e2];exact ⟨by simp,ahm,by simp,by decide⟩
 |
  some p =>
  have e1 : Vm l = p.1:=by unfold Vm;rw [hg];rfl
  have e2 : XO l = p.2:=by unfold XO;rw [hg];rfl
  rw [e1,e2]
  unfold Vl at hg
  cases hf : N7 l l.length with
  | none=>rw [hf] at hg;cases hg
  |
   some q =>
   rw [hf] at hg
   dsimp only at hg
   split at hg
   ·cases hg
    obtain ⟨a,b,c,d⟩:=Vo hf
    exact ⟨c,b,d,a⟩
   ·cases hg
theorem Vp {s : List Lk} (h : ∀ x ∈ s,x.w.cn ∧ x.dx.cn ∧ x.dy.cn) (hl : s.length ≤ 101) : Aq Lk.sz s ≤ 20000:=by
 have:=ZG (f:=Lk.sz) (k:=144) fun x hx=>aeP (h x hx)
 omega
theorem Vq {s : List Lk} (h : ∀ x ∈ s,x.w.cn ∧ x.dx.cn ∧ x.dy.cn) (hl : s.length ≤ 101) : Hl Lk.wf s :=
 ⟨by omega,fun x hx=>⟨dS (h x hx).1,dS (h x hx).2.1,dS (h x hx).2.2⟩⟩
theorem aeT (σ : Store) (r : R) : resolve σ 11 (.agg r.cells) = some (.agg r.cells):=by
 show resolve σ (10 + 1) (.agg r.cells) = _
 rw [resolve,pU (n:=9) (fun v hv=>WI [r] _ (by simp) v hv)];rfl
theorem Vr {T : Tb} (h : yK T) {l : List Lk} (hw : Hl Lk.wf l:=by exact dD) (hz : Aq Lk.sz l ≤ 1048576:=by exact dD) : PF T 179 [bf l] (.eF [bf (Vm l),aU (XO l),.bool (G9 l)]):=by
 have hl : l.length ≤ 1048576:=by have:=rD Lk.sz l;omega
 refine aK nR h.hT ?_
 simp only [qV,Lz]
 refine ev ?_
 refine ah (lS h.dI (n:=0)) ?_
 refine ev ?_
 refine aQ (fun _ _=>false) (α:=Nat × List Lk × R) (fun q=>⟨bM [bf l,.any,.any,.ptr 0 0 0,.any,bf q.2.1,.ptr 1 0 0,.any,.any,.any,.any,.any,.any,.any,bf l,iv (l.length : Nat),iv (q.1 : Nat)],[some ⟨3,[[.bool false,.ak,.ak]]⟩,some ⟨3,[q.2.2.cells]⟩],0,0,[],[]⟩) (fun q=>q.1 ≤ l.length ∧ N7 l q.1 = some (q.2.1,q.2.2)) (fun q=>l.length - q.1) rfl (0,[],iU 0) ?_ ?_ ?_
 ·exact ⟨by omega,rfl⟩
 ·(refine PU [(0,_),(2,_)] (by simp) (by intro p hp;simp only [List.mem_cons,List.not_mem_nil,or_false] at hp;rcases hp with rfl | rfl <;> refine ⟨rfl,?_⟩ <;> first | exact nN _ | simp [dO,V.still]) rfl ?_) <;> (try (refine ev ?_;try with_reducible exact True.intro)) <;> (repeat' (first | exact True.intro | omega | exact fV rfl (by simp) | refine ⟨?_,?_⟩ | exact of_eq_true (Ag _ _ _) | exact jm rfl (by simp;done) | exact jm rfl rfl | (refine kS rfl ?_ rfl;simp [aN];done) | (refine kS rfl ?_ rfl;simp [aN];omega) | (refine Cb ?_ ?_;(focus ((refine ev ?_;try with_reducible exact True.intro);done));(intro q hq k s0 l0;simp;done))))
 ·rintro ⟨k,S,e⟩ ⟨hk,hf⟩
  dsimp only at hk hf
  obtain ⟨i1,i2,i3,i4⟩:=Vo hf
  dsimp only at i1 i2 i3 i4
  by_cases hc : (k : Int) < (l.length : Nat)
  ·have hkl : k < l.length:=by omega
   have hxw:=aeQ hw hkl
   have hxz:=EZ (f:=Lk.sz) hz (getD_mem hkl)
   have hs : N7 l (k + 1) = if Ov S (l.getD k default) = true then some (adV S (l.getD k default),qj e (adE S (l.getD k default))) else none:=by simp only [N7,hf]
   have hmx : (l.map Lk.cells).getD k [] = (l.getD k default).cells:=mg hkl
   have hbad : N7 l (k + 1) = none → Vl l = none:=fun h=>N8 h (by omega)
   generalize l.getD k default = x at hs hxw hxz hmx
   have ca:=ZE h.QS (s:=S) (l:=x) (Vq i3 i4) hxw (by have:=Vp i3 i4;omega) hxz
   have hac:=ZH S x
   cases ho : Ov S x
   ·rw [ho] at hs ca
    obtain ⟨e1,e2,e3⟩:=C9 (hbad hs)
    rw [e1,e2,e3]
    refine iW @hc @hmx ?_
    refine ah ca ?_
    refine ev ?_
    exact I8
   ·rw [ho,if_pos rfl] at hs
    rw [ho] at ca
    generalize adV S x = S' at hs ca hac
    generalize adE S x = e' at hs ca hac
    refine iW @hc @hmx ?_
    refine ah ca ?_
    refine ev ?_
    refine ah (vH h.eP (dS i2) (dS hac.2.1)) ?_
    refine ev ?_
    exact ⟨(k + 1,S',qj e e'),by dsimp only;omega,⟨by dsimp only;omega,hs⟩,by exact aed⟩
  ·have hie : k = l.length:=by omega
   have hg : Vl l = if e.ok = true then some (S,e) else none:=by unfold Vl;rw [← hie,hf]
   have co:=jF h.aW (dS i2)
   cases hb : e.ok
   ·rw [hb] at co hg
    obtain ⟨e1,e2,e3⟩:=C9 hg
    rw [e1,e2,e3]
    refine ev1 @hc ?_
    refine ah co ?_
    refine ev ?_
    exact I8
   ·rw [hb,if_pos rfl] at hg
    have e1 : Vm l = S:=by unfold Vm;rw [hg];rfl
    have e2 : XO l = e:=by unfold XO;rw [hg];rfl
    have e3 : G9 l = true:=by unfold G9;rw [hg];rfl
    rw [e1,e2,e3]
    rw [hb] at co
    refine ev1 @hc ?_
    refine ah co ?_
    refine ev ?_
    refine ⟨by unfold jl;decide +kernel,?_⟩
    rw [aeT]
    exact aC _
def Df (l : List Lk) (a b : Int) : Lk:=if bU l = true then (RX l a b).getD Lk0 else Lk0
def aeU (l : List Lk) (a b : Int) : Bool:=bU l && (RX l a b).isSome
theorem ahJ {l : List Lk} {a b : Int} (h : Hl Lk.wf l) : (Df l a b).wf:=by
 have h0 : Lk0.wf:=by simp [Lk.wf,R.wf]
 unfold Df
 split
 ·cases hf : RX l a b with
  | none=>exact h0
  | some x=>exact h.2 x (XJ hf)
 ·exact h0
theorem ab6 {T : Tb} (h : Ej T) {l : List Lk} {a b : Int} (hw : Hl Lk.wf l:=by exact dD) (hz : Aq Lk.sz l ≤ 1048576:=by exact dD) : PF T 225 [bf l,iv a,iv b] (.eF [IL (Df l a b),.bool (aeU l a b)]):=by
 have hl : l.length ≤ 1048576:=by have:=rD Lk.sz l;omega
 have ci:=wF h.gy hw
 unfold Df aeU
 cases hb : bU l
 ·rw [hb] at ci
  refine aK nR h.hT ?_
  simp only [sW,Lz]
  refine ev ?_
  refine ah ci ?_
  refine ev ?_
  exact XI Nl
 rw [hb] at ci
 simp only [Bool.true_and,if_true]
 refine aK nR h.hT ?_
 simp only [sW,Lz]
 refine ev ?_
 refine ah ci ?_
 refine ev ?_
 refine aQ (fun _ _=>false) (α:=Nat) (fun i=>⟨bM [.any,iv a,iv b,.any,.any,.any,.ptr 0 0 0,.any,.any,.any,.any,.any,.any,.any,bf l,iv (l.length : Nat),iv (i : Nat)],[some ⟨11,[[iv 0,iv 0,.bool false,.ak,.ak,.bool false,.ak,.ak,.bool false,.ak,.ak]]⟩],0,0,[],[]⟩) (fun i=>i ≤ l.length ∧ ∀ j,j < i → Zw a b (l.getD j default) = false) (fun i=>l.length - i) rfl 0 ?_ ?_ ?_
 ·exact ⟨by omega,fun j hj=>absurd hj (by omega)⟩
 ·(refine aI ?_;exact yB)
 ·rintro i ⟨hi,hj⟩
  by_cases hc : (i : Int) < (l.length : Nat)
  ·have hil : i < l.length:=by omega
   have hys:=EZ (f:=Lk.sz) hz (getD_mem hil)
   obtain ⟨y,hy⟩ : ∃ y,l.getD i default = y:=⟨_,rfl⟩
   rw [hy] at hys
   have cc:=BM h.iy hys
   refine uO @hc @mg @hy ?_
   repeat' ((refine aeo (fun hb=>?_) fun hb=>?_) <;> (try (refine ev1 @hb ?_;try with_reducible exact True.intro)))
   all_goals simp only [eq_iff_iff,iff_true,iff_false] at *
   all_goals first
    | (exfalso;omega)
    | (
      have
        hn : ∀ j,j < i + 1 → Zw a b (l.getD j default) = false:=fun j hj'=>by
        by_cases e : j = i
        ·rw [e,hy];simp only [Zw,Bool.or_eq_false_iff,Bool.and_eq_false_iff,decide_eq_false_iff_not];omega
        ·exact hj j (by omega)
      exact ⟨i + 1,by omega,⟨by omega,hn⟩,by exact Y1⟩)
    | (
      have hm : Zw a b (l.getD i default) = true:=by rw [hy];simp only [Zw,Bool.or_eq_true,Bool.and_eq_true,decide_eq_true_eq];omega
      rw [akK hil hj hm,hy]
      simp only [Option.getD_some,Option.isSome_some]
      refine ah cc ?_
      refine ev ?_
      exact aC _)
  ·have : i = l.length:=by omega
   subst this
   rw [akL hj]
   refine ev1 @hc ?_
   simp only [Option.getD_none,Option.isSome_none]
   exact XI Nl
def TV (v : Int) (l : Lk) : Option Pa:=if l.a = v then some ⟨l.b,l.w,negR l.dx,negR l.dy⟩ else if l.b = v then some ⟨l.a,l.w,l.dx,l.dy⟩ else none
def Eo (S : List Lk) (v : Int) (k : Nat) : List Pa:=(S.take k).filterMap (TV v)
def oU (S : List Lk) (v : Int) : List Pa:=Eo S v S.length
theorem akR (S : List Lk) (v : Int) : Eo S v 0 = []:=by simp [Eo]
theorem akS (S : List Lk) (v : Int) {i : Nat} (h : i < S.length) : Eo S v (i + 1) = Eo S v i ++ (match TV v (S.getD i default) with | some n=>[n] | none=>[]):=by
 unfold Eo;rw [take_snoc h,List.filterMap_append,List.filterMap_cons]
 cases TV v (S.getD i default) <;> rfl
theorem XQ (S : List Lk) (v : Int) (k : Nat) : (Eo S v k).length ≤ k:=by
 unfold Eo
 exact Nat.le_trans (List.length_filterMap_le _ _) (by simp;omega)
def qy (A : List Pa) : R:=Dk A A.length
def qX (t : R) (a : Pa) : Pa:=⟨a.node,uP a.share t,a.dx,a.dy⟩
def fO (v : Int) (A : List Pa) : Cd:=⟨v,qy A,A.map (qX (qy A))⟩
def Iw (t : R) (a b : Pa) : Lk:=⟨a.node,b.node,uP (mulR a.share b.share) t,ES a.dx b.dx,ES a.dy b.dy⟩
def mM (A : List Pa) (i j : Nat) : List Lk:=((A.drop (i + 1)).take j).map (Iw (qy A) (A.getD i default))
def iF (A : List Pa) : Nat → List Lk
 | 0=>[]
 | i + 1=>iF A i ++ mM A i (A.length - (i + 1))
def Fh (A : List Pa) : List Lk:=iF A A.length
theorem QU (A : List Pa) : (qy A).cn:=DI _ _
theorem aaC (t : R) (a b : Pa) : (Iw t a b).w.cn ∧ (Iw t a b).dx.cn ∧ (Iw t a b).dy.cn:=⟨DC _ _,OI _ _,OI _ _⟩
theorem OY (A : List Pa) (i : Nat) : mM A i 0 = []:=by simp [mM]
theorem Vt (A : List Pa) {i j : Nat} (h : i + 1 + j < A.length) : mM A i (j + 1) = mM A i j ++ [Iw (qy A) (A.getD i default) (A.getD (i + 1 + j) default)]:=by
 unfold mM
 rw [List.take_add_one,List.map_append]
 congr 1
 rw [List.getElem?_drop,List.getElem?_eq_getElem (by omega),List.getD_eq_getElem?_getD (i:=i + 1 + j),List.getElem?_eq_getElem (by omega)]
 rfl
theorem Nr (A : List Pa) (i j : Nat) : (mM A i j).length ≤ j:=by unfold mM;simp;omega
theorem Dh (A : List Pa) : ∀ i,(iF A i).length ≤ i * A.length
 | 0=>Nat.zero_le _
 |
  i + 1=>by
  have h1:=Dh A i
  have h2:=Nr A i (A.length - (i + 1))
  show (iF A i ++ mM A i (A.length - (i + 1))).length ≤ (i + 1) * A.length
  rw [List.length_append,Nat.succ_mul];omega
theorem TW {A : List Pa} {i j : Nat} {x : Lk} (h : x ∈ mM A i j) : ∃ k,i < k ∧ k < A.length ∧ x = Iw (qy A) (A.getD i default) (A.getD k default):=by
 unfold mM at h
 obtain ⟨b,hb,rfl⟩:=List.mem_map.1 h
 have hb:=List.mem_of_mem_take hb
 obtain ⟨q,hq⟩:=List.mem_iff_getElem?.1 hb
 rw [List.getElem?_drop] at hq
 have hl:=(List.getElem?_eq_some_iff.1 hq).1
 exact ⟨i + 1 + q,by omega,hl,by rw [List.getD_eq_getElem?_getD (i:=i + 1 + q),hq];rfl⟩
theorem J5 {A : List Pa} {x : Lk} : ∀ {i : Nat},x ∈ iF A i → ∃ p k,p < i ∧ p < k ∧ k < A.length ∧ x = Iw (qy A) (A.getD p default) (A.getD k default)
 | 0,h=>by cases h
 |
  i + 1,h=>by
  rcases List.mem_append.1 h with h | h
  ·obtain ⟨p,k,h1,h2⟩:=J5 h
   exact ⟨p,k,by omega,h2⟩
  ·obtain ⟨k,h1,h2,h3⟩:=TW h
   exact ⟨i,k,by omega,h1,h2,h3⟩
theorem aaD {A : List Pa} : ∀ x ∈ Fh A,x.w.cn ∧ x.dx.cn ∧ x.dy.cn:=fun x hx=>by
 obtain ⟨p,k,_,_,_,rfl⟩:=J5 hx
 exact aaC _ _ _
def aeV (A : List Pa) : Prop:=∀ i j,i < j → j < A.length → (A.getD i default).node < (A.getD j default).node
theorem aaE {A : List Pa} (h : ∀ i,i + 1 < A.length → (A.getD i default).node < (A.getD (i + 1) default).node) : aeV A
 | i,0,hij,_=>absurd hij (Nat.not_lt_zero _)
 |
  i,j + 1,hij,hj=>by
  by_cases e : i = j
  ·subst e;exact h i hj
  ·exact Int.lt_trans (aaE h i j (by omega) (by omega)) (h j hj)
theorem XR {A : List Pa} (h : aeV A) {i : Nat} : ∀ j,i + 1 + j ≤ A.length → (mM A i j).Pairwise fun k l=>bJ k l = true
 | 0,_=>by rw [OY];exact .nil
 |
  j + 1,hj=>by
  rw [Vt A (by omega),List.pairwise_append]
  refine ⟨XR h j (by omega),by simp,fun x hx y hy=>?_⟩
  rw [List.mem_singleton.1 hy]
  unfold mM at hx
  obtain ⟨b,hb,rfl⟩:=List.mem_map.1 hx
  obtain ⟨q,hq⟩:=List.mem_iff_getElem?.1 hb
  rw [List.getElem?_take] at hq
  split at hq
  ·rw [List.getElem?_drop] at hq
   have e : b = A.getD (i + 1 + q) default:=by rw [List.getD_eq_getElem?_getD,hq];rfl
   rw [yJ]
   refine .inr ⟨rfl,?_⟩
   rw [e]
   exact h _ _ (by omega) (by omega)
  ·cases hq
theorem TY {A : List Pa} (h : aeV A) : ∀ i,i ≤ A.length → (iF A i).Pairwise fun k l=>bJ k l = true
 | 0,_=>.nil
 |
  i + 1,hi=>by
  show (iF A i ++ mM A i (A.length - (i + 1))).Pairwise _
  rw [List.pairwise_append]
  refine ⟨TY h i (by omega),XR h _ (by omega),fun x hx y hy=>?_⟩
  obtain ⟨p,k,h1,_,_,rfl⟩:=J5 hx
  obtain ⟨q,_,_,rfl⟩:=TW hy
  rw [yJ]
  exact .inl (h _ _ h1 (by omega))
theorem OZ {v : Int} {A : List Pa} {i : Nat} (h : i < A.length) : (fO v A).ps.getD i default = qX (qy A) (A.getD i default):=by
 show (A.map _).getD i default = _
 rw [List.getD_eq_getElem?_getD,List.getElem?_map,List.getElem?_eq_getElem h,List.getD_eq_getElem?_getD,List.getElem?_eq_getElem h];rfl
theorem aeW {v : Int} {A : List Pa} (h : kW (fO v A) = true) : aeV A:=by
 have hl : (fO v A).ps.length = A.length:=List.length_map ..
 unfold kW at h
 simp only [Bool.and_eq_true,decide_eq_true_eq] at h
 refine aaE fun i hi=>?_
 have:=h.1.1.1.1 (i + 1) (by rw [hl];exact hi)
 unfold xP at this
 rw [OZ hi,Nat.add_sub_cancel,OZ (by omega)] at this
 simp only [Bool.and_eq_true,Bool.or_eq_true,decide_eq_true_eq] at this
 rcases this.1.1.1.2 with e | e
 ·omega
 ·exact e
theorem akT {v : Int} {A : List Pa} (h : kW (fO v A) = true) : bU (Fh A) = (Fh A).all jg:=by
 cases ha : (Fh A).all jg
 ·cases hb : bU (Fh A)
  ·rfl
  ·rw [List.all_eq_true.2 (vK.1 hb).1] at ha;cases ha
 ·exact vK.2 ⟨List.all_eq_true.1 ha,TY (aeW h) _ (Nat.le_refl _)⟩
def J6 (S : List Lk) (v : Int) : Bool:=bU S && inB v 1 9 && kW (fO v (oU S v)) && (Fh (oU S v)).all jg
def VK (S : List Lk) (v : Int) : Cd:=if J6 S v = true then fO v (oU S v) else ⟨0,R0,[]⟩
def Ua (S : List Lk) (v : Int) : List Lk:=if J6 S v = true then Fh (oU S v) else []
theorem Si {S : List Lk} {v : Int} (h : J6 S v = false) : VK S v = ⟨0,R0,[]⟩ ∧ Ua S v = []:=by
 unfold VK Ua;rw [h];exact ⟨rfl,rfl⟩
theorem aeX {S : List Lk} {v : Int} (h : J6 S v = true) : VK S v = fO v (oU S v) ∧ Ua S v = Fh (oU S v):=by
 unfold VK Ua;rw [h];exact ⟨rfl,rfl⟩
theorem ZK {S : List Lk} (h : bU S = true) {v : Int} {a : Pa} {k : Nat} (ha : a ∈ Eo S v k) : a.share.ok = true ∧ a.dx.cn ∧ a.dy.cn ∧ 0 ≤ a.node ∧ a.node ≤ 9:=by
 unfold Eo at ha
 obtain ⟨l,hl,e⟩:=List.mem_filterMap.1 ha
 have hk:=qU h (List.mem_of_mem_take hl)
 have h1:=Lh hk
 have h2:=qR hk
 unfold TV at e
 split at e
 ·cases e;exact ⟨h1.1,UO _,UO _,by dsimp only;omega,by dsimp only;omega⟩
 ·split at e
  ·cases e;exact ⟨h1.1,xX h1.2.1,xX h1.2.2.1,by dsimp only;omega,by dsimp only;omega⟩
  ·cases e
def LG (S : List Lk) (v n : Int) : Pa:=if (Df S n v).a = v then ⟨n,(Df S n v).w,negR (Df S n v).dx,negR (Df S n v).dy⟩ else ⟨n,(Df S n v).w,(Df S n v).dx,(Df S n v).dy⟩
theorem ahK {S : List Lk} (h : bU S = true) {x y : Lk} (hx : x ∈ S) (hy : y ∈ S) (ha : x.a = y.a) (hb : x.b = y.b) : x = y:=by
 have hp:=(vK.1 h).2
 rw [List.pairwise_iff_getElem] at hp
 obtain ⟨i,hi⟩:=List.mem_iff_getElem?.1 hx
 obtain ⟨j,hj⟩:=List.mem_iff_getElem?.1 hy
 obtain ⟨hil,hie⟩:=List.getElem?_eq_some_iff.1 hi
 obtain ⟨hjl,hje⟩:=List.getElem?_eq_some_iff.1 hj
 rcases Nat.lt_trichotomy i j with k | k | k
 ·have:=hp i j hil hjl k
  rw [hie,hje,yJ] at this;omega
 ·subst k;rw [← hie,← hje]
 ·have:=hp j i hjl hil k
  rw [hie,hje,yJ] at this;omega
theorem aaF {S : List Lk} (h : bU S = true) {x : Lk} (hx : x ∈ S) {a b : Int} (hp : Zw a b x = true) : RX S a b = some x:=by
 cases hf : RX S a b with
 |
  none =>
  have:=List.find?_eq_none.1 hf x hx
  exact absurd hp this
 |
  some y =>
  have hy:=XJ hf
  have hq : Zw a b y = true:=List.find?_some hf
  have n1:=qR (qU h hx)
  have n2:=qR (qU h hy)
  unfold Zw at hp hq
  simp only [Bool.or_eq_true,Bool.and_eq_true,decide_eq_true_eq] at hp hq
  rw [ahK h hy hx (by omega) (by omega)]
theorem XT {α β : Type} {f g : α → Option β} : ∀ {l : List α},(∀ x ∈ l,f x = g x) → l.filterMap f = l.filterMap g
 | [],_=>rfl
 | x :: l,h=>by rw [List.filterMap_cons,List.filterMap_cons,h x (by simp),XT fun y hy=>h y (by simp [hy])]
theorem ahL {S : List Lk} (h : bU S = true) (v : Int) : ((nbI S v S.length).map (LG S v)) = oU S v:=by
 unfold nbI oU Eo
 rw [List.take_length,List.map_filterMap]
 refine XT fun l hl=>?_
 have n1:=qR (qU h hl)
 unfold Zq TV
 by_cases e1 : l.a = v
 ·have hf : Df S l.b v = l:=by
   unfold Df
   rw [if_pos h,aaF h hl (by unfold Zw;simp only [Bool.or_eq_true,Bool.and_eq_true,decide_eq_true_eq];exact .inr ⟨e1,trivial⟩)];rfl
  rw [if_pos e1,if_pos e1]
  show some (LG S v l.b) = _
  unfold LG
  rw [hf,if_pos e1]
 ·rw [if_neg e1,if_neg e1]
  by_cases e2 : l.b = v
  ·have hf : Df S l.a v = l:=by
    unfold Df
    rw [if_pos h,aaF h hl (by unfold Zw;simp only [Bool.or_eq_true,Bool.and_eq_true,decide_eq_true_eq];exact .inl ⟨trivial,e2⟩)];rfl
   rw [if_pos e2,if_pos e2]
   show some (LG S v l.a) = _
   unfold LG
   rw [hf,if_neg e1]
  ·rw [if_neg e2,if_neg e2];rfl
section
variable {s s1 σ2 : Store} {a b ta tb rs trs : List V} {os os2 : List Nat} {L : List (Nat × Obj)}
end
theorem Ep.sub {s : Store} {cs ts : List V} {os : List Nat} {L L' : List (Nat × Obj)} (E : Ep s cs ts os L) (h : ∀ q ∈ L',q ∈ L) : Ep s cs ts os L':=⟨E.c,fun q hq=>E.l q (h q hq)⟩
end Go.Ml
end
section
namespace Go.Ml
section
variable {s s1 S σ2 : Store} {a b c ta tb tc rs trs cs ts : List V} {os os2 : List Nat} {L L' : List (Nat × Obj)}
theorem Ep.to (E : Ep s cs ts os L) (ho : ∀ o ∈ os,aj S o = aj s o) (hL : ∀ q ∈ L',(q ∈ L ∧ aj S q.1 = aj s q.1) ∨ (aj S q.1 = some q.2 ∧ q.1 ∉ os)) : Ep S cs ts os L':=by
 refine ⟨E.c.frame ho,fun q hq=>?_⟩
 rcases hL q hq with ⟨h1,h2⟩ | h
 ·exact ⟨h2.trans (E.l q h1).1,(E.l q h1).2⟩
 ·exact h
theorem Ep.aeY (E : Ep s cs ts os L) : ∀ o ∈ os,o < s.length:=fun o h=>E.c.lt o h
theorem Ep.akU (E : Ep s (a ++ (b ++ c)) (ta ++ (tb ++ tc)) os L) (hla : a.length = ta.length) (hlb : b.length = tb.length) (h1 : ∀ o,o < s.length → aj s1 o = aj s o) (hl : s.length ≤ s1.length) (ho : dY σ2 rs trs os2) (hn : os2.Nodup) (hf : ∀ o ∈ os2,s1.length ≤ o)
  (old : ∀ o,o < s1.length → aj σ2 o = aj s1 o) : ∃ os',Ep σ2 (a ++ (rs ++ c)) (ta ++ (trs ++ tc)) os' L ∧ ∀ o ∈ os',o ∈ os ∨ s1.length ≤ o:=by
 obtain ⟨a1,a2,oa,obc,e,rfl,k1,k2⟩:=gu E.c.ow
 obtain ⟨rfl,rfl⟩:=List.append_inj e (by rw [hla];exact k1.len.symm)
 obtain ⟨b1,b2,ob,oc,e,rfl,k3,k4⟩:=gu k2
 obtain ⟨rfl,rfl⟩:=List.append_inj e (by rw [hlb];exact k3.len.symm)
 have hlt:=fun o (h : o ∈ oa ++ (ob ++ oc))=>E.c.lt o h
 have nd:=List.nodup_append.1 E.c.nd
 have nd2:=List.nodup_append.1 nd.2.1
 have fr : ∀ o ∈ oa ++ (ob ++ oc),aj σ2 o = aj s o:=fun o h=>by
  have:=hlt o h
  rw [old o (by omega),h1 o this]
 refine ⟨oa ++ (os2 ++ oc),⟨⟨dB (k1.frame fun o h=>fr o (by simp [h])) (dB ho (k4.frame fun o h=>fr o (by simp [h]))),?_⟩,fun q hq=>⟨(old _ (Nat.lt_of_lt_of_le (E.lt q hq) hl)).trans ((h1 _ (E.lt q hq)).trans (E.l q hq).1),fun hm=>?_⟩⟩,fun o h=>?_⟩
 ·rw [List.nodup_append,List.nodup_append]
  refine ⟨nd.1,⟨hn,nd2.2.1,fun x hx y hy e=>?_⟩,fun x hx y hy e=>?_⟩
  ·have:=hf x hx
   have:=hlt y (by simp [hy])
   omega
  ·rcases List.mem_append.1 hy with hy | hy
   ·have:=hf y hy
    have:=hlt x (by simp [hx])
    omega
   ·exact nd.2.2 x hx y (List.mem_append_right _ hy) e
 ·simp only [List.mem_append] at hm
  rcases hm with hm | hm | hm
  ·exact (E.l q hq).2 (by simp [hm])
  ·have:=hf _ hm;have:=E.lt q hq;omega
  ·exact (E.l q hq).2 (by simp [hm])
 ·simp only [List.mem_append] at h
  rcases h with h | h | h
  ·exact .inl (by simp [h])
  ·exact .inr (hf o h)
  ·exact .inl (by simp [h])
theorem Ep.upd {p : Nat} {ob ob0 : Obj} (E : Ep s (a ++ (b ++ c)) (ta ++ (tb ++ tc)) os L) (hp : (p,ob0) ∈ L) (hla : a.length = ta.length) (hlb : b.length = tb.length) (h1 : ∀ o,o < s.length → aj s1 o = aj s o) (hl : s.length ≤ s1.length) (ho : dY σ2 rs trs os2) (hn : os2.Nodup) (hf : ∀ o ∈ os2,s1.length ≤ o)
  (old : ∀ o,o < s1.length → aj σ2 o = aj s1 o) (hL : ∀ q ∈ L',(q.1 ≠ p ∧ q ∈ L) ∨ q = (p,ob)) (hs : s1.length ≤ σ2.length) : ∃ os',Ep (σ2.set p (some ob)) (a ++ (rs ++ c)) (ta ++ (trs ++ tc)) os' L':=by
 obtain ⟨os',E2,_⟩:=E.akU hla hlb h1 hl ho hn hf old
 have hpl:=E.lt _ hp
 exact ⟨os',E2.EW (E2.l _ hp).2 (by dsimp only at hpl;omega) hL⟩
theorem Ep.cut (E : Ep s (a ++ (b ++ c)) (ta ++ (tb ++ tc)) os L) (hla : a.length = ta.length) (hlb : b.length = tb.length) : ∃ os',Ep s (a ++ c) (ta ++ tc) os' L ∧ ∀ o ∈ os',o ∈ os:=by
 obtain ⟨a1,a2,oa,obc,e,rfl,k1,k2⟩:=gu E.c.ow
 obtain ⟨rfl,rfl⟩:=List.append_inj e (by rw [hla];exact k1.len.symm)
 obtain ⟨b1,b2,ob,oc,e,rfl,k3,k4⟩:=gu k2
 obtain ⟨rfl,rfl⟩:=List.append_inj e (by rw [hlb];exact k3.len.symm)
 have nd:=List.nodup_append.1 E.c.nd
 have nd2:=List.nodup_append.1 nd.2.1
 refine ⟨oa ++ oc,⟨⟨dB k1 k4,?_⟩,fun q hq=>⟨(E.l q hq).1,fun hm=>(E.l q hq).2 ?_⟩⟩,fun o h=>?_⟩
 ·rw [List.nodup_append]
  exact ⟨nd.1,nd2.2.1,fun x hx y hy e=>nd.2.2 x hx y (List.mem_append_right _ hy) e⟩
 ·rcases List.mem_append.1 hm with h | h <;> simp [h]
 ·rcases List.mem_append.1 h with h | h <;> simp [h]
theorem Ep.swap (E : Ep s (a ++ (b ++ c)) (ta ++ (tb ++ tc)) os L) (hla : a.length = ta.length) (hlb : b.length = tb.length) : ∃ os',Ep s (b ++ (a ++ c)) (tb ++ (ta ++ tc)) os' L ∧ ∀ o,o ∈ os' ↔ o ∈ os:=by
 obtain ⟨a1,a2,oa,obc,e,rfl,k1,k2⟩:=gu E.c.ow
 obtain ⟨rfl,rfl⟩:=List.append_inj e (by rw [hla];exact k1.len.symm)
 obtain ⟨b1,b2,ob,oc,e,rfl,k3,k4⟩:=gu k2
 obtain ⟨rfl,rfl⟩:=List.append_inj e (by rw [hlb];exact k3.len.symm)
 have nd:=List.nodup_append.1 E.c.nd
 have nd2:=List.nodup_append.1 nd.2.1
 have hm : ∀ o,o ∈ ob ++ (oa ++ oc) ↔ o ∈ oa ++ (ob ++ oc):=fun o=>by simp only [List.mem_append];constructor <;> rintro (h | h | h) <;> simp [h]
 refine ⟨ob ++ (oa ++ oc),⟨⟨dB k3 (dB k1 k4),?_⟩,fun q hq=>⟨(E.l q hq).1,fun h=>(E.l q hq).2 ((hm _).1 h)⟩⟩,hm⟩
 rw [List.nodup_append,List.nodup_append]
 refine ⟨nd2.1,⟨nd.1,nd2.2.1,fun x hx y hy e=>nd.2.2 x hx y (List.mem_append_right _ hy) e⟩,fun x hx y hy e=>?_⟩
 rcases List.mem_append.1 hy with hy | hy
 ·exact nd.2.2 y hy x (List.mem_append_left _ hx) e.symm
 ·exact nd2.2.2 x hx y hy e
end
theorem XU {σ : Store} {k : Nat} : ∀ {A T : List (List V)} {os : List Nat},(∀ r ∈ A,r.length = k) → (∀ r ∈ T,r.length = k) → A.length = T.length → dY σ A.flatten T.flatten os → kG σ A T os
 |
  [],[],os,_,_,_,h=>by
  simp only [List.flatten_nil,dY] at h
  simp only [kG];exact h
 | [],t :: T,_,_,_,h,_=>by simp at h
 | a :: A,[],_,_,_,h,_=>by simp at h
 |
  a :: A,t :: T,os,ha,ht,hl,h=>by
  simp only [List.flatten_cons] at h
  obtain ⟨v1,v2,o1,o2,e,rfl,h1,h2⟩:=gu h
  have hlen:=h1.len
  have e1:=ha a (by simp)
  have e2:=ht t (by simp)
  obtain ⟨rfl,rfl⟩:=List.append_inj e (by omega)
  simp only [kG]
  exact ⟨a,A,o1,o2,rfl,rfl,h1,XU (fun r hr=>ha r (by simp [hr])) (fun r hr=>ht r (by simp [hr])) (by simpa using hl) h2⟩
section
variable {s : Store} {A T : List (List V)} {a c ta tc : List V} {os : List Nat} {L : List (Nat × Obj)} {n p k : Nat}
theorem Ep.close (E : Ep s (A.flatten ++ c) (T.flatten ++ tc) os L) (hp : (p,⟨n,A⟩) ∈ L) (ha : ∀ r ∈ A,r.length = k) (ht : ∀ r ∈ T,r.length = k) (hl : A.length = T.length) :
  ∃ os',Ep s (.bC p 0 A.length :: c) (.sl n T :: tc) os' (L.filter fun q=>q.1 != p):=by
 have hfl : A.flatten.length = T.flatten.length:=by
  have e1 : ∀ (X : List (List V)),(∀ r ∈ X,r.length = k) → X.flatten.length = X.length * k:=fun X=>by
   induction X with
   | nil=>intro _;simp
   |
    cons x X ih =>
    intro h
    rw [List.flatten_cons,List.length_append,ih fun r hr=>h r (by simp [hr]),h x (by simp),List.length_cons,Nat.succ_mul]
    omega
  rw [e1 A ha,e1 T ht,hl]
 obtain ⟨v1,v2,o1,o2,e,rfl,h1,h2⟩:=gu E.c.ow
 obtain ⟨rfl,rfl⟩:=List.append_inj e (by rw [hfl];exact h1.len.symm)
 have hR:=XU ha ht hl h1
 have hpo:=E.l _ hp
 have nd:=List.nodup_append.1 E.c.nd
 have hv : bD s (.bC p 0 A.length) (.sl n T) (p :: o1):=by
  simp only [bD]
  exact .inr ⟨p,A,o1,by rw [hl],hpo.1,rfl,hR⟩
 refine ⟨(p :: o1) ++ o2,⟨⟨jh hv h2,?_⟩,fun q hq=>?_⟩⟩
 ·simp only [List.cons_append,List.nodup_cons]
  exact ⟨hpo.2,E.c.nd⟩
 ·obtain ⟨hq1,hq2⟩:=List.mem_filter.1 hq
  have hne : q.1 ≠ p:=by simpa using hq2
  refine ⟨(E.l q hq1).1,fun hm=>?_⟩
  simp only [List.cons_append,List.mem_cons] at hm
  rcases hm with hm | hm
  ·exact hne hm
  ·exact (E.l q hq1).2 hm
end
end Go.Ml
end
section
namespace Go.Ml
def Rd2 (s : Store) (v w : V) (X Y : List R) : Prop :=
 (X = [] ∧ Y = [] ∧ v = .ak ∧ w = .ak) ∨ ∃ p q,p ≠ q ∧ v = .bC p 0 X.length ∧ w = .bC q 0 Y.length ∧ aj s p = some ⟨3,X.map R.cells⟩ ∧ aj s q = some ⟨3,Y.map R.cells⟩
theorem Rd2.fr {s s2 : Store} {v w : V} {X Y : List R} (h : Rd2 s v w X Y) (hf : ∀ p,p < s.length → aj s2 p = aj s p) : Rd2 s2 v w X Y:=by
 rcases h with h | ⟨p,q,h1,h2,h3,h4,h5⟩
 ·exact .inl h
 ·exact .inr ⟨p,q,h1,h2,h3,(hf p (aJ h4)).trans h4,(hf q (aJ h5)).trans h5⟩
def LAt (n : Nat) (v : V) (A : List (List V)) (M : List (Nat × Obj)) : Prop:=(A = [] ∧ v = .ak ∧ M = []) ∨ ∃ p,v = .bC p 0 A.length ∧ M = [(p,⟨n,A⟩)]
def aeZ (x : Nat × List R) : List V:=[.bC x.1 0 x.2.length]
def ZL (s : Store) (v : V) (Z : List (Nat × List R)) : Prop:=((Z = [] ∧ v = .ak) ∨ ∃ q,v = .bC q 0 Z.length ∧ aj s q = some ⟨1,Z.map aeZ⟩) ∧ ∀ x ∈ Z,aj s x.1 = some ⟨3,x.2.map R.cells⟩
theorem ZL.fr {s s2 : Store} {v : V} {Z : List (Nat × List R)} (h : ZL s v Z) (hf : ∀ p,p < s.length → aj s2 p = aj s p) : ZL s2 v Z :=
 ⟨h.1.imp id fun ⟨q,e,hq⟩=>⟨q,e,(hf q (aJ hq)).trans hq⟩,fun x hx=>(hf _ (aJ (h.2 x hx))).trans (h.2 x hx)⟩
theorem ZL.map {s : Store} {m : Nat} : ∀ {Z : List (Nat × List R)},(∀ x ∈ Z,aj s x.1 = some ⟨3,x.2.map R.cells⟩) → ((Z.map aeZ).mapM fun r=>r.mapM (resolve s (m + 2))) = some ((Z.map (·.2)).map fun r=>[Ce r])
 | [],_=>rfl
 |
  x :: Z,h=>by
  have hx:=h x (by simp)
  have e : resolve s (m + 2) (.bC x.1 0 x.2.length) = some (Ce x.2):=by
   have h2:=WI x.2
   unfold resolve
   simp only [hx]
   rw [if_pos (by simp),List.drop_zero,List.take_of_length_le (by simp),pV (n:=m) h2]
   rfl
  have ih:=ZL.map (m:=m) (Z:=Z) fun y hy=>h y (by simp [hy])
  rw [List.map_cons,List.mapM_cons,ih]
  have : (aeZ x).mapM (resolve s (m + 2)) = some [Ce x.2]:=by
   unfold aeZ
   rw [List.mapM_cons,e]
   rfl
  rw [this]
  rfl
theorem ZL.res {s : Store} {q : Nat} {Z : List (Nat × List R)} (h : ∀ x ∈ Z,aj s x.1 = some ⟨3,x.2.map R.cells⟩) (hq : aj s q = some ⟨1,Z.map aeZ⟩) : resolve s FD (.bC q 0 Z.length) = some (JG (Z.map (·.2))):=by
 show resolve s (9 + 2 + 1) _ = _
 unfold resolve
 simp only [hq]
 rw [if_pos (by simp),List.drop_zero,List.take_of_length_le (by simp),ZL.map h]
 rfl
def akV (s : Store) (n0 : Nat) (v : V) (L : List R) : Prop:=(L = [] ∧ v = .ak) ∨ ∃ p,v = .bC p 0 L.length ∧ n0 ≤ p ∧ aj s p = some ⟨3,L.map R.cells⟩
theorem akV.fr {s s2 : Store} {v : V} {n0 : Nat} {L : List R} (h : akV s n0 v L) (hf : ∀ p,p < s.length → aj s2 p = aj s p) : akV s2 n0 v L :=
 h.imp id fun ⟨q,e,hn,hq⟩=>⟨q,e,hn,(hf q (aJ hq)).trans hq⟩
abbrev nbA (s : List Lk) (x : Int) : List Int:=nbI s x s.length
inductive Rch (s : List Lk) (v : Int) : Int → Prop
 | base : Rch s v v
 | step {a b : Int} : Rch s v a → b ∈ nbA s a → Rch s v b
theorem ahN {s : List Lk} {x b : Int} : b ∈ nbA s x ↔ ∃ l ∈ s,Zq x l = some b:=by
 unfold nbA nbI
 rw [List.take_length,List.mem_filterMap]
theorem akW {s : List Lk} (h : bU s = true) {x b : Int} (hb : b ∈ nbA s x) : 0 ≤ b ∧ b < 10 ∧ 0 ≤ x ∧ x < 10:=by
 obtain ⟨l,hl,e⟩:=ahN.1 hb
 have:=qR (qU h hl)
 unfold Zq at e
 split at e
 ·cases e;omega
 ·split at e
  ·cases e;omega
  ·cases e
theorem ae0 {s : List Lk} (h : bU s = true) {v b : Int} (hr : Rch s v b) : b = v ∨ (0 ≤ b ∧ b < 10 ∧ 0 ≤ v ∧ v < 10):=by
 induction hr with
 | base=>exact .inl rfl
 |
  step ha hb ih =>
  have:=akW h hb
  rcases ih with rfl | ih
  ·exact .inr ⟨this.1,this.2.1,this.2.2⟩
  ·exact .inr ⟨this.1,this.2.1,ih.2.2⟩
theorem aaG {s : List Lk} (h : bU s = true) {v : Int} {l : List Int} (hn : l.Nodup) (hl : ∀ a ∈ l,Rch s v a) : l.length ≤ 10:=by
 by_cases hv : 0 ≤ v ∧ v < 10
 ·have:=Ll (a:=l) (b:=[0,1,2,3,4,5,6,7,8,9]) hn fun a ha=>by
   have hb : 0 ≤ a ∧ a < 10:=by
    rcases ae0 h (hl a ha) with rfl | k
    ·exact hv
    ·exact ⟨k.1,k.2.1⟩
   simp only [List.mem_cons,List.not_mem_nil,or_false]
   omega
  simpa using this
 ·have:=Ll (a:=l) (b:=[v]) hn fun a ha=>by
   rcases ae0 h (hl a ha) with rfl | k
   ·simp
   ·exact absurd k.2.2 hv
  simp at this
  omega
def aaH (s : List Lk) (out : List Int) (x : Int) : List Int:=(nbA s x).foldl Dl out
def ahO (s : List Lk) (out : List Int) : List Int:=out.foldl (aaH s) out
def Sj (s : List Lk) (v : Int) : Nat → List Int
 | 0=>[v]
 | n + 1=>ahO s (Sj s v n)
theorem XV : ∀ (l out : List Int) (a : Int),a ∈ l.foldl Dl out ↔ a ∈ out ∨ a ∈ l
 | [],out,a=>by simp
 |
  x :: l,out,a=>by
  rw [List.foldl_cons,XV l,QL,List.mem_cons]
  constructor
  ·rintro ((h | h) | h)
   ·exact .inr (.inl h)
   ·exact .inl h
   ·exact .inr (.inr h)
  ·rintro (h | h | h)
   ·exact .inl (.inr h)
   ·exact .inl (.inl h)
   ·exact .inr h
theorem XW : ∀ (l out : List Int),Asc out → Asc (l.foldl Dl out)
 | [],out,h=>h
 | x :: l,out,h=>XW l _ (Lj h)
theorem I9 {s : List Lk} : ∀ (l out : List Int) (a : Int),a ∈ l.foldl (aaH s) out ↔ a ∈ out ∨ ∃ x ∈ l,a ∈ nbA s x
 | [],out,a=>by simp
 |
  x :: l,out,a=>by
  rw [List.foldl_cons,I9 l]
  unfold aaH
  rw [XV,or_assoc]
  simp only [List.mem_cons,exists_eq_or_imp]
theorem aaI {s : List Lk} : ∀ (l out : List Int),Asc out → Asc (l.foldl (aaH s) out)
 | [],out,h=>h
 | x :: l,out,h=>aaI l _ (XW _ _ h)
theorem O1 (s : List Lk) (v : Int) : ∀ n,Asc (Sj s v n)
 | 0=>by unfold Asc Sj;simp
 | n + 1=>aaI _ _ (O1 s v n)
theorem O4 (s : List Lk) (v : Int) : ∀ n,∀ a ∈ Sj s v n,Rch s v a
 | 0,a,h=>by simp [Sj] at h;subst h;exact .base
 |
  n + 1,a,h=>by
  rcases (I9 _ _ _).1 h with h | ⟨x,hx,h⟩
  ·exact O4 s v n a h
  ·exact .step (O4 s v n x hx) h
theorem XY (s : List Lk) (v : Int) : ∀ n,v ∈ Sj s v n
 | 0=>by simp [Sj]
 | n + 1=>(I9 _ _ _).2 (.inl (XY s v n))
theorem ahP {s : List Lk} (h : bU s = true) (v : Int) (n : Nat) : (Sj s v n).length ≤ 10:=aaG h (TP (O1 s v n)) (O4 s v n)
def Closed (s : List Lk) (l : List Int) : Prop:=∀ a ∈ l,∀ b ∈ nbA s a,b ∈ l
theorem XZ {s : List Lk} (v : Int) : ∀ n,Closed s (Sj s v n) ∨ n + 1 ≤ (Sj s v n).length
 | 0=>.inr (by simp [Sj])
 |
  n + 1=>by
  have hsub : ∀ a ∈ Sj s v n,a ∈ Sj s v (n + 1):=fun a ha=>(I9 _ _ _).2 (.inl ha)
  rcases Classical.em (Closed s (Sj s v n)) with hc | hc
  ·left
   intro a ha b hb
   have ha' : a ∈ Sj s v n:=by
    rcases (I9 _ _ _).1 ha with h | ⟨x,hx,h⟩
    ·exact h
    ·exact hc x hx a h
   exact hsub b (hc a ha' b hb)
  ·right
   have hl:=(XZ v n).resolve_left hc
   have : ∃ a ∈ Sj s v n,∃ b ∈ nbA s a,b ∉ Sj s v n:=by
    refine Classical.byContradiction fun hne=>hc fun a ha b hb=>Classical.byContradiction fun hnb=>hne ⟨a,ha,b,hb,hnb⟩
   obtain ⟨a,ha,b,hb,hnb⟩:=this
   have:=Ll (a:=b :: Sj s v n) (b:=Sj s v (n + 1)) (List.nodup_cons.2 ⟨hnb,TP (O1 s v n)⟩) fun x hx=>by
    rcases List.mem_cons.1 hx with rfl | hx
    ·exact (I9 _ _ _).2 (.inr ⟨a,ha,hb⟩)
    ·exact hsub x hx
   simp only [List.length_cons] at this
   omega
theorem ZM {s : List Lk} (h : bU s = true) (v : Int) : Closed s (Sj s v 10):=by
 rcases XZ (s:=s) v 10 with hc | hc
 ·exact hc
 ·have:=ahP h v 10;omega
def cpV (s : List Lk) (v : Int) : List Int:=Sj s v 10
theorem ahQ {s : List Lk} (h : bU s = true) {v a : Int} : a ∈ cpV s v ↔ Rch s v a:=by
 constructor
 ·exact O4 s v 10 a
 ·intro hr
  induction hr with
  | base=>exact XY s v 10
  | step _ hb ih=>exact ZM h v _ ih _ hb
theorem ab8 {l : List Int} (hn : l.Nodup) : Asc (NH l):=by
 have h1 : (NH l).Pairwise fun a b=>(decide (a ≤ b)) = true:=by
  unfold NH
  exact List.pairwise_mergeSort (fun a b c h1 h2=>by simp at *;omega) (fun a b=>by simp;omega) l
 have h2 : (NH l).Nodup:=(List.mergeSort_perm l _).nodup_iff.2 hn
 unfold Asc
 refine (h1.and h2).imp fun ⟨h,hne⟩=>?_
 have : _ ≤ _:=of_decide_eq_true h
 omega
theorem ab9 {l : List Int} {a : Int} : a ∈ NH l ↔ a ∈ l:=(List.mergeSort_perm l _).mem_iff
theorem ahR {s : List Lk} (h : bU s = true) {v : Int} {l : List Int} (hn : l.Nodup) (hv : v ∈ l) (hr : ∀ a ∈ l,Rch s v a) (hc : Closed s l) : NH l = cpV s v:=by
 refine Ve (ab8 hn) (O1 s v 10) fun a=>?_
 rw [ab9,ahQ h]
 constructor
 ·exact hr a
 ·intro hra
  induction hra with
  | base=>exact hv
  | step _ hb ih=>exact hc _ ih _ hb
def addN (l : List Int) (u : Int) : List Int:=if u ∈ l then l else l ++ [u]
theorem ae1 {l : List Int} {u a : Int} : a ∈ addN l u ↔ a ∈ l ∨ a = u:=by
 unfold addN
 split
 ·rename_i h
  constructor
  ·exact .inl
  ·rintro (k | rfl)
   ·exact k
   ·exact h
 ·simp
theorem ahS {l : List Int} {u : Int} (h : l.Nodup) : (addN l u).Nodup:=by
 unfold addN
 split
 ·exact h
 ·rename_i hu
  rw [List.nodup_append]
  exact ⟨h,by simp,fun a ha b hb e=>by simp at hb;subst hb;exact hu (e ▸ ha)⟩
theorem X0 : ∀ (us l : List Int) (a : Int),a ∈ us.foldl addN l ↔ a ∈ l ∨ a ∈ us
 | [],l,a=>by simp
 |
  u :: us,l,a=>by
  rw [List.foldl_cons,X0 us,ae1,List.mem_cons,or_assoc]
theorem aaJ : ∀ (us l : List Int),l.Nodup → (us.foldl addN l).Nodup
 | [],l,h=>h
 | u :: us,l,h=>aaJ us _ (ahS h)
theorem X3 : ∀ (us l : List Int),∃ r,us.foldl addN l = l ++ r
 | [],l=>⟨[],by simp⟩
 |
  u :: us,l=>by
  obtain ⟨r,e⟩:=X3 us (addN l u)
  rw [List.foldl_cons,e]
  unfold addN
  split
  ·exact ⟨r,rfl⟩
  ·exact ⟨u :: r,by simp⟩
structure Bfs (s : List Lk) (v : Int) (i : Nat) (l : List Int) : Prop where
 nd : l.Nodup
 mem : v ∈ l
 rch : ∀ a ∈ l,Rch s v a
 le : i ≤ l.length
 cl : ∀ j,j < i → ∀ b ∈ nbA s (l.getD j 0),b ∈ l
theorem Bfs.start (s : List Lk) (v : Int) : Bfs s v 0 [v]:=⟨by simp,by simp,fun a h=>by simp at h;subst h;exact .base,by simp,fun j h=>absurd h (Nat.not_lt_zero _)⟩
theorem Bfs.next {s : List Lk} {v : Int} {i : Nat} {l : List Int} (h : Bfs s v i l) (hi : i < l.length) : Bfs s v (i + 1) ((nbA s (l.getD i 0)).foldl addN l):=by
 obtain ⟨r,e⟩:=X3 (nbA s (l.getD i 0)) l
 have hm:=X0 (nbA s (l.getD i 0)) l
 have hli : l.getD i 0 ∈ l:=by rw [List.getD_eq_getElem?_getD,List.getElem?_eq_getElem hi];exact List.getElem_mem hi
 refine ⟨aaJ _ _ h.nd,(hm v).2 (.inl h.mem),fun a ha=>?_,by rw [e,List.length_append];omega,fun j hj b hb=>?_⟩
 ·rcases (hm a).1 ha with ha | ha
  ·exact h.rch a ha
  ·exact .step (h.rch _ hli) ha
 ·have hjl : j < l.length:=by omega
  have ej : ((nbA s (l.getD i 0)).foldl addN l).getD j 0 = l.getD j 0:=by
   rw [e,List.getD_eq_getElem?_getD,List.getD_eq_getElem?_getD,List.getElem?_append_left hjl]
  rw [ej] at hb
  by_cases hji : j = i
  ·subst hji;exact (hm b).2 (.inr hb)
  ·exact (hm b).2 (.inl (h.cl j (by omega) b hb))
theorem Bfs.len {s : List Lk} (hk : bU s = true) {v : Int} {i : Nat} {l : List Int} (h : Bfs s v i l) : l.length ≤ 10:=aaG hk h.nd h.rch
theorem Bfs.fin {s : List Lk} (hk : bU s = true) {v : Int} {l : List Int} (h : Bfs s v l.length l) : NH l = cpV s v :=
 ahR hk h.nd h.mem h.rch fun a ha b hb=>by
  obtain ⟨j,hj⟩:=List.mem_iff_getElem?.1 ha
  have hjl:=(List.getElem?_eq_some_iff.1 hj).1
  exact h.cl j hjl b (by rw [List.getD_eq_getElem?_getD,hj];exact hb)
def LnA (s : Store) (v : V) (L : List Lk) : Prop:=(L = [] ∧ v = .ak) ∨ ∃ p,v = .bC p 0 L.length ∧ aj s p = some ⟨11,L.map Lk.cells⟩
theorem LnA.fr {s s2 : Store} {v : V} {L : List Lk} (h : LnA s v L) (hf : ∀ p,p < s.length → aj s2 p = aj s p) : LnA s2 v L :=
 h.imp id fun ⟨q,e,hq⟩=>⟨q,e,(hf q (aJ hq)).trans hq⟩
abbrev MF:=Nat → List R
def elF (M : MF) (i j : Nat) : R:=(M i).getD j default
def rrP (M : MF) (k : Nat) : Nat → Nat → Nat
 | 0,p=>p
 | f + 1,p=>if sG (elF M p k) = 0 then rrP M k f (p + 1) else p
def ahU (n : Nat) (M : MF) (k : Nat) : Nat:=rrP M k (n - k) k
def Iy (M : MF) (k p : Nat) : MF:=fun i=>if i = p then M k else if i = k then M p else M i
def aaK (r : List R) (k : Nat) : List R:=r.map fun x=>uP x (r.getD k default)
def aaL (r b : List R) (f : R) : List R:=(List.range r.length).map fun j=>ES (r.getD j default) (mulR (b.getD j default) f)
def ae2 (n : Nat) (M : MF) (k : Nat) : MF:=Iy M k (ahU n M k)
def aaM (n : Nat) (M : MF) (k : Nat) : MF:=fun i=>if i = k then aaK (ae2 n M k k) k else ae2 n M k i
def aaN (M : MF) (k : Nat) : MF:=fun i=>if i = k then M k else aaL (M i) (M k) (elF M i k)
def aoB (n : Nat) (M : MF) : Bool:=allB n fun i=>(M i).all R.ok
def ae3 (n : Nat) (M : MF) (k : Nat) : Option MF :=
 if (decide (ahU n M k < n) && aoB n (aaN (aaM n M k) k)) = true then some (aaN (aaM n M k) k) else none
def X4 (n c : Nat) (M : MF) : Prop:=∀ i,i < n → (M i).length = c ∧ ∀ x ∈ M i,x.cn
theorem X4.el {n c : Nat} {M : MF} (h : X4 n c M) {i j : Nat} (hi : i < n) (hj : j < c) : (elF M i j).cn:=(h i hi).2 _ (getD_mem (by rw [(h i hi).1];exact hj))
theorem acd (r : List R) (k : Nat) : (aaK r k).length = r.length:=by unfold aaK;simp
theorem ace (r b : List R) (f : R) : (aaL r b f).length = r.length:=by unfold aaL;simp
theorem ae4 (r : List R) (k : Nat) : ∀ x ∈ aaK r k,x.cn:=fun x hx=>by
 obtain ⟨y,_,rfl⟩:=List.mem_map.1 hx;exact DC _ _
theorem ae5 (r b : List R) (f : R) : ∀ x ∈ aaL r b f,x.cn:=fun x hx=>by
 obtain ⟨y,_,rfl⟩:=List.mem_map.1 hx;exact OI _ _
theorem X4.swap {n c : Nat} {M : MF} (h : X4 n c M) {k p : Nat} (hk : k < n) (hp : p < n) : X4 n c (Iy M k p):=fun i hi=>by
 unfold Iy
 split
 ·exact h k hk
 ·split
  ·exact h p hp
  ·exact h i hi
theorem X4.one {n c : Nat} {M : MF} (h : X4 n c M) {k : Nat} (hk : k < n) (hp : ahU n M k < n) : X4 n c (ae2 n M k):=h.swap hk hp
theorem X4.two {n c : Nat} {M : MF} (h : X4 n c M) {k : Nat} (hk : k < n) (hp : ahU n M k < n) : X4 n c (aaM n M k):=fun i hi=>by
 unfold aaM
 split
 ·exact ⟨by rw [acd];exact (h.one hk hp k hk).1,ae4 _ _⟩
 ·exact h.one hk hp i hi
theorem X4.tri {n c : Nat} {M : MF} (h : X4 n c M) {k : Nat} (hk : k < n) : X4 n c (aaN M k):=fun i hi=>by
 unfold aaN
 split
 ·exact h k hk
 ·exact ⟨by rw [ace];exact (h i hi).1,ae5 _ _ _⟩
theorem X4.step {n c : Nat} {M M' : MF} (h : X4 n c M) {k : Nat} (hk : k < n) (e : ae3 n M k = some M') : X4 n c M':=by
 unfold ae3 at e
 split at e
 ·rename_i hc
  simp only [Bool.and_eq_true,decide_eq_true_eq] at hc
  cases e
  exact (h.two hk hc.1).tri hk
 ·cases e
def J7 {α : Type} (a b : List α) (j : Nat) : List α:=a.take j ++ b.drop j
theorem akY {α : Type} (a b : List α) : J7 a b 0 = b:=by simp [J7]
theorem ae6 {α : Type} (a b : List α) (h : b.length ≤ a.length) (h2 : a.length ≤ b.length) : J7 a b b.length = a:=by
 unfold J7;rw [List.drop_length,List.append_nil,List.take_of_length_le h2]
theorem ae7 {α : Type} {a b : List α} {j : Nat} (h : a.length = b.length) : (J7 a b j).length = b.length:=by simp [J7];omega
theorem ae8 {α : Type} {a b : List α} {j : Nat} {x d : α} (h : a.length = b.length) (hj : j < b.length) (hx : a.getD j d = x) : (J7 a b j).set j x = J7 a b (j + 1):=by
 have e : (a.take j).length = j:=by simp;omega
 have hja : j < a.length:=by omega
 unfold J7
 rw [List.set_append_right _ _ (by omega),e,Nat.sub_self,List.drop_eq_getElem_cons hj,List.set_cons_zero]
 have e2 : a.take (j + 1) = a.take j ++ [a[j]]:=by rw [List.take_add_one,List.getElem?_eq_getElem hja];rfl
 have e3 : x = a[j]:=by rw [← hx,List.getD_eq_getElem?_getD,List.getElem?_eq_getElem hja];rfl
 rw [e2,List.append_assoc,e3];rfl
def uY (s : Store) (v : V) (l : List Int) : Prop:=v = ints l ∨ ∃ o,v = .bC o 0 l.length ∧ aj s o = some ⟨1,aN l⟩
def Bf (s : Store) (c : List V) (x : R) : Prop:=∃ v1 v2,c = [.bool x.neg,v1,v2] ∧ uY s v1 x.mag ∧ uY s v2 x.den
def Fj (s : Store) (A : List (List V)) (r : List R) : Prop:=A.length = r.length ∧ ∀ j,j < r.length → Bf s (A.getD j []) (r.getD j default)
def Kp (s s2 : Store) : Prop:=∀ o l,aj s o = some ⟨1,aN l⟩ → aj s2 o = aj s o
theorem Kp.refl (s : Store) : Kp s s:=fun _ _ _=>rfl
theorem Kp.trans {a b c : Store} (h : Kp a b) (k : Kp b c) : Kp a c:=fun o l e=>(k o l ((h o l e).trans e)).trans (h o l e)
theorem Kp.old {s s2 : Store} (h : ∀ o,o < s.length → aj s2 o = aj s o) : Kp s s2:=fun o l e=>h o (aJ e)
theorem uY.fr {s s2 : Store} {v : V} {l : List Int} (h : uY s v l) (k : Kp s s2) : uY s2 v l:=h.imp id fun ⟨o,e,ho⟩=>⟨o,e,(k o l ho).trans ho⟩
theorem Bf.fr {s s2 : Store} {c : List V} {x : R} (h : Bf s c x) (k : Kp s s2) : Bf s2 c x:=by
 obtain ⟨v1,v2,e,h1,h2⟩:=h;exact ⟨v1,v2,e,h1.fr k,h2.fr k⟩
theorem Fj.fr {s s2 : Store} {A : List (List V)} {r : List R} (h : Fj s A r) (k : Kp s s2) : Fj s2 A r:=⟨h.1,fun j hj=>(h.2 j hj).fr k⟩
theorem uY.leaf {s : Store} {v : V} {l : List Int} (h : uY s v l) : v.leaf = true:=by
 rcases h with rfl | ⟨o,rfl,_⟩ <;> rfl
theorem uY.res {s : Store} {v : V} {l : List Int} (h : uY s v l) (n : Nat) : resolve s (n + 3) v = some (ints l):=by
 rcases h with rfl | ⟨o,rfl,ho⟩
 ·rfl
 ·have:=Fb (n:=n + 1) ho (nN l)
  rwa [Ak] at this
theorem X5 {s : Store} (l : List Int) : uY s (ints l) l:=.inl rfl
theorem ae9 {s : Store} (x : R) : Bf s x.cells x:=⟨_,_,rfl,X5 _,X5 _⟩
theorem ahV {s : Store} (r : List R) : Fj s (r.map R.cells) r:=⟨by simp,fun j hj=>by rw [mg hj];exact ae9 _⟩
theorem Bf.mm {s : Store} {c : List V} {x : R} (h : Bf s c x) (n : Nat) : c.mapM (resolve s (n + 3)) = some x.cells:=by
 obtain ⟨v1,v2,rfl,h1,h2⟩:=h
 simp only [List.mapM_cons,List.mapM_nil,h1.res,h2.res]
 rfl
theorem Bf.res {s : Store} {c : List V} {x : R} (h : Bf s c x) : resolve s FD (.agg c) = some (aU x):=by
 show resolve s (8 + 3 + 1) _ = _
 rw [resolve,h.mm 8];rfl
theorem Fj.mm {s : Store} {A : List (List V)} {r : List R} (h : Fj s A r) (n : Nat) : (A.mapM fun (c : List V)=>c.mapM (resolve s (n + 3))) = some (r.map R.cells):=by
 obtain ⟨hl,h⟩:=h
 induction r generalizing A with
 |
  nil =>
  have : A = []:=List.eq_nil_of_length_eq_zero hl
  subst this;rfl
 |
  cons x r ih =>
  rcases A with _ | ⟨a,A⟩
  ·simp at hl
  have h0:=h 0 (by simp)
  simp only [List.getD_cons_zero] at h0
  rw [List.mapM_cons,h0.mm n,ih (by simpa using hl) fun j hj=>by simpa using h (j + 1) (by simpa using hj)]
  rfl
theorem Fj.ahW {s : Store} {A : List (List V)} {r : List R} {p : Nat} (h : Fj s A r) (hp : aj s p = some ⟨3,A⟩) (n : Nat) : resolve s (n + 4) (.bC p 0 r.length) = some (Ce r):=by
 rw [resolve]
 simp only [hp]
 rw [if_pos (by rw [h.1];omega),List.drop_zero,List.take_of_length_le (by rw [h.1];omega),h.mm n];rfl
theorem Fj.res {s : Store} {A : List (List V)} {r : List R} {p : Nat} (h : Fj s A r) (hp : aj s p = some ⟨3,A⟩) : resolve s FD (.bC p 0 r.length) = some (Ce r):=h.ahW hp 8
theorem aaO {s : Store} {v : V} {l : List Int} {os : List Nat} (h : bD s v (ints l) os) : uY s v l ∧ ∀ o ∈ os,∃ l,aj s o = some ⟨1,aN l⟩:=by
 rcases h.wH with ⟨rfl,rfl,rfl⟩ | ⟨o,rfl,ho,rfl⟩
 ·exact ⟨.inl rfl,by simp⟩
 ·exact ⟨.inr ⟨o,rfl,ho⟩,fun q hq=>by rw [List.mem_singleton.1 hq];exact ⟨_,ho⟩⟩
theorem ahX {s : Store} {c : List V} {x : R} {os : List Nat} (h : dY s c x.cells os) : Bf s c x ∧ ∀ o ∈ os,∃ l,aj s o = some ⟨1,aN l⟩:=by
 obtain ⟨cs,rfl,b⟩:=h.sJ
 obtain ⟨v1,cs,o1,o2,rfl,rfl,c,d⟩:=b.inv
 obtain ⟨v2,cs,o3,o4,rfl,rfl,e,f⟩:=d.inv
 obtain ⟨rfl,rfl⟩:=f.DJ
 have k1:=aaO c
 have k2:=aaO e
 refine ⟨⟨v1,v2,rfl,k1.1,k2.1⟩,fun o ho=>?_⟩
 rcases List.mem_append.1 ho with ho | ho
 ·exact k1.2 o ho
 ·exact k2.2 o (by simpa using ho)
theorem Vu {s : Store} : ∀ {r : List R} {A : List (List V)} {os : List Nat},kG s A (r.map R.cells) os → Fj s A r ∧ ∀ o ∈ os,∃ l,aj s o = some ⟨1,aN l⟩
 |
  [],A,os,h=>by
  simp only [List.map_nil,kG] at h
  obtain ⟨rfl,rfl⟩:=h
  exact ⟨⟨rfl,by simp⟩,by simp⟩
 |
  x :: r,A,os,h=>by
  simp only [List.map_cons,kG] at h
  obtain ⟨v,vs',o1,o2,rfl,rfl,h1,h2⟩:=h
  have k1:=ahX h1
  have k2:=Vu h2
  refine ⟨⟨by simp [k2.1.1],fun j hj=>?_⟩,fun o ho=>?_⟩
  ·cases j with
   | zero=>exact k1.1
   | succ j=>simpa using k2.1.2 j (by simpa using hj)
  ·rcases List.mem_append.1 ho with ho | ho
   ·exact k1.2 o ho
   ·exact k2.2 o ho
def J8 (n c : Nat) (rp : Nat → Nat) : List (List V):=(List.range n).map fun i=>[.bC (rp i) 0 c]
theorem LH (n c : Nat) (rp : Nat → Nat) : (J8 n c rp).length = n:=by simp [J8]
theorem ahY {n c : Nat} {rp : Nat → Nat} {i : Nat} (h : i < n) : (J8 n c rp)[i]? = some [.bC (rp i) 0 c]:=by
 unfold J8;rw [List.getElem?_map,List.getElem?_range h];rfl
theorem X6 {n c : Nat} {rp : Nat → Nat} {i p : Nat} : (J8 n c rp).set i [.bC p 0 c] = J8 n c fun x=>if x = i then p else rp x:=by
 apply List.ext_getElem?
 intro x
 unfold J8
 rw [List.getElem?_set]
 simp only [List.length_map,List.length_range,List.getElem?_map]
 by_cases h : i = x
 ·subst h
  by_cases hn : i < n
  ·simp [hn]
  ·rw [if_pos rfl,if_neg hn,List.getElem?_eq_none (by simpa using hn)];rfl
 ·rw [if_neg h]
  by_cases hn : x < n
  ·rw [List.getElem?_range hn];simp only [Option.map_some];rw [if_neg fun e : x = i=>h e.symm]
  ·rw [List.getElem?_eq_none (by simpa using hn)];rfl
structure N9 (s : Store) (q n c : Nat) (rp : Nat → Nat) (A : Nat → List (List V)) (M : MF) : Prop where
 inj : ∀ i j,i < n → j < n → rp i = rp j → i = j
 out : aj s q = some ⟨1,J8 n c rp⟩
 row : ∀ i,i < n → aj s (rp i) = some ⟨3,A i⟩
 cel : ∀ i,i < n → Fj s (A i) (M i)
theorem N9.lt {s : Store} {q n c : Nat} {rp : Nat → Nat} {A : Nat → List (List V)} {M : MF} (h : N9 s q n c rp A M) : q < s.length ∧ ∀ i,i < n → rp i < s.length:=⟨aJ h.out,fun i hi=>aJ (h.row i hi)⟩
theorem N9.ne {s : Store} {q n c : Nat} {rp : Nat → Nat} {A : Nat → List (List V)} {M : MF} (h : N9 s q n c rp A M) {i : Nat} (hi : i < n) : rp i ≠ q:=fun e=>by
 have:=h.row i hi
 rw [e,h.out] at this;cases this
theorem N9.fr {s s2 : Store} {q n c : Nat} {rp : Nat → Nat} {A : Nat → List (List V)} {M : MF} (h : N9 s q n c rp A M) (hf : ∀ p,p < s.length → aj s2 p = aj s p) : N9 s2 q n c rp A M :=
 ⟨h.inj,(hf _ h.lt.1).trans h.out,fun i hi=>(hf _ (h.lt.2 i hi)).trans (h.row i hi),fun i hi=>(h.cel i hi).fr (.old hf)⟩
theorem N9.res {s : Store} {q n c : Nat} {rp : Nat → Nat} {A : Nat → List (List V)} {M : MF} (h : N9 s q n c rp A M) (hl : ∀ i,i < n → (M i).length = c) : resolve s FD (.bC q 0 n) = some (JG ((List.range n).map M)):=by
 show resolve s (11 + 1) _ = _
 rw [resolve]
 simp only [h.out]
 rw [if_pos (by rw [LH];omega),List.drop_zero,List.take_of_length_le (by rw [LH];omega)]
 have : ((J8 n c rp).mapM fun (r : List V)=>r.mapM (resolve s 11)) = some ((List.range n).map fun i=>[Ce (M i)]):=by
  unfold J8
  rw [List.mapM_map]
  refine mapM_some fun i hi=>?_
  have hi:=List.mem_range.1 hi
  have h1:=(h.cel i hi).ahW (h.row i hi) 7
  rw [hl i hi] at h1
  simp only [Function.comp,List.mapM_cons,List.mapM_nil]
  rw [h1];rfl
 rw [this,Option.map_some]
 unfold JG
 rw [List.map_map]
 rfl
theorem N9.put {s s2 : Store} {q n c k : Nat} {rp : Nat → Nat} {A : Nat → List (List V)} {M : MF} {A2 : List (List V)} {r : List R} (h : N9 s q n c rp A M) (hk : k < n) (hr : aj s2 (rp k) = some ⟨3,A2⟩) (ho : ∀ o,o < s.length → o ≠ rp k → aj s2 o = aj s o) (hok : Fj s2 A2 r) :
  N9 s2 q n c rp (fun i=>if i = k then A2 else A i) (fun i=>if i = k then r else M i):=by
 have kp : Kp s s2:=fun o l e=>ho o (aJ e) fun e2=>by rw [e2,h.row k hk] at e;cases e
 refine ⟨h.inj,(ho _ h.lt.1 fun e=>h.ne hk e.symm).trans h.out,fun i hi=>?_,fun i hi=>?_⟩
 ·by_cases e : i = k
  ·subst e;rw [if_pos rfl];exact hr
  ·rw [if_neg e];exact (ho _ (h.lt.2 i hi) fun e2=>e (h.inj i k hi hk e2)).trans (h.row i hi)
 ·by_cases e : i = k
  ·subst e;rw [if_pos rfl,if_pos rfl];exact hok
  ·rw [if_neg e,if_neg e];exact (h.cel i hi).fr kp
theorem N9.ext {s : Store} {q n c : Nat} {rp : Nat → Nat} {A : Nat → List (List V)} {M M2 : MF} (h : N9 s q n c rp A M) (e : ∀ i,i < n → M i = M2 i) : N9 s q n c rp A M2 :=
 ⟨h.inj,h.out,h.row,fun i hi=>e i hi ▸ h.cel i hi⟩
theorem QV {n c : Nat} {rp : Nat → Nat} (hn : 0 < n) (l : List Int) : J8 n c rp ≠ aN l:=fun e=>by
 have h1:=ahY (c:=c) (rp:=rp) hn
 rw [e] at h1
 cases l with
 | nil=>simp [aN] at h1
 | cons x l=>simp [aN] at h1
theorem N9.swap {s : Store} {q n c k p : Nat} {rp : Nat → Nat} {A : Nat → List (List V)} {M : MF} (h : N9 s q n c rp A M) (hk : k < n) (hp : p < n) {rows : List (List V)} (hrows : rows = ((J8 n c rp).set k [.bC (rp p) 0 c]).set p [.bC (rp k) 0 c]) {s2 : Store} (hq : aj s2 q = some ⟨1,rows⟩) (ho : ∀ o,o ≠ q → o < s.length → aj s2 o = aj s o) :
  N9 s2 q n c (fun x=>if x = p then rp k else if x = k then rp p else rp x) (fun x=>if x = p then A k else if x = k then A p else A x) (Iy M k p):=by
 have kp : Kp s s2:=fun o l e=>ho o (fun e2=>by
  rw [e2,h.out] at e
  injection e with e
  injection e with _ e
  exact QV (by omega) l e) (aJ e)
 have hr:=fun i hi=>(ho _ (h.ne hi) (h.lt.2 i hi)).trans (h.row i hi)
 have hc:=fun i hi=>(h.cel i hi).fr kp
 refine ⟨fun i j hi hj e=>?_,?_,fun i hi=>?_,fun i hi=>?_⟩
 ·have inj:=h.inj
  by_cases a1 : i = p <;> by_cases b1 : j = p
  ·omega
  ·rw [if_pos a1,if_neg b1] at e
   by_cases b2 : j = k
   ·rw [if_pos b2] at e
    have:=inj k p hk hp e;omega
   ·rw [if_neg b2] at e
    have:=inj k j hk hj e;omega
  ·rw [if_neg a1,if_pos b1] at e
   by_cases b2 : i = k
   ·rw [if_pos b2] at e
    have:=inj p k hp hk e;omega
   ·rw [if_neg b2] at e
    have:=inj i k hi hk e;omega
  ·rw [if_neg a1,if_neg b1] at e
   by_cases a2 : i = k <;> by_cases b2 : j = k
   ·omega
   ·rw [if_pos a2,if_neg b2] at e
    have:=inj p j hp hj e;omega
   ·rw [if_neg a2,if_pos b2] at e
    have:=inj i p hi hp e;omega
   ·rw [if_neg a2,if_neg b2] at e
    exact inj i j hi hj e
 ·rw [hq,hrows,X6,X6]
 ·split
  ·exact hr k hk
  ·split
   ·exact hr p hp
   ·exact hr i hi
 ·unfold Iy
  split
  ·exact hc k hk
  ·split
   ·exact hc p hp
   ·exact hc i hi
structure OwF (s : Store) (A : Nat → List (List V)) (M : MF) (f : Nat → List Nat) (S : Nat → Prop) : Prop where
 ow : ∀ i,S i → kG s (A i) ((M i).map R.cells) (f i)
 nd : ∀ i,S i → (f i).Nodup
 ap : ∀ i j,S i → S j → i ≠ j → ∀ o ∈ f i,o ∉ f j
theorem OwF.kp {s s2 : Store} {A : Nat → List (List V)} {M : MF} {f : Nat → List Nat} {S : Nat → Prop} (h : OwF s A M f S) (k : Kp s s2) : OwF s2 A M f S :=
 ⟨fun i hi=>(h.ow i hi).frame fun o ho=>by obtain ⟨l,hl⟩:=(Vu (h.ow i hi)).2 o ho;exact k o l hl,h.nd,h.ap⟩
theorem OwF.put {s s2 : Store} {A : Nat → List (List V)} {M : MF} {f : Nat → List Nat} {S : Nat → Prop} {k : Nat} {A2 : List (List V)} {r : List R} {os : List Nat} (h : OwF s A M f S) (kp : Kp s s2) (ho : kG s2 A2 (r.map R.cells) os) (hn : os.Nodup) (hf : ∀ o ∈ os,s.length ≤ o) :
  OwF s2 (fun i=>if i = k then A2 else A i) (fun i=>if i = k then r else M i) (fun i=>if i = k then os else f i) (fun i=>S i ∨ i = k):=by
 have h2:=h.kp kp
 have lt : ∀ i,S i → ∀ o ∈ f i,o < s.length:=fun i hi=>(h.ow i hi).lt
 refine ⟨fun i hi=>?_,fun i hi=>?_,fun i j hi hj hne o h1 h3=>?_⟩
 ·by_cases e : i = k
  ·subst e;rw [if_pos rfl,if_pos rfl,if_pos rfl];exact ho
  ·rw [if_neg e,if_neg e,if_neg e];exact h2.ow i (hi.resolve_right e)
 ·by_cases e : i = k
  ·subst e;rw [if_pos rfl];exact hn
  ·rw [if_neg e];exact h.nd i (hi.resolve_right e)
 ·by_cases e : i = k
  ·by_cases e2 : j = k
   ·omega
   ·rw [if_pos e] at h1;rw [if_neg e2] at h3
    have:=hf o h1
    have:=lt j (hj.resolve_right e2) o h3
    omega
  ·rw [if_neg e] at h1
   by_cases e2 : j = k
   ·rw [if_pos e2] at h3
    have:=hf o h3
    have:=lt i (hi.resolve_right e) o h1
    omega
   ·rw [if_neg e2] at h3
    exact h.ap i j (hi.resolve_right e) (hj.resolve_right e2) hne o h1 h3
theorem OwF.ext {s : Store} {A : Nat → List (List V)} {M M2 : MF} {f : Nat → List Nat} {S S2 : Nat → Prop} (h : OwF s A M f S) (e : ∀ i,S2 i → S i ∧ M i = M2 i) : OwF s A M2 f S2 :=
 ⟨fun i hi=>(e i hi).2 ▸ h.ow i (e i hi).1,fun i hi=>h.nd i (e i hi).1,fun i j hi hj=>h.ap i j (e i hi).1 (e j hj).1⟩
theorem OwF.fin {s : Store} {q n c : Nat} {rp : Nat → Nat} {A : Nat → List (List V)} {M : MF} {f : Nat → List Nat} (h : N9 s q n c rp A M) (ho : OwF s A M f fun i=>i < n) (hc : 0 < c) (hl : ∀ i,i < n → (M i).length = c) : Fin s (.bC q 0 n) (JG ((List.range n).map M)):=by
 have key : ∀ m,m ≤ n → ∃ os,kG s ((List.range m).map fun i=>[.bC (rp i) 0 c]) (((List.range m).map M).map fun r=>[Ce r]) os ∧ os.Nodup ∧ ∀ o ∈ os,∃ i,i < m ∧ (o = rp i ∨ o ∈ f i):=by
  intro m
  induction m with
  | zero=>intro _;exact ⟨[],by simp [kG],.nil,by simp⟩
  |
   succ m ih =>
   intro hm
   obtain ⟨os,k1,k2,k3⟩:=ih (by omega)
   have hm' : m < n:=by omega
   have kinds : ∀ i,i < n → ∀ o ∈ f i,∃ l,aj s o = some ⟨1,aN l⟩:=fun i hi=>(Vu (ho.ow i hi)).2
   have hnf : ∀ i j,i < n → j < n → rp i ∉ f j:=fun i j hi hj hm=>by
    obtain ⟨l,hl⟩:=kinds j hj _ hm
    rw [h.row i hi] at hl;cases hl
   have hv : bD s (.bC (rp m) 0 c) (Ce (M m)) (rp m :: f m):=by
    unfold Ce
    simp only [bD]
    exact .inr ⟨rp m,A m,f m,by rw [List.length_map,hl m hm'],h.row m hm',rfl,ho.ow m hm'⟩
   refine ⟨os ++ (rp m :: f m),?_,?_,fun o ho'=>?_⟩
   ·rw [List.range_succ,List.map_append,List.map_append,List.map_append]
    exact CG k1 (aaq (TJ hv))
   ·rw [List.nodup_append,List.nodup_cons]
    refine ⟨k2,⟨hnf m m hm' hm',ho.nd m hm'⟩,fun x hx y hy e=>?_⟩
    subst e
    obtain ⟨i,hi,hi2⟩:=k3 x hx
    rcases List.mem_cons.1 hy with hy | hy
    ·rcases hi2 with hi2 | hi2
     ·have:=h.inj i m (by omega) hm' (hi2.symm.trans hy);omega
     ·rw [hy] at hi2;exact hnf m i hm' (by omega) hi2
    ·rcases hi2 with hi2 | hi2
     ·rw [hi2] at hy;exact hnf i m (by omega) hm' hy
     ·exact ho.ap i m (by omega) hm' (by omega) x hi2 hy
   ·rcases List.mem_append.1 ho' with ho' | ho'
    ·obtain ⟨i,hi,k⟩:=k3 o ho';exact ⟨i,by omega,k⟩
    ·rcases List.mem_cons.1 ho' with rfl | ho'
     ·exact ⟨m,by omega,.inl rfl⟩
     ·exact ⟨m,by omega,.inr ho'⟩
 obtain ⟨os,k1,k2,k3⟩:=key n (Nat.le_refl _)
 refine rF (os:=q :: os) ?_ (List.nodup_cons.2 ⟨fun hm=>?_,k2⟩)
 ·unfold JG
  simp only [bD]
  exact .inr ⟨q,_,os,by simp,h.out,rfl,k1⟩
 ·obtain ⟨i,hi,e | e⟩:=k3 q hm
  ·exact h.ne hi e.symm
  ·obtain ⟨l,hl⟩:=(Vu (ho.ow i hi)).2 _ e
   rw [h.out] at hl
   injection hl with hl
   injection hl with _ hl
   exact QV (by omega) l hl
def QW (g : Nat → Nat) (a : Acc) : Acc:=⟨a.i,a.R.map g,a.W.map g,a.n⟩
section
variable {g : Nat → Nat} {L L0 : Nat} (hinj : ∀ x y,g x = g y ↔ x = y) (hlt : ∀ x,g x < L ↔ x < L0)
include hinj in
theorem Vw (l : List Nat) (p : Nat) : (l.map g).contains (g p) = l.contains p:=by
 rw [Bool.eq_iff_iff,List.contains_iff_mem,List.contains_iff_mem,List.mem_map]
 constructor
 ·rintro ⟨q,h1,h2⟩
  rw [(hinj _ _).1 h2] at h1;exact h1
 ·exact fun h=>⟨p,h,rfl⟩
include hlt in
theorem Ub (a b : Acc) : rC L (QW g a) (QW g b) = rC L0 a b:=by
 unfold rC QW
 simp only [List.all_map,Function.comp_def]
 simp only [hlt]
include hinj hlt in
theorem acf (d e : fP) (a b : Acc) : lD L d e (QW g a) (QW g b) = lD L0 d e a b:=by
 unfold lD
 rw [Ub hlt,Ub hlt]
 simp only [QW,List.all_map,Function.comp_def]
 simp only [Vw hinj]
 congr 6
 ·congr 1
  funext p
  congr 2
  funext q
  rw [bne,bne]
  congr 1
  rw [Bool.eq_iff_iff,beq_iff_eq,beq_iff_eq];exact hinj _ _
include hinj hlt in
theorem aaQ {B : Nat → List Nat} {ops : List fP} : ∀ l : List Acc,okA L B ops (l.map (QW g)) = okA L0 B ops l
 | []=>rfl
 |
  a :: l=>by
  simp only [List.map_cons,okA,List.all_map,Function.comp_def]
  rw [aaQ l]
  congr 2
  funext b
  have h1 : (QW g a).i = a.i:=rfl
  have h2 : (QW g b).i = b.i:=rfl
  rw [acf hinj hlt,h1,h2]
include hinj hlt in
theorem ahZ {ops : List fP} {l l0 : List Acc} (he : l = l0.map (QW g)) (hk : jl L0 ops l0) : jl L ops l:=by
 unfold jl at hk ⊢
 rw [he,← List.map_reverse,aaQ hinj hlt]
 exact hk
end
def gN (l : List Nat) (L x : Nat) : Nat:=match l[x]? with
 | some y=>y
 | none=>L + x
theorem afa {l : List Nat} {L : Nat} (hl : ∀ o ∈ l,o < L) (x : Nat) : gN l L x < L ↔ x < l.length:=by
 unfold gN
 cases h : l[x]? with
 |
  none =>
  have:=List.getElem?_eq_none_iff.1 h
  simp only []
  omega
 |
  some y =>
  have h1:=(List.getElem?_eq_some_iff.1 h).1
  have h2:=hl y (List.mem_of_getElem? h)
  simp only []
  omega
theorem akZ {l : List Nat} {L : Nat} (hl : ∀ o ∈ l,o < L) (hn : l.Nodup) (x y : Nat) : gN l L x = gN l L y ↔ x = y:=by
 constructor
 ·intro e
  have hx:=afa hl x
  have hy:=afa hl y
  by_cases h : x < l.length
  ·have h2 : y < l.length:=hy.1 (e ▸ hx.2 h)
   unfold gN at e
   rw [List.getElem?_eq_getElem h,List.getElem?_eq_getElem h2] at e
   exact (List.getElem_inj hn).1 e
  ·have h2 : ¬ y < l.length:=fun k=>h (hx.1 (e ▸ hy.2 k))
   unfold gN at e
   rw [List.getElem?_eq_none (by omega),List.getElem?_eq_none (by omega)] at e
   simp only [] at e
   omega
 ·rintro rfl;rfl
theorem nd2 {a b : Nat} (h : a ≠ b) : [a,b].Nodup:=by simp [h]
theorem nd3 {a b c : Nat} (h : a ≠ b) (h2 : a ≠ c) (h3 : b ≠ c) : [a,b,c].Nodup:=by simp [h,h2,h3]
theorem nd4 {a b c d : Nat} (h : a ≠ b) (h2 : a ≠ c) (h3 : a ≠ d) (h4 : b ≠ c) (h5 : b ≠ d) (h6 : c ≠ d) : [a,b,c,d].Nodup:=by simp [h,h2,h3,h4,h5,h6]
theorem lt2 {a b L : Nat} (h : a < L) (h2 : b < L) : ∀ o ∈ [a,b],o < L:=by simp [h,h2]
end Go.Ml
end
section
namespace Go.Ml
structure Vx (s0 s : Store) (ri : Nat) (box : Obj) (A : List (List V)) (Z : List R) (j : Nat) (N : List (List V)) (os : List Nat) : Prop where
 row : aj s ri = some ⟨3,N ++ A.drop j⟩
 nl : N.length = j
 ow : kG s N ((Z.take j).map R.cells) os
 nd : os.Nodup
 fr : ∀ o ∈ os,s0.length ≤ o
 old : ∀ o,o < s0.length → o ≠ ri → aj s o = aj s0 o
 bx : aj s s0.length = some box
 len : s0.length < s.length
section
variable {s0 s : Store} {ri : Nat} {box : Obj} {A : List (List V)} {Z : List R} {j : Nat} {N : List (List V)} {os : List Nat}
theorem Vx.kp (I : Vx s0 s ri box A Z j N os) (hi : aj s0 ri = some ⟨3,A⟩) : Kp s0 s:=fun o l e=>I.old o (aJ e) fun e2=>by rw [e2,hi] at e;cases e
theorem Vx.at (I : Vx s0 s ri box A Z j N os) (hj : j < A.length) : (N ++ A.drop j)[j]? = some (A.getD j []):=by
 rw [List.getElem?_append_right (by rw [I.nl];exact Nat.le_refl _),I.nl,Nat.sub_self,List.getElem?_drop,Nat.add_zero,List.getD_eq_getElem?_getD,List.getElem?_eq_getElem hj];rfl
theorem Vx.step (I : Vx s0 s ri box A Z j N os) (hri : ri < s0.length) (hj : j < A.length) (hjZ : j < Z.length) {z : R} (hz : Z.getD j default = z) {q3 : Store} {c : List V} {o3 : List Nat} (old : ∀ o,o < s.length → aj q3 o = aj s o) (len : s.length ≤ q3.length)
  (ho : dY q3 c z.cells o3) (nd3 : o3.Nodup) (fr3 : ∀ o ∈ o3,s.length ≤ o) : Vx s0 (q3.set ri (some ⟨3,(N ++ A.drop j).set j c⟩)) ri box A Z (j + 1) (N ++ [c]) (os ++ o3):=by
 have hl:=I.len
 have ne : ∀ o,ri ≠ o → aj (q3.set ri (some ⟨3,(N ++ A.drop j).set j c⟩)) o = aj q3 o:=fun o h=>aH fun e=>h e.symm
 have e1 : (N ++ A.drop j).set j c = (N ++ [c]) ++ A.drop (j + 1):=by
  rw [List.set_append_right _ _ (by rw [I.nl];exact Nat.le_refl _),I.nl,Nat.sub_self,List.drop_eq_getElem_cons hj,List.set_cons_zero,List.append_assoc];rfl
 refine ⟨?_,by simp [I.nl],?_,?_,fun o h=>?_,fun o h1 h2=>?_,?_,by simp;omega⟩
 ·rw [aX (by omega),e1]
 ·rw [take_snoc hjZ,List.map_append,hz]
  refine CG (I.ow.frame fun o h=>?_) (aaq (ho.frame fun o h=>?_))
  ·have h1:=I.fr o h
   rw [ne o (by omega),old o (I.ow.lt o h)]
  ·have:=fr3 o h
   rw [ne o (by omega)]
 ·rw [List.nodup_append]
  refine ⟨I.nd,nd3,fun x hx y hy e=>?_⟩
  have:=I.ow.lt x hx
  have:=fr3 y hy
  omega
 ·rcases List.mem_append.1 h with h | h
  ·exact I.fr o h
  ·have:=fr3 o h;omega
 ·rw [ne o (fun e=>h2 e.symm),old o (by omega),I.old o h1 h2]
 ·rw [ne _ (by omega),old _ (by omega),I.bx]
theorem Vx.fin (I : Vx s0 s ri box A Z j N os) (h1 : j = A.length) (h2 : j = Z.length) : aj s ri = some ⟨3,N⟩ ∧ kG s N (Z.map R.cells) os:=by
 have a:=I.row
 have b:=I.ow
 rw [h1,List.drop_length,List.append_nil] at a
 rw [h2,List.take_length] at b
 exact ⟨a,b⟩
end
theorem uY.rch {s : Store} {v : V} {l : List Int} (h : uY s v l) : ∀ n,∀ o ∈ reach s n v,∃ l,aj s o = some ⟨1,aN l⟩:=by
 intro n o ho
 rcases h with rfl | ⟨q,rfl,hq⟩
 ·cases n <;> simp [reach] at ho
 ·cases n with
  | zero=>simp [reach] at ho
  |
   succ n =>
   simp only [reach,hq,List.mem_cons,List.mem_flatMap] at ho
   rcases ho with rfl | ⟨r,hr,c,hc,ho⟩
   ·exact ⟨_,hq⟩
   ·have hs:=nN l r hr c hc
    cases n with
    | zero=>simp [reach] at ho
    | succ n=>rw [Du hs] at ho;cases ho
theorem Bf.rch {s : Store} {c : List V} {x : R} (h : Bf s c x) : ∀ n,∀ o ∈ reach s n (.agg c),∃ l,aj s o = some ⟨1,aN l⟩:=by
 intro n o ho
 obtain ⟨v1,v2,rfl,h1,h2⟩:=h
 cases n with
 | zero=>simp [reach] at ho
 |
  succ n =>
  rw [EX] at ho
  obtain ⟨c,hc,ho⟩:=ho
  simp only [List.mem_cons,List.not_mem_nil,or_false] at hc
  rcases hc with rfl | rfl | rfl
  ·cases n <;> simp [reach] at ho
  ·exact h1.rch n o ho
  ·exact h2.rch n o ho
end Go.Ml
end
section
namespace Go.Ml
theorem atr {α : Type} {l : List (List α)} {j : Nat} (h : j < l.length) : l[j]? = some (l.getD j []):=by
 rw [List.getD_eq_getElem?_getD,List.getElem?_eq_getElem h];rfl
theorem N9.cell {s : Store} {q n c : Nat} {rp : Nat → Nat} {A : Nat → List (List V)} {M : MF} (h : N9 s q n c rp A M) (hl : ∀ i,i < n → (M i).length = c) {i j : Nat} (hi : i < n) (hj : j < c) : ∃ a1 a2,(A i)[j]? = some [.bool (elF M i j).neg,a1,a2] ∧ uY s a1 (elF M i j).mag ∧ uY s a2 (elF M i j).den:=by
 have hr:=h.cel i hi
 have hjl : j < (M i).length:=by rw [hl i hi];exact hj
 obtain ⟨a1,a2,e,k1,k2⟩:=hr.2 j hjl
 exact ⟨a1,a2,by rw [atr (by rw [hr.1];exact hjl),e];rfl,k1,k2⟩
def QX (s : Store) (q n c : Nat) (rp : Nat → Nat) (M : MF) : Prop:=N9 s q n c rp (fun x=>(M x).map R.cells) M
def ak0 (M : MF) (i : Nat) (r : List R) : MF:=fun x=>if x = i then r else M x
theorem QX.put {s s2 : Store} {q n c k : Nat} {rp : Nat → Nat} {M : MF} {r : List R} (h : QX s q n c rp M) (hk : k < n) (hr : aj s2 (rp k) = some ⟨3,r.map R.cells⟩) (ho : ∀ o,o < s.length → o ≠ rp k → aj s2 o = aj s o) : QX s2 q n c rp (ak0 M k r):=by
 have:=N9.put h hk hr ho (ahV r)
 have e : (fun i=>if i = k then r.map R.cells else (M i).map R.cells) = fun x=>(ak0 M k r x).map R.cells:=by
  funext i;unfold ak0;split <;> rfl
 rw [e] at this
 exact this
theorem QX.swap {s : Store} {q n c k p : Nat} {rp : Nat → Nat} {M : MF} (h : QX s q n c rp M) (hk : k < n) (hp : p < n) {rows : List (List V)} (hrows : rows = ((J8 n c rp).set k [.bC (rp p) 0 c]).set p [.bC (rp k) 0 c]) {s2 : Store} (hq : aj s2 q = some ⟨1,rows⟩) (ho : ∀ o,o ≠ q → o < s.length → aj s2 o = aj s o) :
  QX s2 q n c (fun x=>if x = p then rp k else if x = k then rp p else rp x) (Iy M k p):=by
 have:=N9.swap h hk hp hrows hq ho
 have e : (fun x=>if x = p then (M k).map R.cells else if x = k then (M p).map R.cells else (M x).map R.cells) = fun x=>(Iy M k p x).map R.cells:=by
  funext i;unfold Iy;split
  ·rfl
  ·split <;> rfl
 rw [e] at this
 exact this
theorem QX.ext {s : Store} {q n c : Nat} {rp : Nat → Nat} {M M2 : MF} (h : QX s q n c rp M) (e : ∀ i,i < n → M i = M2 i) : QX s q n c rp M2 :=
 ⟨h.inj,h.out,fun i hi=>by rw [← e i hi];exact h.row i hi,fun i hi=>by rw [← e i hi];exact h.cel i hi⟩
theorem QX.cell {s : Store} {q n c : Nat} {rp : Nat → Nat} {M : MF} (h : QX s q n c rp M) (hl : ∀ i,i < n → (M i).length = c) {i j : Nat} (hi : i < n) (hj : j < c) : ((M i).map R.cells)[j]? = some (elF M i j).cells:=by
 have hjl : j < (M i).length:=by rw [hl i hi];exact hj
 rw [mg? hjl];rfl
theorem N9.ahW {s : Store} {q n c : Nat} {rp : Nat → Nat} {A : Nat → List (List V)} {M : MF} (h : N9 s q n c rp A M) (hl : ∀ i,i < n → (M i).length = c) (k : Nat) : resolve s (k + 5) (.bC q 0 n) = some (JG ((List.range n).map M)):=by
 rw [resolve]
 simp only [h.out]
 rw [if_pos (by rw [LH];omega),List.drop_zero,List.take_of_length_le (by rw [LH];omega)]
 have : ((J8 n c rp).mapM fun (r : List V)=>r.mapM (resolve s (k + 4))) = some ((List.range n).map fun i=>[Ce (M i)]):=by
  unfold J8
  rw [List.mapM_map]
  refine mapM_some fun i hi=>?_
  have hi:=List.mem_range.1 hi
  have h1:=(h.cel i hi).ahW (h.row i hi) k
  rw [hl i hi] at h1
  simp only [Function.comp,List.mapM_cons,List.mapM_nil]
  rw [h1];rfl
 rw [this,Option.map_some]
 unfold JG
 rw [List.map_map]
 rfl
theorem X7 {σ : Store} : ∀ (n : Nat) {A T : List (List V)} {os : List Nat},kG σ A T os → ∃ os',kG σ (A.drop n) (T.drop n) os' ∧ os'.Sublist os
 | 0,A,T,os,h=>⟨os,h,List.Sublist.refl _⟩
 |
  n + 1,A,[],os,h=>by
  simp only [kG] at h
  obtain ⟨rfl,rfl⟩:=h
  exact ⟨[],by simp [kG],List.Sublist.refl _⟩
 |
  n + 1,A,t :: T,os,h=>by
  simp only [kG] at h
  obtain ⟨v,vs',o1,o2,rfl,rfl,h1,h2⟩:=h
  obtain ⟨os',k1,k2⟩:=X7 n h2
  exact ⟨os',k1,k2.trans (List.sublist_append_right _ _)⟩
theorem OwF.drop {s : Store} {A : Nat → List (List V)} {M : MF} {f : Nat → List Nat} {n : Nat} (ho : OwF s A M f fun i=>i < n) (d : Nat) : ∃ f',OwF s (fun i=>(A i).drop d) (fun i=>(M i).drop d) f' (fun i=>i < n) ∧ ∀ i,i < n → ∀ o ∈ f' i,o ∈ f i:=by
 have h : ∀ i,∃ os',i < n → kG s ((A i).drop d) (((M i).drop d).map R.cells) os' ∧ os'.Sublist (f i):=fun i=>by
  by_cases hi : i < n
  ·obtain ⟨os',k1,k2⟩:=X7 d (ho.ow i hi)
   rw [← List.map_drop] at k1
   exact ⟨os',fun _=>⟨k1,k2⟩⟩
  ·exact ⟨[],fun h=>absurd h hi⟩
 refine ⟨fun i=>Classical.choose (h i),⟨fun i hi=>?_,fun i hi=>?_,fun i j hi hj hne o h1 h2=>?_⟩,fun i hi o h1=>?_⟩
 ·exact (Classical.choose_spec (h i) hi).1
 ·exact (ho.nd i hi).sublist (Classical.choose_spec (h i) hi).2
 ·exact ho.ap i j hi hj hne o ((Classical.choose_spec (h i) hi).2.subset h1) ((Classical.choose_spec (h j) hj).2.subset h2)
 ·exact (Classical.choose_spec (h i) hi).2.subset h1
theorem Gl {ops : List fP} {L : Nat} {acc : List Acc} (l : List Nat) (l0 : List Acc) (hn : l.Nodup) (hl : ∀ o ∈ l,o < L) (he : acc = l0.map (QW (gN l L))) (h : jl l.length ops l0) : jl L ops acc:=ahZ (akZ hl hn) (afa hl) he h
def Bg (σ : Store) (p : Nat) (ob : Obj) (os : List Nat) : Store:=(List.range σ.length).map fun k=>if k = p then some ob else if k ∈ os then aj σ k else none
def keepW (σ : Store) (p n : Nat) (os : List Nat) : Jb:=(List.range σ.length).map fun k=>if k = p then some (p,0,n) else if k ∈ os then (aj σ k).map (fun ob=>(k,0,ob.rows.length)) else none
theorem Ai {σ : Store} {p : Nat} {ob : Obj} {os : List Nat} {k : Nat} (hk : k < σ.length) : aj (Bg σ p ob os) k = if k = p then some ob else if k ∈ os then aj σ k else none:=by
 simp only [aj,Bg,List.getElem?_map,List.getElem?_range hk]
 rfl
theorem Di {σ : Store} {p n : Nat} {os : List Nat} {k : Nat} (hk : k < σ.length) : (keepW σ p n os)[k]? = some (if k = p then some (p,0,n) else if k ∈ os then (aj σ k).map (fun ob=>(k,0,ob.rows.length)) else none):=by
 unfold keepW
 rw [List.getElem?_map,List.getElem?_range hk];rfl
theorem BN {σ : Store} {p n : Nat} {os : List Nat} {k o s l : Nat} (h : (keepW σ p n os)[k]? = some (some (o,s,l))) : k < σ.length ∧ o = k ∧ s = 0 ∧ ((k = p ∧ l = n) ∨ (k ≠ p ∧ k ∈ os ∧ ∃ ob,aj σ k = some ob ∧ l = ob.rows.length)):=by
 have hk : k < σ.length:=by
  have:=(List.getElem?_eq_some_iff.1 h).1
  unfold keepW at this;simpa using this
 rw [Di hk] at h
 refine ⟨hk,?_⟩
 by_cases e : k = p
 ·rw [if_pos e] at h
  simp only [Option.some.injEq,Prod.mk.injEq] at h
  exact ⟨by omega,h.2.1.symm,.inl ⟨e,h.2.2.symm⟩⟩
 ·rw [if_neg e] at h
  by_cases m : k ∈ os
  ·rw [if_pos m] at h
   simp only [Option.some.injEq,Option.map_eq_some_iff] at h
   obtain ⟨ob,h1,h2⟩:=h
   simp only [Prod.mk.injEq] at h2
   exact ⟨h2.1.symm,h2.2.1.symm,.inr ⟨e,m,ob,h1,h2.2.2.symm⟩⟩
  ·rw [if_neg m] at h
   cases h
theorem ZN {p n : Nat} {vs : List V} {env : Nat → V} {σ : Store} {b1 b2 : Nat} {r1 r2 m1 m2 : List Nat} {A A' : List (List V)} {os : List Nat} (h : aj σ p = some ⟨n,A⟩) (hl : A'.length = A.length)
  (hs : ∀ o ∈ os,∀ ob,aj σ o = some ob → dO ob.rows)
  (hr : ∀ (i : Nat) (r r2 : List V),A[i]? = some r → A'[i]? = some r2 → DU (keepW σ p A.length os) σ r r2) (he : Am (keepW σ p A.length os) σ vs 0 env) :
  Fg ⟨bM vs,Bg σ p ⟨n,A'⟩ os,0,b1,r1,m1⟩ ⟨env,σ,0,b2,r2,m2⟩:=by
 refine .re (keepW σ p A.length os) ⟨⟨by unfold Bg keepW;simp,?_,?_,?_⟩,rfl,fun i hi=>absurd hi (Nat.not_lt_zero _),fun t=>by have:=he.at_ t;rwa [Nat.zero_add] at this⟩
 ·intro i j o s l s' l' hi hj
  rw [← (BN hi).2.1,← (BN hj).2.1]
 ·intro k o s l hk
  obtain ⟨hlt,rfl,rfl,hk2⟩:=BN hk
  rcases hk2 with ⟨rfl,rfl⟩ | ⟨e,m,ob,h1,rfl⟩
  ·refine ⟨_,⟨n,A'⟩,h,by simp,by show aj (Bg _ _ _ _) _ = _;rw [Ai hlt,if_pos rfl],rfl,hl,fun i r r2 h1 h2=>hr i r r2 (by simpa using h1) h2⟩
  ·refine ⟨ob,ob,h1,by simp,by show aj (Bg _ _ _ _) _ = _;rw [Ai hlt,if_neg e,if_pos m,h1],rfl,rfl,fun i r r2 h2 h3=>?_⟩
   rw [Nat.zero_add,h3] at h2
   simp only [Option.some.injEq] at h2
   subst h2
   exact BZ fun v hv=>hs o m ob h1 r2 (List.mem_of_getElem? h3) v hv
 ·intro k hk
  have hlt : k < σ.length:=by
   have:=(List.getElem?_eq_some_iff.1 hk).1
   unfold keepW at this;simpa using this
  rw [Di hlt] at hk
  show aj (Bg _ _ _ _) _ = _
  rw [Ai hlt]
  by_cases e : k = p
  ·rw [if_pos e] at hk;cases hk
  ·rw [if_neg e] at hk ⊢
   by_cases m : k ∈ os
   ·rw [if_pos m] at hk ⊢
    cases ho : aj σ k
    ·rfl
    ·rw [ho] at hk;cases hk
   ·rw [if_neg m]
def GnA (n : Nat) (s : Store) (v : V) (A : List (List V)) : Prop:=(A = [] ∧ v = .ak) ∨ ∃ p,v = .bC p 0 A.length ∧ aj s p = some ⟨n,A⟩ ∧ 3 ≤ p ∧ 0 < A.length
theorem GnA.fr {n : Nat} {s s2 : Store} {v : V} {A : List (List V)} (h : GnA n s v A) (hf : ∀ p,3 ≤ p → p < s.length → aj s2 p = aj s p) : GnA n s2 v A:=by
 rcases h with h | ⟨p,h1,h2,h3⟩
 ·exact .inl h
 ·exact .inr ⟨p,h1,(hf p h3.1 (aJ h2)).trans h2,h3⟩
def paZ (a : Pa) : List V:=[iv a.node,.bool false,.ak,.ak] ++ a.dx.cells ++ a.dy.cells
def Pa.wc (a : Pa) : List V:=a.share.cells
structure ElI (s : Store) (v : Int) (X : R) (pv wv : V) (P : List (List V)) (W : List (List V)) : Prop where
 a0 : aj s 0 = some ⟨5,[[iv 0,.bool false,.ak,.ak,.ak]]⟩
 a1 : aj s 1 = some ⟨5,[[iv v,.bool X.neg,ints X.mag,ints X.den,pv]]⟩
 p : GnA 10 s pv P
 w : GnA 3 s wv W
theorem ElI.lt {s : Store} {v : Int} {X : R} {pv wv : V} {P W : List (List V)} (h : ElI s v X pv wv P W) : 2 ≤ s.length:=aJ h.a1
theorem Ae {σ : Store} : dJ (Option.map V.eF (match resolve σ 11 (V.agg [V.int .i64 0,V.bool false,V.ak,V.ak,V.ak]) with | some d=>some [d,V.ak,V.bool false] | none=>none)) (bQ (V.eF [Hg ⟨0,R0,[]⟩,bf [],V.bool false])):=by
 have e : resolve σ 11 (V.agg [V.int .i64 0,V.bool false,V.ak,V.ak,V.ak]) = some (V.agg [V.int .i64 0,V.bool false,V.ak,V.ak,V.ak]):=by simp [resolve]
 rw [e]
 show bQ _ _
 simp only [bQ,oJ]
 exact ⟨_,rfl,_,_,rfl,⟨_,rfl,_,_,rfl,rfl,_,_,rfl,rfl,_,_,rfl,.inl ⟨rfl,.inl rfl⟩,_,_,rfl,.inl ⟨rfl,.inl rfl⟩,_,_,rfl,.inl ⟨rfl,.inl rfl⟩,rfl⟩,_,_,rfl,.inl ⟨rfl,.inl rfl⟩,_,_,rfl,rfl,rfl⟩
theorem yM {σ : Store} {q n l : Nat} {rows : List (List V)} (h : aj σ q = some ⟨n,rows⟩) (hs : dO rows) : ∀ p ∈ reach σ FD (.bC q 0 l),p = q:=fun p hp=>by
 have hp : p ∈ reach σ (11 + 1) (.bC q 0 l):=hp
 unfold reach at hp
 rcases List.mem_cons.1 hp with e | hp
 ·exact e
 ·exfalso
  dsimp only at hp
  rw [h] at hp
  obtain ⟨r,hr,hp⟩:=List.mem_flatMap.1 hp
  obtain ⟨v,hv,hp⟩:=List.mem_flatMap.1 hp
  rw [show reach σ 11 v = [] from Du (hs r hr v hv)] at hp
  cases hp
theorem QY {A : List Pa} {i : Nat} : ∀ {m : Nat},i ≤ m → ∀ x ∈ iF A i,x ∈ iF A m
 | 0,h,x,hx=>by
           have : i = 0:=by omega
           subst this;exact hx
 |
  m + 1,h,x,hx=>by
  by_cases e : i = m + 1
  ·subst e;exact hx
  ·exact List.mem_append.2 (.inl (QY (m:=m) (by omega) x hx))
theorem afb {A : List Pa} {i k : Nat} (hi : i < k) (hk : k < A.length) : Iw (qy A) (A.getD i default) (A.getD k default) ∈ Fh A:=by
 refine QY (i:=i + 1) (by omega) _ (List.mem_append.2 (.inr ?_))
 unfold mM
 rw [List.take_of_length_le (by simp)]
 refine List.mem_map.2 ⟨A.getD k default,List.mem_iff_getElem?.2 ⟨k - (i + 1),?_⟩,rfl⟩
 rw [List.getElem?_drop,show i + 1 + (k - (i + 1)) = k by omega,List.getElem?_eq_getElem hk,List.getD_eq_getElem?_getD,List.getElem?_eq_getElem hk];rfl
theorem afc {A : List Pa} {i k : Nat} (hi : i < k) (hk : k < A.length) (h : jg (Iw (qy A) (A.getD i default) (A.getD k default)) = false) : (Fh A).all jg = false :=
 List.all_eq_false.2 ⟨_,afb hi hk,by rw [h];simp⟩
theorem ak1 {s σ : Store} {c : Cd} {cs : List V} {mv : V} {M : List Lk} {o1 : Obj} (he : c.cells = cs) (hst : ∀ v ∈ c.cells,v.still = true) (hL : LnA s mv M) (h1 : aj σ 1 = aj s 1) (hx : aj s 1 = some o1) (hf : ∀ p,p ≠ 0 → aj σ p = aj s p) (h0 : ∃ z,aj s 0 = some ⟨5,z⟩) :
  dJ (Option.map V.eF (match resolve σ 11 (V.agg cs) with | some d=>(match (match resolve σ 11 mv with | some d=>some [d,V.bool true] | none=>none) with | some ds=>some (d :: ds) | none=>none) | none=>none)) (bQ (V.eF [Hg c,bf M,V.bool true])):=by
 subst he
 have e1 : resolve σ 11 (V.agg c.cells) = some (Hg c):=by
  show (c.cells.mapM (resolve σ (9 + 1))).map _ = _
  rw [pU hst];rfl
 have e2 : ∃ u,resolve σ 11 mv = some u ∧ bQ (bf M) u:=by
  rcases hL with ⟨rfl,rfl⟩ | ⟨p,rfl,hp⟩
  ·exact ⟨.ak,rfl,of_eq_true (gZ 11)⟩
  ·have hp0 : p ≠ 0:=fun e=>by
    obtain ⟨z,hz⟩:=h0
    rw [e,hz] at hp;cases hp
   have:=Fb (n:=9) ((hf p hp0).trans hp) (vw M)
   rw [List.length_map] at this
   exact ⟨_,this,aC _⟩
 obtain ⟨u,e2,e3⟩:=e2
 rw [e1,e2]
 have k : ∀ x y z : V,bQ y z → bQ (V.eF [x,y,V.bool true]) (V.eF [x,z,V.bool true]):=fun x y z h=>by
  simp only [bQ,oJ]
  exact ⟨_,rfl,_,_,rfl,aC _,_,_,rfl,h,_,_,rfl,rfl,rfl⟩
 exact k _ _ _ e3
theorem Gm (A : List Pa) (a : Pa) : qy (A ++ [a]) = qj (qy A) a.share:=by
 unfold qy Dk
 rw [List.take_length,List.take_length,List.foldl_append];rfl
def jk : Fn:=⟨2,167,[.cell 4 5 true,.tmp 5,.tmp 6],(.seq (rf 1 [oN 4 (.alloc Ku),oK 5 1 mN,oK 6 1 mF]) (.seq (sr [oW 18 1,oN 19 (bc .lss 18 1),oW 20 19,oG 20 false 21 (oV 1),oG 20 false 22 (bc .geq 21 10),oN 23 (.pick (.t 20) (.c (.bool true)) (.t 22))] (cd 23 (sr [oN 24 (.build Ku []),oS (.store 5 (.t 4) (.t 24)),oN 5 mN,oN 6 mF] .ret) .skip)) (.seq (rf 1 [oK 25 1 (oV 1),oK 26 1 (.call 39 [(cI 0)]),oK 27 1 (.build Ku [(0,1,(.t 25)),(1,3,(.t 26))]),oN 7 (.alloc Ku),⟨none,none,1,.store 5 (.t 7) (.t 27),[]⟩]) (.seq (rf 1 [oN 28 (.eG 3 kK 0 []),oK 8 1 (oV 28)]) (.seq (sr [oW 29 0,oN 30 (ln 29),oN 31 (.bZ (cI 0))] (.block 0 (.loop (sr [oN 32 (bt .lss 31 30)] (.seq (cd 32 .skip (.exit 0)) (.seq (.block 1 (.seq (rf 1 [oK 33 1 (ix 11 29 31),oK 34 1 (lT 11 33),oN 10 (.alloc xW),⟨none,none,1,.store 11 (.t 10) (.t 34),[]⟩]) (.seq (sr [oN 35 (fd 0 10),oN 36 (lF 1 35),oW 37 1,oN 38 (bt .eql 36 37)] (cd 38 (rt 2 [oK 39 2 (fd 4 7),oA 40 2 (lF 1 39) [0],oK 41 2 (fd 1 10),oA 42 2 (lF 1 41) [2],oK 43 2 (fd 5 10),oA 44 2 (lT 3 43) [4],oA 45 2 (cl 161 [44]) [5],oK 46 2 (fd 8 10),oA 47 2 (lT 3 46) [7],oA 48 2 (cl 161 [47]) [8,6],oA 49 2 (.build Qe [(0,1,(.t 42)),(4,3,(.t 45)),(7,3,(.t 48))]) [3,6,9],oA 50 0 (.eG 10 Qe 1 [(0,(.t 49))]) [10],oA 51 1 (.app 10 176 (.t 40) (.t 50)) [1,11,9],oA 52 2 (fd 4 7) [0,1,2,3,4,5,6,7,8,9,10,11,12],⟨none,none,2,.store 1 (.t 52) (.t 51),[13,12,12,0,1,2,3,4,5,6,7,8,9,10,11,12]⟩]) (sr [oN 53 (fd 1 10),oN 54 (lF 1 53),oW 55 1,oN 56 (bt .eql 54 55)] (cd 56 (rf 2 [oK 57 2 (fd 4 7),oK 58 2 (lF 1 57),oK 59 2 (fd 0 10),oK 60 2 (lF 1 59),oK 61 2 (fd 5 10),oK 62 2 (lT 3 61),oK 63 2 (fd 8 10),oK 64 2 (lT 3 63),oK 65 2 (.build Qe [(0,1,(.t 60)),(4,3,(.t 62)),(7,3,(.t 64))]),oN 66 (.eG 10 Qe 1 [(0,(.t 65))]),oK 67 1 (.app 10 176 (.t 58) (.t 66)),oK 68 2 (fd 4 7),⟨none,none,2,.store 1 (.t 68) (.t 67),[]⟩]) (.exit 1))))) (.seq (rf 2 [oK 69 2 (oV 8),oK 70 2 (fd 2 10),oK 71 2 (lT 3 70),oN 72 (.eG 3 kK 1 [(0,(.t 71))]),oK 73 1 (.app 3 56 (.t 69) (.t 72)),oK 8 2 (oV 73)]) (rg [oN 74 (fd 1 7),oN 75 (lT 3 74),oN 76 (fd 2 10),oN 77 (lT 3 76),oN 78 (cl 131 [75,77]),oN 79 (fd 1 7),oS (.store 3 (.t 79) (.t 78))]))))) (rg [oN 80 (bc .add 31 1),oW 31 80]))))))) (.seq (sr [oN 81 (fd 4 7),oN 82 (lF 1 81),oN 83 (ln 82),oN 84 (.bZ (cI 0))] (.block 2 (.loop (sr [oN 85 (bt .lss 84 83)] (.seq (cd 85 .skip (.exit 2)) (.seq (.block 3 (sr [oW 86 84,oW 11 86] (rt 0 [oN 87 (fd 4 7),oA 88 0 (lF 1 87) [0],oW 89 11,oW 90 8,oW 91 11,oA 92 0 (ix 3 90 91) [3,4],oA 93 0 (lT 3 92) [5],oN 94 (fd 1 7),oA 95 0 (lT 3 94) [7],oA 96 0 (cl 156 [93,95]) [6,8],oA 97 0 (ix 10 88 89) [1,2,0,1,2,3,4,5,6,7,8,9],oA 98 0 (fd 1 97) [10,0,1,2,3,4,5,6,7,8,9],⟨none,none,0,.store 3 (.t 98) (.t 96),[11,9,9,0,1,2,3,4,5,6,7,8,9]⟩]))) (rg [oN 99 (bc .add 84 1),oW 84 99]))))))) (.seq (sr [oN 100 (lT 5 7),oN 101 (cl 185 [100]),oN 102 (nt 101)] (cd 102 (sr [oN 103 (.build Ku []),oS (.store 5 (.t 4) (.t 103)),oN 5 mN,oN 6 mF] .ret) .skip)) (.seq (rf 1 [oN 104 (.eG 11 xW 0 []),oK 12 1 (oV 104)]) (.seq (sr [oN 105 (fd 4 7),oN 106 (lF 1 105),oN 107 (ln 106),oN 108 (.bZ (cI 0))] (.block 4 (.loop (sr [oN 109 (bt .lss 108 107)] (.seq (cd 109 .skip (.exit 4)) (.seq (.block 5 (.seq (rf 1 [oK 110 1 (oV 108),oK 111 1 (ix 10 106 108),oK 112 1 (lT 10 111),oN 14 (.alloc Qe),oK 13 1 (oV 110),⟨none,none,1,.store 10 (.t 14) (.t 112),[]⟩]) (sr [oW 113 13,oN 114 (bc .add 113 1),oW 15 114] (.block 6 (.loop (.seq (sr [oW 115 15,oN 116 (fd 4 7),oN 117 (lF 1 116),oN 118 (ln 117),oN 119 (bt .lss 115 118)] (cd 119 .skip (.exit 6))) (.seq (.block 7 (.seq (rf 1 [oK 122 1 (fd 4 7),oK 123 1 (lF 1 122),oK 124 1 (oV 15),oK 125 1 (ix 10 123 124),oK 126 1 (lT 10 125),oN 16 (.alloc Qe),⟨none,none,1,.store 10 (.t 16) (.t 126),[]⟩]) (.seq (rt 1 [oK 127 1 (fd 0 14),oA 128 1 (lF 1 127) [0],oK 129 1 (fd 0 16),oA 130 1 (lF 1 129) [2],oK 131 1 (oV 8),oK 132 1 (oV 13),oA 133 1 (ix 3 131 132) [4,5],oA 134 1 (lT 3 133) [6],oK 135 1 (oV 8),oK 136 1 (oV 15),oA 137 1 (ix 3 135 136) [8,9],oA 138 1 (lT 3 137) [10],oA 139 1 (cl 157 [134,138]) [7,11],oK 140 1 (fd 1 7),oA 141 1 (lT 3 140) [13],oA 142 1 (cl 156 [139,141]) [12,14,12],oA 143 1 (.build xW [(0,1,(.t 128)),(1,1,(.t 130)),(2,3,(.t 142))]) [1,3,15],oN 17 (.alloc xW),⟨none,none,1,.store 11 (.t 17) (.t 143),[17,16,15,0,1,2,3,4,5,6,7,8,9,10,11,12,13,14,15,16,17]⟩]) (sr [oN 144 (fd 4 14),oN 145 (lT 3 144),oN 146 (fd 4 16),oN 147 (lT 3 146),oN 148 (cl 159 [145,147]),oN 149 (fd 5 17),oS (.store 3 (.t 149) (.t 148))] (sr [oN 150 (fd 7 14),oN 151 (lT 3 150),oN 152 (fd 7 16),oN 153 (lT 3 152),oN 154 (cl 159 [151,153]),oN 155 (fd 8 17),oS (.store 3 (.t 155) (.t 154))] (.seq (sr [oN 156 (lT 11 17),oN 157 (cl 84 [156]),oN 158 (nt 157)] (cd 158 (sr [oN 159 (.build Ku []),oS (.store 5 (.t 4) (.t 159)),oN 5 mN,oN 6 mF] .ret) .skip)) (rf 2 [oK 160 2 (oV 12),oK 161 2 (lT 11 17),oN 162 (.eG 11 xW 1 [(0,(.t 161))]),oK 163 1 (.app 11 184 (.t 160) (.t 162)),oK 12 2 (oV 163)]))))))) (rg [oW 120 15,oN 121 (bc .add 120 1),oW 15 121])))))))) (rg [oN 164 (bc .add 108 1),oW 108 164]))))))) (sr [oN 165 (lT 5 7),oW 166 12,oS (.store 5 (.t 4) (.t 165)),oW 5 166,oN 6 mT] .ret))))))))))⟩
structure qA (T : Tb) : Prop where
 hT : T 182 = some jk
 dw : ig T
 uQ : mZ T
 dA : fH T
 oI : lK T
 fM : jQ T
 tu : rZ T
 zF : rY T
 qZ : kL T
theorem Ox {T : Tb} (h : qA T) {S : List Lk} {v : Int} (hb : bU S = true) (hw : Hl Lk.wf S) : PF T 182 [bf S,iv v] (.eF [Hg (VK S v),bf (Ua S v),.bool (J6 S v)]):=by
 have hl : S.length ≤ 100:=Fe hb
 have c0:=Eb h.dw (n:=0)
 by_cases hv : 1 ≤ v ∧ v ≤ 9
 ·have hv1 : ¬ v < 1:=by omega
  have hv2 : ¬ v ≥ 10:=by omega
  refine aK (fun x d=>(x == 39 && d == 999)) h.hT ?_
  simp only [jk,Lz]
  refine ew ?_
  refine sK @hv1 @hv2 ?_
  refine ah c0 ?_
  refine ew ?_
  refine aQ (fun x d=>(x == 39 && d == 999)) (α:=Nat × Store × V × V) (fun q=>⟨bM [bf S,iv v,.any,.any,.ptr 0 0 0,.ak,.bool false,.ptr 1 0 0,q.2.2.2,.any,.any,.any,.any,.any,.any,.any,.any,.any,.any,.any,.any,.any,.any,.any,.any,.any,.any,.any,.any,bf S,iv (S.length : Nat),iv (q.1 : Nat)],q.2.1,0,0,[],[]⟩) (fun q=>q.1 ≤ S.length ∧ ElI q.2.1 v (qy (Eo S v q.1)) q.2.2.1 q.2.2.2 ((Eo S v q.1).map paZ) ((Eo S v q.1).map Pa.wc)) (fun q=>S.length - q.1) rfl (0,[some ⟨5,[[iv 0,.bool false,.ak,.ak,.ak]]⟩,some ⟨5,[[iv v,.bool (iU 0).neg,ints (iU 0).mag,ints (iU 0).den,.ak]]⟩,none],.ak,.ak) ?_ ?_ ?_
  ·exact ⟨Nat.zero_le _,by dsimp only;rw [akR];exact ⟨rfl,rfl,.inl ⟨rfl,rfl⟩,.inl ⟨rfl,rfl⟩⟩⟩
  ·(refine aI ?_;exact wI)
  ·rintro ⟨i,s,pv,wv⟩ ⟨hi,I⟩
   dsimp only at hi I
   have hX:=QU (Eo S v i)
   have hAl:=XQ S v i
   have I0:=I.a0
   have I1:=I.a1
   have hsl:=I.lt
   by_cases hc : (i : Int) < (S.length : Nat)
   ·have hil : i < S.length:=by omega
    have hx : (S.map Lk.cells).getD i [] = (S.getD i default).cells:=mg hil
    have es:=akS S v hil
    have hlk:=qU hb (getD_mem hil)
    obtain ⟨kw,kx,ky,kp⟩:=Lh hlk
    generalize S.getD i default = l at *
    unfold TV at es
    by_cases ha : l.a = v
    ·have f0 : (l.a = v) = True:=eq_true ha
     rw [if_pos ha] at es
     have n1:=TA h.zF (xX kx)
     have n2:=TA h.zF (xX ky)
     have ca:=yD h.dA hX (xX kw)
     generalize hXe : qy (Eo S v i) = X at *
     generalize Eo S v i = A at *
     rcases I.p with ⟨hp,rfl⟩ | ⟨p,rfl,hp,hp3,hpl⟩
     ·have hA : A = []:=List.map_eq_nil_iff.1 hp
      subst hA
      rcases I.w with ⟨_,rfl⟩ | ⟨w,_,hw,_,hwl⟩
      case inr=>exact absurd hwl (by simp)
      refine xQ @hc @hx @f0 (And.intro I0 I1) @aB @aS ?_
      refine ah n1 ?_
      refine xQ @hc @hx @f0 (And.intro I0 I1) @aB @aS ?_
      refine ah n2 ?_
      refine xQ @hc @hx @f0 (And.intro I0 I1) @aB @aS ?_
      refine ⟨by omega,by
       have hn0 : 2 ≤ List.length s:=hsl
       generalize List.length s = m at hn0 ⊢
       revert m
       refine qo _ _ 2 (fun n hn=>?_) (fun n hn=>?_) ?_
       ·simp only [sh];split <;> omega
       ·simp [Rq,sh];try omega
       ·unfold jl;decide +kernel,?_⟩
      refine ⟨by omega,?_⟩
      refine ah ca ?_
      refine xQ @hc @hx @f0 (And.intro I0 I1) @aB @aS ?_
      refine ⟨(i + 1,?s1,.bC (s.length + 1 + 1) 0 1,.bC (s.length + 4) 0 1),?m1,⟨?a1,?b1⟩,?e1⟩
      case e1=>dsimp only;(refine aI ?_;exact wI)
      case m1=>dsimp only;omega
      case a1=>dsimp only;omega
      case b1 =>
       dsimp only
       rw [es,Gm,hXe]
       refine ⟨(show aj _ 0 = aj s 0 by exact xO).trans I0,?u1,.inr ⟨s.length + 1 + 1,?p1,?q1,by omega,by simp⟩,.inr ⟨s.length + 4,?r1,?t1,by omega,by simp⟩⟩
       case u1=>simp (disch:=first | omega | (simp only [List.length_append,List.length_set,List.length_cons,List.length_nil];omega)) only [EU]
       case p1=>simp
       case r1=>simp
       case q1=>simp (disch:=first | omega | (simp only [List.length_append,List.length_set,List.length_cons,List.length_nil];omega)) only [EU];simp [paZ]
       case t1=>simp (disch:=first | omega | (simp only [List.length_append,List.length_set,List.length_cons,List.length_nil];omega)) only [EU];simp [Pa.wc]

     ·rcases I.w with ⟨hwn,_⟩ | ⟨w,rfl,hw,hw3,hwl⟩
      case inl=>have:=List.map_eq_nil_iff.1 hwn;subst this;exact absurd hpl (by simp)
      have hpq:=aJ hp
      have hwq:=aJ hw
      have hpw : p ≠ w:=fun e=>by rw [e,hw] at hp;cases hp
      simp only [List.length_map] at hpl hwl ⊢
      refine ew7 @hc @hx @f0 (And.intro I0 I1) @aB @aS (And.intro hp hw) ?_
      refine ah n1 ?_
      refine ew7 @hc @hx @f0 (And.intro I0 I1) @aB @aS (And.intro hp hw) ?_
      refine ah n2 ?_
      refine ew7 @hc @hx @f0 (And.intro I0 I1) @aB @aS (And.intro hp hw) ?_
      refine ⟨by omega,Gl [1,p,s.length,s.length + 1,s.length + 1 + 1] [⟨14,[0],[0],false⟩,⟨13,[0],[],false⟩,⟨12,[1,3],[1,4],false⟩,⟨11,[],[3],false⟩,⟨10,[],[],false⟩,⟨9,[],[],false⟩,⟨8,[2],[],false⟩,⟨7,[2],[],false⟩,⟨6,[],[],false⟩,⟨5,[2],[],false⟩,⟨4,[2],[],false⟩,⟨3,[2],[],false⟩,⟨2,[2],[],false⟩,⟨1,[0],[],false⟩,⟨0,[0],[],false⟩] ?_ ?_ rfl ?_,?_⟩
      ·generalize List.length s = m at hsl hpq ⊢
       simp;omega
      ·intro o ho;simp at ho;omega
      ·show jl 5 _ _
       unfold jl;rfl
      refine ⟨by omega,?_⟩
      refine ah ca ?_
      refine ew7 @hc @hx @f0 (And.intro I0 I1) @aB @aS (And.intro hp hw) ?_
      refine ⟨(i + 1,?s2,.bC (s.length + 1 + 1) 0 (A.length + 1),.bC (s.length + 4) 0 (A.length + 1)),?m2,⟨?a2,?b2⟩,?e2⟩
      case e2=>dsimp only;(refine aI ?_;exact wI)
      case m2=>dsimp only;omega
      case a2=>dsimp only;omega
      case b2 =>
       dsimp only
       rw [es,Gm,hXe]
       refine ⟨(show aj _ 0 = aj s 0 by exact xO).trans I0,?u2,.inr ⟨s.length + 1 + 1,?p2,?q2,by omega,by simp⟩,.inr ⟨s.length + 4,?r2,?t2,by omega,by simp⟩⟩
       case u2=>simp (disch:=first | omega | (simp only [List.length_append,List.length_set,List.length_cons,List.length_nil];omega)) only [EU]
       case p2=>simp
       case r2=>simp
       case q2=>simp (disch:=first | omega | (simp only [List.length_append,List.length_set,List.length_cons,List.length_nil];omega)) only [EU];simp [paZ]
       case t2=>simp (disch:=first | omega | (simp only [List.length_append,List.length_set,List.length_cons,List.length_nil];omega)) only [EU];simp [Pa.wc]

    ·rw [if_neg ha] at es
     by_cases hb2 : l.b = v
     ·have f0 : (l.a = v) = False:=eq_false ha
      have f1 : (l.b = v) = True:=eq_true hb2
      rw [if_pos hb2] at es
      have ca:=yD h.dA hX (xX kw)
      generalize hXe : qy (Eo S v i) = X at *
      generalize Eo S v i = A at *
      rcases I.p with ⟨hp,rfl⟩ | ⟨p,rfl,hp,hp3,hpl⟩
      ·have hA : A = []:=List.map_eq_nil_iff.1 hp
       subst hA
       rcases I.w with ⟨_,rfl⟩ | ⟨w,_,hw,_,hwl⟩
       case inr=>exact absurd hwl (by simp)
       refine ew7 @hc @hx @f0 @f1 (And.intro I0 I1) @aB @aS ?_
       refine ⟨by omega,?_⟩
       refine ⟨by omega,?_⟩
       refine ah ca ?_
       refine ew7 @hc @hx @f0 @f1 (And.intro I0 I1) @aB @aS ?_
       refine ⟨(i + 1,?s3,.bC (s.length + 1 + 1) 0 1,.bC (s.length + 4) 0 1),?m3,⟨?a3,?b3⟩,?e3⟩
       case e3=>dsimp only;(refine aI ?_;exact wI)
       case m3=>dsimp only;omega
       case a3=>dsimp only;omega
       case b3 =>
        dsimp only
        rw [es,Gm,hXe]
        refine ⟨(show aj _ 0 = aj s 0 by exact xO).trans I0,?u3,.inr ⟨s.length + 1 + 1,?p3,?q3,by omega,by simp⟩,.inr ⟨s.length + 4,?r3,?t3,by omega,by simp⟩⟩
        case u3=>simp (disch:=first | omega | (simp only [List.length_append,List.length_set,List.length_cons,List.length_nil];omega)) only [EU]
        case p3=>simp
        case r3=>simp
        case q3=>simp (disch:=first | omega | (simp only [List.length_append,List.length_set,List.length_cons,List.length_nil];omega)) only [EU];simp [paZ]
        case t3=>simp (disch:=first | omega | (simp only [List.length_append,List.length_set,List.length_cons,List.length_nil];omega)) only [EU];simp [Pa.wc]

      ·rcases I.w with ⟨hwn,_⟩ | ⟨w,rfl,hw,hw3,hwl⟩
       case inl=>have:=List.map_eq_nil_iff.1 hwn;subst this;exact absurd hpl (by simp)
       have hpq:=aJ hp
       have hwq:=aJ hw
       have hpw : p ≠ w:=fun e=>by rw [e,hw] at hp;cases hp
       simp only [List.length_map] at hpl hwl ⊢
       refine ew8 @hc @hx @f0 @f1 (And.intro I0 I1) @aB @aS (And.intro hp hw) ?_
       refine ⟨by omega,?_⟩
       refine ⟨by omega,?_⟩
       refine ah ca ?_
       refine ew8 @hc @hx @f0 @f1 (And.intro I0 I1) @aB @aS (And.intro hp hw) ?_
       refine ⟨(i + 1,?s4,.bC (s.length + 1 + 1) 0 (A.length + 1),.bC (s.length + 4) 0 (A.length + 1)),?m4,⟨?a4,?b4⟩,?e4⟩
       case e4=>dsimp only;(refine aI ?_;exact wI)
       case m4=>dsimp only;omega
       case a4=>dsimp only;omega
       case b4 =>
        dsimp only
        rw [es,Gm,hXe]
        refine ⟨(show aj _ 0 = aj s 0 by exact xO).trans I0,?u4,.inr ⟨s.length + 1 + 1,?p4,?q4,by omega,by simp⟩,.inr ⟨s.length + 4,?r4,?t4,by omega,by simp⟩⟩
        case u4=>simp (disch:=first | omega | (simp only [List.length_append,List.length_set,List.length_cons,List.length_nil];omega)) only [EU]
        case p4=>simp
        case r4=>simp
        case q4=>simp (disch:=first | omega | (simp only [List.length_append,List.length_set,List.length_cons,List.length_nil];omega)) only [EU];simp [paZ]
        case t4=>simp (disch:=first | omega | (simp only [List.length_append,List.length_set,List.length_cons,List.length_nil];omega)) only [EU];simp [Pa.wc]

     ·have f0 : (l.a = v) = False:=eq_false ha
      have f1 : (l.b = v) = False:=eq_false hb2
      rw [if_neg hb2] at es
      rw [List.append_nil] at es
      refine yF @hc @hx @f0 @f1 ?_
      refine ⟨(i + 1,?s5,pv,wv),?m5,⟨?a5,?b5⟩,?e5⟩
      case e5=>dsimp only;(refine aI ?_;exact wI)
      case m5=>dsimp only;omega
      case a5=>dsimp only;omega
      case b5 =>
       dsimp only
       rw [es]
       exact ⟨(show aj _ 0 = aj s 0 by exact xO).trans I0,(show aj _ 1 = aj s 1 by exact xO).trans I1,I.p.fr fun q h1 h2=>by simp (disch:=first | omega | (simp only [List.length_append,List.length_set,List.length_cons,List.length_nil];omega)) only [EU],I.w.fr fun q h1 h2=>by simp (disch:=first | omega | (simp only [List.length_append,List.length_set,List.length_cons,List.length_nil];omega)) only [EU]⟩
   ·have hin : i = S.length:=by omega
    subst hin
    have hAe : Eo S v S.length = oU S v:=rfl
    rw [hAe] at hX hAl I
    have hok : ∀ a ∈ oU S v,a.share.ok = true ∧ a.dx.cn ∧ a.dy.cn ∧ 0 ≤ a.node ∧ a.node ≤ 9:=fun a ha=>ZK hb ha
    have hB : J6 S v = (kW (fO v (oU S v)) && (Fh (oU S v)).all jg):=by
     unfold J6 inB
     rw [hb,decide_eq_true hv.1,decide_eq_true hv.2];rfl
    have hC : (fO v (oU S v)) = ⟨v,qy (oU S v),(oU S v).map (qX (qy (oU S v)))⟩:=rfl
    have hT:=@aeX S v
    have hF:=@Si S v
    clear hw
    generalize oU S v = A at *
    generalize hXe : qy A = X at hX I hC
    have I1:=I.a1
    rcases I.p with ⟨hp,rfl⟩ | ⟨p,rfl,hp,hp3,hpl⟩
    ·have hA0 : A = []:=List.map_eq_nil_iff.1 hp
     subst hA0
     have hnc : kW (fO v []) = false:=by
      unfold kW
      rw [hC];simp
     rw [hnc] at hB
     have hB : J6 S v = false:=hB
     rw [(hF hB).1,(hF hB).2,hB]
     have wcd : (fO v []).wf:=by
      rw [hC]
      exact ⟨dS hX,by simp,fun x hx=>by cases hx⟩
     have cv:=xY h.qZ (c:=fO v []) wcd
     rw [hnc,hC] at cv
     have I0:=I.a0
     refine sK @hc @I1 ?_
     refine aQ (fun x d=>(x == 39 && d == 999)) (α:=Store) (fun s=>⟨bM [.any,iv v,.any,.any,.ptr 0 0 0,.ak,.bool false,.ptr 1 0 0,.any,.any,.any,.any,.any,.any,.any,.any,.any,.any,.any,.any,.any,.any,.any,.any,.any,.any,.any,.any,.any,.any,.any,.any,.any,.any,.any,.any,.any,.any,.any,.any,.any,.any,.any,.any,.any,.any,.any,.any,.any,.any,.any,.any,.any,.any,.any,.any,.any,.any,.any,.any,.any,.any,.any,.any,.any,.any,.any,.any,.any,.any,.any,.any,.any,.any,.any,.any,.any,.any,.any,.any,.any,.any,.any,iv 0,iv 0],s,0,0,[],[]⟩) (fun s=>aj s 0 = some ⟨5,[[iv 0,.bool false,.ak,.ak,.ak]]⟩ ∧ aj s 1 = some ⟨5,[[iv v,.bool X.neg,ints X.mag,ints X.den,.ak]]⟩) (fun s=>0) rfl s ?_ ?_ ?_
     ·exact ⟨I0,I1⟩
     ·(refine aI ?_;exact wI)
     ·clear I I0 I1
      rintro s ⟨I0,I1⟩
      have hz : ¬ (0 : Int) < 0:=by decide
      have h0q:=aJ I0
      have cv2 : PF T 185 [.agg [iv v,.bool X.neg,ints X.mag,ints X.den,.ak]] (.bool false):=by
       refine .Yq (args:=[Hg ⟨v,X,[]⟩]) (r:=.bool false) ?_ cv (aC _)
       have k1:=aC (ints X.mag)
       have k2:=aC (ints X.den)
       simp only [oJ,bQ] at k1 k2 ⊢
       exact ⟨_,_,rfl,⟨_,rfl,_,_,rfl,rfl,_,_,rfl,rfl,_,_,rfl,k1,_,_,rfl,k2,_,_,rfl,.inl ⟨rfl,.inl rfl⟩,rfl⟩,rfl⟩
      refine sK @hz @I1 ?_
      refine ah cv2 ?_
      refine sK @I0 @I1 ?_
      exact Ae (σ:=[])
    ·rcases I.w with ⟨hwn,_⟩ | ⟨w,rfl,hw,hw3,hwl⟩
     case inl=>have:=List.map_eq_nil_iff.1 hwn;subst this;exact absurd hpl (by simp)
     simp only [List.length_map] at hpl hwl I1 ⊢
     have hpq:=aJ hp
     have hwq:=aJ hw
     refine CO @hc @I1 @hp ?_
     refine aQ (fun x d=>(x == 39 && d == 999)) (α:=Nat × Store) (fun q=>⟨bM [.any,iv v,.any,.any,.ptr 0 0 0,.ak,.bool false,.ptr 1 0 0,.bC w 0 A.length,.any,.any,.any,.any,.any,.any,.any,.any,.any,.any,.any,.any,.any,.any,.any,.any,.any,.any,.any,.any,.any,.any,.any,.any,.any,.any,.any,.any,.any,.any,.any,.any,.any,.any,.any,.any,.any,.any,.any,.any,.any,.any,.any,.any,.any,.any,.any,.any,.any,.any,.any,.any,.any,.any,.any,.any,.any,.any,.any,.any,.any,.any,.any,.any,.any,.any,.any,.any,.any,.any,.any,.any,.any,.any,iv (A.length : Nat),iv (q.1 : Nat)],q.2,0,0,[],[]⟩) (fun q=>(q.1 ≤ A.length ∧ aj q.2 0 = some ⟨5,[[iv 0,.bool false,.ak,.ak,.ak]]⟩ ∧ aj q.2 w = some ⟨3,A.map Pa.wc⟩) ∧ (q.1 < A.length → aj q.2 1 = some ⟨5,[[iv v,.bool X.neg,ints X.mag,ints X.den,.bC p 0 A.length]]⟩ ∧ aj q.2 p = some ⟨10,J7 (A.map fun a=>(qX X a).cells) (A.map paZ) q.1⟩) ∧ (q.1 = A.length → aj q.2 1 = some ⟨5,[(fO v A).cells]⟩)) (fun q=>A.length - q.1) rfl (0,s) ?_ ?_ ?_
     ·exact ⟨⟨Nat.zero_le _,I.a0,hw⟩,fun _=>⟨I1,by dsimp only;rw [akY];exact hp⟩,fun e=>by dsimp only at e;omega⟩
     ·(refine aI ?_;exact wI)
     ·clear I I1 I0 hp hw hpq hwq
      rintro ⟨j,s⟩ ⟨⟨hj,I0,hw⟩,hM,hE⟩
      dsimp only at hj I0 hw hM hE
      have hwq:=aJ hw
      by_cases hc2 : (j : Int) < (A.length : Nat)
      ·have hjl : j < A.length:=by omega
       obtain ⟨I1,hp⟩:=hM hjl
       have hpq:=aJ hp
       have hpw : p ≠ w:=fun e=>by rw [e,hw] at hp;cases hp
       have hpA:=hok _ (getD_mem hjl)
       have hg : (A.map fun a=>(qX X a).cells).getD j [] = (qX X (A.getD j default)).cells:=mg hjl
       have hrow : (J7 (A.map fun a=>(qX X a).cells) (A.map paZ) j)[j]? = some (paZ (A.getD j default)):=by
        unfold J7
        rw [List.getElem?_append_right (by simp;omega)]
        simp only [List.length_take,List.length_map,List.getElem?_drop]
        rw [show j + (j - min j A.length) = j by omega,mg? hjl]
       have hml : (J7 (A.map fun a=>(qX X a).cells) (A.map paZ) j).length = A.length:=by rw [ae7 (by simp)];simp
       have hst:=ae8 (a:=A.map fun a=>(qX X a).cells) (b:=A.map paZ) (j:=j) (d:=[]) (x:=(qX X (A.getD j default)).cells) (by simp) (by simpa using hjl) hg
       have hgw : (A.map Pa.wc)[j]? = some (A.getD j default).wc:=mg? hjl
       have cd:=Tz h.oI (r:=(A.getD j default).share) (s:=X) (xX hpA.1) hX
       generalize A.getD j default = a at *
       generalize J7 (A.map fun a=>(qX X a).cells) (A.map paZ) j = M at *
       have hgw : (A.map Pa.wc)[j]? = some [.bool a.share.neg,ints a.share.mag,ints a.share.den]:=hgw
       have hrow : M[j]? = some [iv a.node,.bool false,.ak,.ak,.bool a.dx.neg,ints a.dx.mag,ints a.dx.den,.bool a.dy.neg,ints a.dy.mag,ints a.dy.den]:=hrow
       refine ew7 @hc2 @I1 @hp @hw (And.intro hrow hml) @hgw (And.intro aB aS) ?_
       refine ah cd ?_
       refine ew7 @hc2 @I1 @hp @hw (And.intro hrow hml) @hgw (And.intro aB aS) ?_
       refine ⟨Gl [1,w,p] [⟨12,[2],[2],false⟩,⟨11,[2],[],false⟩,⟨10,[2],[],false⟩,⟨9,[],[],false⟩,⟨8,[0],[],false⟩,⟨7,[0],[],false⟩,⟨6,[1],[],false⟩,⟨5,[1],[],false⟩,⟨4,[],[],false⟩,⟨3,[],[],false⟩,⟨2,[],[],false⟩,⟨1,[0],[],false⟩,⟨0,[0],[],false⟩] ?_ ?_ rfl ?_,?_⟩
       ·have : 1 ≠ w ∧ 1 ≠ p ∧ w ≠ p:=by omega
        simp [this]
       ·intro o ho;simp at ho;omega
       ·show jl 3 _ _
        unfold jl;rfl
       by_cases hj1 : j + 1 < A.length
       ·refine ⟨(j + 1,?s6),?m6,⟨⟨?a6,?b6,?c6⟩,fun _=>⟨?d6,?f6⟩,fun e=>absurd e (by dsimp only;omega)⟩,?e6⟩
        case e6=>dsimp only;(refine aI ?_;exact wI)
        case m6=>dsimp only;omega
        case a6=>dsimp only;omega
        case b6=>exact (show aj _ 0 = aj s 0 by exact xO).trans I0
        case c6=>exact (show aj _ w = aj s w by exact xO).trans hw
        case d6=>exact (show aj _ 1 = aj s 1 by exact xO).trans I1
        case f6=>dsimp only;rw [← hst];exact aX hpq
       ·have hjn : j + 1 = A.length:=by omega
        have hrows : J7 (A.map fun a=>(qX X a).cells) (A.map paZ) A.length = (fO v A).ps.map Pa.cells:=by
         have:=ae6 (A.map fun a=>(qX X a).cells) (A.map paZ) (by simp) (by simp)
         rw [List.length_map] at this
         rw [this,hC,List.map_map];rfl
        rw [hjn,hrows] at hst
        obtain ⟨s2,hs2⟩ : ∃ s2,s.set p (some ⟨10,M.set j (qX X a).cells⟩) = s2:=⟨_,rfl⟩
        have k0 : aj s2 0 = some ⟨5,[[iv 0,.bool false,.ak,.ak,.ak]]⟩:=by rw [← hs2,aH (by omega)];exact I0
        have k1 : aj s2 1 = some ⟨5,[[iv v,.bool X.neg,ints X.mag,ints X.den,.bC p 0 A.length]]⟩:=by rw [← hs2,aH (by omega)];exact I1
        have kw : aj s2 w = some ⟨3,A.map Pa.wc⟩:=by rw [← hs2,aH (by omega)];exact hw
        have kp : aj s2 p = some ⟨10,(fO v A).ps.map Pa.cells⟩:=by rw [← hs2,aX hpq,hst]
        have hl2 : s2.length = s.length:=by rw [← hs2];simp
        have hres : resolve s2 FD (.bC p 0 A.length) = some (dZ (fO v A).ps):=by
         have:=Fb (n:=10) kp (Ig _)
         rw [List.length_map,hC,List.length_map] at this
         rw [hC];exact this
        refine ⟨(j + 1,Bg s2 1 ⟨5,[(fO v A).cells]⟩ [0,w]),?m7,⟨⟨?a7,?b7,?c7⟩,fun e=>absurd e (by dsimp only;omega),fun _=>?d7⟩,?e7⟩
        case e7 =>
         dsimp only
         show Fg _ ⟨_,s.set p (some ⟨10,M.set j (qX X a).cells⟩),_,_,_,_⟩
         rw [hs2]
         refine ZN (p:=1) (n:=5) (A:=[[iv v,.bool X.neg,ints X.mag,ints X.den,.bC p 0 A.length]]) k1 rfl ?_ ?_ ?_
         ·intro o ho ob hob
          rcases List.mem_cons.1 ho with rfl | ho
          ·rw [k0] at hob;cases hob;simp [dO,V.still]
          ·rw [List.mem_singleton.1 ho,kw] at hob;cases hob
           have:=WI (A.map (·.share))
           rw [List.map_map] at this
           exact this
         ·intro i r r2 h1 h2
          cases i with
          | succ i=>cases h1
          |
           zero =>
           cases h1;cases h2
           rw [hC] at hres ⊢
           simp only [DU,pJ]
           refine ⟨_,_,rfl,rfl,_,_,rfl,rfl,_,_,rfl,aC _,_,_,rfl,aC _,_,_,rfl,.inr (.inr ⟨hres,fun q hq k s0 l0 hk=>?_⟩),rfl⟩
           have:=yM kp (Ig _) q hq
           have:=BN hk
           simp at this
           omega
         ·refine ew ?_
          refine ⟨fV (n:=1) ?_ (by omega),fV (n:=1) ?_ (by omega),kS (n:=A.length) ?_ (Nat.le_refl _) rfl,by omega⟩
          ·rw [Di (by omega),if_neg (by omega),if_pos (by simp),k0];rfl
          ·rw [Di (by omega),if_pos rfl]
          ·rw [Di (by omega),if_neg (by omega),if_pos (by simp),kw];simp
        case m7=>dsimp only;omega
        case a7=>dsimp only;omega
        case b7=>dsimp only;rw [Ai (by omega),if_neg (by omega),if_pos (by simp)];exact k0
        case c7=>dsimp only;rw [Ai (by omega),if_neg (by omega),if_pos (by simp)];exact kw
        case d7=>dsimp only;rw [Ai (by omega),if_pos rfl]
      ·have hjn : j = A.length:=by omega
       have I1:=hE hjn
       subst hjn
       have wcd : (fO v A).wf:=by
        rw [hC]
        exact ⟨dS hX,by simp;omega,fun x hx=>by
         obtain ⟨a,ha,rfl⟩:=List.mem_map.1 hx
         have:=hok a ha
         exact ⟨dS (DC _ _),dS this.2.1,dS this.2.2.1⟩⟩
       have cv:=xY h.qZ (c:=fO v A) wcd
       have hres : ∀ σ : Store,resolve σ FD (Hg (fO v A)) = some (Hg (fO v A)):=fun σ=>zX (NS [fO v A] _ (by simp))
       clear hM hE
       refine sK @hc2 @I1 ?_
       refine ah cv ?_
       cases hcd : kW (fO v A)
       ·rw [hcd] at hB
        have hB : J6 S v = false:=hB
        rw [(hF hB).1,(hF hB).2,hB]
        refine sK @I1 @I0 ?_
        first | exact Ae | exact Ae (σ:=[])
       ·rw [hcd,Bool.true_and] at hB
        have hcc : (fO v A).cells = [iv v,.bool X.neg,ints X.mag,ints X.den,dZ (fO v A).ps]:=by rw [hC]
        rw [hcc] at I1
        have hpl2 : (fO v A).ps.length = A.length:=by rw [hC];simp
        refine sK @I1 @hpl2 ?_
        refine aQ (fun x d=>(x == 39 && d == 999)) (α:=Nat × Store × V) (fun q=>⟨bM [.any,iv v,.any,.any,.ptr 0 0 0,.ak,.bool false,.ptr 1 0 0,.bC w 0 A.length,.any,.any,.any,q.2.2,.any,.any,.any,.any,.any,.any,.any,.any,.any,.any,.any,.any,.any,.any,.any,.any,.any,.any,.any,.any,.any,.any,.any,.any,.any,.any,.any,.any,.any,.any,.any,.any,.any,.any,.any,.any,.any,.any,.any,.any,.any,.any,.any,.any,.any,.any,.any,.any,.any,.any,.any,.any,.any,.any,.any,.any,.any,.any,.any,.any,.any,.any,.any,.any,.any,.any,.any,.any,.any,.any,.any,.any,.any,.any,.any,.any,.any,.any,.any,.any,.any,.any,.any,.any,.any,.any,.any,.any,.any,.any,.any,.any,.any,dZ (fO v A).ps,iv (A.length : Nat),iv (q.1 : Nat)],q.2.1,0,0,[],[]⟩) (fun q=>(q.1 ≤ A.length ∧ aj q.2.1 0 = some ⟨5,[[iv 0,.bool false,.ak,.ak,.ak]]⟩ ∧ aj q.2.1 w = some ⟨3,A.map Pa.wc⟩ ∧ aj q.2.1 1 = some ⟨5,[[iv v,.bool X.neg,ints X.mag,ints X.den,dZ (fO v A).ps]]⟩) ∧ LnA q.2.1 q.2.2 (iF A q.1) ∧ ∀ x ∈ iF A q.1,jg x = true) (fun q=>A.length - q.1) rfl (0,s ++ [none],.ak) ?_ ?_ ?_
        ·exact ⟨⟨Nat.zero_le _,(aO (by omega)).trans I0,(aO hwq).trans hw,(aO (by omega)).trans I1⟩,.inl ⟨rfl,rfl⟩,fun x hx=>by cases hx⟩
        ·(refine aI ?_;exact wI)
        ·clear I0 I1 hw hwq
         rintro ⟨i,s,mv⟩ ⟨⟨hi,I0,hw,I1⟩,hL,hall⟩
         dsimp only at hi I0 hw I1 hL hall
         have hwq:=aJ hw
         have Vy:=aJ I1
         have hLl:=Dh A i
         by_cases hc3 : (i : Int) < (A.length : Nat)
         ·have hil : i < A.length:=by omega
          have hg : ((fO v A).ps.map Pa.cells).getD i [] = (qX X (A.getD i default)).cells:=by
           have:=mg (l:=(fO v A).ps) (f:=Pa.cells) (j:=i) (by rw [hpl2];exact hil)
           rw [OZ hil,hXe] at this;exact this
          have hiA:=hok _ (getD_mem hil)
          refine CO @hc3 @hg @hpl2 ?_
          obtain ⟨qc,hqc⟩ : ∃ qc,List.length s = qc:=⟨_,rfl⟩
          have hq3 : 3 ≤ qc:=by omega
          refine aQ (fun x d=>(x == 39 && d == 999)) (α:=Nat × Store × V) (fun q=>⟨bM [.any,iv v,.any,.any,.ptr 0 0 0,.ak,.bool false,.ptr 1 0 0,.bC w 0 A.length,.any,.any,.any,q.2.2,iv (i : Nat),.ptr qc 0 0,iv ((i : Nat) + 1 + (q.1 : Nat)),.any,.any,.any,.any,.any,.any,.any,.any,.any,.any,.any,.any,.any,.any,.any,.any,.any,.any,.any,.any,.any,.any,.any,.any,.any,.any,.any,.any,.any,.any,.any,.any,.any,.any,.any,.any,.any,.any,.any,.any,.any,.any,.any,.any,.any,.any,.any,.any,.any,.any,.any,.any,.any,.any,.any,.any,.any,.any,.any,.any,.any,.any,.any,.any,.any,.any,.any,.any,.any,.any,.any,.any,.any,.any,.any,.any,.any,.any,.any,.any,.any,.any,.any,.any,.any,.any,.any,.any,.any,.any,dZ (fO v A).ps,iv (A.length : Nat),iv (i : Nat)],q.2.1,0,0,[],[]⟩) (fun q=>(i + 1 + q.1 ≤ A.length ∧ aj q.2.1 0 = some ⟨5,[[iv 0,.bool false,.ak,.ak,.ak]]⟩ ∧ aj q.2.1 w = some ⟨3,A.map Pa.wc⟩ ∧ aj q.2.1 1 = some ⟨5,[[iv v,.bool X.neg,ints X.mag,ints X.den,dZ (fO v A).ps]]⟩ ∧ aj q.2.1 qc = some ⟨10,[(qX X (A.getD i default)).cells]⟩) ∧ LnA q.2.1 q.2.2 (iF A i ++ mM A i q.1) ∧ ∀ x ∈ iF A i ++ mM A i q.1,jg x = true) (fun q=>A.length - q.1) rfl (0,s ++ [some ⟨10,[(qX X (A.getD i default)).cells]⟩],mv) ?_ ?_ ?_
          ·refine ⟨⟨by dsimp only;omega,(aO (by omega)).trans I0,(aO hwq).trans hw,(aO Vy).trans I1,by dsimp only;rw [← hqc];exact nD _ _⟩,?_,?_⟩
           ·dsimp only
            rw [OY,List.append_nil]
            exact hL.fr fun p hp=>aO hp
           ·dsimp only
            rw [OY,List.append_nil];exact hall
          ·subst hqc
           (refine aI ?_;exact wI)
          ·clear I0 I1 hw hwq Vy hL hall hqc
           rintro ⟨j,s,mv⟩ ⟨⟨hj,I0,hw,I1,Iq⟩,hL,hall⟩
           dsimp only at hj I0 hw I1 Iq hL hall
           have hwq:=aJ hw
           have Vy:=aJ I1
           have hqq:=aJ Iq
           have hRl:=Nr A i j
           by_cases hc4 : (i : Int) + 1 + j < (A.length : Nat)
           ·have hkl : i + 1 + j < A.length:=by omega
            have hg2 : ((fO v A).ps.map Pa.cells).getD (i + 1 + j) [] = (qX X (A.getD (i + 1 + j) default)).cells:=by
             have:=mg (l:=(fO v A).ps) (f:=Pa.cells) (j:=i + 1 + j) (by rw [hpl2];exact hkl)
             rw [OZ hkl,hXe] at this;exact this
            have hkA:=hok _ (getD_mem hkl)
            have ht : ((i : Int) + 1 + (j : Nat)).toNat = i + 1 + j:=by omega
            have hwi : (A.map Pa.wc)[i]? = some (A.getD i default).wc:=mg? hil
            have hwk : (A.map Pa.wc)[i + 1 + j]? = some (A.getD (i + 1 + j) default).wc:=mg? hkl
            have es:=Vt A hkl
            have hbad:=@afc A i (i + 1 + j) (by omega) hkl
            rw [hXe] at es hbad
            obtain ⟨a,ha⟩ : ∃ a,A.getD i default = a:=⟨_,rfl⟩
            obtain ⟨b,hb'⟩ : ∃ b,A.getD (i + 1 + j) default = b:=⟨_,rfl⟩
            rw [ha] at hiA es hbad Iq hwi
            rw [hb'] at hkA es hbad hg2 hwk
            have hwi : (A.map Pa.wc)[i]? = some [.bool a.share.neg,ints a.share.mag,ints a.share.den]:=hwi
            have hwk : (A.map Pa.wc)[i + 1 + j]? = some [.bool b.share.neg,ints b.share.mag,ints b.share.den]:=hwk
            have cm:=vI h.fM (r:=a.share) (s:=b.share) (xX hiA.1) (xX hkA.1)
            have cd:=Tz h.oI (r:=mulR a.share b.share) (s:=X) (OJ _ _) hX
            have cx:=IY h.tu hiA.2.1 hkA.2.1
            have cy:=IY h.tu hiA.2.2.1 hkA.2.2.1
            have hcn:=aaC X a b
            have civ:=Ij h.uQ (l:=Iw X a b) ⟨dS hcn.1,dS hcn.2.1,dS hcn.2.2⟩
            refine ew7 @hc4 (And.intro hg2 ht) @hpl2 (And.intro I1 Iq) @hw (And.intro hwi hwk) (And.intro aB aS) ?_
            refine ah cm ?_
            refine CO (And.intro I1 Iq) @hw (And.intro aB aS) ?_
            refine ah cd ?_
            refine CO (And.intro I1 Iq) @hw (And.intro aB aS) ?_
            have av3 : w ≠ qc:=fun e=>by rw [e,Iq] at hw;cases hw
            refine ⟨Gl [1,w,qc,s.length,s.length + 1] [⟨18,[4],[4],false⟩,⟨17,[],[4],false⟩,⟨16,[],[],false⟩,⟨15,[],[],false⟩,⟨14,[0],[],false⟩,⟨13,[0],[],false⟩,⟨12,[],[],false⟩,⟨11,[1],[],false⟩,⟨10,[1],[],false⟩,⟨9,[],[],false⟩,⟨8,[],[],false⟩,⟨7,[1],[],false⟩,⟨6,[1],[],false⟩,⟨5,[],[],false⟩,⟨4,[],[],false⟩,⟨3,[3],[],false⟩,⟨2,[3],[],false⟩,⟨1,[2],[],false⟩,⟨0,[2],[],false⟩] ?_ ?_ rfl ?_,?_⟩
            ·clear I0 hw I1 Iq hL hall
             generalize List.length s = m at hwq Vy hqq ⊢
             have : 1 ≠ w ∧ 1 ≠ qc ∧ w ≠ qc ∧ 1 ≠ m ∧ 1 ≠ m + 1 ∧ w ≠ m ∧ w ≠ m + 1 ∧ qc ≠ m ∧ qc ≠ m + 1:=by omega
             simp [this];omega
            ·intro o ho;simp at ho;omega
            ·show jl 5 _ _
             unfold jl;rfl
            refine CO (And.intro I1 Iq) @hw (And.intro aB aS) ?_
            refine ah cx ?_
            refine CO (And.intro I1 Iq) @hw (And.intro aB aS) ?_
            refine ah cy ?_
            refine CO (And.intro I1 Iq) @hw (And.intro aB aS) ?_
            refine ah civ ?_
            cases hlk : jg (Iw X a b)
            ·have hB2 : J6 S v = false:=by rw [hB];exact hbad hlk
             rw [(hF hB2).1,(hF hB2).2,hB2]
             refine sK @I0 (And.intro aB aS) ?_
             exact Ae (σ:=[])
            ·have en : iF A i ++ mM A i (j + 1) = (iF A i ++ mM A i j) ++ [Iw X a b]:=by rw [es,List.append_assoc]
             have aiN : ∀ x ∈ iF A i ++ mM A i (j + 1),jg x = true:=fun x hx=>by
              rw [en] at hx
              rcases List.mem_append.1 hx with hx | hx
              ·exact hall x hx
              ·rw [List.mem_singleton.1 hx];exact hlk
             have hMl : (iF A i ++ mM A i j).length ≤ 20000:=by
              rw [List.length_append]
              have : i * A.length ≤ 100 * 100:=Nat.mul_le_mul (by omega) (by omega)
              omega
             generalize iF A i ++ mM A i j = Ms at *
             rcases hL with ⟨rfl,rfl⟩ | ⟨m2,rfl,hm2⟩
             ·refine CJ (And.intro aB aS) ?_
              refine ⟨by omega,(j + 1,?s8,.bC (s.length + 1 + 1 + 1) 0 1),?m8,⟨⟨?a8,?b8,?c8,?d8,?f8⟩,.inr ⟨s.length + 1 + 1 + 1,?g8,?h8⟩,aiN⟩,?e8⟩
              case e8=>dsimp only;(refine aI ?_;exact wI)
              case m8=>dsimp only;omega
              case a8=>dsimp only;omega
              case b8=>exact (show aj _ 0 = aj s 0 by exact xO).trans I0
              case c8=>exact (show aj _ w = aj s w by exact xO).trans hw
              case d8=>exact (show aj _ 1 = aj s 1 by exact xO).trans I1
              case f8=>dsimp only;rw [ha];exact (show aj _ qc = aj s qc by exact xO).trans Iq
              case g8=>dsimp only;rw [en];simp
              case h8 =>
               dsimp only
               rw [en]
               simp (disch:=first | omega | (simp only [List.length_append,List.length_set,List.length_cons,List.length_nil];omega)) only [EU]
               simp [Iw,qX]
             ·have aoE:=aJ hm2
              have n1 : m2 ≠ 1:=fun e=>by rw [e,I1] at hm2;cases hm2
              have n2 : m2 ≠ w:=fun e=>by rw [e,hw] at hm2;cases hm2
              have n3 : m2 ≠ qc:=fun e=>by rw [e,Iq] at hm2;cases hm2
              have n0 : m2 ≠ 0:=fun e=>by rw [e,I0] at hm2;cases hm2
              refine sK (And.intro aB aS) @hm2 ?_
              refine ⟨by omega,(j + 1,?s9,.bC (s.length + 1 + 1 + 1) 0 (Ms.length + 1)),?m9,⟨⟨?a9,?b9,?c9,?d9,?f9⟩,.inr ⟨s.length + 1 + 1 + 1,?g9,?h9⟩,aiN⟩,?e9⟩
              case e9=>dsimp only;(refine aI ?_;exact wI)
              case m9=>dsimp only;omega
              case a9=>dsimp only;omega
              case b9=>exact (show aj _ 0 = aj s 0 by exact xO).trans I0
              case c9=>exact (show aj _ w = aj s w by exact xO).trans hw
              case d9=>exact (show aj _ 1 = aj s 1 by exact xO).trans I1
              case f9=>dsimp only;rw [ha];exact (show aj _ qc = aj s qc by exact xO).trans Iq
              case g9=>dsimp only;rw [en];simp
              case h9 =>
               dsimp only
               rw [en]
               simp (disch:=first | omega | (simp only [List.length_append,List.length_set,List.length_cons,List.length_nil];omega)) only [EU]
               simp [Iw,qX]
           ·have hjn : j = A.length - (i + 1):=by omega
            refine vJ @hc4 @hpl2 (And.intro I1 Iq) @hw (And.intro aB aS) ?_
            refine ⟨(i + 1,s,mv),?mA,⟨⟨?aA,I0,hw,I1⟩,?bA,?cA⟩,?eA⟩
            case eA=>dsimp only;(refine aI ?_;exact wI)
            case mA=>dsimp only;omega
            case aA=>dsimp only;omega
            case bA=>dsimp only;rw [hjn] at hL;exact hL
            case cA=>dsimp only;rw [hjn] at hall;exact hall
         ·have hin : i = A.length:=by omega
          subst hin
          have hB2 : J6 S v = true:=by rw [hB];exact List.all_eq_true.2 hall
          rw [(hT hB2).1,(hT hB2).2,hB2]
          refine sK @hc3 (And.intro I1 I0) ?_
          refine ak1 (s:=s) (c:=fO v A) hcc (NS [fO v A] _ (by simp)) hL ?_ I1 ?_ ⟨_,I0⟩
          ·exact xO
          ·intro q hq0
           exact xO
 ·have hB : J6 S v = false:=by
   unfold J6 inB
   rcases Int.lt_or_le v 1 with k | k
   ·rw [decide_eq_false (show ¬ 1 ≤ v by omega)];simp
   ·rw [decide_eq_false (show ¬ v ≤ 9 by omega)];simp
  rw [(Si hB).1,(Si hB).2,hB]
  refine aK (fun x d=>(x == 39 && d == 999)) h.hT ?_
  simp only [jk,Lz]
  refine ew ?_
  by_cases hv1 : v < 1
  ·refine CJ @hv1 ?_
   exact Ae (σ:=[])
  ·have hv2 : v ≥ 10:=by omega
   refine sK @hv1 @hv2 ?_
   exact Ae (σ:=[])
theorem Ep.ah1 {s : Store} {cs cs' ts ts' : List V} {os : List Nat} {L : List (Nat × Obj)} (E : Ep s cs ts os L) (h1 : cs' = cs) (h2 : ts' = ts) : Ep s cs' ts' os L:=by
 subst h1;subst h2;exact E
theorem J9 {T : Tb} (h : nH T) {c : Cd} (hn : 0 < c.ps.length) (hz : c.total.sz ≤ 1048576 ∧ ∀ a ∈ c.ps,a.sz ≤ 1048576) (hl : c.ps.length ≤ 1048576) : PO T 183 [Hg c] (Hg c):=by
 refine dX (fun x d=>x == 145) h.hT ?_
 simp only [jO,Lz,St.enter,List.length_cons,List.length_nil,Nat.zero_add]
 refine ew ?_
 refine iO (uU h.ji (r:=c.total) hz.1) (by (refine ew ?_;try with_reducible exact True.intro)) (by (refine ew ?_;try with_reducible exact True.intro)) ?_
 intro r q1 o1 G
 obtain ⟨_,rfl,hQ⟩:=G.ow.bP
 obtain ⟨x1,x2,rfl⟩:=hQ.rat
 have lx:=dY.leaf hQ rfl
 simp only [List.all_cons,List.all_nil,Bool.and_true,Bool.and_eq_true] at lx
 have gl:=G.len
 simp only [List.length_cons,List.length_nil,List.length_append] at gl
 have P0 : aj q1 0 = some ⟨5,[c.cells]⟩:=G.old 0 (by simp)
 have P1 : aj q1 1 = some ⟨5,[[iv 0,.bool false,.ak,.ak,.ak]]⟩:=G.old 1 (by simp)
 have hf : ∀ o ∈ o1,3 ≤ o:=fun o ho=>by have:=G.fresh o ho;simpa using this
 refine yF (And.intro P0 P1) @lx @gl @List.set_set.{0} ?_
 refine ⟨by unfold jl;decide +kernel,?_⟩
 refine yF (And.intro P0 P1) @lx @gl @List.set_set.{0} ?_
 have E : Ep q1 [iv c.node,.bool c.total.neg,x1,x2] [iv c.node,.bool c.total.neg,ints c.total.mag,ints c.total.den] o1 [(1,⟨5,[[iv 0,.bool false,.ak,.ak,.ak]]⟩)]:=by
  have E0 : Ep [some ⟨5,[c.cells]⟩,some ⟨5,[[iv 0,.bool false,.ak,.ak,.ak]]⟩,none] [] [] [] [(1,⟨5,[[iv 0,.bool false,.ak,.ak,.ak]]⟩)]:=⟨U2,by simp [aj]⟩
  have:=E0.got (s1:=[some ⟨5,[c.cells]⟩,some ⟨5,[[iv 0,.bool false,.ak,.ak,.ak]]⟩,none]) (fun _ _=>rfl) (Nat.le_refl _) (BD (q:=.i64) (n:=c.node) hQ) G.nd (by simpa using G.fresh) (by simpa using G.old)
  simpa using this
 have E1:=E.EW (p:=2) (ob:=⟨5,[[iv c.node,.bool c.total.neg,x1,x2,.ak]]⟩) (L':=[(1,⟨5,[[iv 0,.bool false,.ak,.ak,.ak]]⟩),(2,⟨5,[[iv c.node,.bool c.total.neg,x1,x2,.ak]]⟩)]) (fun hm=>by have:=hf 2 hm;omega) (by omega) (by simp)
 clear E G P0 P1 hQ hf gl
 refine aQ (fun x d=>x == 145) (α:=Nat × Store × V × List (List V) × List Nat) (fun q=>⟨bM [.any,.any,.ptr 1 0 0,.ptr 2 0 0,.any,.any,.any,.any,.any,.any,.any,.any,.any,.any,dZ c.ps,iv (c.ps.length : Nat),iv (q.1 : Nat)],q.2.1,0,0,[],[]⟩) (fun q=>(q.1 ≤ c.ps.length ∧ q.2.2.2.1.length = q.1 ∧ ∀ r ∈ q.2.2.2.1,r.length = 10) ∧ ∃ M,LAt 10 q.2.2.1 q.2.2.2.1 M ∧ Ep q.2.1 ([iv c.node,.bool c.total.neg,x1,x2] ++ q.2.2.2.1.flatten) ([iv c.node,.bool c.total.neg,ints c.total.mag,ints c.total.den] ++ ((c.ps.take q.1).map Pa.cells).flatten) q.2.2.2.2 ([(1,⟨5,[[iv 0,.bool false,.ak,.ak,.ak]]⟩),(2,⟨5,[[iv c.node,.bool c.total.neg,x1,x2,q.2.2.1]]⟩)] ++ M)) (fun q=>c.ps.length - q.1) rfl (0,q1.set 2 (some ⟨5,[[iv c.node,.bool c.total.neg,x1,x2,.ak]]⟩),.ak,[],o1) ?_ ?_ ?_
 ·exact ⟨⟨Nat.zero_le _,rfl,fun r hr=>by cases hr⟩,[],.inl ⟨rfl,rfl,rfl⟩,by simpa using E1⟩
 ·(refine aI ?_;exact wI)
 ·clear E1
  rintro ⟨i,s,pv,A,os⟩ ⟨⟨hi,hAl,hA10⟩,M,hLA,E⟩
  dsimp only at hi hAl hA10 hLA E
  have L1:=E.at0 (p:=1) (ob:=⟨5,[[iv 0,.bool false,.ak,.ak,.ak]]⟩) (by simp)
  have L2:=E.at0 (p:=2) (ob:=⟨5,[[iv c.node,.bool c.total.neg,x1,x2,pv]]⟩) (by simp)
  by_cases hc : (i : Int) < (c.ps.length : Nat)
  ·have hil : i < c.ps.length:=by omega
   have hx : (c.ps.map Pa.cells).getD i [] = (c.ps.getD i default).cells:=mg hil
   have hza:=hz.2 _ (getD_mem hil)
   have ets : (c.ps.take (i + 1)).map Pa.cells = (c.ps.take i).map Pa.cells ++ [(c.ps.getD i default).cells]:=by rw [take_snoc hil,List.map_append];rfl
   generalize c.ps.getD i default = a at *
   unfold Pa.sz at hza
   refine sK @hc @hx ?_
   have hq0 : ∀ o,o < s.length → aj (s ++ [some ⟨10,[a.cells]⟩] ++ [none]) o = aj s o:=fun o ho=>by simp only [List.append_assoc];exact eY ho
   have hqe : aj (s ++ [some ⟨10,[a.cells]⟩] ++ [none]) s.length = some ⟨10,[a.cells]⟩:=(aO (by simp)).trans (nD _ _)
   have hs1 : (s ++ [some (⟨10,[a.cells]⟩ : Obj)] ++ [none]).length = s.length + 1 + 1:=by simp
   refine iO (uU h.ji (r:=a.share) (by omega)) (by (refine ew ?_;try with_reducible exact True.intro)) (by (refine ew ?_;try with_reducible exact True.intro)) ?_
   intro r q2 o2 G
   obtain ⟨_,rfl,hQ⟩:=G.ow.bP
   obtain ⟨y1,y2,rfl⟩:=hQ.rat
   have lq:=dY.leaf hQ rfl
   simp only [List.all_cons,List.all_nil,Bool.and_true,Bool.and_eq_true] at lq
   have E2:=E.got (s1:=s ++ [some ⟨10,[a.cells]⟩] ++ [none]) hq0 (by omega) (BD (q:=.i64) (n:=a.node) hQ) G.nd G.fresh G.old
   have he2 : aj q2 s.length = some ⟨10,[a.cells]⟩:=(G.old s.length (by omega)).trans hqe
   have ll2 : s.length + 1 + 1 ≤ q2.length:=by have:=G.len;omega
   have fr2 : ∀ o ∈ o2,s.length + 2 ≤ o:=fun o ho=>by have:=G.fresh o ho;simp at this;omega
   have lf2:=lq
   clear G hQ lq
   refine sK (And.intro he2 ll2) @lf2 ?_
   refine iO (uU h.ji (r:=a.dx) (by omega)) (by (refine sK (And.intro he2 ll2) @lf2 ?_;try with_reducible exact True.intro)) (by (refine sK (And.intro he2 ll2) @lf2 ?_;try with_reducible exact True.intro)) ?_
   intro r q3 o3 G
   obtain ⟨_,rfl,hQ⟩:=G.ow.bP
   obtain ⟨y3,y4,rfl⟩:=hQ.rat
   have lq:=dY.leaf hQ rfl
   simp only [List.all_cons,List.all_nil,Bool.and_true,Bool.and_eq_true] at lq
   have E3:=E2.got (s1:=q2) (fun _ _=>rfl) (Nat.le_refl _) (hQ) G.nd G.fresh G.old
   have he3 : aj q3 s.length = some ⟨10,[a.cells]⟩:=(G.old s.length (by omega)).trans he2
   have ll3 : s.length + 1 + 1 ≤ q3.length:=by have:=G.len;omega
   have fr3 : ∀ o ∈ o3,s.length + 2 ≤ o:=fun o ho=>by have:=G.fresh o ho;omega
   have lf3:=And.intro lf2 lq
   clear G hQ lq
   refine sK (And.intro he3 ll3) @lf3 ?_
   refine iO (uU h.ji (r:=a.dy) (by omega)) (by (refine sK (And.intro he3 ll3) @lf3 ?_;try with_reducible exact True.intro)) (by (refine sK (And.intro he3 ll3) @lf3 ?_;try with_reducible exact True.intro)) ?_
   intro r q4 o4 G
   obtain ⟨_,rfl,hQ⟩:=G.ow.bP
   obtain ⟨y5,y6,rfl⟩:=hQ.rat
   have lq:=dY.leaf hQ rfl
   simp only [List.all_cons,List.all_nil,Bool.and_true,Bool.and_eq_true] at lq
   have E4:=E3.got (s1:=q3) (fun _ _=>rfl) (Nat.le_refl _) (hQ) G.nd G.fresh G.old
   have he4 : aj q4 s.length = some ⟨10,[a.cells]⟩:=(G.old s.length (by omega)).trans he3
   have ll4 : s.length + 1 + 1 ≤ q4.length:=by have:=G.len;omega
   have fr4 : ∀ o ∈ o4,s.length + 2 ≤ o:=fun o ho=>by have:=G.fresh o ho;omega
   have lf4:=And.intro lf3 lq
   clear G hQ lq
   refine sK (And.intro he4 ll4) @lf4 ?_
   refine ⟨by
    have hn0 : 0 ≤ List.length s:=Nat.zero_le _
    generalize List.length s = m at hn0 ⊢
    revert m
    refine qo _ _ 0 (fun n hn=>?_) (fun n hn=>?_) ?_
    ·simp only [sh];split <;> omega
    ·simp [Rq,sh];try omega
    ·unfold jl;decide +kernel,?_⟩
   have L22:=E4.at0 (p:=2) (ob:=⟨5,[[iv c.node,.bool c.total.neg,x1,x2,pv]]⟩) (by simp)
   have L11:=E4.at0 (p:=1) (ob:=⟨5,[[iv 0,.bool false,.ak,.ak,.ak]]⟩) (by simp)
   have hf5 : s.length + 1 ∉ ((os ++ o2) ++ o3) ++ o4:=by
    intro hm
    simp only [List.mem_append] at hm
    rcases hm with ((hm | hm) | hm) | hm
    ·have:=E.aeY _ hm;omega
    ·have:=fr2 _ hm;omega
    ·have:=fr3 _ hm;omega
    ·have:=fr4 _ hm;omega
   have hf2:=(E4.l (2,⟨5,[[iv c.node,.bool c.total.neg,x1,x2,pv]]⟩) (by simp)).2
   have hf1:=(E4.l (1,⟨5,[[iv 0,.bool false,.ak,.ak,.ak]]⟩) (by simp)).2
   have hs3 : 2 < s.length:=L2.2
   rcases hLA with ⟨rfl,rfl,rfl⟩ | ⟨p,rfl,rfl⟩
   ·refine yF @L22 (And.intro he4 ll4) @lf4 @List.set_set.{0} ?_
    refine ⟨by omega,(i + 1,?s1,.bC (q4.length + 1) 0 1,[] ++ [[iv a.node,.bool a.share.neg,y1,y2,.bool a.dx.neg,y3,y4,.bool a.dy.neg,y5,y6]],((os ++ o2) ++ o3) ++ o4),?m1,⟨⟨?a1,?b1,?c1⟩,[(q4.length + 1,⟨10,[] ++ [[iv a.node,.bool a.share.neg,y1,y2,.bool a.dx.neg,y3,y4,.bool a.dy.neg,y5,y6]]⟩)],.inr ⟨q4.length + 1,?d1,rfl⟩,?f1⟩,?e1⟩
    case e1=>dsimp only;(refine aI ?_;exact wI)
    case m1=>dsimp only;omega
    case a1=>dsimp only;omega
    case b1=>dsimp only;simp at hAl ⊢;omega
    case c1 =>
     intro r hr
     rcases List.mem_append.1 hr with hr | hr
     ·exact hA10 r hr
     ·rw [List.mem_singleton.1 hr];rfl
    case d1=>dsimp only;simp
    case f1 =>
     dsimp only
     rw [ets]
     refine Ep.ah1 (E4.to ?_ ?_) ?_ ?_
     ·intro o ho
      have a1:=E4.aeY o ho
      have a2 : o ≠ s.length + 1:=fun e=>hf5 (e ▸ ho)
      have a3 : o ≠ 2:=fun e=>hf2 (e ▸ ho)
      exact xO
     ·intro q hq
      simp only [List.cons_append,List.nil_append,List.mem_cons,List.not_mem_nil,or_false] at hq
      rcases hq with rfl | rfl | rfl
      ·refine .inl ⟨by simp,?_⟩
       show aj _ 1 = aj q4 1
       exact xO
      ·refine .inr ⟨?_,hf2⟩
       show aj _ 2 = _
       exact xO
      ·refine .inr ⟨?_,fun hm=>by have:=E4.aeY _ hm;omega⟩
       show aj _ (q4.length + 1) = _
       exact xO
     ·simp
     ·simp
   ·have L33:=E4.at0 (p:=p) (ob:=⟨10,A⟩) (by simp)
    have hps : p < s.length:=(E.at0 (p:=p) (ob:=⟨10,A⟩) (by simp)).2
    have hp2 : p ≠ 2:=fun e=>by have:=L33.1;rw [e,L22.1] at this;cases this
    refine vJ @L22 @L33 (And.intro he4 ll4) @lf4 @List.set_set.{0} ?_
    have hfp:=(E4.l (p,⟨10,A⟩) (by simp)).2
    have hp1 : p ≠ 1:=fun e=>by have:=L33.1;rw [e,L11.1] at this;cases this
    refine ⟨by omega,(i + 1,?s2,.bC (q4.length + 1) 0 (A.length + 1),A ++ [[iv a.node,.bool a.share.neg,y1,y2,.bool a.dx.neg,y3,y4,.bool a.dy.neg,y5,y6]],((os ++ o2) ++ o3) ++ o4),?m2,⟨⟨?a2,?b2,?c2⟩,[(q4.length + 1,⟨10,A ++ [[iv a.node,.bool a.share.neg,y1,y2,.bool a.dx.neg,y3,y4,.bool a.dy.neg,y5,y6]]⟩)],.inr ⟨q4.length + 1,?d2,rfl⟩,?f2⟩,?e2⟩
    case e2=>dsimp only;(refine aI ?_;exact wI)
    case m2=>dsimp only;omega
    case a2=>dsimp only;omega
    case b2=>dsimp only;simp;omega
    case c2 =>
     intro r hr
     rcases List.mem_append.1 hr with hr | hr
     ·exact hA10 r hr
     ·rw [List.mem_singleton.1 hr];rfl
    case d2=>dsimp only;simp
    case f2 =>
     dsimp only
     rw [ets]
     refine Ep.ah1 (E4.to ?_ ?_) ?_ ?_
     ·intro o ho
      have a1:=E4.aeY o ho
      have a2 : o ≠ s.length + 1:=fun e=>hf5 (e ▸ ho)
      have a3 : o ≠ 2:=fun e=>hf2 (e ▸ ho)
      have a4 : o ≠ p:=fun e=>hfp (e ▸ ho)
      exact xO
     ·intro q hq
      simp only [List.cons_append,List.nil_append,List.mem_cons,List.not_mem_nil,or_false] at hq
      rcases hq with rfl | rfl | rfl
      ·refine .inl ⟨by simp,?_⟩
       show aj _ 1 = aj q4 1
       exact xO
      ·refine .inr ⟨?_,hf2⟩
       show aj _ 2 = _
       exact xO
      ·refine .inr ⟨?_,fun hm=>by have:=E4.aeY _ hm;omega⟩
       show aj _ (q4.length + 1) = _
       exact xO
     ·simp
     ·simp
  ·have hin : i = c.ps.length:=by omega
   subst hin
   rcases hLA with ⟨rfl,rfl,rfl⟩ | ⟨p,rfl,rfl⟩
   ·simp at hAl;omega
   ·have L33:=E.at0 (p:=p) (ob:=⟨10,A⟩) (by simp)
    rw [List.take_length] at E
    refine sK @hc (And.intro L1 L2) ?_
    rw [if_pos (by rw [lx.2.1,lx.2.2];rfl)]
    have hf1:=(E.l (1,⟨5,[[iv 0,.bool false,.ak,.ak,.ak]]⟩) (by simp)).2
    have hp1 : p ≠ 1:=fun e=>by have:=L33.1;rw [e,L1.1] at this;cases this
    have Es:=E.EW (p:=1) (ob:=⟨5,[[iv c.node,.bool c.total.neg,x1,x2,.bC p 0 A.length]]⟩) (L':=[(p,⟨10,A⟩)]) hf1 L1.2 (fun q hq=>.inl (by rw [List.mem_singleton.1 hq];exact ⟨hp1,by simp⟩))
    have hA' : A.length = (c.ps.map Pa.cells).length:=by rw [List.length_map];exact hAl
    have aoG : ∀ r ∈ c.ps.map Pa.cells,r.length = 10:=fun r hr=>by obtain ⟨x,_,rfl⟩:=List.mem_map.1 hr;rfl
    have hfl : A.flatten.length = (c.ps.map Pa.cells).flatten.length:=by
     have e1 : ∀ (X : List (List V)),(∀ r ∈ X,r.length = 10) → X.flatten.length = X.length * 10:=fun X=>by
      induction X with
      | nil=>intro _;rfl
      | cons r X ih=>intro h;rw [List.flatten_cons,List.length_append,ih fun r hr=>h r (by simp [hr]),h r (by simp),List.length_cons];omega
     rw [e1 A hA10,e1 _ aoG,hA']
    obtain ⟨os1,E2,_⟩:=(Ep.ah1 (cs':=[iv c.node,.bool c.total.neg,x1,x2] ++ (A.flatten ++ [])) (ts':=[iv c.node,.bool c.total.neg,ints c.total.mag,ints c.total.den] ++ ((c.ps.map Pa.cells).flatten ++ [])) Es (by simp) (by simp)).swap rfl hfl
    obtain ⟨os2,E3⟩:=E2.close (p:=p) (n:=10) (k:=10) (by simp) hA10 aoG hA'
    obtain ⟨os3,E4,_⟩:=(Ep.ah1 (cs':=[V.bC p 0 A.length] ++ ([iv c.node,.bool c.total.neg,x1,x2] ++ [])) (ts':=[dZ c.ps] ++ ([iv c.node,.bool c.total.neg,ints c.total.mag,ints c.total.den] ++ [])) E3 (by simp) (by simp)).swap rfl rfl
    refine rF (os:=os3) ?_ E4.c.nd
    show bD _ (.agg ([iv c.node,.bool c.total.neg,x1,x2] ++ ([V.bC p 0 A.length] ++ []))) (.agg ([iv c.node,.bool c.total.neg,ints c.total.mag,ints c.total.den] ++ ([dZ c.ps] ++ []))) os3
    simp only [bD]
    exact ⟨_,rfl,E4.c.ow⟩
theorem ah2 {A : List Pa} (h : aeV A) (hb : ∀ a ∈ A,0 ≤ a.node ∧ a.node ≤ 9) : A.length ≤ 10:=by
 have key : ∀ i,i < A.length → (i : Int) ≤ (A.getD i default).node:=fun i=>by
  induction i with
  | zero=>intro hi;exact (hb _ (getD_mem hi)).1
  |
   succ i ih =>
   intro hi
   have h1:=ih (by omega)
   have h2:=h i (i + 1) (by omega) hi
   omega
 rcases Nat.lt_or_ge 10 A.length with h1 | h1
 ·have h2:=key 10 h1
  have h3:=(hb _ (getD_mem (l:=A) (i:=10) h1)).2
  omega
 ·exact h1
structure aoH (c : Cd) (M : List Lk) : Prop where
 ne : 0 < c.ps.length
 len : c.ps.length ≤ 10
 cn : c.total.cn ∧ ∀ a ∈ c.ps,a.share.cn ∧ a.dx.cn ∧ a.dy.cn
 ms : ∀ x ∈ M,x.w.cn ∧ x.dx.cn ∧ x.dy.cn
 ml : M.length ≤ 101
theorem aiO {S : List Lk} {v : Int} (h : J6 S v = true) : aoH (VK S v) (Ua S v):=by
 rw [(aeX h).1,(aeX h).2]
 unfold J6 at h
 simp only [Bool.and_eq_true] at h
 obtain ⟨⟨⟨hb,_⟩,hc⟩,_⟩:=h
 have hok : ∀ a ∈ oU S v,a.share.ok = true ∧ a.dx.cn ∧ a.dy.cn ∧ 0 ≤ a.node ∧ a.node ≤ 9:=fun a ha=>ZK hb ha
 have hl:=ah2 (aeW hc) fun a ha=>⟨(hok a ha).2.2.2.1,(hok a ha).2.2.2.2⟩
 have hpl : (fO v (oU S v)).ps.length = (oU S v).length:=List.length_map ..
 refine ⟨?_,by omega,⟨QU _,fun x hx=>?_⟩,aaD,?_⟩
 ·rcases Nat.eq_zero_or_pos (fO v (oU S v)).ps.length with e | e
  ·exfalso
   have : (fO v (oU S v)).ps = []:=List.eq_nil_of_length_eq_zero e
   unfold kW at hc
   rw [this] at hc
   simp at hc
  ·exact e
 ·obtain ⟨a,ha,rfl⟩:=List.mem_map.1 hx
  exact ⟨DC _ _,(hok a ha).2.1,(hok a ha).2.2.1⟩
 ·have h1:=Dh (oU S v) (oU S v).length
  have h2 : (oU S v).length * (oU S v).length ≤ 10 * 10:=Nat.mul_le_mul hl hl
  show (iF _ _).length ≤ _
  omega
theorem Gn {r : R} (h : r.cn) : r.sz ≤ 1000:=by
 have:=MV h
 unfold R.sz;omega
theorem Ns (S : List Lk) (v : Int) : ((VK S v).sz ≤ 40000 ∧ (VK S v).ps.length ≤ 10 ∧ Aq Lk.sz (Ua S v) ≤ 20000) ∧ (VK S v).wf ∧ Hl Lk.wf (Ua S v):=by
 cases hB : J6 S v
 ·rw [(Si hB).1,(Si hB).2]
  exact ⟨⟨by decide,by decide,by decide⟩,⟨⟨by decide,by decide⟩,by decide,by simp⟩,by decide,by simp⟩
 ·have O:=aiO hB
  have h1:=Gn O.cn.1
  have h2:=ZG (f:=Pa.sz) (k:=3000) (l:=(VK S v).ps) fun a ha=>by
   have h:=O.cn.2 a ha
   have:=Gn h.1;have:=Gn h.2.1;have:=Gn h.2.2
   unfold Pa.sz;omega
  have h3:=O.len
  refine ⟨⟨?_,h3,Vp O.ms O.ml⟩,⟨dS O.cn.1,by omega,fun a ha=>?_⟩,Vq O.ms O.ml⟩
  ·unfold Cd.sz;omega
  ·have h:=O.cn.2 a ha
   exact ⟨dS h.1,dS h.2.1,dS h.2.2⟩
def xw : Fn:=⟨2,53,[.tmp 4],(sr [oN 4 mN] (.seq (rf 1 [oN 11 (.eG 10 Qe 0 []),oK 5 1 (oV 11)]) (.seq (sr [oW 12 0,oW 13 1,oN 14 (cl 238 [12,13]),oN 15 (ln 14),oN 16 (.bZ (cI 0))] (.block 0 (.loop (sr [oN 17 (bt .lss 16 15)] (.seq (cd 17 .skip (.exit 0)) (.seq (.block 1 (sr [oN 18 (ix 1 14 16),oN 19 (lF 1 18),oW 7 19] (.seq (rf 1 [oK 21 1 (oV 0),oK 22 1 (oV 7),oK 23 1 (oV 1),oK 24 1 (cl 225 [21,22,23]),oK 20 1 (oV 24),oK 25 1 (ex 0 20),oK 26 1 (ex 1 20),oN 8 (.alloc xW),⟨none,none,1,.store 11 (.t 8) (.t 25),[]⟩,oK 9 1 (oV 26)]) (.seq (rf 1 [oK 27 1 (oV 7),oK 28 1 (fd 2 8),oK 29 1 (lT 3 28),oK 30 1 (fd 5 8),oK 31 1 (lT 3 30),oK 32 1 (fd 8 8),oK 33 1 (lT 3 32),oK 34 1 (.build Qe [(0,1,(.t 27)),(1,3,(.t 29)),(4,3,(.t 31)),(7,3,(.t 33))]),oN 10 (.alloc Qe),⟨none,none,1,.store 10 (.t 10) (.t 34),[]⟩]) (.seq (sr [oN 35 (fd 0 8),oN 36 (lF 1 35),oW 37 1,oN 38 (bt .eql 36 37)] (cd 38 (sr [oN 39 (fd 5 8),oN 40 (lT 3 39),oN 41 (cl 399 [40]),oN 42 (fd 4 10),oS (.store 3 (.t 42) (.t 41))] (rg [oN 43 (fd 8 8),oN 44 (lT 3 43),oN 45 (cl 399 [44]),oN 46 (fd 7 10),oS (.store 3 (.t 46) (.t 45))])) .skip)) (rf 2 [oK 47 2 (oV 5),oK 48 2 (lT 10 10),oN 49 (.eG 10 Qe 1 [(0,(.t 48))]),oK 50 1 (.app 10 176 (.t 47) (.t 49)),oK 5 2 (oV 50)])))))) (rg [oN 51 (bc .add 16 1),oW 16 51]))))))) (sr [oW 52 5,oW 4 52] .ret))))⟩
structure Dj (T : Tb) : Prop where
 hT : T 397 = some xw
 Sl : Ej T
 QZ : CV T
 Jp : Ea T
theorem aoI {a b : St} (h : Fg a b:=by
 (simp only [List.map_append,List.map_cons,List.map_nil];refine Dv (k:=3) (by simp only [OQ,KZ,OO,and_true,true_and];(repeat' (first | exact Ig _ | exact aer _ | refine ⟨?_,?_⟩))) rfl ?_;(try (refine ev ?_;try with_reducible exact True.intro));(repeat' (first | exact True.intro | omega | exact vC (by simp) (by simp) (by simp) | refine ⟨?_,?_⟩ | exact jm rfl (by simp))))) : Fg a b:=h
theorem aoJ {a b : St} (h : Fg a b:=by
 (simp only [List.map_append,List.map_cons,List.map_nil];refine Dv (k:=4) (by simp only [OQ,KZ,OO,and_true,true_and];(repeat' (first | exact Ig _ | exact aer _ | refine ⟨?_,?_⟩))) rfl ?_;(try (refine ev ?_;try with_reducible exact True.intro));(repeat' (first | exact True.intro | omega | exact vC (by simp) (by simp) (by simp) | refine ⟨?_,?_⟩ | exact jm rfl (by simp))))) : Fg a b:=h
theorem ach {T : Tb} (h : Dj T) {S : List Lk} {v : Int} (hb : bU S = true) (hw : Hl Lk.wf S) (hz : Aq Lk.sz S ≤ 1048576) : PF T 397 [bf S,iv v] (dZ (oU S v)):=by
 have hl : S.length ≤ 1048576:=by have:=rD Lk.sz S;omega
 have cn:=abZ h.QZ (v:=v) hw hl hb
 have hnl : (nbI S v S.length).length ≤ 1048576:=Nat.le_trans (List.length_filterMap_le _ _) (by simp;omega)
 rw [← ahL hb]
 generalize nbI S v S.length = nb at *
 refine aK nR h.hT ?_
 simp only [xw,Lz]
 refine ev ?_
 refine ev ?_
 refine ah cn ?_
 refine ev ?_
 refine aQ (fun _ _=>false) (α:=Nat × List Pa) (fun q=>⟨bM [bf S,iv v,.any,.any,.any,slV q.2.length,.any,.any,.any,.any,.any,.any,.any,.any,ints nb,iv (nb.length : Nat),iv (q.1 : Nat)],Yk 10 (q.2.map Pa.cells),0,0,[],[]⟩) (fun q=>q.1 ≤ nb.length ∧ q.2 = (nb.take q.1).map (LG S v)) (fun q=>nb.length - q.1) rfl (0,[]) ?_ ?_ ?_
 ·exact ⟨Nat.zero_le _,by simp⟩
 ·exact Y0
 ·rintro ⟨i,ys⟩ ⟨hi,hy⟩
  dsimp only at hi hy
  have hyl : ys.length ≤ 1048576:=by rw [hy];simp;omega
  by_cases hc : (i : Int) < (nb.length : Nat)
  ·have hil : i < nb.length:=by omega
   have es : (nb.take (i + 1)).map (LG S v) = ys ++ [LG S v (nb.getD i 0)]:=by
    rw [List.take_add_one,List.map_append,← hy,List.getElem?_eq_getElem hil,List.getD_eq_getElem?_getD,List.getElem?_eq_getElem hil];rfl
   have cl:=ab6 h.Sl (l:=S) (a:=nb.getD i 0) (b:=v) hw hz
   have hlw:=ahJ (a:=nb.getD i 0) (b:=v) hw
   obtain ⟨n,hn⟩ : ∃ n,nb.getD i 0 = n:=⟨_,rfl⟩
   rw [hn] at es cl hlw
   have hA : LG S v n = if (Df S n v).a = v then ⟨n,(Df S n v).w,negR (Df S n v).dx,negR (Df S n v).dy⟩ else ⟨n,(Df S n v).w,(Df S n v).dx,(Df S n v).dy⟩:=rfl
   generalize Df S n v = l at *
   generalize aeU S n v = b at *
   have c1:=Tv h.Jp hlw.2.1
   have c2:=Tv h.Jp hlw.2.2
   by_cases e : l.a = v
   ·rw [if_pos e] at hA
    rw [hA] at es
    have f0 : (l.a = v) = True:=eq_true e
    rcases ys with _ | ⟨y,ys⟩ <;> simp only [List.length_nil,List.length_cons,kT,jW,List.map_nil,List.map_cons,WM,Tt] at hyl ⊢
    ·refine uO @hc @hil @hn ?_
     refine ah cl ?_
     refine ev1 @f0 ?_
     refine ah c1 ?_
     refine ev ?_
     refine ah c2 ?_
     refine ev ?_
     exact ⟨by omega,(i + 1,([]) ++ [⟨n,l.w,negR l.dx,negR l.dy⟩]),by dsimp only;omega,⟨by dsimp only;omega,es.symm⟩,by exact aoI⟩
    ·refine uO @hc @hil @hn ?_
     refine ah cl ?_
     refine ev1 @f0 ?_
     refine ah c1 ?_
     refine ev ?_
     refine ah c2 ?_
     refine ev ?_
     exact ⟨by omega,(i + 1,(y :: ys) ++ [⟨n,l.w,negR l.dx,negR l.dy⟩]),by dsimp only;omega,⟨by dsimp only;omega,es.symm⟩,by exact aoJ⟩
   ·rw [if_neg e] at hA
    rw [hA] at es
    rcases ys with _ | ⟨y,ys⟩ <;> simp only [List.length_nil,List.length_cons,kT,jW,List.map_nil,List.map_cons,WM,Tt] at hyl ⊢
    ·refine uO @hc @hil @hn ?_
     refine ah cl ?_
     refine ev1 @e ?_
     exact ⟨by omega,(i + 1,([]) ++ [⟨n,l.w,l.dx,l.dy⟩]),by dsimp only;omega,⟨by dsimp only;omega,es.symm⟩,by exact aoI⟩
    ·refine uO @hc @hil @hn ?_
     refine ah cl ?_
     refine ev1 @e ?_
     exact ⟨by omega,(i + 1,(y :: ys) ++ [⟨n,l.w,l.dx,l.dy⟩]),by dsimp only;omega,⟨by dsimp only;omega,es.symm⟩,by exact aoJ⟩
  ·have hin : i = nb.length:=by omega
   subst hin
   rw [List.take_length] at hy
   rw [← hy]
   rcases ys with _ | ⟨y,ys⟩ <;> simp only [List.length_nil,List.length_cons,kT,jW,List.map_nil,List.map_cons,WM,Tt] at hyl ⊢
   ·refine ev1 @hc ?_
    exact of_eq_true (gZ 10)
   ·refine ev1 @hc ?_
    have:=Bj (σ:=[some ⟨10,y.cells :: List.map Pa.cells ys⟩]) (Ig (y :: ys)) (s:=0) (l:=ys.length + 1) (n:=10) (by simp)
    rw [List.drop_zero,List.take_of_length_le (by simp)] at this
    rw [show MO [some ⟨10,y.cells :: List.map Pa.cells ys⟩] 0 (ys.length + 1) (some ⟨10,y.cells :: List.map Pa.cells ys⟩) = some (dZ (y :: ys)) from this]
    exact aC _
def gB : Fn:=⟨2,126,[.cell 4 5 true,.tmp 5,.tmp 6],(.seq (rf 1 [oN 4 (.alloc Ku),oK 5 1 mN,oK 6 1 mF]) (.seq (sr [oW 19 0,oN 20 (cl 193 [19]),oN 21 (nt 20),oW 22 21,oG 22 false 23 (oV 1),oG 22 false 24 (.call 35 [(.t 23),(cI 1),(cI 9)]),oG 22 false 25 (nt 24),oN 26 (.pick (.t 22) (.c (.bool true)) (.t 25))] (cd 26 (sr [oN 27 (.build Ku []),oS (.store 5 (.t 4) (.t 27)),oN 5 mN,oN 6 mF] .ret) .skip)) (sr [oW 28 0,oW 29 1,oN 30 (cl 397 [28,29]),oW 7 30] (.seq (rf 1 [oK 31 1 (.call 36 [(cI 0)]),oN 8 (.alloc kK),⟨none,none,1,.store 3 (.t 8) (.t 31),[]⟩]) (.seq (sr [oW 32 7,oN 33 (ln 32),oN 34 (.bZ (cI 0))] (.block 0 (.loop (sr [oN 35 (bt .lss 34 33)] (.seq (cd 35 .skip (.exit 0)) (.seq (.block 1 (.seq (rf 1 [oK 36 1 (ix 10 32 34),oK 37 1 (lT 10 36),oN 10 (.alloc Qe),⟨none,none,1,.store 10 (.t 10) (.t 37),[]⟩]) (rg [oN 38 (lT 3 8),oN 39 (fd 1 10),oN 40 (lT 3 39),oN 41 (cl 189 [38,40]),oS (.store 3 (.t 8) (.t 41))]))) (rg [oN 42 (bc .add 34 1),oW 34 42]))))))) (.seq (rf 1 [oK 43 1 (oV 1),oK 44 1 (lT 3 8),oK 45 1 (.build Ku [(0,1,(.t 43)),(1,3,(.t 44))]),oN 11 (.alloc Ku),⟨none,none,1,.store 5 (.t 11) (.t 45),[]⟩]) (.seq (sr [oW 46 7,oN 47 (ln 46),oN 48 (.bZ (cI 0))] (.block 2 (.loop (sr [oN 49 (bt .lss 48 47)] (.seq (cd 49 .skip (.exit 2)) (.seq (.block 3 (.seq (rf 1 [oK 50 1 (ix 10 46 48),oK 51 1 (lT 10 50),oN 13 (.alloc Qe),⟨none,none,1,.store 10 (.t 13) (.t 51),[]⟩]) (rt 2 [oK 52 2 (fd 4 11),oA 53 2 (lF 1 52) [0],oK 54 2 (fd 0 13),oA 55 2 (lF 1 54) [2],oK 56 2 (fd 1 13),oA 57 2 (lT 3 56) [4],oK 58 2 (lT 3 8),oA 59 2 (cl 200 [57,58]) [5,6],oK 60 2 (fd 4 13),oA 61 2 (lT 3 60) [8],oA 62 2 (cl 204 [61]) [9,7],oK 63 2 (fd 7 13),oA 64 2 (lT 3 63) [11],oA 65 2 (cl 204 [64]) [12,10],oA 66 2 (.build Qe [(0,1,(.t 55)),(1,3,(.t 59)),(4,3,(.t 62)),(7,3,(.t 65))]) [3,7,10,13],oA 67 0 (.eG 10 Qe 1 [(0,(.t 66))]) [14],oA 68 1 (.app 10 176 (.t 53) (.t 67)) [1,15,13],oA 69 2 (fd 4 11) [0,1,2,3,4,5,6,7,8,9,10,11,12,13,14,15,16],⟨none,none,2,.store 1 (.t 69) (.t 68),[17,16,16,0,1,2,3,4,5,6,7,8,9,10,11,12,13,14,15,16]⟩]))) (rg [oN 70 (bc .add 48 1),oW 48 70]))))))) (.seq (rf 1 [oN 71 (.eG 11 xW 0 []),oK 14 1 (oV 71)]) (.seq (sr [oW 72 7,oN 73 (ln 72),oN 74 (.bZ (cI 0))] (.block 4 (.loop (sr [oN 75 (bt .lss 74 73)] (.seq (cd 75 .skip (.exit 4)) (.seq (.block 5 (.seq (rf 1 [oK 76 1 (oV 74),oK 77 1 (ix 10 72 74),oK 78 1 (lT 10 77),oN 16 (.alloc Qe),oK 15 1 (oV 76),⟨none,none,1,.store 10 (.t 16) (.t 78),[]⟩]) (sr [oW 79 7,oW 80 15,oN 81 (bc .add 80 1),oN 82 (.slice 10 (.t 79) (some (.t 81)) none),oN 83 (ln 82),oN 84 (.bZ (cI 0))] (.block 6 (.loop (sr [oN 85 (bt .lss 84 83)] (.seq (cd 85 .skip (.exit 6)) (.seq (.block 7 (.seq (rf 1 [oK 86 1 (ix 10 82 84),oK 87 1 (lT 10 86),oN 18 (.alloc Qe),⟨none,none,1,.store 10 (.t 18) (.t 87),[]⟩]) (rt 2 [oK 88 2 (oV 14),oK 89 2 (fd 0 16),oA 90 2 (lF 1 89) [1],oK 91 2 (fd 0 18),oA 92 2 (lF 1 91) [3],oK 93 2 (fd 1 16),oA 94 2 (lT 3 93) [5],oK 95 2 (fd 1 18),oA 96 2 (lT 3 95) [7],oA 97 2 (cl 201 [94,96]) [6,8],oK 98 2 (lT 3 8),oA 99 2 (cl 200 [97,98]) [9,10,9],oK 100 2 (fd 4 16),oA 101 2 (lT 3 100) [12],oK 102 2 (fd 4 18),oA 103 2 (lT 3 102) [14],oA 104 2 (cl 203 [101,103]) [13,15,11],oK 105 2 (fd 7 16),oA 106 2 (lT 3 105) [17],oK 107 2 (fd 7 18),oA 108 2 (lT 3 107) [19],oA 109 2 (cl 203 [106,108]) [18,20,16],oA 110 2 (.build xW [(0,1,(.t 90)),(1,1,(.t 92)),(2,3,(.t 99)),(5,3,(.t 104)),(8,3,(.t 109))]) [2,4,11,16,21],oA 111 0 (.eG 11 xW 1 [(0,(.t 110))]) [22],oA 112 1 (.app 11 184 (.t 88) (.t 111)) [0,23,21],oA 14 2 (oV 112) [24,24,0,1,2,3,4,5,6,7,8,9,10,11,12,13,14,15,16,17,18,19,20,21,22,23,24]]))) (rg [oN 113 (bc .add 84 1),oW 84 113]))))))))) (rg [oN 114 (bc .add 74 1),oW 74 114]))))))) (.seq (sr [oN 115 (lT 5 11),oN 116 (cl 294 [115]),oN 117 (nt 116),oW 118 117,oG 118 false 119 (oV 14),oG 118 false 120 (cl 193 [119]),oG 118 false 121 (nt 120),oN 122 (.pick (.t 118) (.c (.bool true)) (.t 121))] (cd 122 (sr [oN 123 (.build Ku []),oS (.store 5 (.t 4) (.t 123)),oN 5 mN,oN 6 mF] .ret) .skip)) (sr [oN 124 (lT 5 11),oW 125 14,oS (.store 5 (.t 4) (.t 124)),oW 5 125,oN 6 mT] .ret)))))))))))⟩
structure qB (T : Tb) : Prop where
 hT : T 389 = some gB
 mW : qH T
 dI : jw T
 eP : lQ T
 gy : jT T
 oD : zM T
 fK : sF T
 sZ : zK T
 mJ : wZ T
 Dn : kM T
 Q5 : Dj T
theorem afe {S : List Lk} {v : Int} (hv : ¬ (1 ≤ v ∧ v ≤ 9)) : J6 S v = false:=by
 unfold J6 inB
 rcases Int.lt_or_le v 1 with k | k
 ·rw [decide_eq_false (show ¬ 1 ≤ v by omega)];simp
 ·rw [decide_eq_false (show ¬ v ≤ 9 by omega)];simp
theorem aiP {r : R} (h : r.cn) : r.sz ≤ 1048576:=by
 have:=MV h
 unfold R.sz;omega
theorem aaR {σ : Store} {p n k : Nat} {os : List Nat} {ob : Obj} (hk : k ≠ p) (hm : k ∈ os) (h : aj σ k = some ob) : (keepW σ p n os)[k]? = some (some (k,0,ob.rows.length)):=by
 rw [Di (aJ h),if_neg hk,if_pos hm,h];rfl
theorem aoK {σ : Store} {p n : Nat} {os : List Nat} {ob : Obj} (h : aj σ p = some ob) : (keepW σ p n os)[p]? = some (some (p,0,n)):=by
 rw [Di (aJ h),if_pos rfl]
theorem ah3 {σ : Store} {p : Nat} {ob o1 : Obj} {os : List Nat} (h : aj σ p = some o1) : aj (Bg σ p ob os) p = some ob:=by
 rw [Ai (aJ h),if_pos rfl]
theorem Oa {σ : Store} {p k : Nat} {ob o1 : Obj} {os : List Nat} (h : aj σ k = some o1) (hk : k ≠ p) (hm : k ∈ os) : aj (Bg σ p ob os) k = some o1:=by
 rw [Ai (aJ h),if_neg hk,if_pos hm,h]
theorem ZO {σ : Store} {cN : Nat} {v : Int} {X Y : R} {ps : List Pa} {pv : V} {vs : List V} {env : Nat → V} {b1 b2 : Nat} {r1 r2 m1 m2 : List Nat} (hcN : 2 ≤ cN)
  (h0 : aj σ 0 = some ⟨5,[[iv 0,.bool false,.ak,.ak,.ak]]⟩) (h1 : aj σ 1 = some ⟨3,[Y.cells]⟩) (hc : aj σ cN = some ⟨5,[[iv v,.bool X.neg,ints X.mag,ints X.den,pv]]⟩)
  (hp : (ps = [] ∧ pv = .ak) ∨ ∃ p,pv = .bC p 0 ps.length ∧ aj σ p = some ⟨10,ps.map Pa.cells⟩) (he : ∀ W : Jb,W = keepW σ cN 1 [0,1] → W[0]? = some (some (0,0,1)) → W[1]? = some (some (1,0,1)) → W[cN]? = some (some (cN,0,1)) → Am W σ vs 0 env) :
  Fg ⟨bM vs,Bg σ cN ⟨5,[[iv v,.bool X.neg,ints X.mag,ints X.den,dZ ps]]⟩ [0,1],0,b1,r1,m1⟩ ⟨env,σ,0,b2,r2,m2⟩:=by
 refine ZN (p:=cN) (n:=5) (A:=[[iv v,.bool X.neg,ints X.mag,ints X.den,pv]]) hc rfl ?_ ?_ (he _ rfl (aaR (by omega) (by simp) h0) (aaR (by omega) (by simp) h1) (aoK hc))
 ·intro o ho ob hob
  rcases List.mem_cons.1 ho with rfl | ho
  ·rw [h0] at hob;cases hob;simp [dO,V.still]
  ·rw [List.mem_singleton.1 ho,h1] at hob;cases hob;exact WI [Y]
 ·intro i r r2 g1 g2
  cases i with
  | succ i=>cases g1
  |
   zero =>
   cases g1;cases g2
   simp only [DU]
   refine ⟨_,_,rfl,uM rfl,_,_,rfl,uM rfl,_,_,rfl,uM rfl,_,_,rfl,uM rfl,_,_,rfl,?_,rfl⟩
   rcases hp with ⟨rfl,rfl⟩ | ⟨p,rfl,hp⟩
   ·simp only [pJ];exact .inr ⟨10,rfl⟩
   ·have hres : resolve σ FD (.bC p 0 ps.length) = some (dZ ps):=by
     have:=Fb (n:=10) hp (Ig _)
     rw [List.length_map] at this;exact this
    simp only [pJ]
    refine .inr (.inr ⟨hres,fun q hq k s0 l0 hk=>?_⟩)
    have e:=yM hp (Ig _) q hq
    have hk:=BN hk
    have n0 : p ≠ 0:=fun e=>by rw [e,h0] at hp;cases hp
    have n1 : p ≠ 1:=fun e=>by rw [e,h1] at hp;cases hp
    have n2 : p ≠ cN:=fun e=>by rw [e,hc] at hp;cases hp
    simp at hk
    omega
theorem ah4 {σ : Store} {c : Cd} {M : List Lk} : dJ (Option.map V.eF (match resolve σ 11 (V.agg c.cells) with | some d=>some [d,bf M,V.bool true] | none=>none)) (bQ (V.eF [Hg c,bf M,V.bool true])):=by
 have e1 : resolve σ 11 (V.agg c.cells) = some (Hg c):=by
  show (c.cells.mapM (resolve σ (9 + 1))).map _ = _
  rw [pU (fun v hv=>NS [c] _ (by simp) v hv)];rfl
 rw [e1]
 exact aC _
theorem ak3 {σ : Store} {cN : Nat} {X : R} {c : Cd} {vs : List V} {env : Nat → V} {b1 b2 : Nat} {r1 r2 m1 m2 : List Nat} (hcN : 2 ≤ cN)
  (h0 : aj σ 0 = some ⟨5,[[iv 0,.bool false,.ak,.ak,.ak]]⟩) (h1 : aj σ 1 = some ⟨3,[X.cells]⟩) (hc : aj σ cN = some ⟨5,[c.cells]⟩)
  (he : ∀ W : Jb,(∀ (mv : V) (L : List Lk),LnA σ mv L → G7 W σ (bf L) mv) → W[0]? = some (some (0,0,1)) → W[1]? = some (some (1,0,1)) → W[cN]? = some (some (cN,0,1)) → Am W σ vs 0 env) :
  Fg ⟨bM vs,Bg σ cN ⟨5,[c.cells]⟩ [0,1],0,b1,r1,m1⟩ ⟨env,σ,0,b2,r2,m2⟩:=by
 refine ZN (p:=cN) (n:=5) (A:=[c.cells]) hc rfl ?_ ?_ (he _ ?_ (aaR (by omega) (by simp) h0) (aaR (by omega) (by simp) h1) (aoK hc))
 ·intro o ho ob hob
  rcases List.mem_cons.1 ho with rfl | ho
  ·rw [h0] at hob;cases hob;simp [dO,V.still]
  ·rw [List.mem_singleton.1 ho,h1] at hob;cases hob;exact WI [X]
 ·intro i r r2 g1 g2
  cases i with
  | succ i=>cases g1
  |
   zero =>
   cases g1;cases g2
   exact BZ fun v hv=>NS [c] _ (by simp) v hv
 ·intro mv L hL
  rcases hL with ⟨rfl,rfl⟩ | ⟨p,rfl,hp⟩
  ·exact of_eq_true (Ag _ _ _)
  ·have hres : resolve σ FD (.bC p 0 L.length) = some (bf L):=by
    have:=Fb (n:=10) hp (vw _)
    rw [List.length_map] at this;exact this
   refine Cb hres fun q hq k s0 l0 hk=>?_
   have e:=yM hp (vw _) q hq
   have hk:=BN hk
   have n0 : p ≠ 0:=fun e=>by rw [e,h0] at hp;cases hp
   have n1 : p ≠ 1:=fun e=>by rw [e,h1] at hp;cases hp
   have n2 : p ≠ cN:=fun e=>by rw [e,hc] at hp;cases hp
   simp at hk
   omega
theorem Nu {T : Tb} (h : qB T) {S : List Lk} {v : Int} (hw : Hl Lk.wf S) (hz : Aq Lk.sz S ≤ 1048576) : PF T 389 [bf S,iv v] (.eF [Hg (VK S v),bf (Ua S v),.bool (J6 S v)]):=by
 have hl : S.length ≤ 1048576:=by have:=rD Lk.sz S;omega
 have ci:=wF h.gy hw
 cases hb : bU S
 ·rw [hb] at ci
  have hB : J6 S v = false:=by unfold J6;rw [hb];rfl
  rw [(Si hB).1,(Si hB).2,hB]
  refine aK (fun x d=>(x == 36 && d == 999)) h.hT ?_
  simp only [gB,Lz]
  refine ew ?_
  refine ah ci ?_
  refine ew ?_
  exact Ae (σ:=[])
 rw [hb] at ci
 have cl:=OH h.mW (a:=v) (b:=1) (c:=9)
 by_cases hv : 1 ≤ v ∧ v ≤ 9
 ·rw [decide_eq_true hv.1,decide_eq_true hv.2] at cl
  have ca:=ach h.Q5 (v:=v) hb hw hz
  have c0:=lS h.dI (n:=0)
  have hAl:=XQ S v S.length
  have hl1 : S.length ≤ 100:=Fe hb
  have hAe : Eo S v S.length = oU S v:=rfl
  rw [hAe] at hAl
  have hok : ∀ a ∈ oU S v,a.share.ok = true ∧ a.dx.cn ∧ a.dy.cn ∧ 0 ≤ a.node ∧ a.node ≤ 9:=fun a ha=>ZK hb ha
  have hX:=QU (oU S v)
  have hB : J6 S v = (kW (fO v (oU S v)) && (Fh (oU S v)).all jg):=by
   unfold J6 inB
   rw [hb,decide_eq_true hv.1,decide_eq_true hv.2];rfl
  have hC : (fO v (oU S v)) = ⟨v,qy (oU S v),(oU S v).map (qX (qy (oU S v)))⟩:=rfl
  have hT:=@aeX S v
  have hF:=@Si S v
  clear hAe hz hw
  generalize oU S v = A at *
  refine aK (fun x d=>(x == 36 && d == 999)) h.hT ?_
  simp only [gB,Lz]
  refine ew ?_
  refine ah ci ?_
  refine ew ?_
  refine ah cl ?_
  refine ew ?_
  refine ah ca ?_
  refine ew ?_
  refine ah c0 ?_
  refine ew ?_
  refine aQ (fun x d=>(x == 36 && d == 999)) (α:=Nat × Store) (fun q=>⟨bM [.any,iv v,.any,.any,.ptr 0 0 0,.ak,.bool false,dZ A,.ptr 1 0 0,.any,.any,.any,.any,.any,.any,.any,.any,.any,.any,.any,.any,.any,.any,.any,.any,.any,.any,.any,.any,.any,.any,.any,dZ A,iv (A.length : Nat),iv (q.1 : Nat)],q.2,0,0,[],[]⟩) (fun q=>q.1 ≤ A.length ∧ aj q.2 0 = some ⟨5,[[iv 0,.bool false,.ak,.ak,.ak]]⟩ ∧ aj q.2 1 = some ⟨3,[(Dk A q.1).cells]⟩) (fun q=>A.length - q.1) rfl (0,[some ⟨5,[[iv 0,.bool false,.ak,.ak,.ak]]⟩,some ⟨3,[[.bool (iU 0).neg,ints (iU 0).mag,ints (iU 0).den]]⟩]) ?_ ?_ ?_
  ·exact ⟨Nat.zero_le _,rfl,by dsimp only;rw [Y9];rfl⟩
  ·(refine aI ?_;exact wI)
  ·rintro ⟨i,s⟩ ⟨hi,I0,I1⟩
   dsimp only at hi I0 I1
   have Vy:=aJ I1
   have hsc:=DI A i
   by_cases hc : (i : Int) < (A.length : Nat)
   ·have hil : i < A.length:=by omega
    have hx : (A.map Pa.cells).getD i [] = (A.getD i default).cells:=mg hil
    have es:=Za A hil
    have hiA:=hok _ (getD_mem hil)
    have KT:=vH h.eP (r:=Dk A i) (s:=(A.getD i default).share) (dS hsc) (dS (xX hiA.1))
    rw [← es] at KT
    generalize A.getD i default = a at *
    generalize Dk A i = Y at *
    refine CO @hc @hx (And.intro I0 I1) ?_
    refine ah KT ?_
    refine sK (And.intro I0 I1) (And.intro aB aS) ?_
    refine ⟨(i + 1,?s1),?m1,⟨?a1,?b1,?c1⟩,?e1⟩
    case e1=>dsimp only;(refine aI ?_;exact wI)
    case m1=>dsimp only;omega
    case a1=>dsimp only;omega
    case b1=>exact (show aj _ 0 = aj s 0 by exact xO).trans I0
    case c1=>dsimp only;simp (disch:=first | omega | (simp only [List.length_append,List.length_set,List.length_cons,List.length_nil];omega)) only [EU]
   ·have hin : i = A.length:=by omega
    subst hin
    rw [show Dk A A.length = qy A from rfl] at I1 hsc
    generalize hXe : qy A = X at hX hC I1
    clear hsc
    refine sK @hc (And.intro I0 I1) ?_
    obtain ⟨cN,hcN⟩ : ∃ cN,List.length s = cN:=⟨_,rfl⟩
    have hc2 : 2 ≤ cN:=by omega
    obtain ⟨s1,hs1⟩ : ∃ s1,s ++ [some ⟨5,[[iv v,.bool X.neg,ints X.mag,ints X.den,.ak]]⟩] = s1:=⟨_,rfl⟩
    have k0 : aj s1 0 = some ⟨5,[[iv 0,.bool false,.ak,.ak,.ak]]⟩:=by rw [← hs1];exact (aO (by omega)).trans I0
    have k1 : aj s1 1 = some ⟨3,[X.cells]⟩:=by rw [← hs1];exact (aO (by omega)).trans I1
    have kc : aj s1 cN = some ⟨5,[[iv v,.bool X.neg,ints X.mag,ints X.den,.ak]]⟩:=by rw [← hs1,← hcN];exact nD _ _
    have hsl1 : s1.length = cN + 1:=by rw [← hs1];simp;omega
    clear I0 I1 Vy
    refine aQ (fun x d=>(x == 36 && d == 999)) (α:=Nat × Store × V) (fun q=>⟨bM [.any,iv v,.any,.any,.ptr 0 0 0,.ak,.bool false,dZ A,.ptr 1 0 0,.any,.any,.ptr cN 0 0,.any,.any,.any,.any,.any,.any,.any,.any,.any,.any,.any,.any,.any,.any,.any,.any,.any,.any,.any,.any,.any,.any,.any,.any,.any,.any,.any,.any,.any,.any,.any,.any,.any,.any,dZ A,iv (A.length : Nat),iv (q.1 : Nat)],q.2.1,0,0,[],[]⟩) (fun q=>(q.1 ≤ A.length ∧ aj q.2.1 0 = some ⟨5,[[iv 0,.bool false,.ak,.ak,.ak]]⟩ ∧ aj q.2.1 1 = some ⟨3,[X.cells]⟩) ∧ (q.1 < A.length → aj q.2.1 cN = some ⟨5,[[iv v,.bool X.neg,ints X.mag,ints X.den,q.2.2]]⟩ ∧ GnA 10 q.2.1 q.2.2 ((A.take q.1).map fun a=>(qX X a).cells)) ∧ (q.1 = A.length → aj q.2.1 cN = some ⟨5,[(fO v A).cells]⟩)) (fun q=>A.length - q.1) rfl (0,if A.length = 0 then Bg s1 cN ⟨5,[(fO v A).cells]⟩ [0,1] else s1,.ak) ?_ ?_ ?_
    ·dsimp only
     by_cases hA0 : A.length = 0
     ·rw [if_pos hA0]
      exact ⟨⟨Nat.zero_le _,Oa k0 (by omega) (by simp),Oa k1 (by omega) (by simp)⟩,fun e=>by omega,fun _=>ah3 kc⟩
     ·rw [if_neg hA0]
      exact ⟨⟨Nat.zero_le _,k0,k1⟩,fun _=>⟨kc,.inl ⟨by simp,rfl⟩⟩,fun e=>by omega⟩
    ·dsimp only
     rw [hcN,hs1]
     by_cases hA0 : A.length = 0
     ·rw [if_pos hA0]
      have hA : A = []:=List.eq_nil_of_length_eq_zero hA0
      rw [show (fO v A).cells = [iv v,.bool X.neg,ints X.mag,ints X.den,dZ (fO v A).ps] by rw [hC]]
      refine ZO (Y:=X) (pv:=.ak) hc2 k0 k1 kc (.inl ⟨by rw [hC,hA];rfl,rfl⟩) ?_
      intro W _ w0 w1 wc
      refine ew ?_
      exact ⟨fV w0 (by omega),fV w1 (by omega),fV wc (by omega),rfl⟩
     ·rw [if_neg hA0]
      (refine aI ?_;exact wI)
    ·clear k0 k1 kc hsl1 hs1 hcN
     rintro ⟨i,s,pv⟩ ⟨⟨hi,I0,I1⟩,hM,hE⟩
     dsimp only at hi I0 I1 hM hE
     have Vy:=aJ I1
     by_cases hc3 : (i : Int) < (A.length : Nat)
     ·have hil : i < A.length:=by omega
      obtain ⟨Ic,hP⟩:=hM hil
      have hcq:=aJ Ic
      have hx : (A.map Pa.cells).getD i [] = (A.getD i default).cells:=mg hil
      have hiA:=hok _ (getD_mem hil)
      have ets : (A.take (i + 1)).map (fun a=>(qX X a).cells) = (A.take i).map (fun a=>(qX X a).cells) ++ [(qX X (A.getD i default)).cells]:=by rw [take_snoc hil,List.map_append];rfl
      have aoM : ((A.take i).map fun a=>(qX X a).cells).length = i:=by simp;omega
      have cd:=ET h.oD (r:=(A.getD i default).share) (s:=X) (dS (xX hiA.1)) (dS hX)
      have c1:=Fa h.mJ (r:=(A.getD i default).dx) (aiP hiA.2.1)
      have c2:=Fa h.mJ (r:=(A.getD i default).dy) (aiP hiA.2.2.1)
      generalize A.getD i default = a at *
      generalize (A.take i).map (fun a=>(qX X a).cells) = P at *
      rcases hP with ⟨rfl,rfl⟩ | ⟨p,rfl,hp,hp3,hpl⟩
      ·refine yF @hc3 @hx (And.intro I0 (And.intro I1 Ic)) (And.intro aB aS) ?_
       refine ah cd ?_
       refine sK (And.intro I0 (And.intro I1 Ic)) (And.intro aB aS) ?_
       refine ah c1 ?_
       refine sK (And.intro I0 (And.intro I1 Ic)) (And.intro aB aS) ?_
       refine ah c2 ?_
       refine sK (And.intro I0 (And.intro I1 Ic)) (And.intro aB aS) ?_
       have hpq:=Vy
       have hp0:=Vy
       refine ⟨by omega,Gl [1,cN,s.length,s.length + 1,s.length + 1 + 1] [⟨18,[1],[1],false⟩,⟨17,[1],[],false⟩,⟨16,[3],[4],false⟩,⟨15,[],[3],false⟩,⟨14,[],[],false⟩,⟨13,[],[],false⟩,⟨12,[2],[],false⟩,⟨11,[2],[],false⟩,⟨10,[],[],false⟩,⟨9,[2],[],false⟩,⟨8,[2],[],false⟩,⟨7,[],[],false⟩,⟨6,[0],[],false⟩,⟨5,[2],[],false⟩,⟨4,[2],[],false⟩,⟨3,[2],[],false⟩,⟨2,[2],[],false⟩,⟨1,[1],[],false⟩,⟨0,[1],[],false⟩] ?_ ?_ rfl ?_,?_⟩
       ·clear hp0 I0 I1 Ic hE hM ca ci c0 cl
        generalize List.length s = m at Vy hcq hpq ⊢
        simp;omega
       ·intro o ho;simp at ho;omega
       ·show jl 5 _ _
        unfold jl;rfl
       by_cases hi1 : i + 1 < A.length
       ·refine ⟨(i + 1,?s2,.bC (s.length + 1 + 1) 0 1),?m2,⟨⟨?a2,?b2,?c2⟩,fun _=>⟨?d2,?f2⟩,fun e=>absurd e (by dsimp only;omega)⟩,?e2⟩
        case e2=>dsimp only;(refine aI ?_;exact wI)
        case m2=>dsimp only;omega
        case a2=>dsimp only;omega
        case b2=>exact (show aj _ 0 = aj s 0 by exact xO).trans I0
        case c2=>exact (show aj _ 1 = aj s 1 by exact xO).trans I1
        case d2=>dsimp only;simp (disch:=first | omega | (simp only [List.length_append,List.length_set,List.length_cons,List.length_nil];omega)) only [EU]
        case f2 =>
         dsimp only
         rw [ets]
         refine .inr ⟨s.length + 1 + 1,?g2,?h2,by omega,by simp⟩
         case g2=>simp
         case h2=>simp (disch:=first | omega | (simp only [List.length_append,List.length_set,List.length_cons,List.length_nil];omega)) only [EU];simp [qX]
       ·have hin : i + 1 = A.length:=by omega
        have eps : (fO v A).ps.map Pa.cells = [] ++ [(qX X a).cells]:=by
         rw [← ets,hin,List.take_length,hC,List.map_map];rfl
        refine ⟨(i + 1,Bg ?s2x cN ⟨5,[[iv v,.bool X.neg,ints X.mag,ints X.den,dZ (fO v A).ps]]⟩ [0,1],.ak),?m2x,⟨⟨?a2x,?b2x,?c2x⟩,fun e=>absurd e (by dsimp only;omega),fun _=>?d2x⟩,?e2x⟩
        case e2x =>
         dsimp only
         refine ZO (Y:=X) (pv:=.bC (s.length + 1 + 1) 0 1) hc2 ?z0 ?z1 ?zc ?zp ?ze
         case z0=>exact (show aj _ 0 = aj s 0 by exact xO).trans I0
         case z1=>exact (show aj _ 1 = aj s 1 by exact xO).trans I1
         case zc=>simp (disch:=first | omega | (simp only [List.length_append,List.length_set,List.length_cons,List.length_nil];omega)) only [EU]
         case zp =>
          refine .inr ⟨s.length + 1 + 1,?_,?_⟩
          ·rw [show (fO v A).ps.length = A.length by rw [hC];simp,← hin,← aoM];try rfl
          ·rw [eps];simp (disch:=first | omega | (simp only [List.length_append,List.length_set,List.length_cons,List.length_nil];omega)) only [EU];simp [qX]
         case ze =>
          intro W _ w0 w1 wc
          refine ew ?_
          exact ⟨fV w0 (by omega),fV w1 (by omega),fV wc (by omega),by omega⟩
        case m2x=>dsimp only;omega
        case a2x=>dsimp only;omega
        case b2x=>exact Oa ((show aj _ 0 = aj s 0 by exact xO).trans I0) (by omega) (by simp)
        case c2x=>exact Oa ((show aj _ 1 = aj s 1 by exact xO).trans I1) (by omega) (by simp)
        case d2x =>
         rw [show (fO v A).cells = [iv v,.bool X.neg,ints X.mag,ints X.den,dZ (fO v A).ps] by rw [hC]]
         refine ah3 (o1:=⟨5,[[iv v,.bool X.neg,ints X.mag,ints X.den,.bC (s.length + 1 + 1) 0 1]]⟩) ?_
         exact xO
      ·have hpq:=aJ hp
       have hpc : p ≠ cN:=fun e=>by rw [e,Ic] at hp;cases hp
       refine vJ @hc3 @hx (And.intro I0 (And.intro I1 Ic)) @hp (And.intro aB aS) ?_
       refine ah cd ?_
       refine CO (And.intro I0 (And.intro I1 Ic)) @hp (And.intro aB aS) ?_
       refine ah c1 ?_
       refine CO (And.intro I0 (And.intro I1 Ic)) @hp (And.intro aB aS) ?_
       refine ah c2 ?_
       refine CO (And.intro I0 (And.intro I1 Ic)) @hp (And.intro aB aS) ?_
       have hp0:=Vy
       refine ⟨by omega,Gl [1,cN,s.length,s.length + 1,s.length + 1 + 1,p] [⟨18,[1],[1],false⟩,⟨17,[1],[],false⟩,⟨16,[5,3],[5,4],false⟩,⟨15,[],[3],false⟩,⟨14,[],[],false⟩,⟨13,[],[],false⟩,⟨12,[2],[],false⟩,⟨11,[2],[],false⟩,⟨10,[],[],false⟩,⟨9,[2],[],false⟩,⟨8,[2],[],false⟩,⟨7,[],[],false⟩,⟨6,[0],[],false⟩,⟨5,[2],[],false⟩,⟨4,[2],[],false⟩,⟨3,[2],[],false⟩,⟨2,[2],[],false⟩,⟨1,[1],[],false⟩,⟨0,[1],[],false⟩] ?_ ?_ rfl ?_,?_⟩
       ·clear hp0 hp I0 I1 Ic hE hM ca ci c0 cl
        generalize List.length s = m at Vy hcq hpq ⊢
        simp;omega
       ·intro o ho;simp at ho;omega
       ·show jl 6 _ _
        unfold jl;rfl
       by_cases hi1 : i + 1 < A.length
       ·refine ⟨(i + 1,?s3,.bC (s.length + 1 + 1) 0 (P.length + 1)),?m3,⟨⟨?a3,?b3,?c3⟩,fun _=>⟨?d3,?f3⟩,fun e=>absurd e (by dsimp only;omega)⟩,?e3⟩
        case e3=>dsimp only;(refine aI ?_;exact wI)
        case m3=>dsimp only;omega
        case a3=>dsimp only;omega
        case b3=>exact (show aj _ 0 = aj s 0 by exact xO).trans I0
        case c3=>exact (show aj _ 1 = aj s 1 by exact xO).trans I1
        case d3=>dsimp only;simp (disch:=first | omega | (simp only [List.length_append,List.length_set,List.length_cons,List.length_nil];omega)) only [EU]
        case f3 =>
         dsimp only
         rw [ets]
         refine .inr ⟨s.length + 1 + 1,?g3,?h3,by omega,by simp⟩
         case g3=>simp
         case h3=>simp (disch:=first | omega | (simp only [List.length_append,List.length_set,List.length_cons,List.length_nil];omega)) only [EU];simp [qX]
       ·have hin : i + 1 = A.length:=by omega
        have eps : (fO v A).ps.map Pa.cells = P ++ [(qX X a).cells]:=by
         rw [← ets,hin,List.take_length,hC,List.map_map];rfl
        refine ⟨(i + 1,Bg ?s3x cN ⟨5,[[iv v,.bool X.neg,ints X.mag,ints X.den,dZ (fO v A).ps]]⟩ [0,1],.ak),?m3x,⟨⟨?a3x,?b3x,?c3x⟩,fun e=>absurd e (by dsimp only;omega),fun _=>?d3x⟩,?e3x⟩
        case e3x =>
         dsimp only
         refine ZO (Y:=X) (pv:=.bC (s.length + 1 + 1) 0 (P.length + 1)) hc2 ?z0 ?z1 ?zc ?zp ?ze
         case z0=>exact (show aj _ 0 = aj s 0 by exact xO).trans I0
         case z1=>exact (show aj _ 1 = aj s 1 by exact xO).trans I1
         case zc=>simp (disch:=first | omega | (simp only [List.length_append,List.length_set,List.length_cons,List.length_nil];omega)) only [EU]
         case zp =>
          refine .inr ⟨s.length + 1 + 1,?_,?_⟩
          ·rw [show (fO v A).ps.length = A.length by rw [hC];simp,← hin,← aoM];try rfl
          ·rw [eps];simp (disch:=first | omega | (simp only [List.length_append,List.length_set,List.length_cons,List.length_nil];omega)) only [EU];simp [qX]
         case ze =>
          intro W _ w0 w1 wc
          refine ew ?_
          exact ⟨fV w0 (by omega),fV w1 (by omega),fV wc (by omega),by omega⟩
        case m3x=>dsimp only;omega
        case a3x=>dsimp only;omega
        case b3x=>exact Oa ((show aj _ 0 = aj s 0 by exact xO).trans I0) (by omega) (by simp)
        case c3x=>exact Oa ((show aj _ 1 = aj s 1 by exact xO).trans I1) (by omega) (by simp)
        case d3x =>
         rw [show (fO v A).cells = [iv v,.bool X.neg,ints X.mag,ints X.den,dZ (fO v A).ps] by rw [hC]]
         refine ah3 (o1:=⟨5,[[iv v,.bool X.neg,ints X.mag,ints X.den,.bC (s.length + 1 + 1) 0 (P.length + 1)]]⟩) ?_
         exact xO
     ·have hin : i = A.length:=by omega
      have Ic:=hE hin
      subst hin
      have hcq:=aJ Ic
      have hcc : (fO v A).cells = [iv v,.bool X.neg,ints X.mag,ints X.den,dZ (fO v A).ps]:=by rw [hC]
      clear hM hE
      refine CJ @hc3 ?_
      obtain ⟨s1,hs1⟩ : ∃ s1,s ++ [none] = s1:=⟨_,rfl⟩
      have k0 : aj s1 0 = some ⟨5,[[iv 0,.bool false,.ak,.ak,.ak]]⟩:=by rw [← hs1];exact (aO (by omega)).trans I0
      have k1 : aj s1 1 = some ⟨3,[X.cells]⟩:=by rw [← hs1];exact (aO (by omega)).trans I1
      have kc : aj s1 cN = some ⟨5,[(fO v A).cells]⟩:=by rw [← hs1];exact (aO (by omega)).trans Ic
      clear I0 I1 Ic hcq Vy
      refine aQ (fun x d=>(x == 36 && d == 999)) (α:=Nat × Store × V) (fun q=>⟨bM [.any,iv v,.any,.any,.ptr 0 0 0,.ak,.bool false,dZ A,.ptr 1 0 0,.any,.any,.ptr cN 0 0,.any,.any,q.2.2,.any,.any,.any,.any,.any,.any,.any,.any,.any,.any,.any,.any,.any,.any,.any,.any,.any,.any,.any,.any,.any,.any,.any,.any,.any,.any,.any,.any,.any,.any,.any,.any,.any,.any,.any,.any,.any,.any,.any,.any,.any,.any,.any,.any,.any,.any,.any,.any,.any,.any,.any,.any,.any,.any,.any,.any,.any,dZ A,iv (A.length : Nat),iv (q.1 : Nat)],q.2.1,0,0,[],[]⟩) (fun q=>(q.1 ≤ A.length ∧ aj q.2.1 0 = some ⟨5,[[iv 0,.bool false,.ak,.ak,.ak]]⟩ ∧ aj q.2.1 1 = some ⟨3,[X.cells]⟩ ∧ aj q.2.1 cN = some ⟨5,[(fO v A).cells]⟩) ∧ (q.1 < A.length → LnA q.2.1 q.2.2 (iF A q.1)) ∧ (q.1 = A.length → q.2.2 = bf (Fh A))) (fun q=>A.length - q.1) rfl (0,s1,if A.length = 0 then bf [] else .ak) ?_ ?_ ?_
      ·dsimp only
       refine ⟨⟨Nat.zero_le _,k0,k1,kc⟩,fun e=>.inl ⟨rfl,if_neg (by omega)⟩,fun e=>?_⟩
       rw [if_pos e.symm]
       unfold Fh
       rw [← e];rfl
      ·dsimp only
       rw [hs1]
       by_cases hA0 : A.length = 0
       ·rw [if_pos hA0]
        refine aI ?_
        refine ew ?_
        (repeat' (first | exact kF _ | exact kE (by omega) | refine ⟨?_,?_⟩ | exact mV rfl | rfl))
       ·rw [if_neg hA0]
        (refine aI ?_;exact wI)
      ·clear k0 k1 kc hs1
       rintro ⟨i,s,mv⟩ ⟨⟨hi,I0,I1,Ic⟩,hM,hE⟩
       dsimp only at hi I0 I1 Ic hM hE
       have Vy:=aJ I1
       have hcq:=aJ Ic
       by_cases hc4 : (i : Int) < (A.length : Nat)
       ·have hil : i < A.length:=by omega
        have hL:=hM hil
        have hx : (A.map Pa.cells).getD i [] = (A.getD i default).cells:=mg hil
        have hiA:=hok _ (getD_mem hil)
        have hLl:=Dh A i
        have ht : ((i : Int) + 1).toNat = i + 1:=by omega
        have hdr : (A.map Pa.cells).drop (i + 1) = (A.drop (i + 1)).map Pa.cells:=(List.map_drop ..).symm
        have hdl : (A.drop (i + 1)).length = A.length - (i + 1):=by simp
        refine vJ @hc4 @hx @ht @hdr (And.intro I0 (And.intro I1 Ic)) ?_
        obtain ⟨qc,hqc⟩ : ∃ qc,List.length s = qc:=⟨_,rfl⟩
        refine aQ (fun x d=>(x == 36 && d == 999)) (α:=Nat × Store × V) (fun q=>⟨bM [.any,iv v,.any,.any,.ptr 0 0 0,.ak,.bool false,dZ A,.ptr 1 0 0,.any,.any,.ptr cN 0 0,.any,.any,q.2.2,iv (i : Nat),.ptr qc 0 0,.any,.any,.any,.any,.any,.any,.any,.any,.any,.any,.any,.any,.any,.any,.any,.any,.any,.any,.any,.any,.any,.any,.any,.any,.any,.any,.any,.any,.any,.any,.any,.any,.any,.any,.any,.any,.any,.any,.any,.any,.any,.any,.any,.any,.any,.any,.any,.any,.any,.any,.any,.any,.any,.any,.any,dZ A,iv (A.length : Nat),iv (i : Nat),.any,.any,.any,.any,.any,.any,.any,dZ (A.drop (i + 1)),iv ((A.drop (i + 1)).length : Nat),iv (q.1 : Nat)],q.2.1,0,0,[],[]⟩) (fun q=>(i + 1 + q.1 ≤ A.length ∧ aj q.2.1 0 = some ⟨5,[[iv 0,.bool false,.ak,.ak,.ak]]⟩ ∧ aj q.2.1 1 = some ⟨3,[X.cells]⟩ ∧ aj q.2.1 cN = some ⟨5,[(fO v A).cells]⟩ ∧ aj q.2.1 qc = some ⟨10,[(A.getD i default).cells]⟩) ∧ LnA q.2.1 q.2.2 (iF A i ++ mM A i q.1)) (fun q=>A.length - q.1) rfl (0,s ++ [some ⟨10,[(A.getD i default).cells]⟩],mv) ?_ ?_ ?_
        ·refine ⟨⟨by dsimp only;omega,(aO (by omega)).trans I0,(aO Vy).trans I1,(aO hcq).trans Ic,by dsimp only;rw [← hqc];exact nD _ _⟩,?_⟩
         dsimp only
         rw [OY,List.append_nil]
         exact hL.fr fun p hp=>aO hp
        ·subst hqc
         (refine aI ?_;exact wI)
        ·have hq3 : 3 ≤ qc:=by omega
         clear I0 I1 Ic Vy hcq hL hM hE hqc
         rintro ⟨j,s,mv⟩ ⟨⟨hj,I0,I1,Ic,Iq⟩,hL⟩
         dsimp only at hj I0 I1 Ic Iq hL
         have Vy:=aJ I1
         have hcq:=aJ Ic
         have hqq:=aJ Iq
         have hRl:=Nr A i j
         by_cases hc5 : (j : Int) < ((A.drop (i + 1)).length : Nat)
         ·have hkl : i + 1 + j < A.length:=by omega
          have hg2 : ((A.drop (i + 1)).map Pa.cells).getD j [] = (A.getD (i + 1 + j) default).cells:=by
           rw [mg (by omega),List.getD_eq_getElem?_getD,List.getElem?_drop,← List.getD_eq_getElem?_getD]
          have hkA:=hok _ (getD_mem hkl)
          have es:=Vt A hkl
          rw [hXe] at es
          obtain ⟨a,ha⟩ : ∃ a,A.getD i default = a:=⟨_,rfl⟩
          obtain ⟨b,hb'⟩ : ∃ b,A.getD (i + 1 + j) default = b:=⟨_,rfl⟩
          rw [ha] at hiA es Iq
          rw [hb'] at hkA es hg2
          have cm:=qK h.fK (r:=a.share) (s:=b.share) (dS (xX hiA.1)) (dS (xX hkA.1))
          have cd:=ET h.oD (r:=mulR a.share b.share) (s:=X) (dS (OJ _ _)) (dS hX)
          have cx:=IX h.sZ (r:=a.dx) (s:=b.dx) (dS hiA.2.1) (dS hkA.2.1)
          have cy:=IX h.sZ (r:=a.dy) (s:=b.dy) (dS hiA.2.2.1) (dS hkA.2.2.1)
          have en : iF A i ++ mM A i (j + 1) = (iF A i ++ mM A i j) ++ [Iw X a b]:=by rw [es,List.append_assoc]
          have hMl : (iF A i ++ mM A i j).length ≤ 20000:=by
           rw [List.length_append]
           have : i * A.length ≤ 100 * 100:=Nat.mul_le_mul (by omega) (by omega)
           omega
          generalize iF A i ++ mM A i j = Ms at *
          rcases hL with ⟨rfl,rfl⟩ | ⟨m2,rfl,hm2⟩
          ·refine yF @hc5 @hg2 (And.intro I1 Iq) (And.intro aB aS) ?_
           refine ah cm ?_
           refine sK (And.intro I1 Iq) (And.intro aB aS) ?_
           refine ah cd ?_
           refine sK (And.intro I1 Iq) (And.intro aB aS) ?_
           refine ah cx ?_
           refine sK (And.intro I1 Iq) (And.intro aB aS) ?_
           refine ah cy ?_
           refine sK (And.intro I1 Iq) (And.intro aB aS) ?_
           refine ⟨by omega,Gl [1,qc,s.length,s.length + 1,s.length + 1 + 1] [⟨25,[],[],false⟩,⟨24,[3],[4],false⟩,⟨23,[],[3],false⟩,⟨22,[],[],false⟩,⟨21,[],[],false⟩,⟨20,[2],[],false⟩,⟨19,[2],[],false⟩,⟨18,[1],[],false⟩,⟨17,[1],[],false⟩,⟨16,[],[],false⟩,⟨15,[2],[],false⟩,⟨14,[2],[],false⟩,⟨13,[1],[],false⟩,⟨12,[1],[],false⟩,⟨11,[],[],false⟩,⟨10,[0],[],false⟩,⟨9,[],[],false⟩,⟨8,[2],[],false⟩,⟨7,[2],[],false⟩,⟨6,[1],[],false⟩,⟨5,[1],[],false⟩,⟨4,[2],[],false⟩,⟨3,[2],[],false⟩,⟨2,[1],[],false⟩,⟨1,[1],[],false⟩,⟨0,[],[],false⟩] ?_ ?_ rfl ?_,?_⟩
           ·clear I0 I1 Ic Iq ca ci c0 cl
            generalize List.length s = m at Vy hcq hqq ⊢
            simp;omega
           ·intro o ho;simp at ho;omega
           ·show jl 5 _ _
            unfold jl;rfl
           refine ⟨(j + 1,?s6,.bC (s.length + 1 + 1) 0 1),?m6,⟨⟨?a6,?b6,?c6,?d6,?f6⟩,.inr ⟨s.length + 1 + 1,?g6,?h6⟩⟩,?e6⟩
           case e6=>dsimp only;(refine aI ?_;exact wI)
           case m6=>dsimp only;omega
           case a6=>dsimp only;omega
           case b6=>exact (show aj _ 0 = aj s 0 by exact xO).trans I0
           case c6=>exact (show aj _ 1 = aj s 1 by exact xO).trans I1
           case d6=>exact (show aj _ cN = aj s cN by exact xO).trans Ic
           case f6=>dsimp only;rw [ha];exact (show aj _ qc = aj s qc by exact xO).trans Iq
           case g6=>dsimp only;rw [en];simp
           case h6 =>
            dsimp only
            rw [en]
            simp (disch:=first | omega | (simp only [List.length_append,List.length_set,List.length_cons,List.length_nil];omega)) only [EU]
            simp [Iw]
          ·have aoE:=aJ hm2
           have n1 : m2 ≠ 1:=fun e=>by rw [e,I1] at hm2;cases hm2
           have n2 : m2 ≠ cN:=fun e=>by rw [e,Ic] at hm2;cases hm2
           have n3 : m2 ≠ qc:=fun e=>by rw [e,Iq] at hm2;cases hm2
           have n0 : m2 ≠ 0:=fun e=>by rw [e,I0] at hm2;cases hm2
           refine vJ @hc5 @hg2 (And.intro I1 Iq) (And.intro aB aS) @hm2 ?_
           refine ah cm ?_
           refine CO (And.intro I1 Iq) (And.intro aB aS) @hm2 ?_
           refine ah cd ?_
           refine CO (And.intro I1 Iq) (And.intro aB aS) @hm2 ?_
           refine ah cx ?_
           refine CO (And.intro I1 Iq) (And.intro aB aS) @hm2 ?_
           refine ah cy ?_
           refine CO (And.intro I1 Iq) (And.intro aB aS) @hm2 ?_
           refine ⟨by omega,Gl [1,qc,s.length,s.length + 1,s.length + 1 + 1,m2] [⟨25,[],[],false⟩,⟨24,[5,3],[5,4],false⟩,⟨23,[],[3],false⟩,⟨22,[],[],false⟩,⟨21,[],[],false⟩,⟨20,[2],[],false⟩,⟨19,[2],[],false⟩,⟨18,[1],[],false⟩,⟨17,[1],[],false⟩,⟨16,[],[],false⟩,⟨15,[2],[],false⟩,⟨14,[2],[],false⟩,⟨13,[1],[],false⟩,⟨12,[1],[],false⟩,⟨11,[],[],false⟩,⟨10,[0],[],false⟩,⟨9,[],[],false⟩,⟨8,[2],[],false⟩,⟨7,[2],[],false⟩,⟨6,[1],[],false⟩,⟨5,[1],[],false⟩,⟨4,[2],[],false⟩,⟨3,[2],[],false⟩,⟨2,[1],[],false⟩,⟨1,[1],[],false⟩,⟨0,[],[],false⟩] ?_ ?_ rfl ?_,?_⟩
           ·clear I0 I1 Ic Iq ca ci c0 cl hm2
            generalize List.length s = m at Vy hcq hqq aoE ⊢
            simp;omega
           ·intro o ho;simp at ho;omega
           ·show jl 6 _ _
            unfold jl;rfl
           refine ⟨(j + 1,?s7,.bC (s.length + 1 + 1) 0 (Ms.length + 1)),?m7,⟨⟨?a7,?b7,?c7,?d7,?f7⟩,.inr ⟨s.length + 1 + 1,?g7,?h7⟩⟩,?e7⟩
           case e7=>dsimp only;(refine aI ?_;exact wI)
           case m7=>dsimp only;omega
           case a7=>dsimp only;omega
           case b7=>exact (show aj _ 0 = aj s 0 by exact xO).trans I0
           case c7=>exact (show aj _ 1 = aj s 1 by exact xO).trans I1
           case d7=>exact (show aj _ cN = aj s cN by exact xO).trans Ic
           case f7=>dsimp only;rw [ha];exact (show aj _ qc = aj s qc by exact xO).trans Iq
           case g7=>dsimp only;rw [en];simp
           case h7 =>
            dsimp only
            rw [en]
            simp (disch:=first | omega | (simp only [List.length_append,List.length_set,List.length_cons,List.length_nil];omega)) only [EU]
            simp [Iw]
         ·have hjn : j = A.length - (i + 1):=by omega
          have hL2 : LnA s mv (iF A (i + 1)):=by
           rw [hjn] at hL;exact hL
          refine CJ @hc5 ?_
          by_cases hi1 : i + 1 < A.length
          ·refine ⟨(i + 1,s,mv),by dsimp only;omega,⟨⟨by dsimp only;omega,I0,I1,Ic⟩,fun _=>hL2,fun e=>absurd e (by dsimp only;omega)⟩,?_⟩
           dsimp only
           (refine aI ?_;exact wI)
          ·have hin : i + 1 = A.length:=by omega
           have hms : iF A (i + 1) = Fh A:=by unfold Fh;rw [hin]
           rw [hms] at hL2
           refine ⟨(i + 1,Bg s cN ⟨5,[(fO v A).cells]⟩ [0,1],bf (Fh A)),by dsimp only;omega,⟨⟨by dsimp only;omega,Oa I0 (by omega) (by simp),Oa I1 (by omega) (by simp),ah3 Ic⟩,fun e=>absurd e (by dsimp only;omega),fun _=>rfl⟩,?_⟩
           dsimp only
           refine ak3 hc2 I0 I1 Ic ?_
           intro W hW w0 w1 wc
           refine ew ?_
           exact ⟨fV w0 (by omega),fV w1 (by omega),fV wc (by omega),hW _ _ hL2,by omega⟩
       ·have hin : i = A.length:=by omega
        have hmv:=hE hin
        subst hin
        subst hmv
        have wcd : (fO v A).wf:=by
         rw [hC]
         exact ⟨dS hX,by simp;omega,fun x hx=>by
          obtain ⟨a,ha,rfl⟩:=List.mem_map.1 hx
          have:=hok a ha
          exact ⟨dS (DC _ _),dS this.2.1,dS this.2.2.1⟩⟩
        have hml:=Dh A A.length
        have awm : A.length * A.length ≤ 100 * 100:=Nat.mul_le_mul (by omega) (by omega)
        have wms : Hl Lk.wf (Fh A):=⟨by show (iF A A.length).length ≤ _;omega,fun x hx=>by
         have:=aaD x hx
         exact ⟨dS this.1,dS this.2.1,dS this.2.2⟩⟩
        have cv:=G8 h.Dn (c:=fO v A) wcd
        have cs:=wF h.gy (l:=Fh A) wms
        refine sK @hc4 (And.intro I0 (And.intro I1 Ic)) ?_
        refine ah cv ?_
        cases hcd : kW (fO v A)
        ·rw [hcd] at hB
         have hB : J6 S v = false:=hB
         rw [(hF hB).1,(hF hB).2,hB]
         refine CJ @I0 ?_
         exact Ae (σ:=[])
        ·rw [hcd,Bool.true_and] at hB
         rw [akT hcd] at cs
         refine CJ @I0 ?_
         refine ah cs ?_
         cases ha : (Fh A).all jg
         ·rw [ha] at hB
          rw [(hF hB).1,(hF hB).2,hB]
          refine CJ @I0 ?_
          exact Ae (σ:=[])
         ·rw [ha] at hB
          rw [(hT hB).1,(hT hB).2,hB]
          refine CJ (And.intro I0 (And.intro I1 Ic)) ?_
          exact ah4 (σ:=List.set s 0 (some ⟨5,[(fO v A).cells]⟩))
 ·have hB:=afe (S:=S) hv
  have hcl : (decide ((1 : Int) ≤ v) && decide (v ≤ 9)) = false:=by
   rcases Int.lt_or_le v 1 with k | k
   ·rw [decide_eq_false (show ¬ 1 ≤ v by omega)];rfl
   ·rw [decide_eq_false (show ¬ v ≤ 9 by omega)];simp
  rw [hcl] at cl
  rw [(Si hB).1,(Si hB).2,hB]
  refine aK (fun x d=>(x == 36 && d == 999)) h.hT ?_
  simp only [gB,Lz]
  refine ew ?_
  refine ah ci ?_
  refine ew ?_
  refine ah cl ?_
  refine ew ?_
  exact Ae (σ:=[])
def tC : Nat → V → Prop
 | 0,_=>False
 | n + 1,.sl _ rows=>∀ r ∈ rows,∀ c ∈ r,tC n c
 | n + 1,.agg cs=>∀ c ∈ cs,tC n c
 | n + 1,.eF cs=>∀ c ∈ cs,tC n c
 | _ + 1,.fB _ _=>False
 | _ + 1,_=>True
theorem tC.le : ∀ {n : Nat} {v : V},tC n v → eU n v
 | 0,_,h=>h
 |
  n + 1,v,h=>by
  cases v with
  | sl k rows=>simp only [tC,eU] at h ⊢;exact fun r hr c hc=>(h r hr c hc).le
  | agg cs=>simp only [tC,eU] at h ⊢;exact fun c hc=>(h c hc).le
  | eF cs=>simp only [tC,eU] at h ⊢;exact fun c hc=>(h c hc).le
  | _=>simp [eU]
theorem aff (n : Nat) (q : IntKind) (k : Int) : tC (n + 1) (.int q k):=by simp [tC]
theorem LJ (n : Nat) (b : Bool) : tC (n + 1) (.bool b):=by simp [tC]
theorem DN (n : Nat) (l : List Int) : tC (n + 2) (ints l):=by
 simp only [tC]
 intro r hr c hc
 simp only [aN,List.mem_map] at hr
 obtain ⟨x,_,rfl⟩:=hr
 simp only [List.mem_cons,List.not_mem_nil,or_false] at hc
 subst hc;simp [tC]
theorem ak4 {n : Nat} {cs : List V} (h : ∀ c ∈ cs,tC n c) : tC (n + 1) (.agg cs):=by simpa only [tC] using h
theorem ak5 (n : Nat) (x : R) : tC (n + 3) (aU x):=by
 refine ak4 ?_
 simp only [List.forall_mem_cons];exact ⟨LJ _ _,DN _ _,DN _ _,by simp⟩
theorem ak6 (n : Nat) (l : List Lk) : tC (n + 3) (bf l):=by
 simp only [tC]
 intro r hr c hc
 obtain ⟨x,_,rfl⟩:=List.mem_map.1 hr
 revert c
 simp only [List.forall_mem_cons];exact ⟨aff _ _ _,aff _ _ _,LJ _ _,DN _ _,DN _ _,LJ _ _,DN _ _,DN _ _,LJ _ _,DN _ _,DN _ _,by simp⟩
theorem aaS {σ : Store} : ∀ (n : Nat) {v t : V},resolve σ (n + 1) v = some t → tC n t → resolve σ n v = some t
 | 0,v,t,_,hd=>by simp [tC] at hd
 |
  n + 1,v,t,h,hd=>by
  have ih:=@aaS σ n
  have hl : ∀ (l l' : List V),l.mapM (resolve σ (n + 1)) = some l' → (∀ c ∈ l',tC n c) → l.mapM (resolve σ n) = some l':=by
   intro l
   induction l with
   | nil=>intro l' h _;exact h
   |
    cons x l ihl =>
    intro l' h hd
    rw [List.mapM_cons] at h ⊢
    cases hx : resolve σ (n + 1) x with
    | none=>rw [hx] at h;cases h
    |
     some y =>
     rw [hx] at h
     cases hl : l.mapM (resolve σ (n + 1)) with
     | none=>rw [hl] at h;cases h
     |
      some ys =>
      rw [hl] at h
      cases h
      rw [ih hx (hd y (by simp)),ihl ys hl fun c hc=>hd c (by simp [hc])]
      rfl
  have hr : ∀ (l : List (List V)) (l' : List (List V)),(l.mapM fun (r : List V)=>r.mapM (resolve σ (n + 1))) = some l' → (∀ r ∈ l',∀ c ∈ r,tC n c) → (l.mapM fun (r : List V)=>r.mapM (resolve σ n)) = some l':=by
   intro l
   induction l with
   | nil=>intro l' h _;exact h
   |
    cons x l ihl =>
    intro l' h hd
    rw [List.mapM_cons] at h ⊢
    cases hx : x.mapM (resolve σ (n + 1)) with
    | none=>rw [hx] at h;cases h
    |
     some y =>
     rw [hx] at h
     cases hl' : l.mapM fun (r : List V)=>r.mapM (resolve σ (n + 1)) with
     | none=>rw [hl'] at h;cases h
     |
      some ys =>
      rw [hl'] at h
      cases h
      rw [hl x y hx (hd y (by simp)),ihl ys hl' fun c hc=>hd c (by simp [hc])]
      rfl
  cases v with
  |
   bC o s l =>
   simp only [resolve] at h ⊢
   cases ho : aj σ o with
   | none=>rw [ho] at h;cases h
   |
    some ob =>
    rw [ho] at h
    dsimp only at h ⊢
    split at h
    ·rename_i hle
     rw [if_pos hle]
     obtain ⟨rows,h1,rfl⟩:=Option.map_eq_some_iff.1 h
     rw [hr _ _ h1 (by simpa only [tC] using hd)]
     rfl
    ·cases h
  |
   ptr o r off =>
   simp only [resolve] at h ⊢
   cases ho : aj σ o with
   | none=>rw [ho] at h;cases h
   |
    some ob =>
    rw [ho] at h
    dsimp only at h ⊢
    cases hro : ob.rows[r]? with
    | none=>rw [hro] at h;cases h
    |
     some row =>
     rw [hro] at h
     dsimp only at h ⊢
     obtain ⟨rows,h1,rfl⟩:=Option.map_eq_some_iff.1 h
     simp [tC] at hd
  |
   agg cs =>
   simp only [resolve] at h ⊢
   obtain ⟨rows,h1,rfl⟩:=Option.map_eq_some_iff.1 h
   rw [hl _ _ h1 (by simpa only [tC] using hd)]
   rfl
  |
   eF cs =>
   simp only [resolve] at h ⊢
   obtain ⟨rows,h1,rfl⟩:=Option.map_eq_some_iff.1 h
   rw [hl _ _ h1 (by simpa only [tC] using hd)]
   rfl
  | _=>simpa only [resolve] using h
theorem aaT {σ : Store} : ∀ {ts : List (Bool × V)} {vs : List V} {os : List Nat},Oo σ vs ts os → (∀ p ∈ ts,tC 11 p.2) → vs.mapM (resolve σ 11) = some (ts.map (·.2))
 |
  [],vs,os,h,_=>by
  simp only [Oo] at h
  obtain ⟨rfl,rfl⟩:=h
  rfl
 |
  (b,t) :: ts,vs,os,h,hd=>by
  simp only [Oo] at h
  obtain ⟨v,vs',o1,o2,rfl,rfl,h1,h2⟩:=h
  have e2:=aaT h2 fun p hp=>hd p (by simp [hp])
  have hdt : tC 11 t:=hd (b,t) (by simp)
  have e1 : resolve σ 11 v = some t:=by
   cases b with
   | true=>exact JU 11 (by simpa using h1) hdt.le
   |
    false =>
    have h1 : resolve σ FD v = some t ∧ o1 = []:=by simpa using h1
    exact aaS 11 h1.1 hdt
  rw [List.mapM_cons,e1,e2]
  rfl
theorem PX.frz {T : Tb} {f : Nat} {args : List V} {ts : List (Bool × V)} (h : PX T f args ts) (hd : ∀ p ∈ ts,tC 11 p.2) : PF T f args (.eF (ts.map (·.2))):=by
 obtain ⟨vs,σ',os,h1,h2,h3⟩:=h
 refine .frz h1 ?_
 show resolve σ' (11 + 1) _ = _
 rw [resolve,aaT h2 hd]
 rfl
def joT (l : List Lk) : List (Bool × V):=[(false,bf (Vm l)),(true,aU (XO l)),(false,.bool (G9 l))]
theorem Ep.fr {s S1 : Store} {cs ts : List V} {os : List Nat} {L : List (Nat × Obj)} (E : Ep s cs ts os L) (h1 : ∀ o,o < s.length → aj S1 o = aj s o) : Ep S1 cs ts os L :=
 ⟨E.c.frame fun o ho=>h1 o (E.c.lt o ho),fun q hq=>⟨(h1 _ (E.lt q hq)).trans (E.l q hq).1,(E.l q hq).2⟩⟩
theorem afg (sz : Nat) : EvV (.sl sz []) .ak = True:=eq_true (kF sz)
theorem Vz {T : Tb} (h : yL T) {l : List Lk} (hw : Hl Lk.wf l) (ha : l.all jg = true) (hl : l.length ≤ 1048576) : PX T 109 [bf l] (joT l):=by
 unfold joT
 refine La (fun x d=>(x == 39 && d == 13) || (x == 131 && d == 29)) h.hT ?_
 simp only [qW,Lz,St.enter,List.length_cons,List.length_nil,Nat.zero_add]
 refine ew ?_
 refine fJ (sU h.dw (n:=0)) (by (refine ew ?_;try with_reducible exact True.intro)) ?_
 intro r q1 o1 G
 obtain ⟨_,rfl,hQ1⟩:=G.ow.bP
 obtain ⟨x1,x2,rfl⟩:=hQ1.rat
 have E : Ep [some ⟨3,[[.bool false,.ak,.ak]]⟩] [] [] [] [(0,⟨3,[[.bool false,.ak,.ak]]⟩)]:=⟨U2,by simp [aj]⟩
 have E2:=E.got (s1:=[some ⟨3,[[.bool false,.ak,.ak]]⟩] ++ [none,none]) (fun q hq=>by first | exact eY hq | (simp only [List.append_assoc];exact eY hq)) (by simp) hQ1 G.nd G.fresh G.old
 have F0:=E.free (s1:=[some ⟨3,[[.bool false,.ak,.ak]]⟩] ++ [none,none]) (p:=2) G.fresh (by simp) (by simp)
 have hq : 3 ≤ q1.length:=by simpa using G.len
 clear E G
 have E : Ep q1 [.bool (iU 0).neg,x1,x2] [.bool (iU 0).neg,ints (iU 0).mag,ints (iU 0).den] _ [(0,⟨3,[[.bool false,.ak,.ak]]⟩)]:=E2
 clear E2
 replace E:=E.EW (p:=2) (ob:=⟨3,[[.bool (iU 0).neg,x1,x2]]⟩) (L':=[(0,⟨3,[[.bool false,.ak,.ak]]⟩),(2,⟨3,[[.bool (iU 0).neg,x1,x2]]⟩)]) F0 (by omega) (by simp)
 have LF:=And.intro (E.leaf 1 rfl rfl) (E.leaf 2 rfl rfl)
 refine yF @LF @aB @aS @List.set_set.{0} ?_
 clear LF
 refine aQ (fun x d=>(x == 39 && d == 13) || (x == 131 && d == 29)) (α:=Nat × Store × List Lk × R × V × V × List Nat) (fun q=>⟨bM [bf l,.any,.any,.ptr 0 0 0,.any,bf q.2.2.1,.ptr 2 0 0,.any,.any,.any,.any,.any,.any,.any,bf l,iv (l.length : Nat),iv (q.1 : Nat)],q.2.1,0,0,[],[]⟩) (fun q=>(q.1 ≤ l.length ∧ N7 l q.1 = some (q.2.2.1,q.2.2.2.1) ∧ q.2.2.2.1.ok = true) ∧ Ep q.2.1 [.bool q.2.2.2.1.neg,q.2.2.2.2.1,q.2.2.2.2.2.1] [.bool q.2.2.2.1.neg,ints q.2.2.2.1.mag,ints q.2.2.2.1.den] q.2.2.2.2.2.2 [(0,⟨3,[[.bool false,.ak,.ak]]⟩),(2,⟨3,[[.bool q.2.2.2.1.neg,q.2.2.2.2.1,q.2.2.2.2.2.1]]⟩)]) (fun q=>l.length - q.1) rfl (0,(q1.set 2 (some ⟨3,[[.bool (iU 0).neg,x1,x2]]⟩)),[],iU 0,x1,x2,[] ++ o1) ?_ ?_ ?_
 ·exact ⟨⟨by omega,rfl,show (iU 0).ok = true by decide +kernel⟩,E⟩
 ·dsimp only
  rw [show bf [] = .sl 11 [] from rfl]
  (refine aI ?_) <;> (try (refine CJ @afg ?_;try with_reducible exact True.intro)) <;> (repeat' (first | refine ⟨?_,?_⟩ | exact kE (by omega) | exact mV (by simp) | exact kF _))
 ·clear E
  rintro ⟨k,s,S,e,x1,x2,os⟩ ⟨⟨hk,hf,he⟩,E⟩
  dsimp only at hk hf he E
  obtain ⟨i1,i2,i3,i4⟩:=Vo hf
  dsimp only at i1 i2 i3 i4
  have L0:=E.at0 (p:=0) (ob:=⟨3,[[.bool false,.ak,.ak]]⟩) (by simp)
  have L1:=E.at0 (p:=2) (ob:=⟨3,[[.bool e.neg,x1,x2]]⟩) (by simp)
  have LFx:=And.intro (E.leaf 1 rfl rfl) (E.leaf 2 rfl rfl)
  by_cases hc : (k : Int) < (l.length : Nat)
  ·have hkl : k < l.length:=by omega
   have hxw:=aeQ hw hkl
   have hxo : jg (l.getD k default) = true:=List.all_eq_true.1 ha _ (getD_mem hkl)
   have hs : N7 l (k + 1) = if Ov S (l.getD k default) = true then some (adV S (l.getD k default),qj e (adE S (l.getD k default))) else none:=by simp only [N7,hf]
   have hmx : (l.map Lk.cells).getD k [] = (l.getD k default).cells:=mg hkl
   have hbad : N7 l (k + 1) = none → Vl l = none:=fun h=>N8 h (by omega)
   have hbd2 : ∀ p,N7 l (k + 1) = some p → p.2.ok = false → Vl l = none:=fun p h h2=>ZJ h h2 (by omega)
   generalize l.getD k default = x at hs hxw hxo hmx
   have ca:=(ZF h.QT (S:=S) (l:=x) (Vq i3 i4) i1 hxo (by omega)).frz (by
    intro p hp
    simp only [adT,List.mem_cons,List.not_mem_nil,or_false] at hp
    rcases hp with rfl | rfl | rfl
    ·exact ak6 _ _
    ·exact ak5 _ _
    ·exact LJ _ _)
   have hac:=ZH S x
   obtain ⟨g1,g2,g3⟩:=OW i1 hxo
   simp only [adT,List.map_cons,List.map_nil] at ca
   rw [← g1,← g2,← g3] at ca
   clear g1 g2 g3
   generalize hS' : adV S x = S' at hs ca hac
   generalize he' : adE S x = e' at hs ca hac
   generalize ho : Ov S x = ok at hs ca
   refine sK @hc @hmx ?_
   refine ah ca ?_
   have hp2 : ¬ (s.length + 1 = s.length):=by omega
   refine vJ @L0 @L1 @LFx @aB @aS ?_
   obtain ⟨S1,hS1⟩ : ∃ S1,(List.set (s ++ [some ⟨11,[x.cells]⟩] ++ [none]) (s.length + 1) (some ⟨3,[[.bool false,.ak,.ak]]⟩)).set (s.length + 1) (some ⟨3,[e'.cells]⟩) = S1:=⟨_,rfl⟩
   have h1 : ∀ o,o < s.length → aj S1 o = aj s o:=fun o ho=>by
    rw [← hS1,aH (by omega),aH (by omega),List.append_assoc,eY ho]
   have hl1 : S1.length = s.length + 2:=by rw [← hS1];simp
   rw [hS1]
   clear hS1
   have E1:=E.fr h1
   have R:=And.intro (E1.res1 1 rfl rfl (au _ _)) (E1.res1 2 rfl rfl (au _ _))
   refine fJ (QF h.dA i2 hac.2.1) (by (refine CO @R @aB @aS ?_;try with_reducible exact True.intro)) ?_
   intro r q2 o2 G
   have gl : s.length + 2 ≤ q2.length:=by have:=G.len;omega
   obtain ⟨_,rfl,hQ⟩:=G.ow.bP
   obtain ⟨y1,y2,rfl⟩:=hQ.rat
   have F1 : 2 ∉ o2:=fun hm=>by have h1:=G.fresh 2 hm;have:=L1.2;omega
   have E2:=E1.renew (fun q hq=>rfl) (Nat.le_refl _) hQ G.nd G.fresh G.old
   have atC:=IV e e'
   have hbd2:=fun (hs : N7 l (k + 1) = some (S',qj e e'))=>hbd2 (S',qj e e') hs
   dsimp only at hbd2
   generalize qj e e' = e2 at *
   have LF:=And.intro (E2.leaf 1 rfl rfl) (E2.leaf 2 rfl rfl)
   have M0:=E2.at0 (p:=0) (ob:=⟨3,[[.bool false,.ak,.ak]]⟩) (by simp)
   have M1:=E2.at0 (p:=2) (ob:=⟨3,[[.bool e.neg,x1,x2]]⟩) (by simp)
   refine vJ @LF @M0 @M1 @aB @aS ?_
   have E3:=E2.EW (p:=2) (ob:=⟨3,[[.bool e2.neg,y1,y2]]⟩) (L':=[(0,⟨3,[[.bool false,.ak,.ak]]⟩),(2,⟨3,[[.bool e2.neg,y1,y2]]⟩)]) F1 M1.2 (by simp)
   generalize hq3 : q2.set 2 (some ⟨3,[[.bool e2.neg,y1,y2]]⟩) = q3 at *
   have N0:=E3.at0 (p:=0) (ob:=⟨3,[[.bool false,.ak,.ak]]⟩) (by simp)
   have N1:=E3.at0 (p:=2) (ob:=⟨3,[[.bool e2.neg,y1,y2]]⟩) (by simp)
   have R3:=And.intro (E3.res1 1 rfl rfl (au _ _)) (E3.res1 2 rfl rfl (au _ _))
   cases ok
   ·obtain ⟨e1,e2,e3⟩:=C9 (hbad (by rw [hs];rfl))
    rw [e1,e2,e3]
    refine vJ @N0 @N1 @LF @aB @aS ?_
    exact .inl Vh
   ·have cg:=KR h.aP atC
    refine xQ @N0 @N1 @LF @R3 @aB @aS ?_
    refine ah cg ?_
    cases hb : e2.ok
    ·obtain ⟨e1,e2,e3⟩:=C9 (hbd2 (by rw [hs];rfl) hb)
     rw [e1,e2,e3]
     refine vJ @N0 @N1 @LF @aB @aS ?_
     exact .inl Vh
    ·refine vJ @N0 @N1 @LF @aB @aS ?_
     refine ⟨(k + 1,q3,S',e2,y1,y2,o2),by dsimp only;omega,⟨⟨by dsimp only;omega,by dsimp only;rw [hs];rfl,hb⟩,E3⟩,?_⟩
     dsimp only
     (refine aI ?_;exact wI)
  ·have hie : k = l.length:=by omega
   have hg : Vl l = some (S,e):=by unfold Vl;rw [← hie,hf];exact if_pos he
   have e1 : Vm l = S:=by unfold Vm;rw [hg];rfl
   have e2 : XO l = e:=by unfold XO;rw [hg];rfl
   have e3 : G9 l = true:=by unfold G9;rw [hg];rfl
   rw [e1,e2,e3]
   refine xQ @hc @L0 @L1 @LFx @aB @aS ?_
   refine ⟨by unfold jl;rfl,.inl (TT rfl ?_ E.c.nd)⟩
   have n0:=(E.l (0,⟨3,[[.bool false,.ak,.ak]]⟩) (by simp)).2
   exact fD (E.c.set (o:=0) (x:=some ⟨3,[[.bool e.neg,x1,x2]]⟩) n0).ow
def VA (σ s : Store) (r : V) (M : List Lk) : Prop :=
 ((r = .ak ∧ M = []) ∨ ∃ p,σ.length ≤ p ∧ r = .bC p 0 M.length ∧ aj s p = some ⟨11,M.map Lk.cells⟩) ∧ (∀ o,o < σ.length → aj s o = aj σ o) ∧ σ.length ≤ s.length
theorem VA.snoc {σ s : Store} {r : V} {M : List Lk} {x : Option Obj} (h : VA σ s r M) : VA σ (s ++ [x]) r M:=by
 obtain ⟨h1,h2,h3⟩:=h
 refine ⟨?_,fun o ho=>(aO (by omega)).trans (h2 o ho),by simp;omega⟩
 rcases h1 with h1 | ⟨p,a,b,c⟩
 ·exact .inl h1
 ·exact .inr ⟨p,a,b,(aO (aJ c)).trans c⟩
theorem VA.new {σ s s' : Store} {M : List Lk} {q n : Nat} (h2 : ∀ o,o < σ.length → aj s o = aj σ o) (h3 : σ.length ≤ s.length) (hq : σ.length ≤ q) (ho : ∀ o,o < σ.length → aj s' o = aj s o) (hl : s.length ≤ s'.length) (hn : n = M.length)
  (hm : aj s' q = some ⟨11,M.map Lk.cells⟩) : VA σ s' (.bC q 0 n) M :=
 ⟨.inr ⟨q,hq,by rw [hn],hm⟩,fun o h=>(ho o h).trans (h2 o h),by omega⟩
theorem Q7 {T : Tb} (h : uX T) {σ : Store} {l : List Lk} {v : Int} (hl : l.length ≤ 1048576) : ∃ r σ',Run T (.fn 241 [bf l,iv v] σ) (.fn r σ') ∧ VA σ σ' r (l.filter (Yn v)):=by
 rw [← aeH]
 refine run_end nR h.hT ?_
 simp only [nJ,Lz,St.enter,List.length_cons,List.length_nil,Nat.zero_add]
 refine ew ?_
 refine aQ (fun _ _=>false) (α:=Nat × Store × V) (fun q=>⟨bM [.any,iv v,.any,.any,.ak,q.2.2,.any,.any,.any,bf l,iv (l.length : Nat),iv (q.1 : Nat)],q.2.1,σ.length,0,[],[]⟩) (fun q=>q.1 ≤ l.length ∧ VA σ q.2.1 q.2.2 (wo l v q.1)) (fun q=>l.length - q.1) rfl (0,σ ++ [none],.ak) ?_ ?_ ?_
 ·exact ⟨by omega,.inl ⟨rfl,aow l v⟩,fun o ho=>aO ho,by simp⟩
 ·(refine aI ?_;exact wI)
 ·rintro ⟨i,s,r⟩ ⟨hi,hL,hso,hsl⟩
  dsimp only at hi hL hso hsl
  have hx : (wo l v i).length ≤ 1048576:=by have:=aeI l v i;omega
  by_cases hc : (i : Int) < (l.length : Nat)
  ·have hil : i < l.length:=by omega
   have es:=aox l v hil
   generalize wo l v i = M at *
   obtain ⟨M',e'⟩ : ∃ M',M' = wo l v (i + 1):=⟨_,rfl⟩
   rw [← e'] at es
   unfold Yn at es
   obtain ⟨y,hy⟩ : ∃ y,l.getD i default = y:=⟨_,rfl⟩
   rw [hy] at es
   by_cases ha : y.a = v
   ·rw [decide_eq_false (by simp [ha]),Bool.false_and,if_neg (by simp),List.append_nil] at es
    subst es
    refine yF @hc @mg @hy @ha ?_
    exact ⟨(i + 1,s ++ [some ⟨11,[y.cells]⟩],r),by dsimp only;omega,⟨by dsimp only;omega,by dsimp only;rw [← e'];exact VA.snoc ⟨hL,hso,hsl⟩⟩,by (refine aI ?_;exact wI)⟩
   ·by_cases hb : y.b = v
    ·rw [decide_eq_false (by simp [hb] : ¬ y.b ≠ v),Bool.and_false,if_neg (by simp),List.append_nil] at es
     subst es
     refine vJ @hc @mg @hy @ha @hb ?_
     exact ⟨(i + 1,s ++ [some ⟨11,[y.cells]⟩],r),by dsimp only;omega,⟨by dsimp only;omega,by dsimp only;rw [← e'];exact VA.snoc ⟨hL,hso,hsl⟩⟩,by (refine aI ?_;exact wI)⟩
    ·rw [decide_eq_true ha,decide_eq_true hb,if_pos (by rfl)] at es
     subst es
     rcases hL with ⟨rfl,rfl⟩ | ⟨p,hp,rfl,hm⟩
     ·refine vJ @hc @mg @hy @ha @hb ?_
      refine ⟨by omega,(i + 1,?st,.bC (s.length + 1 + 1) 0 1),by dsimp only;omega,⟨by dsimp only;omega,?lt⟩,?ft⟩
      case ft=>(refine aI ?_;exact wI)
      case lt =>
       dsimp only
       rw [← e']
       refine VA.new (s:=s) hso hsl (by omega) (fun o ho=>?_) ?_ rfl ?_
       ·exact xO
       ·simp
       ·simp (disch:=first | omega | (simp only [List.length_append,List.length_set,List.length_cons,List.length_nil];omega)) only [EU]
        rfl
     ·have hpl:=aJ hm
      refine xQ @hc @mg @hy @ha @hb @hm ?_
      refine ⟨⟨by omega,by omega⟩,(i + 1,?ss,.bC (s.length + 1 + 1) 0 (M.length + 1)),by dsimp only;omega,⟨by dsimp only;omega,?ll⟩,?ff⟩
      case ff=>(refine aI ?_;exact wI)
      case ll =>
       dsimp only
       rw [← e']
       refine VA.new (s:=s) hso hsl (by omega) (fun o ho=>?_) ?_ (by simp) ?_
       ·have hop : o ≠ p:=by omega
        exact xO
       ·simp;omega
       ·simp (disch:=first | omega | (simp only [List.length_append,List.length_set,List.length_cons,List.length_nil];omega)) only [EU];simp
  ·have hie : i = l.length:=by omega
   subst hie
   refine CJ @hc ?_
   exact ⟨hL,hso,hsl⟩
theorem Oy {T : Tb} (h : uV T) {σ : Store} {l : List Lk} {v : Int} (hb : bU l = true) (hw : Hl Lk.wf l) (hz : Aq Lk.sz l ≤ 1048576) : ∃ r σ',Run T (.fn 227 [bf l,iv v] σ) (.fn r σ') ∧ VA σ σ' r (l.filter (Yn v)):=by
 have hl : l.length ≤ 1048576:=by have:=rD Lk.sz l;omega
 have ci:=wF h.gy hw
 rw [hb] at ci
 clear hb
 rw [← aeH]
 refine run_end nR h.hT ?_
 simp only [nI,Lz,St.enter,List.length_cons,List.length_nil,Nat.zero_add]
 refine ew ?_
 refine ah ci ?_
 refine ew ?_
 refine aQ (fun _ _=>false) (α:=Nat × Store × V) (fun q=>⟨bM [.any,iv v,.any,.any,.ak,q.2.2,.any,.any,.any,.any,.any,.any,bf l,iv (l.length : Nat),iv (q.1 : Nat)],q.2.1,σ.length,0,[],[]⟩) (fun q=>q.1 ≤ l.length ∧ VA σ q.2.1 q.2.2 (wo l v q.1)) (fun q=>l.length - q.1) rfl (0,σ ++ [none],.ak) ?_ ?_ ?_
 ·exact ⟨by omega,.inl ⟨rfl,aow l v⟩,fun o ho=>aO ho,by simp⟩
 ·(refine aI ?_;exact wI)
 ·rintro ⟨i,s,r⟩ ⟨hi,hL,hso,hsl⟩
  dsimp only at hi hL hso hsl
  have hx : (wo l v i).length ≤ 1048576:=by have:=aeI l v i;omega
  by_cases hc : (i : Int) < (l.length : Nat)
  ·have hil : i < l.length:=by omega
   have es:=aox l v hil
   generalize wo l v i = M at *
   obtain ⟨M',e'⟩ : ∃ M',M' = wo l v (i + 1):=⟨_,rfl⟩
   rw [← e'] at es
   unfold Yn at es
   have hys:=EZ (f:=Lk.sz) hz (getD_mem hil)
   obtain ⟨y,hy⟩ : ∃ y,l.getD i default = y:=⟨_,rfl⟩
   rw [hy] at es hys
   have cc:=BM h.iy hys
   by_cases ha : y.a = v
   ·rw [decide_eq_false (by simp [ha]),Bool.false_and,if_neg (by simp),List.append_nil] at es
    subst es
    refine yF @hc @mg @hy @ha ?_
    exact ⟨(i + 1,s ++ [some ⟨11,[y.cells]⟩],r),by dsimp only;omega,⟨by dsimp only;omega,by dsimp only;rw [← e'];exact VA.snoc ⟨hL,hso,hsl⟩⟩,by (refine aI ?_;exact wI)⟩
   ·by_cases hb : y.b = v
    ·rw [decide_eq_false (by simp [hb] : ¬ y.b ≠ v),Bool.and_false,if_neg (by simp),List.append_nil] at es
     subst es
     refine vJ @hc @mg @hy @ha @hb ?_
     exact ⟨(i + 1,s ++ [some ⟨11,[y.cells]⟩],r),by dsimp only;omega,⟨by dsimp only;omega,by dsimp only;rw [← e'];exact VA.snoc ⟨hL,hso,hsl⟩⟩,by (refine aI ?_;exact wI)⟩
    ·rw [decide_eq_true ha,decide_eq_true hb,if_pos (by rfl)] at es
     subst es
     rcases hL with ⟨rfl,rfl⟩ | ⟨p,hp,rfl,hm⟩
     ·refine vJ @hc @mg @hy @ha @hb ?_
      refine ah cc ?_
      refine ew ?_
      refine ⟨by omega,(i + 1,?st,.bC (s.length + 1 + 1) 0 1),by dsimp only;omega,⟨by dsimp only;omega,?lt⟩,?ft⟩
      case ft=>(refine aI ?_;exact wI)
      case lt =>
       dsimp only
       rw [← e']
       refine VA.new (s:=s) hso hsl (by omega) (fun o ho=>?_) ?_ rfl ?_
       ·exact xO
       ·simp
       ·simp (disch:=first | omega | (simp only [List.length_append,List.length_set,List.length_cons,List.length_nil];omega)) only [EU]
        rfl
     ·have hpl:=aJ hm
      refine xQ @hc @mg @hy @ha @hb @hm ?_
      refine ah cc ?_
      refine CJ @hm ?_
      refine ⟨⟨by omega,by omega⟩,(i + 1,?ss,.bC (s.length + 1 + 1) 0 (M.length + 1)),by dsimp only;omega,⟨by dsimp only;omega,?ll⟩,?ff⟩
      case ff=>(refine aI ?_;exact wI)
      case ll =>
       dsimp only
       rw [← e']
       refine VA.new (s:=s) hso hsl (by omega) (fun o ho=>?_) ?_ (by simp) ?_
       ·have hop : o ≠ p:=by omega
        exact xO
       ·simp;omega
       ·simp (disch:=first | omega | (simp only [List.length_append,List.length_set,List.length_cons,List.length_nil];omega)) only [EU];simp
  ·have hie : i = l.length:=by omega
   subst hie
   refine CJ @hc ?_
   exact ⟨hL,hso,hsl⟩
theorem ah5 {n : Nat} {f : Nat → Option Nat} {rows : List (List V)} (h : dO rows) : iH f ⟨n,rows⟩ = ⟨n,rows⟩:=by
 unfold iH
 congr 1
 have : ∀ r ∈ rows,r.map (aY f) = r:=fun r hr=>by
  conv=>rhs;rw [← List.map_id r]
  apply List.map_congr_left
  intro v hv
  exact QN (h r hr v hv)
 conv=>rhs;rw [← List.map_id rows]
 apply List.map_congr_left
 intro r hr
 exact this r hr
theorem X8 {T : Tb} {f : Nat} {as : List Src} {dst : Option Nat} {env : Nat → V} {σ : Store} {kp bs : Nat} {rs ms : List Nat} {k : St → Prop} {as' : List V} {M : List Lk}
  (h : ∃ r s1,Run T (.fn f as' []) (.fn r s1) ∧ VA [] s1 r M) (ha : EC env σ as (· = as')) (hr : dh env σ as = []) (hk : ∀ r σ2,VA σ σ2 r M → k ⟨dV env dst r,σ2,kp,bs,rs,ms⟩) : Jz T f as dst ⟨env,σ,kp,bs,rs,ms⟩ k:=by
 obtain ⟨r,s1,h,hL,_,_⟩:=h
 refine Nq h ha hr (hk _ _ ⟨?_,fun o ho=>by rw [iM,if_pos ho],by unfold ru;simp⟩)
 rcases hL with ⟨rfl,rfl⟩ | ⟨p,_,rfl,hm⟩
 ·exact .inl ⟨rfl,rfl⟩
 ·refine .inr ⟨σ.length + p,by omega,rfl,?_⟩
  rw [iM,if_neg (by omega),show σ.length + p - σ.length = p by omega,hm]
  show some (iH _ _) = _
  rw [ah5 (vw M)]
theorem VB {σ : Store} {c : Cd} {jv : List Lk} {je : R} {t : V} (jz : bQ t (.eF [Hg c,bf jv,aU je,.bool true])) : dJ (resolve σ FD (jH [.agg c.cells,bf jv,.agg je.cells,.bool true])) (bQ t):=by
 have e1 : resolve σ 11 (.agg c.cells) = some (Hg c):=by
  show (c.cells.mapM (resolve σ (9 + 1))).map _ = _
  rw [pU (NS [c] _ (by simp))];rfl
 have e2 : resolve σ 11 (bf jv) = some (bf jv):=rfl
 have e3:=aeT σ je
 show dJ (Option.map V.eF (List.mapM (resolve σ 11) [.agg c.cells,bf jv,.agg je.cells,.bool true])) (bQ t)
 rw [List.mapM_cons,e1,List.mapM_cons,e2,List.mapM_cons,e3]
 exact jz
def kY : Fn:=⟨2,42,[.cell 4 5 true,.tmp 5,.cell 6 3 true,.tmp 7],(.seq (rf 2 [oN 4 (.alloc Ku),oK 5 2 mN,oK 6 1 (.alloc kK),oK 7 2 mF]) (.seq (rf 1 [oK 15 1 (oV 0),oK 16 1 (oV 1),oK 17 1 (cl 389 [15,16]),oK 14 1 (oV 17),oK 18 1 (ex 0 14),oK 19 1 (ex 1 14),oK 20 1 (ex 2 14),oN 8 (.alloc Ku),⟨none,none,1,.store 5 (.t 8) (.t 18),[]⟩,oK 9 1 (oV 19),oK 10 1 (oV 20)]) (.seq (sr [oW 21 10,oN 22 (nt 21)] (cd 22 (sr [oN 23 (.build Ku []),oN 24 (.build kK []),oS (.store 5 (.t 4) (.t 23)),oN 5 mN,oS (.store 3 (.t 6) (.t 24)),oN 7 mF] .ret) .skip)) (.seq (rf 2 [oK 26 2 (oV 0),oK 27 2 (oV 1),oK 28 2 (cl 227 [26,27]),oK 29 2 (oV 9),oN 30 (.app 11 184 (.t 28) (.t 29)),oK 31 2 (cl 179 [30]),oK 25 2 (oV 31),oK 32 2 (ex 0 25),oK 33 2 (ex 1 25),oK 34 2 (ex 2 25),oK 12 1 (.alloc kK),oK 11 2 (oV 32),⟨none,none,2,.store 3 (.t 12) (.t 33),[]⟩,oK 13 2 (oV 34)]) (.seq (sr [oW 35 13,oN 36 (nt 35)] (cd 36 (sr [oN 37 (.build Ku []),oN 38 (.build kK []),oS (.store 5 (.t 4) (.t 37)),oN 5 mN,oS (.store 3 (.t 6) (.t 38)),oN 7 mF] .ret) .skip)) (.seq (rt 0 [oN 39 (lT 5 8),oW 40 11,oN 41 (lT 3 12),⟨none,none,0,.store 5 (.t 4) (.t 39),[0,0]⟩,oA 5 0 (oV 40) [1,3,0,1,3],⟨none,none,0,.store 3 (.t 6) (.t 41),[2,4,0,1,2,3,4]⟩,oA 7 0 mT [5,0,1,2,3,4,5]]) .ret))))))⟩
structure xA (T : Tb) : Prop where
 hT : T 392 = some kY
 Nv : yK T
 Ko : uV T
 Iz : qB T
def kZ : Fn:=⟨2,41,[.cell 4 5 true,.tmp 5,.cell 6 3 true,.tmp 7],(.seq (rf 2 [oN 4 (.alloc Ku),oK 5 2 mN,oK 6 1 (.alloc kK),oK 7 2 mF]) (.seq (rf 1 [oK 14 1 (oV 0),oK 15 1 (oV 1),oK 16 1 (cl 182 [14,15]),oK 13 1 (oV 16),oK 17 1 (ex 0 13),oK 18 1 (ex 1 13),oK 19 1 (ex 2 13),oN 8 (.alloc Ku),⟨none,none,1,.store 5 (.t 8) (.t 17),[]⟩,oK 9 1 (oV 18),oK 10 1 (oV 19)]) (.seq (sr [oW 20 10,oN 21 (nt 20)] (cd 21 (sr [oN 22 (.build Ku []),oN 23 (.build kK []),oS (.store 5 (.t 4) (.t 22)),oN 5 mN,oS (.store 3 (.t 6) (.t 23)),oN 7 mF] .ret) .skip)) (.seq (rf 2 [oK 25 2 (oV 0),oK 26 2 (oV 1),oK 27 2 (cl 241 [25,26]),oK 28 2 (oV 9),oN 29 (.app 11 184 (.t 27) (.t 28)),oK 30 2 (cl 109 [29]),oK 24 2 (oV 30),oK 31 2 (ex 0 24),oK 32 2 (ex 1 24),oK 33 2 (ex 2 24),oK 12 1 (.alloc kK),oK 11 2 (oV 31),⟨none,none,2,.store 3 (.t 12) (.t 32),[]⟩,oK 10 2 (oV 33)]) (.seq (sr [oW 34 10,oN 35 (nt 34)] (cd 35 (sr [oN 36 (.build Ku []),oN 37 (.build kK []),oS (.store 5 (.t 4) (.t 36)),oN 5 mN,oS (.store 3 (.t 6) (.t 37)),oN 7 mF] .ret) .skip)) (.seq (rt 0 [oN 38 (lT 5 8),oW 39 11,oN 40 (lT 3 12),⟨none,none,0,.store 5 (.t 4) (.t 38),[0,0]⟩,oA 5 0 (oV 39) [1,3,0,1,3],⟨none,none,0,.store 3 (.t 6) (.t 40),[2,4,0,1,2,3,4]⟩,oA 7 0 mT [5,0,1,2,3,4,5]]) .ret))))))⟩
structure xB (T : Tb) : Prop where
 hT : T 274 = some kZ
 Nw : yL T
 IB : qA T
 Kq : uX T
def lC : Fn:=⟨2,34,[.cell 4 5 true,.tmp 5,.cell 6 3 true,.tmp 7],(.seq (rf 2 [oN 4 (.alloc Ku),oK 5 2 mN,oK 6 1 (.alloc kK),oK 7 2 mF]) (.seq (sr [oW 12 0,oN 13 (cl 89 [12]),oN 14 (nt 13)] (cd 14 (sr [oN 15 (.build Ku []),oN 16 (.build kK []),oS (.store 5 (.t 4) (.t 15)),oN 5 mN,oS (.store 3 (.t 6) (.t 16)),oN 7 mF] .ret) .skip)) (.seq (rf 2 [oK 18 2 (oV 0),oK 19 2 (oV 1),oK 20 2 (cl 274 [18,19]),oK 17 2 (oV 20),oK 21 2 (ex 0 17),oK 22 2 (ex 1 17),oK 23 2 (ex 2 17),oK 24 2 (ex 3 17),oN 8 (.alloc Ku),oK 10 1 (.alloc kK),⟨none,none,2,.store 5 (.t 8) (.t 21),[]⟩,oK 9 2 (oV 22),⟨none,none,2,.store 3 (.t 10) (.t 23),[]⟩,oK 11 2 (oV 24)]) (.seq (sr [oW 25 11,oN 26 (nt 25)] (cd 26 (sr [oN 27 (.build Ku []),oN 28 (.build kK []),oS (.store 5 (.t 4) (.t 27)),oN 5 mN,oS (.store 3 (.t 6) (.t 28)),oN 7 mF] .ret) .skip)) (.seq (rt 0 [oN 29 (lT 5 8),oA 30 0 (cl 183 [29]) [0],oW 31 9,oA 32 0 (cl 110 [31]) [2,1],oN 33 (lT 3 10),⟨none,none,0,.store 5 (.t 4) (.t 30),[1,3,0,1]⟩,oA 5 0 (oV 32) [3,5,0,1,2,3,5],⟨none,none,0,.store 3 (.t 6) (.t 33),[4,6,0,1,2,3,4,5,6]⟩,oA 7 0 mT [7,0,1,2,3,4,5,6,7]]) .ret)))))⟩
structure xC (T : Tb) : Prop where
 hT : T 268 = some lC
 Ny : yE T
 Nz : yI T
 Gp : nH T
 LK : xB T
def LU (S : List Lk) (v : Int) : List Lk:=S.filter (Yn v) ++ Ua S v
def O5 (S : List Lk) (v : Int) : Bool:=J6 S v && G9 (LU S v)
def bH (S : List Lk) (v : Int) : Cd:=if O5 S v = true then VK S v else ⟨0,R0,[]⟩
def GX (S : List Lk) (v : Int) : List Lk:=if O5 S v = true then Vm (LU S v) else []
def gG (S : List Lk) (v : Int) : R:=if O5 S v = true then XO (LU S v) else R0
theorem ah6 {S : List Lk} {v : Int} (h : O5 S v = true) : bH S v = VK S v ∧ GX S v = Vm (LU S v) ∧ gG S v = XO (LU S v):=by
 unfold bH GX gG;rw [h];exact ⟨rfl,rfl,rfl⟩
theorem VD {S : List Lk} {v : Int} (h : O5 S v = false) : bH S v = ⟨0,R0,[]⟩ ∧ GX S v = [] ∧ gG S v = R0:=by
 unfold bH GX gG;rw [h];exact ⟨rfl,rfl,rfl⟩
theorem ah7 {α : Type} (f : α → Nat) (l m : List α) : Aq f (l ++ m) = Aq f l + Aq f m:=by
 unfold Aq;simp;omega
theorem ak7 (S : List Lk) (v : Int) : Aq Lk.sz (LU S v) ≤ Aq Lk.sz S + 20000:=by
 unfold LU
 rw [ah7]
 have:=Zv Lk.sz (Yn v) S
 have:=(Ns S v).1.2.2
 omega
theorem afh {S : List Lk} (v : Int) (h : Hl Lk.wf S) (hl : S.length ≤ 1048576) : Hl Lk.wf (LU S v):=by
 have h1:=(Ns S v).2.2
 have h2:=List.length_filter_le (Yn v) S
 have h3:=(Ns S v).1.2.2
 have h4:=rD Lk.sz (Ua S v)
 refine ⟨by unfold LU;rw [List.length_append];omega,fun x hx=>?_⟩
 rcases List.mem_append.1 hx with hx | hx
 ·exact h.2 x (List.mem_filter.1 hx).1
 ·exact h1.2 x hx
theorem O6 : bQ (.eF [Hg ⟨0,R0,[]⟩,bf [],aU R0,.bool false]) (.eF [.agg [iv 0,.bool false,.ak,.ak,.ak],.ak,.agg [.bool false,.ak,.ak],.bool false]):=by
 simp only [bQ,oJ]
 exact ⟨_,rfl,_,_,rfl,⟨_,rfl,_,_,rfl,rfl,_,_,rfl,rfl,_,_,rfl,.inl ⟨rfl,.inl rfl⟩,_,_,rfl,.inl ⟨rfl,.inl rfl⟩,_,_,rfl,.inl ⟨rfl,.inl rfl⟩,rfl⟩,_,_,rfl,.inl ⟨rfl,.inl rfl⟩,_,_,rfl,jq,_,_,rfl,rfl,rfl⟩
theorem Sm {T : Tb} (h : xA T) {S : List Lk} {v : Int} (hw : Hl Lk.wf S) (hz : Aq Lk.sz S ≤ 1048576) : PF T 392 [bf S,iv v] (.eF [Hg (bH S v),bf (GX S v),aU (gG S v),.bool (O5 S v)]):=by
 have ce:=Nu h.Iz (v:=v) hw (by omega)
 cases hB : J6 S v
 ·obtain ⟨e1,e2,e3⟩:=VD (S:=S) (v:=v) (by unfold O5;rw [hB];rfl)
  rw [e1,e2,e3,show O5 S v = false by unfold O5;rw [hB];rfl]
  rw [hB] at ce
  refine aK nR h.hT ?_
  simp only [kY,Lz]
  refine ev ?_
  refine ah ce ?_
  refine ev ?_
  exact O6
 ·have hok : bU S = true:=by
   unfold J6 at hB
   simp only [Bool.and_eq_true] at hB
   exact hB.1.1.1
  have hl : S.length ≤ 100:=Fe hok
  have zL:=ak7 S v
  have hzS:=Vp (s:=S) (fun x hx=>Gi ((vK.1 hok).1 x hx)) (by omega)
  have cj:=Vr h.Nv (l:=LU S v) (afh v hw (by omega)) (by omega)
  rw [hB] at ce
  have m1 : (S.filter (Yn v)).length ≤ 1000000:=Nat.le_trans (List.length_filter_le _ _) (by omega)
  have m2 : (Ua S v).length ≤ 20000:=by have:=(Ns S v).1.2.2;have:=rD Lk.sz (Ua S v);omega
  have m3 : (LU S v).length ≤ 1048576:=by have:=rD Lk.sz (LU S v);omega
  have hD : O5 S v = G9 (LU S v):=by unfold O5;rw [hB];rfl
  have hT:=@ah6 S v
  have hF:=@VD S v
  rw [hD] at hT hF ⊢
  have hR : LU S v = S.filter (Yn v) ++ Ua S v:=rfl
  have cr:=Oy h.Ko (v:=v) (σ:=[]) hok hw (by omega)
  clear hok hw hz hl hD hB zL hzS
  generalize VK S v = c at *
  generalize LU S v = L at *
  generalize Ua S v = M at *
  generalize S.filter (Yn v) = F at *
  refine aK (fun x d=>(x == 227 && d == 28)) h.hT ?_
  simp only [kY,Lz]
  refine ew ?_
  refine ah ce ?_
  refine ew ?_
  refine X8 cr (by (refine ew ?_;try with_reducible exact True.intro)) (by (refine ew ?_;try with_reducible exact True.intro)) ?_
  intro r s1 ⟨hL,hso,hsl⟩
  simp only [List.length_cons,List.length_nil] at hso hsl hL
  have h0:=(hso 0 (by omega)).trans rfl
  have h1:=(hso 1 (by omega)).trans rfl
  have h2:=(hso 2 (by omega)).trans rfl
  have hst:=vw M
  have hFM : F.map Lk.cells ++ M.map Lk.cells = L.map Lk.cells:=by rw [hR,List.map_append]
  have hLn : F.length + M.length = L.length:=by rw [hR,List.length_append]
  have jz : bQ (.eF [Hg (bH S v),bf (GX S v),aU (gG S v),.bool (G9 L)]) (if G9 L = true then .eF [Hg c,bf (Vm L),aU (XO L),.bool true] else .eF [.agg [iv 0,.bool false,.ak,.ak,.ak],.ak,.agg [.bool false,.ak,.ak],.bool false]):=by
   cases hJ : G9 L
   ·obtain ⟨e1,e2,e3⟩:=hF hJ
    rw [e1,e2,e3]
    exact O6
   ·obtain ⟨e1,e2,e3⟩:=hT hJ
    rw [e1,e2,e3]
    exact aC _
  clear hT hF
  generalize bH S v = rc at *
  generalize GX S v = rm at *
  generalize gG S v = re at *
  generalize Vm L = jv at *
  generalize XO L = je at *
  generalize G9 L = jo at *
  rcases hL with ⟨rfl,rfl⟩ | ⟨p,hp,rfl,hm⟩
  ·have hL0 : L = M:=hR
   refine CO @h0 @h1 @h2 ?_
   refine ⟨fun hM=>?_,fun hM=>⟨⟨by omega,by omega⟩,?_⟩⟩
   ·rw [hL0,List.map_eq_nil_iff.1 hM] at cj
    refine agI cj ⟨_,_,rfl,of_eq_true (gZ 11),rfl⟩ ?_
    cases jo
    ·refine CO @h0 @h1 @h2 ?_
     exact jz
    ·refine CO @h0 @h1 @h2 ?_
     exact ⟨qp (L':=5) hsl (by unfold jl;rfl),VB jz⟩
   ·rw [show bf L = .sl 11 (M.map Lk.cells) by rw [hL0]] at cj
    refine ah cj ?_
    cases jo
    ·refine CO @h0 @h1 @h2 ?_
     exact jz
    ·refine CO @h0 @h1 @h2 ?_
     exact ⟨qp (L':=5) hsl (by unfold jl;rfl),VB jz⟩
  ·refine yF @h0 @h1 @h2 @hm ?_
   refine ⟨fun hM=>?_,fun hM=>⟨⟨by omega,by omega⟩,?_⟩⟩
   ·rw [show bf L = .sl 11 (F.map Lk.cells) by rw [hR,List.map_eq_nil_iff.1 hM,List.append_nil]] at cj
    refine ah cj ?_
    cases jo
    ·refine yF @h0 @h1 @h2 @hm ?_
     exact jz
    ·refine yF @h0 @h1 @h2 @hm ?_
     exact ⟨qp (L':=5) hsl (by unfold jl;rfl),VB jz⟩
   ·refine sK @hFM @hLn ?_
    refine ah cj ?_
    cases jo
    ·refine xQ @h0 @h1 @h2 @hm @hFM @hLn ?_
     exact jz
    ·refine xQ @h0 @h1 @h2 @hm @hFM @hLn ?_
     exact ⟨qp (L':=5) hsl (by unfold jl;rfl),VB jz⟩
end Go.Ml
end
