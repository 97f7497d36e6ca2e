/- A small language for the functions of this claim, its soundness, contracts. -/
import Derived.Test.YtbccjdlcbhknoabGreatPart4
set_option linter.unusedSimpArgs false
set_option linter.unusedVariables false
set_option maxRecDepth 100000
set_option maxHeartbeats 16000000
section
namespace Go.Ml
def qP : Nat → V → Prop
 | 0,_=>False
 | n + 1,.sl _ rows=>∀ r ∈ rows,∀ c ∈ r,qP n c
 | n + 1,.agg cs=>∀ c ∈ cs,qP n c
 | n + 1,.eu cs=>∀ c ∈ cs,qP n c
 | _ + 1,.fB _ _=>False
 | _ + 1,_=>True
theorem qP.le : ∀ {n : Nat} {v : V},qP n v → fC n v
 | 0,_,h=>h
 |
  n + 1,v,h=>by
  cases v with
  | sl k rows=>simp only [qP,fC] at h ⊢;exact fun r hr c hc=>(h r hr c hc).le
  | agg cs=>simp only [qP,fC] at h ⊢;exact fun c hc=>(h c hc).le
  | eu cs=>simp only [qP,fC] at h ⊢;exact fun c hc=>(h c hc).le
  | _=>simp [fC]
theorem Wj (n : Nat) (q : IntKind) (k : Int) : qP (n + 1) (.int q k):=by simp [qP]
theorem Ak (n : Nat) (b : Bool) : qP (n + 1) (.bool b):=by simp [qP]
theorem lV (n : Nat) (l : List Int) : qP (n + 2) (ints l):=by
 simp only [qP]
 intro r hr c hc
 simp only [aN,List.mem_map] at hr
 obtain ⟨x,_,rfl⟩:=hr
 simp only [List.mem_cons,List.not_mem_nil,or_false] at hc
 subst hc;simp [qP]
theorem agh {n : Nat} {cs : List V} (h : ∀ c ∈ cs,qP n c) : qP (n + 1) (.agg cs):=by simpa only [qP] using h
theorem agi (n : Nat) (x : R) : qP (n + 3) (aU x):=by
 refine agh ?_
 simp only [List.forall_mem_cons];exact ⟨Ak _ _,lV _ _,lV _ _,by simp⟩
theorem agj (n : Nat) (l : List Lk) : qP (n + 3) (bf l):=by
 simp only [qP]
 intro r hr c hc
 obtain ⟨x,_,rfl⟩:=List.mem_map.1 hr
 revert c
 simp only [List.forall_mem_cons];exact ⟨Wj _ _ _,Wj _ _ _,Ak _ _,lV _ _,lV _ _,Ak _ _,lV _ _,lV _ _,Ak _ _,lV _ _,lV _ _,by simp⟩
theorem abP {σ : Store} : ∀ (n : Nat) {v t : V},resolve σ (n + 1) v = some t → qP n t → resolve σ n v = some t
 | 0,v,t,_,hd=>by simp [qP] at hd
 |
  n + 1,v,t,h,hd=>by
  have ih:=@abP σ n
  have hl : ∀ (l l' : List V),l.mapM (resolve σ (n + 1)) = some l' → (∀ c ∈ l',qP n c) → l.mapM (resolve σ n) = some l':=by
   intro l
   induction l with
   | nil=>intro l' h _;exact h
   |
    cons x l ihl =>
    intro l' h hd
    rw [List.mapM_cons] at h ⊢
    cases hx : resolve σ (n + 1) x with
    | none=>rw [hx] at h;cases h
    |
     some y =>
     rw [hx] at h
     cases hl : l.mapM (resolve σ (n + 1)) with
     | none=>rw [hl] at h;cases h
     |
      some ys =>
      rw [hl] at h
      cases h
      rw [ih hx (hd y (by simp)),ihl ys hl fun c hc=>hd c (by simp [hc])]
      rfl
  have hr : ∀ (l : List (List V)) (l' : List (List V)),(l.mapM fun (r : List V)=>r.mapM (resolve σ (n + 1))) = some l' → (∀ r ∈ l',∀ c ∈ r,qP n c) → (l.mapM fun (r : List V)=>r.mapM (resolve σ n)) = some l':=by
   intro l
   induction l with
   | nil=>intro l' h _;exact h
   |
    cons x l ihl =>
    intro l' h hd
    rw [List.mapM_cons] at h ⊢
    cases hx : x.mapM (resolve σ (n + 1)) with
    | none=>rw [hx] at h;cases h
    |
     some y =>
     rw [hx] at h
     cases hl' : l.mapM fun (r : List V)=>r.mapM (resolve σ (n + 1)) with
     | none=>rw [hl'] at h;cases h
     |
      some ys =>
      rw [hl'] at h
      cases h
      rw [hl x y hx (hd y (by simp)),ihl ys hl' fun c hc=>hd c (by simp [hc])]
      rfl
  cases v with
  |
   bC o s l =>
   simp only [resolve] at h ⊢
   cases ho : aj σ o with
   | none=>rw [ho] at h;cases h
   |
    some ob =>
    rw [ho] at h
    dsimp only at h ⊢
    split at h
    ·rename_i hle
     rw [if_pos hle]
     obtain ⟨rows,h1,rfl⟩:=Option.map_eq_some_iff.1 h
     rw [hr _ _ h1 (by simpa only [qP] using hd)]
     rfl
    ·cases h
  |
   ptr o r off =>
   simp only [resolve] at h ⊢
   cases ho : aj σ o with
   | none=>rw [ho] at h;cases h
   |
    some ob =>
    rw [ho] at h
    dsimp only at h ⊢
    cases hro : ob.rows[r]? with
    | none=>rw [hro] at h;cases h
    |
     some row =>
     rw [hro] at h
     dsimp only at h ⊢
     obtain ⟨rows,h1,rfl⟩:=Option.map_eq_some_iff.1 h
     simp [qP] at hd
  |
   agg cs =>
   simp only [resolve] at h ⊢
   obtain ⟨rows,h1,rfl⟩:=Option.map_eq_some_iff.1 h
   rw [hl _ _ h1 (by simpa only [qP] using hd)]
   rfl
  |
   eu cs =>
   simp only [resolve] at h ⊢
   obtain ⟨rows,h1,rfl⟩:=Option.map_eq_some_iff.1 h
   rw [hl _ _ h1 (by simpa only [qP] using hd)]
   rfl
  | _=>simpa only [resolve] using h
theorem abQ {σ : Store} : ∀ {ts : List (Bool × V)} {vs : List V} {os : List Nat},Pm σ vs ts os → (∀ p ∈ ts,qP 11 p.2) → vs.mapM (resolve σ 11) = some (ts.map (·.2))
 |
  [],vs,os,h,_=>by
  simp only [Pm] at h
  obtain ⟨rfl,rfl⟩:=h
  rfl
 |
  (b,t) :: ts,vs,os,h,hd=>by
  simp only [Pm] at h
  obtain ⟨v,vs',o1,o2,rfl,rfl,h1,h2⟩:=h
  have e2:=abQ h2 fun p hp=>hd p (by simp [hp])
  have hdt : qP 11 t:=hd (b,t) (by simp)
  have e1 : resolve σ 11 v = some t:=by
   cases b with
   | true=>exact Kr 11 (by simpa using h1) hdt.le
   |
    false =>
    have h1 : resolve σ FD v = some t ∧ o1 = []:=by simpa using h1
    exact abP 11 h1.1 hdt
  rw [List.mapM_cons,e1,e2]
  rfl
theorem PX.frz {T : Tb} {f : Nat} {args : List V} {ts : List (Bool × V)} (h : PX T f args ts) (hd : ∀ p ∈ ts,qP 11 p.2) : PF T f args (.eu (ts.map (·.2))):=by
 obtain ⟨vs,σ',os,h1,h2,h3⟩:=h
 refine .frz h1 ?_
 show resolve σ' (11 + 1) _ = _
 rw [resolve,abQ h2 hd]
 rfl
def joT (l : List Lk) : List (Bool × V):=[(false,bf (VX l)),(true,aU (Yw l)),(false,.bool (Ht l))]
theorem Ep.fr {s S1 : Store} {cs ts : List V} {os : List Nat} {L : List (Nat × Obj)} (E : Ep s cs ts os L) (h1 : ∀ o,o < s.length → aj S1 o = aj s o) : Ep S1 cs ts os L :=
 ⟨E.c.frame fun o ho=>h1 o (E.c.lt o ho),fun q hq=>⟨(h1 _ (E.lt q hq)).trans (E.l q hq).1,(E.l q hq).2⟩⟩
theorem agk (sz : Nat) : EvV (.sl sz []) .ak = True:=eq_true (jJ sz)
theorem Wn {T : Tb} (h : yP T) {l : List Lk} (hw : BU Lk.wf l) (ha : l.all ji = true) (hl : l.length ≤ 1048576) : PX T 109 [bf l] (joT l):=by
 unfold joT
 refine LM (fun x d=>(x == 39 && d == 13) || (x == 131 && d == 29)) h.hT ?_
 simp only [rP,Lz,St.enter,List.length_cons,List.length_nil,Nat.zero_add]
 refine ew ?_
 refine eH (oU h.bI (n:=0)) (by (refine ew ?_;try with_reducible exact True.intro)) ?_
 intro r q1 o1 G
 obtain ⟨_,rfl,hQ1⟩:=G.ow.dA
 obtain ⟨x1,x2,rfl⟩:=hQ1.rat
 have E : Ep [some ⟨3,[[.bool false,.ak,.ak]]⟩] [] [] [] [(0,⟨3,[[.bool false,.ak,.ak]]⟩)]:=⟨QZ,by simp [aj]⟩
 have E2:=E.got (s1:=[some ⟨3,[[.bool false,.ak,.ak]]⟩] ++ [none,none]) (fun q hq=>by first | exact eY hq | (simp only [List.append_assoc];exact eY hq)) (by simp) hQ1 G.nd G.fresh G.old
 have F0:=E.free (s1:=[some ⟨3,[[.bool false,.ak,.ak]]⟩] ++ [none,none]) (p:=2) G.fresh (by simp) (by simp)
 have hq : 3 ≤ q1.length:=by simpa using G.len
 clear E G
 have E : Ep q1 [.bool (fH 0).neg,x1,x2] [.bool (fH 0).neg,ints (fH 0).mag,ints (fH 0).den] _ [(0,⟨3,[[.bool false,.ak,.ak]]⟩)]:=E2
 clear E2
 replace E:=E.FI (p:=2) (ob:=⟨3,[[.bool (fH 0).neg,x1,x2]]⟩) (L':=[(0,⟨3,[[.bool false,.ak,.ak]]⟩),(2,⟨3,[[.bool (fH 0).neg,x1,x2]]⟩)]) F0 (by omega) (by simp)
 have LF:=And.intro (E.leaf 1 rfl rfl) (E.leaf 2 rfl rfl)
 refine xX @LF @aB @aS @List.set_set.{0} ?_
 clear LF
 refine aO (fun x d=>(x == 39 && d == 13) || (x == 131 && d == 29)) (α:=Nat × Store × List Lk × R × V × V × List Nat) (fun q=>⟨bF [bf l,.any,.any,.ptr 0 0 0,.any,bf q.2.2.1,.ptr 2 0 0,.any,.any,.any,.any,.any,.any,.any,bf l,iv (l.length : Nat),iv (q.1 : Nat)],q.2.1,0,0,[],[]⟩) (fun q=>(q.1 ≤ l.length ∧ Ox l q.1 = some (q.2.2.1,q.2.2.2.1) ∧ q.2.2.2.1.ok = true) ∧ Ep q.2.1 [.bool q.2.2.2.1.neg,q.2.2.2.2.1,q.2.2.2.2.2.1] [.bool q.2.2.2.1.neg,ints q.2.2.2.1.mag,ints q.2.2.2.1.den] q.2.2.2.2.2.2 [(0,⟨3,[[.bool false,.ak,.ak]]⟩),(2,⟨3,[[.bool q.2.2.2.1.neg,q.2.2.2.2.1,q.2.2.2.2.2.1]]⟩)]) (fun q=>l.length - q.1) rfl (0,(q1.set 2 (some ⟨3,[[.bool (fH 0).neg,x1,x2]]⟩)),[],fH 0,x1,x2,[] ++ o1) ?_ ?_ ?_
 ·exact ⟨⟨by omega,rfl,show (fH 0).ok = true by decide +kernel⟩,E⟩
 ·dsimp only
  rw [show bf [] = .sl 11 [] from rfl]
  (refine aH ?_) <;> (try (refine BZ @agk ?_;try with_reducible exact True.intro)) <;> (repeat' (first | refine ⟨?_,?_⟩ | exact jI (by omega) | exact lZ (by simp) | exact jJ _))
 ·clear E
  rintro ⟨k,s,S,e,x1,x2,os⟩ ⟨⟨hk,hf,he⟩,E⟩
  dsimp only at hk hf he E
  obtain ⟨i1,i2,i3,i4⟩:=VY hf
  dsimp only at i1 i2 i3 i4
  have L0:=E.at0 (p:=0) (ob:=⟨3,[[.bool false,.ak,.ak]]⟩) (by simp)
  have L1:=E.at0 (p:=2) (ob:=⟨3,[[.bool e.neg,x1,x2]]⟩) (by simp)
  have LFx:=And.intro (E.leaf 1 rfl rfl) (E.leaf 2 rfl rfl)
  by_cases hc : (k : Int) < (l.length : Nat)
  ·have hkl : k < l.length:=by omega
   have hxw:=afR hw hkl
   have hxo : ji (l.getD k default) = true:=List.all_eq_true.1 ha _ (getD_mem hkl)
   have hs : Ox l (k + 1) = if OW S (l.getD k default) = true then some (adV S (l.getD k default),lQ e (adE S (l.getD k default))) else none:=by simp only [Ox,hf]
   have hmx : (l.map Lk.cells).getD k [] = (l.getD k default).cells:=mg hkl
   have hbad : Ox l (k + 1) = none → VW l = none:=fun h=>Oy h (by omega)
   have hbd2 : ∀ p,Ox l (k + 1) = some p → p.2.ok = false → VW l = none:=fun p h h2=>aaD h h2 (by omega)
   generalize l.getD k default = x at hs hxw hxo hmx
   have ca:=(aaA h.RI (S:=S) (l:=x) (V3 i3 i4) i1 hxo (by omega)).frz (by
    intro p hp
    simp only [adT,List.mem_cons,List.not_mem_nil,or_false] at hp
    rcases hp with rfl | rfl | rfl
    ·exact agj _ _
    ·exact agi _ _
    ·exact Ak _ _)
   have hac:=aaB S x
   obtain ⟨g1,g2,g3⟩:=PE i1 hxo
   simp only [adT,List.map_cons,List.map_nil] at ca
   rw [← g1,← g2,← g3] at ca
   clear g1 g2 g3
   generalize hS' : adV S x = S' at hs ca hac
   generalize he' : adE S x = e' at hs ca hac
   generalize ho : OW S x = ok at hs ca
   refine sJ @hc @hmx ?_
   refine ah ca ?_
   have hp2 : ¬ (s.length + 1 = s.length):=by omega
   refine yJ @L0 @L1 @LFx @aB @aS ?_
   obtain ⟨S1,hS1⟩ : ∃ S1,(List.set (s ++ [some ⟨11,[x.cells]⟩] ++ [none]) (s.length + 1) (some ⟨3,[[.bool false,.ak,.ak]]⟩)).set (s.length + 1) (some ⟨3,[e'.cells]⟩) = S1:=⟨_,rfl⟩
   have h1 : ∀ o,o < s.length → aj S1 o = aj s o:=fun o ho=>by
    rw [← hS1,aI (by omega),aI (by omega),List.append_assoc,eY ho]
   have hl1 : S1.length = s.length + 2:=by rw [← hS1];simp
   rw [hS1]
   clear hS1
   have E1:=E.fr h1
   have R:=And.intro (E1.res1 1 rfl rfl (au _ _)) (E1.res1 2 rfl rfl (au _ _))
   refine eH (Ku h.bP i2 hac.2.1) (by (refine Cb @R @aB @aS ?_;try with_reducible exact True.intro)) ?_
   intro r q2 o2 G
   have gl : s.length + 2 ≤ q2.length:=by have:=G.len;omega
   obtain ⟨_,rfl,hQ⟩:=G.ow.dA
   obtain ⟨y1,y2,rfl⟩:=hQ.rat
   have F1 : 2 ∉ o2:=fun hm=>by have h1:=G.fresh 2 hm;have:=L1.2;omega
   have E2:=E1.renew (fun q hq=>rfl) (Nat.le_refl _) hQ G.nd G.fresh G.old
   have al3:=D5 e e'
   have hbd2:=fun (hs : Ox l (k + 1) = some (S',lQ e e'))=>hbd2 (S',lQ e e') hs
   dsimp only at hbd2
   generalize lQ e e' = e2 at *
   have LF:=And.intro (E2.leaf 1 rfl rfl) (E2.leaf 2 rfl rfl)
   have M0:=E2.at0 (p:=0) (ob:=⟨3,[[.bool false,.ak,.ak]]⟩) (by simp)
   have M1:=E2.at0 (p:=2) (ob:=⟨3,[[.bool e.neg,x1,x2]]⟩) (by simp)
   refine yJ @LF @M0 @M1 @aB @aS ?_
   have E3:=E2.FI (p:=2) (ob:=⟨3,[[.bool e2.neg,y1,y2]]⟩) (L':=[(0,⟨3,[[.bool false,.ak,.ak]]⟩),(2,⟨3,[[.bool e2.neg,y1,y2]]⟩)]) F1 M1.2 (by simp)
   generalize hq3 : q2.set 2 (some ⟨3,[[.bool e2.neg,y1,y2]]⟩) = q3 at *
   have N0:=E3.at0 (p:=0) (ob:=⟨3,[[.bool false,.ak,.ak]]⟩) (by simp)
   have N1:=E3.at0 (p:=2) (ob:=⟨3,[[.bool e2.neg,y1,y2]]⟩) (by simp)
   have R3:=And.intro (E3.res1 1 rfl rfl (au _ _)) (E3.res1 2 rfl rfl (au _ _))
   cases ok
   ·obtain ⟨e1,e2,e3⟩:=Dw (hbad (by rw [hs];rfl))
    rw [e1,e2,e3]
    refine yJ @N0 @N1 @LF @aB @aS ?_
    exact .inl VQ
   ·have cg:=Je h.aP al3
    refine vW @N0 @N1 @LF @R3 @aB @aS ?_
    refine ah cg ?_
    cases hb : e2.ok
    ·obtain ⟨e1,e2,e3⟩:=Dw (hbd2 (by rw [hs];rfl) hb)
     rw [e1,e2,e3]
     refine yJ @N0 @N1 @LF @aB @aS ?_
     exact .inl VQ
    ·refine yJ @N0 @N1 @LF @aB @aS ?_
     refine ⟨(k + 1,q3,S',e2,y1,y2,o2),by dsimp only;omega,⟨⟨by dsimp only;omega,by dsimp only;rw [hs];rfl,hb⟩,E3⟩,?_⟩
     dsimp only
     (refine aH ?_;exact uT)
  ·have hie : k = l.length:=by omega
   have hg : VW l = some (S,e):=by unfold VW;rw [← hie,hf];exact if_pos he
   have e1 : VX l = S:=by unfold VX;rw [hg];rfl
   have e2 : Yw l = e:=by unfold Yw;rw [hg];rfl
   have e3 : Ht l = true:=by unfold Ht;rw [hg];rfl
   rw [e1,e2,e3]
   refine vW @hc @L0 @L1 @LFx @aB @aS ?_
   refine ⟨by unfold iW;rfl,.inl (UD rfl ?_ E.c.nd)⟩
   have n0:=(E.l (0,⟨3,[[.bool false,.ak,.ak]]⟩) (by simp)).2
   exact gQ (E.c.set (o:=0) (x:=some ⟨3,[[.bool e.neg,x1,x2]]⟩) n0).ow
def Wp (σ s : Store) (r : V) (M : List Lk) : Prop :=
 ((r = .ak ∧ M = []) ∨ ∃ p,σ.length ≤ p ∧ r = .bC p 0 M.length ∧ aj s p = some ⟨11,M.map Lk.cells⟩) ∧ (∀ o,o < σ.length → aj s o = aj σ o) ∧ σ.length ≤ s.length
theorem Wp.snoc {σ s : Store} {r : V} {M : List Lk} {x : Option Obj} (h : Wp σ s r M) : Wp σ (s ++ [x]) r M:=by
 obtain ⟨h1,h2,h3⟩:=h
 refine ⟨?_,fun o ho=>(aQ (by omega)).trans (h2 o ho),by simp;omega⟩
 rcases h1 with h1 | ⟨p,a,b,c⟩
 ·exact .inl h1
 ·exact .inr ⟨p,a,b,(aQ (aJ c)).trans c⟩
theorem Wp.new {σ s s' : Store} {M : List Lk} {q n : Nat} (h2 : ∀ o,o < σ.length → aj s o = aj σ o) (h3 : σ.length ≤ s.length) (hq : σ.length ≤ q) (ho : ∀ o,o < σ.length → aj s' o = aj s o) (hl : s.length ≤ s'.length) (hn : n = M.length)
  (hm : aj s' q = some ⟨11,M.map Lk.cells⟩) : Wp σ s' (.bC q 0 n) M :=
 ⟨.inr ⟨q,hq,by rw [hn],hm⟩,fun o h=>(ho o h).trans (h2 o h),by omega⟩
theorem RX {T : Tb} (h : vJ T) {σ : Store} {l : List Lk} {v : Int} (hl : l.length ≤ 1048576) : ∃ r σ',Run T (.fn 241 [bf l,iv v] σ) (.fn r σ') ∧ Wp σ σ' r (l.filter (Y2 v)):=by
 rw [← afI]
 refine run_end nR h.hT ?_
 simp only [nS,Lz,St.enter,List.length_cons,List.length_nil,Nat.zero_add]
 refine ew ?_
 refine aO (fun _ _=>false) (α:=Nat × Store × V) (fun q=>⟨bF [.any,iv v,.any,.any,.ak,q.2.2,.any,.any,.any,bf l,iv (l.length : Nat),iv (q.1 : Nat)],q.2.1,σ.length,0,[],[]⟩) (fun q=>q.1 ≤ l.length ∧ Wp σ q.2.1 q.2.2 (wo l v q.1)) (fun q=>l.length - q.1) rfl (0,σ ++ [none],.ak) ?_ ?_ ?_
 ·exact ⟨by omega,.inl ⟨rfl,apt l v⟩,fun o ho=>aQ ho,by simp⟩
 ·(refine aH ?_;exact uT)
 ·rintro ⟨i,s,r⟩ ⟨hi,hL,hso,hsl⟩
  dsimp only at hi hL hso hsl
  have hx : (wo l v i).length ≤ 1048576:=by have:=afJ l v i;omega
  by_cases hc : (i : Int) < (l.length : Nat)
  ·have hil : i < l.length:=by omega
   have es:=apu l v hil
   generalize wo l v i = M at *
   obtain ⟨M',e'⟩ : ∃ M',M' = wo l v (i + 1):=⟨_,rfl⟩
   rw [← e'] at es
   unfold Y2 at es
   obtain ⟨y,hy⟩ : ∃ y,l.getD i default = y:=⟨_,rfl⟩
   rw [hy] at es
   by_cases ha : y.a = v
   ·rw [decide_eq_false (by simp [ha]),Bool.false_and,if_neg (by simp),List.append_nil] at es
    subst es
    refine xX @hc @mg @hy @ha ?_
    exact ⟨(i + 1,s ++ [some ⟨11,[y.cells]⟩],r),by dsimp only;omega,⟨by dsimp only;omega,by dsimp only;rw [← e'];exact Wp.snoc ⟨hL,hso,hsl⟩⟩,by (refine aH ?_;exact uT)⟩
   ·by_cases hb : y.b = v
    ·rw [decide_eq_false (by simp [hb] : ¬ y.b ≠ v),Bool.and_false,if_neg (by simp),List.append_nil] at es
     subst es
     refine yJ @hc @mg @hy @ha @hb ?_
     exact ⟨(i + 1,s ++ [some ⟨11,[y.cells]⟩],r),by dsimp only;omega,⟨by dsimp only;omega,by dsimp only;rw [← e'];exact Wp.snoc ⟨hL,hso,hsl⟩⟩,by (refine aH ?_;exact uT)⟩
    ·rw [decide_eq_true ha,decide_eq_true hb,if_pos (by rfl)] at es
     subst es
     rcases hL with ⟨rfl,rfl⟩ | ⟨p,hp,rfl,hm⟩
     ·refine yJ @hc @mg @hy @ha @hb ?_
      refine ⟨by omega,(i + 1,?st,.bC (s.length + 1 + 1) 0 1),by dsimp only;omega,⟨by dsimp only;omega,?lt⟩,?ft⟩
      case ft=>(refine aH ?_;exact uT)
      case lt =>
       dsimp only
       rw [← e']
       refine Wp.new (s:=s) hso hsl (by omega) (fun o ho=>?_) ?_ rfl ?_
       ·exact rZ
       ·simp
       ·simp (disch:=first | omega | (simp only [List.length_append,List.length_set,List.length_cons,List.length_nil];omega)) only [DK]
        rfl
     ·have hpl:=aJ hm
      refine vW @hc @mg @hy @ha @hb @hm ?_
      refine ⟨⟨by omega,by omega⟩,(i + 1,?ss,.bC (s.length + 1 + 1) 0 (M.length + 1)),by dsimp only;omega,⟨by dsimp only;omega,?ll⟩,?ff⟩
      case ff=>(refine aH ?_;exact uT)
      case ll =>
       dsimp only
       rw [← e']
       refine Wp.new (s:=s) hso hsl (by omega) (fun o ho=>?_) ?_ (by simp) ?_
       ·have hop : o ≠ p:=by omega
        exact rZ
       ·simp;omega
       ·simp (disch:=first | omega | (simp only [List.length_append,List.length_set,List.length_cons,List.length_nil];omega)) only [DK];simp
  ·have hie : i = l.length:=by omega
   subst hie
   refine BZ @hc ?_
   exact ⟨hL,hso,hsl⟩
theorem OY {T : Tb} (h : vI T) {σ : Store} {l : List Lk} {v : Int} (hb : bg l = true) (hw : BU Lk.wf l) (hz : vY Lk.sz l ≤ 1048576) : ∃ r σ',Run T (.fn 227 [bf l,iv v] σ) (.fn r σ') ∧ Wp σ σ' r (l.filter (Y2 v)):=by
 have hl : l.length ≤ 1048576:=by have:=qw Lk.sz l;omega
 have ci:=nM h.cZ hw
 rw [hb] at ci
 clear hb
 rw [← afI]
 refine run_end nR h.hT ?_
 simp only [nP,Lz,St.enter,List.length_cons,List.length_nil,Nat.zero_add]
 refine ew ?_
 refine ah ci ?_
 refine ew ?_
 refine aO (fun _ _=>false) (α:=Nat × Store × V) (fun q=>⟨bF [.any,iv v,.any,.any,.ak,q.2.2,.any,.any,.any,.any,.any,.any,bf l,iv (l.length : Nat),iv (q.1 : Nat)],q.2.1,σ.length,0,[],[]⟩) (fun q=>q.1 ≤ l.length ∧ Wp σ q.2.1 q.2.2 (wo l v q.1)) (fun q=>l.length - q.1) rfl (0,σ ++ [none],.ak) ?_ ?_ ?_
 ·exact ⟨by omega,.inl ⟨rfl,apt l v⟩,fun o ho=>aQ ho,by simp⟩
 ·(refine aH ?_;exact uT)
 ·rintro ⟨i,s,r⟩ ⟨hi,hL,hso,hsl⟩
  dsimp only at hi hL hso hsl
  have hx : (wo l v i).length ≤ 1048576:=by have:=afJ l v i;omega
  by_cases hc : (i : Int) < (l.length : Nat)
  ·have hil : i < l.length:=by omega
   have es:=apu l v hil
   generalize wo l v i = M at *
   obtain ⟨M',e'⟩ : ∃ M',M' = wo l v (i + 1):=⟨_,rfl⟩
   rw [← e'] at es
   unfold Y2 at es
   have hys:=IJ (f:=Lk.sz) hz (getD_mem hil)
   obtain ⟨y,hy⟩ : ∃ y,l.getD i default = y:=⟨_,rfl⟩
   rw [hy] at es hys
   have cc:=Cc h.iw hys
   by_cases ha : y.a = v
   ·rw [decide_eq_false (by simp [ha]),Bool.false_and,if_neg (by simp),List.append_nil] at es
    subst es
    refine xX @hc @mg @hy @ha ?_
    exact ⟨(i + 1,s ++ [some ⟨11,[y.cells]⟩],r),by dsimp only;omega,⟨by dsimp only;omega,by dsimp only;rw [← e'];exact Wp.snoc ⟨hL,hso,hsl⟩⟩,by (refine aH ?_;exact uT)⟩
   ·by_cases hb : y.b = v
    ·rw [decide_eq_false (by simp [hb] : ¬ y.b ≠ v),Bool.and_false,if_neg (by simp),List.append_nil] at es
     subst es
     refine yJ @hc @mg @hy @ha @hb ?_
     exact ⟨(i + 1,s ++ [some ⟨11,[y.cells]⟩],r),by dsimp only;omega,⟨by dsimp only;omega,by dsimp only;rw [← e'];exact Wp.snoc ⟨hL,hso,hsl⟩⟩,by (refine aH ?_;exact uT)⟩
    ·rw [decide_eq_true ha,decide_eq_true hb,if_pos (by rfl)] at es
     subst es
     rcases hL with ⟨rfl,rfl⟩ | ⟨p,hp,rfl,hm⟩
     ·refine yJ @hc @mg @hy @ha @hb ?_
      refine ah cc ?_
      refine ew ?_
      refine ⟨by omega,(i + 1,?st,.bC (s.length + 1 + 1) 0 1),by dsimp only;omega,⟨by dsimp only;omega,?lt⟩,?ft⟩
      case ft=>(refine aH ?_;exact uT)
      case lt =>
       dsimp only
       rw [← e']
       refine Wp.new (s:=s) hso hsl (by omega) (fun o ho=>?_) ?_ rfl ?_
       ·exact rZ
       ·simp
       ·simp (disch:=first | omega | (simp only [List.length_append,List.length_set,List.length_cons,List.length_nil];omega)) only [DK]
        rfl
     ·have hpl:=aJ hm
      refine vW @hc @mg @hy @ha @hb @hm ?_
      refine ah cc ?_
      refine BZ @hm ?_
      refine ⟨⟨by omega,by omega⟩,(i + 1,?ss,.bC (s.length + 1 + 1) 0 (M.length + 1)),by dsimp only;omega,⟨by dsimp only;omega,?ll⟩,?ff⟩
      case ff=>(refine aH ?_;exact uT)
      case ll =>
       dsimp only
       rw [← e']
       refine Wp.new (s:=s) hso hsl (by omega) (fun o ho=>?_) ?_ (by simp) ?_
       ·have hop : o ≠ p:=by omega
        exact rZ
       ·simp;omega
       ·simp (disch:=first | omega | (simp only [List.length_append,List.length_set,List.length_cons,List.length_nil];omega)) only [DK];simp
  ·have hie : i = l.length:=by omega
   subst hie
   refine BZ @hc ?_
   exact ⟨hL,hso,hsl⟩
theorem ai6 {n : Nat} {f : Nat → Option Nat} {rows : List (List V)} (h : dR rows) : iI f ⟨n,rows⟩ = ⟨n,rows⟩:=by
 unfold iI
 congr 1
 have : ∀ r ∈ rows,r.map (aY f) = r:=fun r hr=>by
  conv=>rhs;rw [← List.map_id r]
  apply List.map_congr_left
  intro v hv
  exact RG (h r hr v hv)
 conv=>rhs;rw [← List.map_id rows]
 apply List.map_congr_left
 intro r hr
 exact this r hr
theorem YN {T : Tb} {f : Nat} {as : List Src} {dst : Option Nat} {env : Nat → V} {σ : Store} {kp bs : Nat} {rs ms : List Nat} {k : St → Prop} {as' : List V} {M : List Lk}
  (h : ∃ r s1,Run T (.fn f as' []) (.fn r s1) ∧ Wp [] s1 r M) (ha : E5 env σ as (· = as')) (hr : dB env σ as = []) (hk : ∀ r σ2,Wp σ σ2 r M → k ⟨dZ env dst r,σ2,kp,bs,rs,ms⟩) : JR T f as dst ⟨env,σ,kp,bs,rs,ms⟩ k:=by
 obtain ⟨r,s1,h,hL,_,_⟩:=h
 refine NU h ha hr (hk _ _ ⟨?_,fun o ho=>by rw [iO,if_pos ho],by unfold rV;simp⟩)
 rcases hL with ⟨rfl,rfl⟩ | ⟨p,_,rfl,hm⟩
 ·exact .inl ⟨rfl,rfl⟩
 ·refine .inr ⟨σ.length + p,by omega,rfl,?_⟩
  rw [iO,if_neg (by omega),show σ.length + p - σ.length = p by omega,hm]
  show some (iI _ _) = _
  rw [ai6 (vZ M)]
theorem Wq {σ : Store} {c : Cd} {jv : List Lk} {je : R} {t : V} (jz : bM t (.eu [KP c,bf jv,aU je,.bool true])) : dK (resolve σ FD (jG [.agg c.cells,bf jv,.agg je.cells,.bool true])) (bM t):=by
 have e1 : resolve σ 11 (.agg c.cells) = some (KP c):=by
  show (c.cells.mapM (resolve σ (9 + 1))).map _ = _
  rw [qo (Jz [c] _ (by simp))];rfl
 have e2 : resolve σ 11 (bf jv) = some (bf jv):=rfl
 have e3:=V4 σ je
 show dK (Option.map V.eu (List.mapM (resolve σ 11) [.agg c.cells,bf jv,.agg je.cells,.bool true])) (bM t)
 rw [List.mapM_cons,e1,List.mapM_cons,e2,List.mapM_cons,e3]
 exact jz
def kY : Fn:=⟨2,42,[.cell 4 5 true,.tmp 5,.cell 6 3 true,.tmp 7],(.seq (rf 2 [oN 4 (.alloc Lh),oK 5 2 mN,oK 6 1 (.alloc jK),oK 7 2 mF]) (.seq (rf 1 [oK 15 1 (oV 0),oK 16 1 (oV 1),oK 17 1 (cl 389 [15,16]),oK 14 1 (oV 17),oK 18 1 (ex 0 14),oK 19 1 (ex 1 14),oK 20 1 (ex 2 14),oN 8 (.alloc Lh),⟨none,none,1,.store 5 (.t 8) (.t 18),[]⟩,oK 9 1 (oV 19),oK 10 1 (oV 20)]) (.seq (sr [oW 21 10,oN 22 (nt 21)] (cd 22 (sr [oN 23 (.build Lh []),oN 24 (.build jK []),oS (.store 5 (.t 4) (.t 23)),oN 5 mN,oS (.store 3 (.t 6) (.t 24)),oN 7 mF] .ret) .skip)) (.seq (rf 2 [oK 26 2 (oV 0),oK 27 2 (oV 1),oK 28 2 (cl 227 [26,27]),oK 29 2 (oV 9),oN 30 (.app 11 184 (.t 28) (.t 29)),oK 31 2 (cl 179 [30]),oK 25 2 (oV 31),oK 32 2 (ex 0 25),oK 33 2 (ex 1 25),oK 34 2 (ex 2 25),oK 12 1 (.alloc jK),oK 11 2 (oV 32),⟨none,none,2,.store 3 (.t 12) (.t 33),[]⟩,oK 13 2 (oV 34)]) (.seq (sr [oW 35 13,oN 36 (nt 35)] (cd 36 (sr [oN 37 (.build Lh []),oN 38 (.build jK []),oS (.store 5 (.t 4) (.t 37)),oN 5 mN,oS (.store 3 (.t 6) (.t 38)),oN 7 mF] .ret) .skip)) (.seq (rt 0 [oN 39 (lT 5 8),oW 40 11,oN 41 (lT 3 12),⟨none,none,0,.store 5 (.t 4) (.t 39),[0,0]⟩,oA 5 0 (oV 40) [1,3,0,1,3],⟨none,none,0,.store 3 (.t 6) (.t 41),[2,4,0,1,2,3,4]⟩,oA 7 0 mT [5,0,1,2,3,4,5]]) .ret))))))⟩
structure xP (T : Tb) : Prop where
 hT : T 392 = some kY
 NZ : yO T
 KI : vI T
 IW : qO T
def kZ : Fn:=⟨2,41,[.cell 4 5 true,.tmp 5,.cell 6 3 true,.tmp 7],(.seq (rf 2 [oN 4 (.alloc Lh),oK 5 2 mN,oK 6 1 (.alloc jK),oK 7 2 mF]) (.seq (rf 1 [oK 14 1 (oV 0),oK 15 1 (oV 1),oK 16 1 (cl 182 [14,15]),oK 13 1 (oV 16),oK 17 1 (ex 0 13),oK 18 1 (ex 1 13),oK 19 1 (ex 2 13),oN 8 (.alloc Lh),⟨none,none,1,.store 5 (.t 8) (.t 17),[]⟩,oK 9 1 (oV 18),oK 10 1 (oV 19)]) (.seq (sr [oW 20 10,oN 21 (nt 20)] (cd 21 (sr [oN 22 (.build Lh []),oN 23 (.build jK []),oS (.store 5 (.t 4) (.t 22)),oN 5 mN,oS (.store 3 (.t 6) (.t 23)),oN 7 mF] .ret) .skip)) (.seq (rf 2 [oK 25 2 (oV 0),oK 26 2 (oV 1),oK 27 2 (cl 241 [25,26]),oK 28 2 (oV 9),oN 29 (.app 11 184 (.t 27) (.t 28)),oK 30 2 (cl 109 [29]),oK 24 2 (oV 30),oK 31 2 (ex 0 24),oK 32 2 (ex 1 24),oK 33 2 (ex 2 24),oK 12 1 (.alloc jK),oK 11 2 (oV 31),⟨none,none,2,.store 3 (.t 12) (.t 32),[]⟩,oK 10 2 (oV 33)]) (.seq (sr [oW 34 10,oN 35 (nt 34)] (cd 35 (sr [oN 36 (.build Lh []),oN 37 (.build jK []),oS (.store 5 (.t 4) (.t 36)),oN 5 mN,oS (.store 3 (.t 6) (.t 37)),oN 7 mF] .ret) .skip)) (.seq (rt 0 [oN 38 (lT 5 8),oW 39 11,oN 40 (lT 3 12),⟨none,none,0,.store 5 (.t 4) (.t 38),[0,0]⟩,oA 5 0 (oV 39) [1,3,0,1,3],⟨none,none,0,.store 3 (.t 6) (.t 40),[2,4,0,1,2,3,4]⟩,oA 7 0 mT [5,0,1,2,3,4,5]]) .ret))))))⟩
structure xQ (T : Tb) : Prop where
 hT : T 274 = some kZ
 N7 : yP T
 IX : qN T
 KJ : vJ T
def MJ (S : List Lk) (v : Int) : List Lk:=S.filter (Y2 v) ++ UJ S v
def MK (S : List Lk) (v : Int) : Bool:=KQ S v && Ht (MJ S v)
def Ws (S : List Lk) (v : Int) : Cd:=if MK S v = true then WH S v else ⟨0,R0,[]⟩
def YO (S : List Lk) (v : Int) : List Lk:=if MK S v = true then VX (MJ S v) else []
def WI (S : List Lk) (v : Int) : R:=if MK S v = true then Yw (MJ S v) else R0
theorem adn {S : List Lk} {v : Int} (h : MK S v = true) : Ws S v = WH S v ∧ YO S v = VX (MJ S v) ∧ WI S v = Yw (MJ S v):=by
 unfold Ws YO WI;rw [h];exact ⟨rfl,rfl,rfl⟩
theorem ado {S : List Lk} {v : Int} (h : MK S v = false) : Ws S v = ⟨0,R0,[]⟩ ∧ YO S v = [] ∧ WI S v = R0:=by
 unfold Ws YO WI;rw [h];exact ⟨rfl,rfl,rfl⟩
theorem ai7 {α : Type} (f : α → Nat) (l m : List α) : vY f (l ++ m) = vY f l + vY f m:=by
 unfold vY;simp;omega
theorem al4 (S : List Lk) (v : Int) : vY Lk.sz (MJ S v) ≤ vY Lk.sz S + 20000:=by
 unfold MJ
 rw [ai7]
 have:=aar Lk.sz (Y2 v) S
 have:=(NW S v).1.2.2
 omega
theorem agl {S : List Lk} (v : Int) (h : BU Lk.wf S) (hl : S.length ≤ 1048576) : BU Lk.wf (MJ S v):=by
 have h1:=(NW S v).2.2
 have h2:=List.length_filter_le (Y2 v) S
 have h3:=(NW S v).1.2.2
 have h4:=qw Lk.sz (UJ S v)
 refine ⟨by unfold MJ;rw [List.length_append];omega,fun x hx=>?_⟩
 rcases List.mem_append.1 hx with hx | hx
 ·exact h.2 x (List.mem_filter.1 hx).1
 ·exact h1.2 x hx
theorem Wu : bM (.eu [KP ⟨0,R0,[]⟩,bf [],aU R0,.bool false]) (.eu [.agg [iv 0,.bool false,.ak,.ak,.ak],.ak,.agg [.bool false,.ak,.ak],.bool false]):=by
 simp only [bM,lW]
 exact ⟨_,rfl,_,_,rfl,⟨_,rfl,_,_,rfl,rfl,_,_,rfl,rfl,_,_,rfl,.inl ⟨rfl,.inl rfl⟩,_,_,rfl,.inl ⟨rfl,.inl rfl⟩,_,_,rfl,.inl ⟨rfl,.inl rfl⟩,rfl⟩,_,_,rfl,.inl ⟨rfl,.inl rfl⟩,_,_,rfl,jf,_,_,rfl,rfl,rfl⟩
theorem TJ {T : Tb} (h : xP T) {S : List Lk} {v : Int} (hw : BU Lk.wf S) (hz : vY Lk.sz S ≤ 1048576) : PF T 392 [bf S,iv v] (.eu [KP (Ws S v),bf (YO S v),aU (WI S v),.bool (MK S v)]):=by
 have ce:=NY h.IW (v:=v) hw (by omega)
 cases hB : KQ S v
 ·obtain ⟨e1,e2,e3⟩:=ado (S:=S) (v:=v) (by unfold MK;rw [hB];rfl)
  rw [e1,e2,e3,show MK S v = false by unfold MK;rw [hB];rfl]
  rw [hB] at ce
  refine aK nR h.hT ?_
  simp only [kY,Lz]
  refine ev ?_
  refine ah ce ?_
  refine ev ?_
  exact Wu
 ·have hok : bg S = true:=by
   unfold KQ at hB
   simp only [Bool.and_eq_true] at hB
   exact hB.1.1.1
  have hl : S.length ≤ 100:=FT hok
  have zL:=al4 S v
  have hzS:=VZ (s:=S) (fun x hx=>GH ((vU.1 hok).1 x hx)) (by omega)
  have cj:=V5 h.NZ (l:=MJ S v) (agl v hw (by omega)) (by omega)
  rw [hB] at ce
  have m1 : (S.filter (Y2 v)).length ≤ 1000000:=Nat.le_trans (List.length_filter_le _ _) (by omega)
  have m2 : (UJ S v).length ≤ 20000:=by have:=(NW S v).1.2.2;have:=qw Lk.sz (UJ S v);omega
  have m3 : (MJ S v).length ≤ 1048576:=by have:=qw Lk.sz (MJ S v);omega
  have hD : MK S v = Ht (MJ S v):=by unfold MK;rw [hB];rfl
  have hT:=@adn S v
  have hF:=@ado S v
  rw [hD] at hT hF ⊢
  have hR : MJ S v = S.filter (Y2 v) ++ UJ S v:=rfl
  have cr:=OY h.KI (v:=v) (σ:=[]) hok hw (by omega)
  clear hok hw hz hl hD hB zL hzS
  generalize WH S v = c at *
  generalize MJ S v = L at *
  generalize UJ S v = M at *
  generalize S.filter (Y2 v) = F at *
  refine aK (fun x d=>(x == 227 && d == 28)) h.hT ?_
  simp only [kY,Lz]
  refine ew ?_
  refine ah ce ?_
  refine ew ?_
  refine YN cr (by (refine ew ?_;try with_reducible exact True.intro)) (by (refine ew ?_;try with_reducible exact True.intro)) ?_
  intro r s1 ⟨hL,hso,hsl⟩
  simp only [List.length_cons,List.length_nil] at hso hsl hL
  have h0:=(hso 0 (by omega)).trans rfl
  have h1:=(hso 1 (by omega)).trans rfl
  have h2:=(hso 2 (by omega)).trans rfl
  have hst:=vZ M
  have hFM : F.map Lk.cells ++ M.map Lk.cells = L.map Lk.cells:=by rw [hR,List.map_append]
  have hLn : F.length + M.length = L.length:=by rw [hR,List.length_append]
  have jz : bM (.eu [KP (Ws S v),bf (YO S v),aU (WI S v),.bool (Ht L)]) (if Ht L = true then .eu [KP c,bf (VX L),aU (Yw L),.bool true] else .eu [.agg [iv 0,.bool false,.ak,.ak,.ak],.ak,.agg [.bool false,.ak,.ak],.bool false]):=by
   cases hJ : Ht L
   ·obtain ⟨e1,e2,e3⟩:=hF hJ
    rw [e1,e2,e3]
    exact Wu
   ·obtain ⟨e1,e2,e3⟩:=hT hJ
    rw [e1,e2,e3]
    exact aC _
  clear hT hF
  generalize Ws S v = rc at *
  generalize YO S v = rm at *
  generalize WI S v = re at *
  generalize VX L = jv at *
  generalize Yw L = je at *
  generalize Ht L = jo at *
  rcases hL with ⟨rfl,rfl⟩ | ⟨p,hp,rfl,hm⟩
  ·have hL0 : L = M:=hR
   refine Cb @h0 @h1 @h2 ?_
   refine ⟨fun hM=>?_,fun hM=>⟨⟨by omega,by omega⟩,?_⟩⟩
   ·rw [hL0,List.map_eq_nil_iff.1 hM] at cj
    refine ahG cj ⟨_,_,rfl,of_eq_true (fK 11),rfl⟩ ?_
    cases jo
    ·refine Cb @h0 @h1 @h2 ?_
     exact jz
    ·refine Cb @h0 @h1 @h2 ?_
     exact ⟨kW (L':=5) hsl (by unfold iW;rfl),Wq jz⟩
   ·rw [show bf L = .sl 11 (M.map Lk.cells) by rw [hL0]] at cj
    refine ah cj ?_
    cases jo
    ·refine Cb @h0 @h1 @h2 ?_
     exact jz
    ·refine Cb @h0 @h1 @h2 ?_
     exact ⟨kW (L':=5) hsl (by unfold iW;rfl),Wq jz⟩
  ·refine xX @h0 @h1 @h2 @hm ?_
   refine ⟨fun hM=>?_,fun hM=>⟨⟨by omega,by omega⟩,?_⟩⟩
   ·rw [show bf L = .sl 11 (F.map Lk.cells) by rw [hR,List.map_eq_nil_iff.1 hM,List.append_nil]] at cj
    refine ah cj ?_
    cases jo
    ·refine xX @h0 @h1 @h2 @hm ?_
     exact jz
    ·refine xX @h0 @h1 @h2 @hm ?_
     exact ⟨kW (L':=5) hsl (by unfold iW;rfl),Wq jz⟩
   ·refine sJ @hFM @hLn ?_
    refine ah cj ?_
    cases jo
    ·refine vW @h0 @h1 @h2 @hm @hFM @hLn ?_
     exact jz
    ·refine vW @h0 @h1 @h2 @hm @hFM @hLn ?_
     exact ⟨kW (L':=5) hsl (by unfold iW;rfl),Wq jz⟩
theorem Jl {T : Tb} {f : Nat} {as : List Src} {dst : Option Nat} {env : Nat → V} {σ : Store} {kp bs : Nat} {rs ms : List Nat} {k : St → Prop} {as' : List V} {ts : List (Bool × V)} {p : Nat} (h : PX T f as' ts)
  (ha : E5 env σ as (· = as')) (hr : ∀ o,o ∈ dB env σ as → o = p) (hk : ∀ vs σ2 os S,S.length = σ.length → (∀ o,o ≠ p → aj S o = aj σ o) → acR S σ2 vs ts os → (∀ S2 : Store,(∀ o,σ.length ≤ o → aj S2 o = aj σ2 o) → Pm S2 vs ts os) → k ⟨dZ env dst (.eu vs),σ2,kp,bs,rs,ms⟩) : JR T f as dst ⟨env,σ,kp,bs,rs,ms⟩ k:=by
 obtain ⟨vs,σ',os,h1,h2,h3⟩:=h
 obtain ⟨as2,e,rfl⟩:=qR ha
 obtain ⟨R,hR,hRs⟩ : ∃ R,R = (if (dH (V.eu vs) && yj σ') = true then [] else dB env σ as) ∧ ∀ o,o ∉ dB env σ as → o ∉ R:=by
  by_cases hc : (dH (V.eu vs) && yj σ') = true
  ·exact ⟨[],by rw [if_pos hc],fun _ _=>by simp⟩
  ·exact ⟨dB env σ as,by rw [if_neg hc],fun _ h=>h⟩
 refine ⟨_,.own e h1 (R:=R) hR,?_⟩
 have key : ∀ o,aj (rV (dw σ R) σ') (σ.length + o) = (aj σ' o).map (iI (bT σ.length)):=by
  intro o
  rw [iO,CG,if_neg (by omega)]
  congr 2;omega
 have:=hk (vs.map (aY (bT σ.length))) (rV (dw σ R) σ') (os.map (σ.length + ·)) (dw σ R) (CG _ _) (fun o ho=>by rw [yB,if_neg (hRs o fun hm=>ho (hr o hm))]) ⟨h2.shift key,?_,?_,?_,?_⟩ (fun S2 hS=>h2.shift fun o=>(hS _ (by omega)).trans (key o))
 ·simpa only [aY,LJ] using this
 ·exact List.pairwise_map.2 (h3.imp fun hne e=>hne (by omega))
 ·intro o ho
  obtain ⟨q,_,rfl⟩:=List.mem_map.1 ho
  rw [CG]
  omega
 ·intro o ho
  rw [iO,if_pos ho]
 ·simp [rV]
theorem PX.auy {T : Tb} {f : Nat} {as as' : List V} {ts : List (Bool × V)} (h : PX T f as ts) (ha : lW as as') : PX T f as' ts:=by
 obtain ⟨vs,σ',os,h1,h2,h3⟩:=h
 exact ⟨vs,σ',os,.Y5 ha h1 (aC _),h2,h3⟩
def rnT (S : List Lk) (v : Int) : List (Bool × V):=[(false,KP (Ws S v)),(false,bf (YO S v)),(true,aU (WI S v)),(false,.bool (MK S v))]
theorem RY {σ : Store} : ZU σ (.eu [.agg [iv 0,.bool false,.ak,.ak,.ak],.ak,.agg [.bool false,.ak,.ak],.bool false]) [(false,KP ⟨0,R0,[]⟩),(false,bf []),(true,aU R0),(false,.bool false)]:=by
 refine ⟨[KP ⟨0,R0,[]⟩,.sl 11 [],aU R0,.bool false],[],Wu,?_,.nil⟩
 simp only [Pm,if_true,Bool.false_eq_true,if_false]
 refine ⟨_,_,[],[],rfl,rfl,⟨rfl,rfl⟩,_,_,[],[],rfl,rfl,⟨rfl,rfl⟩,_,_,[],[],rfl,rfl,?_,_,[],[],[],rfl,rfl,⟨rfl,rfl⟩,rfl,rfl⟩
 exact gQ (jC (jD (o1:=[]) gy (jD (o1:=[]) gy iq)))
theorem abR {σ : Store} {a w : V} {vs : List V} {ts : List (Bool × V)} {os : List Nat} (ha : resolve σ FD a = some w) (h : Pm σ vs ts os) (hn : os.Nodup) : ZU σ (.eu (a :: vs)) ((false,w) :: ts):=by
 refine ⟨a :: vs,os,aC _,?_,hn⟩
 unfold Pm
 exact ⟨a,vs,[],os,rfl,rfl,by simpa using ha,h⟩
theorem TK {T : Tb} (h : xQ T) {S : List Lk} {v : Int} (hok : bg S = true) (hw : BU Lk.wf S) : PX T 274 [bf S,iv v] (rnT S v):=by
 unfold rnT
 have hl : S.length ≤ 100:=FT hok
 have ce:=OX h.IX (v:=v) hok hw
 cases hB : KQ S v
 ·obtain ⟨e1,e2,e3⟩:=ado (S:=S) (v:=v) (by unfold MK;rw [hB];rfl)
  rw [e1,e2,e3,show MK S v = false by unfold MK;rw [hB];rfl]
  rw [hB] at ce
  refine LM (fun x d=>(x == 109 && d == 30) || (x == 241 && d == 27)) h.hT ?_
  simp only [kZ,Lz,St.enter,List.length_cons,List.length_nil,Nat.zero_add]
  refine ew ?_
  refine ah ce ?_
  refine ew ?_
  exact .inl RY
 ·have hB0:=hB
  rw [hB] at ce
  have m1 : (S.filter (Y2 v)).length ≤ 1000000:=Nat.le_trans (List.length_filter_le _ _) (by omega)
  have m2 : (UJ S v).length ≤ 20000:=by have:=(NW S v).1.2.2;have:=qw Lk.sz (UJ S v);omega
  have m3 : (MJ S v).length ≤ 1048576:=by unfold MJ;rw [List.length_append];omega
  have hall : (MJ S v).all ji = true:=List.all_eq_true.2 fun x hx=>by
   rcases List.mem_append.1 hx with hx | hx
   ·exact (vU.1 hok).1 x (List.mem_filter.1 hx).1
   ·rw [(afW hB).2] at hx
    unfold KQ at hB
    simp only [Bool.and_eq_true] at hB
    exact List.all_eq_true.1 hB.2 x hx
  have px:=Wn h.N7 (l:=MJ S v) (agl v hw (by omega)) hall m3
  unfold joT at px
  have hD : MK S v = Ht (MJ S v):=by unfold MK;rw [hB];rfl
  have hT:=@adn S v
  have hF:=@ado S v
  rw [hD] at hT hF ⊢
  have hR : MJ S v = S.filter (Y2 v) ++ UJ S v:=rfl
  have cr:=RX h.KJ (v:=v) (σ:=[]) (l:=S) (by omega)
  have hb : Ht (MJ S v) = false → VX (MJ S v) = [] ∧ Yw (MJ S v) = R0:=fun hh=>by
   have : VW (MJ S v) = none:=by unfold Ht at hh;cases hg : VW (MJ S v) with | none=>rfl | some p=>rw [hg] at hh;cases hh
   exact ⟨(Dw this).1,(Dw this).2.1⟩
  have hcs : ∀ σ : Store,resolve σ FD (KP (WH S v)) = some (KP (WH S v)):=fun σ=>zZ (Jz [WH S v] _ (by simp))
  clear hok hw hl hD hB hB0 hall
  generalize WH S v = c at *
  generalize MJ S v = L at *
  generalize UJ S v = M at *
  generalize S.filter (Y2 v) = F at *
  generalize Ws S v = rc at *
  generalize YO S v = rm at *
  generalize WI S v = re at *
  generalize VX L = jv at *
  generalize Yw L = je at *
  generalize Ht L = jo at *
  refine LM (fun x d=>(x == 109 && d == 30) || (x == 241 && d == 27)) h.hT ?_
  simp only [kZ,Lz,St.enter,List.length_cons,List.length_nil,Nat.zero_add]
  refine ew ?_
  refine ah ce ?_
  refine ew ?_
  refine YN cr (by (refine ew ?_;try with_reducible exact True.intro)) (by (refine ew ?_;try with_reducible exact True.intro)) ?_
  intro r s1 ⟨hL,hso,hsl⟩
  simp only [List.length_cons,List.length_nil] at hso hsl hL
  have h0:=(hso 0 (by omega)).trans rfl
  have h1:=(hso 1 (by omega)).trans rfl
  have h2:=(hso 2 (by omega)).trans rfl
  rcases hL with ⟨rfl,rfl⟩ | ⟨p,hp,rfl,hm⟩
  ·have hL0 : L = M:=hR
   refine Cb @h0 @h1 @h2 ?_
   refine ⟨fun hM=>?_,fun hM=>⟨⟨by omega,by omega⟩,?_⟩⟩
   ·rw [hL0,List.map_eq_nil_iff.1 hM] at px
    refine Jl (p:=3) (px.auy (as':=[.ak]) ⟨_,_,rfl,of_eq_true (fK 11),rfl⟩) (by (refine Cb @h0 @h1 @h2 ?_;try with_reducible exact True.intro)) (fun o ho=>?_) ?_
    ·have ho : o ∈ reach s1 FD .ak:=by simpa [dB,Src.ev,upd] using ho
     have : reach s1 FD .ak = []:=rfl
     rw [this] at ho;cases ho
    intro vs q os S' hS1 hS2 g gX
    obtain ⟨w,e,z,rfl,hw1,hz1,G⟩:=g.fo
    obtain rfl:=BL hz1
    obtain ⟨_,rfl,hQ⟩:=G.ow.dA
    obtain ⟨y1,y2,rfl⟩:=hQ.rat
    have lw:=Ed hw1
    have gl:=G.len
    have k0:=(G.old 0 (by omega)).trans ((hS2 0 (by omega)).trans h0)
    have k1:=(G.old 1 (by omega)).trans ((hS2 1 (by omega)).trans h1)
    have k2:=(G.old 2 (by omega)).trans ((hS2 2 (by omega)).trans h2)
    have E : Ep q [.bool je.neg,y1,y2] [.bool je.neg,ints je.mag,ints je.den] os []:=⟨⟨hQ,G.nd⟩,by simp⟩
    have n4 : ∀ o ∈ os,5 ≤ o:=fun o ho=>by have:=G.fresh o ho;omega
    have LF:=And.intro lw (And.intro (E.leaf 1 rfl rfl) (E.leaf 2 rfl rfl))
    have gl5 : 5 ≤ q.length:=by omega
    cases jo
    ·obtain ⟨rfl,rfl,rfl⟩:=hF rfl
     refine xX @LF @k0 @k1 @k2 ?_
     exact .inl RY
    ·obtain ⟨rfl,rfl,rfl⟩:=hT rfl
     refine xX @LF @k0 @k1 @k2 ?_
     refine ⟨kW (L':=5) (by omega) (by unfold iW;rfl),.inl (abR (hcs _) (gX _ fun o ho=>?_) G.nd)⟩
     try simp only [List.length_set] at ho
     exact rZ
   ·have m3' : M.length ≤ 1048576:=by omega
    rw [show bf L = .sl 11 (M.map Lk.cells) by rw [hL0]] at px
    refine Jl (p:=3) px (by (refine Cb @h0 @h1 @h2 ?_;try with_reducible exact True.intro)) (fun o ho=>?_) ?_
    ·have ho : o ∈ reach (s1.set 3 (some ⟨11,M.map Lk.cells⟩)) FD (.bC 3 0 M.length):=by simpa [dB,Src.ev,upd] using ho
     exact yQ (bn (by omega)) (vZ M) o ho
    intro vs q os S' hS1 hS2 g gX
    obtain ⟨w,e,z,rfl,hw1,hz1,G⟩:=g.fo
    obtain rfl:=BL hz1
    obtain ⟨_,rfl,hQ⟩:=G.ow.dA
    obtain ⟨y1,y2,rfl⟩:=hQ.rat
    have lw:=Ed hw1
    simp only [List.length_set] at hS1
    have gl:=G.len
    have k0:=(G.old 0 (by omega)).trans ((hS2 0 (by omega)).trans ((aI (by omega)).trans h0))
    have k1:=(G.old 1 (by omega)).trans ((hS2 1 (by omega)).trans ((aI (by omega)).trans h1))
    have k2:=(G.old 2 (by omega)).trans ((hS2 2 (by omega)).trans ((aI (by omega)).trans h2))
    have E : Ep q [.bool je.neg,y1,y2] [.bool je.neg,ints je.mag,ints je.den] os []:=⟨⟨hQ,G.nd⟩,by simp⟩
    have n4 : ∀ o ∈ os,5 ≤ o:=fun o ho=>by have:=G.fresh o ho;omega
    have LF:=And.intro lw (And.intro (E.leaf 1 rfl rfl) (E.leaf 2 rfl rfl))
    have gl5 : 5 ≤ q.length:=by omega
    cases jo
    ·obtain ⟨rfl,rfl,rfl⟩:=hF rfl
     refine xX @LF @k0 @k1 @k2 ?_
     exact .inl RY
    ·obtain ⟨rfl,rfl,rfl⟩:=hT rfl
     refine xX @LF @k0 @k1 @k2 ?_
     refine ⟨kW (L':=5) (by omega) (by unfold iW;rfl),.inl (abR (hcs _) (gX _ fun o ho=>?_) G.nd)⟩
     try simp only [List.length_set] at ho
     exact rZ
  ·have hFM : F.map Lk.cells ++ M.map Lk.cells = L.map Lk.cells:=by rw [hR,List.map_append]
   have hLn : F.length + M.length = L.length:=by rw [hR,List.length_append]
   refine xX @h0 @h1 @h2 @hm ?_
   refine ⟨fun hM=>?_,fun hM=>⟨⟨by omega,by omega⟩,?_⟩⟩
   ·rw [show bf L = .sl 11 (F.map Lk.cells) by rw [hR,List.map_eq_nil_iff.1 hM,List.append_nil]] at px
    refine Jl (p:=p) px (by (refine xX @h0 @h1 @h2 @hm ?_;try with_reducible exact True.intro)) (fun o ho=>?_) ?_
    ·have ho : o ∈ reach s1 FD (.bC p 0 F.length):=by simpa [dB,Src.ev,upd] using ho
     exact yQ hm (vZ F) o ho
    intro vs q os S' hS1 hS2 g gX
    obtain ⟨w,e,z,rfl,hw1,hz1,G⟩:=g.fo
    obtain rfl:=BL hz1
    obtain ⟨_,rfl,hQ⟩:=G.ow.dA
    obtain ⟨y1,y2,rfl⟩:=hQ.rat
    have lw:=Ed hw1
    have gl:=G.len
    have k0:=(G.old 0 (by omega)).trans ((hS2 0 (by omega)).trans h0)
    have k1:=(G.old 1 (by omega)).trans ((hS2 1 (by omega)).trans h1)
    have k2:=(G.old 2 (by omega)).trans ((hS2 2 (by omega)).trans h2)
    have E : Ep q [.bool je.neg,y1,y2] [.bool je.neg,ints je.mag,ints je.den] os []:=⟨⟨hQ,G.nd⟩,by simp⟩
    have n4 : ∀ o ∈ os,5 ≤ o:=fun o ho=>by have:=G.fresh o ho;omega
    have LF:=And.intro lw (And.intro (E.leaf 1 rfl rfl) (E.leaf 2 rfl rfl))
    have gl5 : 5 ≤ q.length:=by omega
    cases jo
    ·obtain ⟨rfl,rfl,rfl⟩:=hF rfl
     refine xX @LF @k0 @k1 @k2 ?_
     exact .inl RY
    ·obtain ⟨rfl,rfl,rfl⟩:=hT rfl
     refine xX @LF @k0 @k1 @k2 ?_
     refine ⟨kW (L':=5) (by omega) (by unfold iW;rfl),.inl (abR (hcs _) (gX _ fun o ho=>?_) G.nd)⟩
     try simp only [List.length_set] at ho
     exact rZ
   ·rw [hFM]
    try simp only [List.length_map]
    rw [hLn]
    refine Jl (p:=3) px (by (refine xX @h0 @h1 @h2 @hm ?_;try with_reducible exact True.intro)) (fun o ho=>?_) ?_
    ·have ho : o ∈ reach ((s1.set p none).set 3 (some ⟨11,L.map Lk.cells⟩)) FD (.bC 3 0 L.length):=by simpa [dB,Src.ev,upd] using ho
     exact yQ (bn (by simp;omega)) (vZ L) o ho
    intro vs q os S' hS1 hS2 g gX
    obtain ⟨w,e,z,rfl,hw1,hz1,G⟩:=g.fo
    obtain rfl:=BL hz1
    obtain ⟨_,rfl,hQ⟩:=G.ow.dA
    obtain ⟨y1,y2,rfl⟩:=hQ.rat
    have lw:=Ed hw1
    simp only [List.length_set] at hS1
    have gl:=G.len
    have k0:=(G.old 0 (by omega)).trans ((hS2 0 (by omega)).trans ((aI (by omega)).trans ((aI (by omega)).trans h0)))
    have k1:=(G.old 1 (by omega)).trans ((hS2 1 (by omega)).trans ((aI (by omega)).trans ((aI (by omega)).trans h1)))
    have k2:=(G.old 2 (by omega)).trans ((hS2 2 (by omega)).trans ((aI (by omega)).trans ((aI (by omega)).trans h2)))
    have E : Ep q [.bool je.neg,y1,y2] [.bool je.neg,ints je.mag,ints je.den] os []:=⟨⟨hQ,G.nd⟩,by simp⟩
    have n4 : ∀ o ∈ os,5 ≤ o:=fun o ho=>by have:=G.fresh o ho;omega
    have LF:=And.intro lw (And.intro (E.leaf 1 rfl rfl) (E.leaf 2 rfl rfl))
    have gl5 : 5 ≤ q.length:=by omega
    cases jo
    ·obtain ⟨rfl,rfl,rfl⟩:=hF rfl
     refine xX @LF @k0 @k1 @k2 ?_
     exact .inl RY
    ·obtain ⟨rfl,rfl,rfl⟩:=hT rfl
     refine xX @LF @k0 @k1 @k2 ?_
     refine ⟨kW (L':=5) (by omega) (by unfold iW;rfl),.inl (abR (hcs _) (gX _ fun o ho=>?_) G.nd)⟩
     try simp only [List.length_set] at ho
     exact rZ
theorem agm {S : List Lk} {v : Int} (h : MK S v = true) : apD (Ws S v) (UJ S v):=by
 have h1 : KQ S v = true:=by unfold MK at h;simp only [Bool.and_eq_true] at h;exact h.1
 rw [(adn h).1]
 exact ajL h1
theorem aaL (S : List Lk) (v : Int) : ((Ws S v).sz ≤ 40000 ∧ (Ws S v).ps.length ≤ 10 ∧ vY Lk.sz (YO S v) ≤ 20000 ∧ (WI S v).sz ≤ 1000) ∧ (Ws S v).wf ∧ BU Lk.wf (YO S v) ∧ (WI S v).wf:=by
 have hcn:=aaE (l:=MJ S v)
 have he:=NW S v
 cases hB : MK S v
 ·obtain ⟨e1,e2,e3⟩:=ado hB
  rw [e1,e2,e3]
  exact ⟨⟨by decide,by decide,by decide,by decide⟩,⟨⟨by decide,by decide⟩,by decide,by simp⟩,⟨by decide,by simp⟩,by decide,by decide⟩
 ·obtain ⟨e1,e2,e3⟩:=adn hB
  rw [e1,e2,e3]
  exact ⟨⟨he.1.1,he.1.2.1,VZ hcn.1 hcn.2.2.1,ES hcn.2.1⟩,he.2.1,V3 hcn.1 hcn.2.2.1,dI hcn.2.1⟩
def stp (v i j : Nat) (s : Gd × Nat) : Gd × Nat:=if s.1 v i = true ∧ s.1 v j = true ∧ s.1 i j = false then (Yt (Yt s.1 i j true) j i true,s.2 + 1) else s
def cj (v i : Nat) (s : Gd × Nat) : Nat → Gd × Nat
 | 0=>s
 | n + 1=>if i < n then stp v i n (cj v i s n) else s
def ci (v : Nat) (g : Gd) : Nat → Gd × Nat
 | 0=>(g,0)
 | n + 1=>cj v n (ci v g n) 10
theorem Wv {l : List Lk} {o : List Int} (h : JE l o = true) : o.length ≤ 10:=by
 have h2:=(of_decide_eq_true h : OV l o).2.1
 have:=KC l
 omega
theorem aaM {l : List Lk} {o : List Int} (h : JE l o = true) : bg l = true:=(of_decide_eq_true h : OV l o).1
def jE : Fn:=⟨2,56,[.tmp 4,.cell 5 3 true,.tmp 6],(.seq (rf 1 [oK 4 1 mN,oN 5 (.alloc jK),oK 6 1 mF]) (.seq (sr [oW 16 0,oW 17 1,oN 18 (cl 220 [16,17]),oN 19 (nt 18)] (cd 19 (sr [oN 20 (.build jK []),oN 4 mN,oS (.store 3 (.t 5) (.t 20)),oN 6 mF] .ret) .skip)) (.seq (rf 1 [oN 21 (.dS 5 Lh 0 []),oK 7 1 (oV 21)]) (.seq (rf 1 [oK 22 1 (.call 36 [(cI 0)]),oN 8 (.alloc jK),⟨none,none,1,.store 3 (.t 8) (.t 22),[]⟩]) (sr [oW 23 0,oW 9 23] (.seq (sr [oW 24 1,oN 25 (ln 24),oN 26 (.bY (cI 0))] (.block 0 (.loop (sr [oN 27 (bt .lss 26 25)] (.seq (cd 27 .skip (.exit 0)) (.seq (.block 1 (sr [oN 28 (ix 1 24 26),oN 29 (lF 1 28),oW 11 29] (.seq (rf 2 [oK 31 2 (oV 9),oK 32 2 (oV 11),oK 33 2 (cl 392 [31,32]),oK 30 2 (oV 33),oK 34 2 (ex 0 30),oK 35 2 (ex 1 30),oK 36 2 (ex 2 30),oK 37 2 (ex 3 30),oN 12 (.alloc Lh),oK 14 1 (.alloc jK),⟨none,none,2,.store 5 (.t 12) (.t 34),[]⟩,oK 13 2 (oV 35),⟨none,none,2,.store 3 (.t 14) (.t 36),[]⟩,oK 15 2 (oV 37)]) (.seq (sr [oW 38 15,oN 39 (nt 38)] (cd 39 (sr [oN 40 (.build jK []),oN 4 mN,oS (.store 3 (.t 5) (.t 40)),oN 6 mF] .ret) .skip)) (.seq (rf 2 [oK 41 2 (oV 7),oK 42 2 (lT 5 12),oN 43 (.dS 5 Lh 1 [(0,(.t 42))]),oK 44 1 (.app 5 88 (.t 41) (.t 43)),oK 7 2 (oV 44)]) (sr [oW 45 13,oW 9 45] (rg [oN 46 (lT 3 8),oN 47 (lT 3 14),oN 48 (cl 189 [46,47]),oS (.store 3 (.t 8) (.t 48))]))))))) (rg [oN 49 (bc .add 26 1),oW 26 49]))))))) (.seq (sr [oN 50 (lT 3 8),oN 51 (cl 100 [50]),oN 52 (nt 51)] (cd 52 (sr [oN 53 (.build jK []),oN 4 mN,oS (.store 3 (.t 5) (.t 53)),oN 6 mF] .ret) .skip)) (.seq (rt 0 [oW 54 7,oN 55 (lT 3 8),oA 4 0 (oV 54) [0,0],⟨none,none,0,.store 3 (.t 5) (.t 55),[1,2,0,1,2]⟩,oA 6 0 mT [3,0,1,2,3]]) .ret))))))))⟩
structure sG (T : Tb) : Prop where
 hT : T 393 = some jE
 bQ : ig T
 aX : eU T
 dJ : jR T
 RZ : Dl T
 MG : xP T
def jF : Fn:=⟨2,56,[.tmp 4,.cell 5 3 true,.tmp 6],(.seq (rf 1 [oK 4 1 mN,oN 5 (.alloc jK),oK 6 1 mF]) (.seq (sr [oW 15 0,oW 16 1,oN 17 (cl 221 [15,16]),oN 18 (nt 17)] (cd 18 (sr [oN 19 (.build jK []),oN 4 mN,oS (.store 3 (.t 5) (.t 19)),oN 6 mF] .ret) .skip)) (.seq (rf 1 [oN 20 (.dS 5 Lh 0 []),oK 7 1 (oV 20)]) (.seq (rf 1 [oK 21 1 (.call 39 [(cI 0)]),oN 8 (.alloc jK),⟨none,none,1,.store 3 (.t 8) (.t 21),[]⟩]) (.seq (sr [oW 22 1,oN 23 (ln 22),oN 24 (.bY (cI 0))] (.block 0 (.loop (sr [oN 25 (bt .lss 24 23)] (.seq (cd 25 .skip (.exit 0)) (.seq (.block 1 (sr [oN 26 (ix 1 22 24),oN 27 (lF 1 26),oW 10 27] (.seq (rf 2 [oK 29 2 (oV 0),oK 30 2 (oV 10),oK 31 2 (cl 274 [29,30]),oK 28 2 (oV 31),oK 32 2 (ex 0 28),oK 33 2 (ex 1 28),oK 34 2 (ex 2 28),oK 35 2 (ex 3 28),oN 11 (.alloc Lh),oK 13 1 (.alloc jK),⟨none,none,2,.store 5 (.t 11) (.t 32),[]⟩,oK 12 2 (oV 33),⟨none,none,2,.store 3 (.t 13) (.t 34),[]⟩,oK 14 2 (oV 35)]) (sr [oN 36 (lT 3 8),oN 37 (lT 3 13),oN 38 (cl 131 [36,37]),oS (.store 3 (.t 8) (.t 38))] (.seq (sr [oW 39 14,oN 40 (nt 39),oW 41 40,oG 41 false 42 (lT 3 8),oG 41 false 43 (cl 132 [42]),oG 41 false 44 (nt 43),oN 45 (.pick (.t 41) (.c (.bool true)) (.t 44))] (cd 45 (sr [oN 46 (.build jK []),oN 4 mN,oS (.store 3 (.t 5) (.t 46)),oN 6 mF] .ret) .skip)) (.seq (rf 2 [oK 47 2 (oV 7),oK 48 2 (lT 5 11),oK 49 2 (cl 183 [48]),oN 50 (.dS 5 Lh 1 [(0,(.t 49))]),oK 51 1 (.app 5 88 (.t 47) (.t 50)),oK 7 2 (oV 51)]) (rg [oW 52 12,oW 0 52]))))))) (rg [oN 53 (bc .add 24 1),oW 24 53]))))))) (.seq (rt 0 [oW 54 7,oN 55 (lT 3 8),oA 4 0 (oV 54) [0,0],⟨none,none,0,.store 3 (.t 5) (.t 55),[1,2,0,1,2]⟩,oA 6 0 mT [3,0,1,2,3]]) .ret))))))⟩
structure sH (T : Tb) : Prop where
 hT : T 270 = some jF
 bI : fF T
 bP : eP T
 aP : fE T
 GN : nN T
 Si : Dn T
 MH : xQ T
def ML (S : List Lk) (o : List Int) : Nat → Option (List Lk × List Cd × R)
 | 0=>some (S,[],fH 0)
 |
  k + 1=>match ML S o k with
  | none=>none
  | some p=>if MK p.1 (o.getD k 0) = true then some (YO p.1 (o.getD k 0),p.2.1 ++ [Ws p.1 (o.getD k 0)],lQ p.2.2 (WI p.1 (o.getD k 0))) else none
def
  SG (S : List Lk) (o : List Int) : Option (List Lk × List Cd × R):=if JE S o = true then
  match ML S o o.length with
  | none=>none
  | some p=>if p.2.2.ok = true then some p else none
 else none
def adp (S : List Lk) (o : List Int) : Bool:=(SG S o).isSome
def Jr (S : List Lk) (o : List Int) : List Cd:=((SG S o).map (·.2.1)).getD []
def iH (S : List Lk) (o : List Int) : R:=((SG S o).map (·.2.2)).getD R0
theorem DF {S : List Lk} {o : List Int} (h : SG S o = none) : Jr S o = [] ∧ iH S o = R0 ∧ adp S o = false:=by
 unfold Jr iH adp;rw [h];exact ⟨rfl,rfl,rfl⟩
theorem Sj {S : List Lk} {o : List Int} {p : List Lk × List Cd × R} (h : SG S o = some p) : Jr S o = p.2.1 ∧ iH S o = p.2.2 ∧ adp S o = true:=by
 unfold Jr iH adp;rw [h];exact ⟨rfl,rfl,rfl⟩
theorem YP {S : List Lk} {o : List Int} {k : Nat} (h : ML S o k = none) : ∀ n,k ≤ n → ML S o n = none
 | 0,hn=>by rw [Nat.le_zero.1 hn] at h;exact h
 |
  n + 1,hn=>by
  rcases Nat.lt_or_ge k (n + 1) with hk | hk
  ·simp only [ML,YP h n (by omega)]
  ·rw [show n + 1 = k by omega];exact h
theorem abS {S : List Lk} {o : List Int} {k : Nat} {p : List Lk × List Cd × R} (h : ML S o k = some p) (hb : p.2.2.ok = false) : ∀ n,k ≤ n → ∀ q,ML S o n = some q → q.2.2.ok = false
 | 0,hn,q,hq=>by rw [Nat.le_zero.1 hn] at h;rw [h] at hq;cases hq;exact hb
 |
  n + 1,hn,q,hq=>by
  rcases Nat.lt_or_ge k (n + 1) with hk | hk
  ·simp only [ML] at hq
   cases hf : ML S o n with
   | none=>rw [hf] at hq;cases hq
   |
    some r =>
    rw [hf] at hq
    dsimp only at hq
    split at hq
    ·cases hq
     exact Yy (abS h hb n (by omega) r hf)
    ·cases hq
  ·rw [show n + 1 = k by omega] at hq;rw [h] at hq;cases hq;exact hb
theorem OB {S : List Lk} {o : List Int} {k : Nat} (h : ML S o k = none) (hk : k ≤ o.length) : SG S o = none:=by
 unfold SG;rw [YP h o.length hk];split <;> rfl
theorem aaN {S : List Lk} {o : List Int} {k : Nat} {p : List Lk × List Cd × R} (h : ML S o k = some p) (hb : p.2.2.ok = false) (hk : k ≤ o.length) : SG S o = none:=by
 unfold SG
 cases hf : ML S o o.length with
 | none=>split <;> rfl
 | some q=>dsimp only;rw [if_neg (c:=q.2.2.ok = true) (by rw [abS h hb _ hk q hf];simp)];split <;> rfl
structure CdG (c : Cd) : Prop where
 ne : 0 < c.ps.length
 len : c.ps.length ≤ 10
 cn : c.total.cn ∧ ∀ a ∈ c.ps,a.share.cn ∧ a.dx.cn ∧ a.dy.cn
 sz : c.sz ≤ 40000
 wf : c.wf
theorem aaO {S : List Lk} {v : Int} (h : MK S v = true) : CdG (Ws S v) :=
 ⟨(agm h).ne,(agm h).len,(agm h).cn,(aaL S v).1.1,(aaL S v).2.1⟩
theorem al5 {S : List Lk} {v : Int} (h : MK S v = true) : bg (YO S v) = true:=by
 rw [(adn h).2.1];exact aaE.2.2.2
theorem agn (S : List Lk) (v : Int) : (WI S v).cn:=by
 cases h : MK S v
 ·rw [(ado h).2.2];exact ae6
 ·rw [(adn h).2.2];exact aaE.2.1
theorem PU {S : List Lk} {o : List Int} (hok : bg S = true) (hw : BU Lk.wf S) (hz : vY Lk.sz S ≤ 1048576) : ∀ {k : Nat} {p : List Lk × List Cd × R},ML S o k = some p → (bg p.1 = true ∧ BU Lk.wf p.1 ∧ vY Lk.sz p.1 ≤ 1048576) ∧ p.2.2.cn ∧ (∀ c ∈ p.2.1,CdG c) ∧ p.2.1.length = k
 | 0,p,h=>by cases h;exact ⟨⟨hok,hw,hz⟩,Gt (by decide),by simp,rfl⟩
 |
  k + 1,p,h=>by
  simp only [ML] at h
  cases hf : ML S o k with
  | none=>rw [hf] at h;cases h
  |
   some r =>
   rw [hf] at h
   dsimp only at h
   split at h
   ·rename_i hk
    cases h
    obtain ⟨_,_,i3,i4⟩:=PU hok hw hz hf
    have R:=aaL r.1 (o.getD k 0)
    refine ⟨⟨al5 hk,R.2.2.1,by have:=R.1.2.2.1;dsimp only;omega⟩,D5 _ _,fun c hc=>?_,by simp [i4]⟩
    rcases List.mem_append.1 hc with hc | hc
    ·exact i3 c hc
    ·rw [List.mem_singleton.1 hc];exact aaO hk
   ·cases h
theorem al6 {N : List Cd} (h : ∀ c ∈ N,CdG c) (hl : N.length ≤ 10) : vY Cd.sz N ≤ 500000:=by
 have:=VT (f:=Cd.sz) (k:=40000) fun c hc=>(h c hc).sz
 have : N.length * (40000 + 1) ≤ 10 * (40000 + 1):=Nat.mul_le_mul_right _ hl
 omega
theorem al7 {S : List Lk} (o : List Int) (hw : BU Lk.wf S) (hz : vY Lk.sz S ≤ 1048576) : (vY Cd.sz (Jr S o) ≤ 500000 ∧ (iH S o).sz ≤ 1000) ∧ BU Cd.wf (Jr S o) ∧ (iH S o).wf:=by
 cases hg : SG S o with
 |
  none =>
  obtain ⟨e1,e2,_⟩:=DF hg
  rw [e1,e2];exact ⟨⟨by decide,by decide⟩,⟨by decide,by simp⟩,by decide,by decide⟩
 |
  some p =>
  obtain ⟨e1,e2,_⟩:=Sj hg
  rw [e1,e2]
  unfold SG at hg
  split at hg
  ·rename_i ho
   cases hf : ML S o o.length with
   | none=>rw [hf] at hg;cases hg
   |
    some q =>
    rw [hf] at hg
    dsimp only at hg
    split at hg
    ·cases hg
     obtain ⟨_,i2,i3,i4⟩:=PU (aaM ho) hw hz hf
     have:=Wv ho
     exact ⟨⟨al6 i3 (by omega),ES i2⟩,⟨by omega,fun c hc=>(i3 c hc).wf⟩,dI i2⟩
    ·cases hg
  ·cases hg
theorem PV : bM (.eu [Bz [],aU R0,.bool false]) (.eu [.ak,.agg [.bool false,.ak,.ak],.bool false]):=by
 simp only [bM,lW]
 exact ⟨_,rfl,_,_,rfl,.inl ⟨rfl,.inl rfl⟩,_,_,rfl,jf,_,_,rfl,rfl,rfl⟩
theorem ai8 {e : R} : bM (.eu [Bz [],aU e,.bool true]) (.eu [.ak,aU e,.bool true]):=by
 have h:=aC (aU e)
 simp only [bM,lW] at h ⊢
 exact ⟨_,rfl,_,_,rfl,.inl ⟨rfl,.inl rfl⟩,_,_,rfl,h,_,_,rfl,rfl,rfl⟩
def LnC (s : Store) (v : V) (N : List Cd) : Prop:=(N = [] ∧ v = .ak) ∨ ∃ p,v = .bC p 0 N.length ∧ aj s p = some ⟨5,N.map Cd.cells⟩ ∧ 3 ≤ p
theorem OZ {T : Tb} (h : sG T) {S : List Lk} {o : List Int} (hw : BU Lk.wf S) (hz : vY Lk.sz S ≤ 1048576) (ho : o.length ≤ 1048576) : PF T 393 [bf S,ints o] (.eu [Bz (Jr S o),aU (iH S o),.bool (adp S o)]):=by
 have hl : S.length ≤ 1048576:=by have:=qw Lk.sz S;omega
 have cio:=aam h.RZ hw (by omega) ho
 cases hb : JE S o
 ·rw [hb] at cio
  have hg : SG S o = none:=by unfold SG;rw [hb];rfl
  obtain ⟨e1,e2,e3⟩:=DF hg
  rw [e1,e2,e3]
  refine aK (fun x d=>(x == 36 && d == 999)) h.hT ?_
  simp only [jE,Lz]
  refine ew ?_
  refine ah cio ?_
  refine ew ?_
  exact PV
 rw [hb] at cio
 have hok:=aaM hb
 have hol:=Wv hb
 have axl : o.length ≤ 10:=hol
 refine aK (fun x d=>(x == 36 && d == 999)) h.hT ?_
 simp only [jE,Lz]
 refine ew ?_
 refine ah cio ?_
 refine ew ?_
 refine ah (jS h.bQ (n:=0)) ?_
 refine ew ?_
 refine aO (fun x d=>(x == 36 && d == 999)) (α:=Nat × Store × V × List Lk × List Cd × R) (fun q=>⟨bF [.any,.any,.any,.any,.any,.ptr 0 0 0,.any,q.2.2.1,.ptr 2 0 0,bf q.2.2.2.1,.any,.any,.any,.any,.any,.any,.any,.any,.any,.any,.any,.any,.any,.any,ints o,iv (o.length : Nat),iv (q.1 : Nat)],q.2.1,0,0,[],[]⟩) (fun q=>(q.1 ≤ o.length ∧ ML S o q.1 = some (q.2.2.2.1,q.2.2.2.2.1,q.2.2.2.2.2)) ∧ aj q.2.1 0 = some ⟨3,[[.bool false,.ak,.ak]]⟩ ∧ aj q.2.1 2 = some ⟨3,[q.2.2.2.2.2.cells]⟩ ∧ LnC q.2.1 q.2.2.1 q.2.2.2.2.1) (fun q=>o.length - q.1) rfl (0,[some ⟨3,[[.bool false,.ak,.ak]]⟩,none,some ⟨3,[(fH 0).cells]⟩],.ak,S,[],fH 0) ?_ ?_ ?_
 ·exact ⟨⟨Nat.zero_le _,rfl⟩,rfl,rfl,.inl ⟨rfl,rfl⟩⟩
 ·(refine aH ?_;exact uT)
 ·rintro ⟨k,s,r,L,N,e⟩ ⟨⟨hk,hf⟩,I0,I2,hN⟩
  dsimp only at hk hf I0 I2 hN
  obtain ⟨⟨i1,i2,i3⟩,i4,i5,i6⟩:=PU hok hw hz hf
  dsimp only at i1 i2 i3 i4 i5 i6
  have l2:=aJ I2
  by_cases hc : (k : Int) < (o.length : Nat)
  ·have hkl : k < o.length:=by omega
   have hs : ML S o (k + 1) = if MK L (o.getD k 0) = true then some (YO L (o.getD k 0),N ++ [Ws L (o.getD k 0)],lQ e (WI L (o.getD k 0))) else none:=by simp only [ML,hf]
   have hbad : ML S o (k + 1) = none → SG S o = none:=fun h=>OB h (by omega)
   obtain ⟨v,hv⟩ : ∃ v,o.getD k 0 = v:=⟨_,rfl⟩
   rw [hv] at hs
   have cr:=TJ h.MG (v:=v) i2 i3
   have hen:=agn L v
   have Iw:=ru h.dJ (r:=e) (s:=WI L v) (dI i4) (dI hen)
   have hgd:=@aaO L v
   have hNl : N.length ≤ 10:=by omega
   generalize YO L v = M at *
   generalize Ws L v = c at *
   generalize WI L v = e' at *
   generalize lQ e e' = e2 at *
   generalize MK L v = b at *
   refine Cb @hc @hkl @hv ?_
   refine ah cr ?_
   cases b
   ·obtain ⟨e1,e2,e3⟩:=DF (hbad hs)
    rw [e1,e2,e3]
    refine BZ (And.intro I0 I2) ?_
    exact PV
   ·have hs : ML S o (k + 1) = some (M,N ++ [c],e2):=hs
    rcases hN with ⟨rfl,rfl⟩ | ⟨p,rfl,hp,hp3⟩
    ·refine BZ (And.intro I0 I2) ?_
     refine ⟨by omega,?_⟩
     refine ah Iw ?_
     refine BZ (And.intro I0 I2) ?_
     refine ⟨(k + 1,?s1,.bC (s.length + 1 + 1 + 1) 0 1,M,[] ++ [c],e2),?m1,⟨⟨?a1,hs⟩,?b1,?c1,?d1⟩,?e1⟩
     case e1=>dsimp only;(refine aH ?_;exact uT)
     case m1=>dsimp only;omega
     case a1=>dsimp only;omega
     case b1=>exact (show aj _ 0 = aj s 0 by exact rZ).trans I0
     case c1=>dsimp only;simp (disch:=first | omega | (simp only [List.length_append,List.length_set,List.length_cons,List.length_nil];omega)) only [DK]
     case d1=>refine .inr ⟨s.length + 1 + 1 + 1,rfl,?_,by omega⟩;simp (disch:=first | omega | (simp only [List.length_append,List.length_set,List.length_cons,List.length_nil];omega)) only [DK];rfl
    ·have hpl:=aJ hp
     refine sJ (And.intro I0 I2) @hp ?_
     refine ⟨by omega,?_⟩
     refine ah Iw ?_
     refine sJ (And.intro I0 I2) @hp ?_
     refine ⟨(k + 1,?s2,.bC (s.length + 1 + 1 + 1) 0 (N.length + 1),M,N ++ [c],e2),?m2,⟨⟨?a2,hs⟩,?b2,?c2,?d2⟩,?e2⟩
     case e2=>dsimp only;(refine aH ?_;exact uT)
     case m2=>dsimp only;omega
     case a2=>dsimp only;omega
     case b2=>exact (show aj _ 0 = aj s 0 by exact rZ).trans I0
     case c2=>dsimp only;simp (disch:=first | omega | (simp only [List.length_append,List.length_set,List.length_cons,List.length_nil];omega)) only [DK]
     case d2=>refine .inr ⟨s.length + 1 + 1 + 1,by simp,?_,by omega⟩;simp (disch:=first | omega | (simp only [List.length_append,List.length_set,List.length_cons,List.length_nil];omega)) only [DK];simp
  ·have hie : k = o.length:=by omega
   have co:=jh h.aX (dI i4)
   have hg : SG S o = if e.ok = true then some (L,N,e) else none:=by unfold SG;rw [if_pos hb,← hie,hf]
   cases hbe : e.ok
   ·rw [hbe] at co hg
    obtain ⟨e1,e2,e3⟩:=DF hg
    rw [e1,e2,e3]
    refine sJ @hc (And.intro I0 I2) ?_
    refine ah co ?_
    refine BZ (And.intro I0 I2) ?_
    exact PV
   ·rw [hbe,if_pos rfl] at hg
    rw [hbe] at co
    obtain ⟨e1,e2,e3⟩:=Sj hg
    rw [e1,e2,e3]
    rcases hN with ⟨rfl,rfl⟩ | ⟨p,rfl,hp,hp3⟩
    ·refine sJ @hc (And.intro I0 I2) ?_
     refine ah co ?_
     refine BZ (And.intro I0 I2) ?_
     refine ⟨kW (L':=3) (by omega) (by unfold iW;rfl),?_⟩
     rw [V4]
     exact ai8
    ·refine Cb @hc (And.intro I0 I2) @hp ?_
     refine ah co ?_
     refine sJ (And.intro I0 I2) @hp ?_
     refine ⟨kW (L':=3) (by omega) (by unfold iW;rfl),?_⟩
     rw [V4,Le (Jz N) (by simp),List.drop_zero,List.take_of_length_le (by simp)]
     exact aC _
theorem al8 (n : Nat) (l : List Pa) : qP (n + 3) (kK l):=by
 simp only [qP]
 intro r hr c hc
 obtain ⟨x,_,rfl⟩:=List.mem_map.1 hr
 revert c
 simp only [List.forall_mem_cons];exact ⟨Wj _ _ _,Ak _ _,lV _ _,lV _ _,Ak _ _,lV _ _,lV _ _,Ak _ _,lV _ _,lV _ _,by simp⟩
theorem apJ (n : Nat) (x : Cd) : qP (n + 4) (KP x):=by
 refine agh ?_
 simp only [List.forall_mem_cons];exact ⟨Wj _ _ _,Ak _ _,lV _ _,lV _ _,al8 _ _,by simp⟩
theorem Wx {σ : Store} : Fin σ (.eu [.ak,.agg [.bool false,.ak,.ak],.bool false]) (.eu [Bz [],aU R0,.bool false]) :=
 ⟨.eu [Bz [],aU R0,.bool false],[],PV,LG (jD (o1:=[]) (by simp [bD]) (jD (o1:=[]) afv (jC iq))),.nil⟩
theorem N8 {T : Tb} (h : sH T) {S : List Lk} {o : List Int} (hw : BU Lk.wf S) (hz : vY Lk.sz S ≤ 1048576) (ho : o.length ≤ 1048576) : PO T 270 [bf S,ints o] (.eu [Bz (Jr S o),aU (iH S o),.bool (adp S o)]):=by
 have ci:=aal h.Si (l:=S) (o:=o) hw ho
 cases hb : JE S o
 ·rw [hb] at ci
  have hg : SG S o = none:=by unfold SG;rw [hb];rfl
  obtain ⟨e1,e2,e3⟩:=DF hg
  rw [e1,e2,e3]
  refine eX nR h.hT ?_
  simp only [jF,Lz,St.enter,List.length_cons,List.length_nil,Nat.zero_add]
  refine ew ?_
  refine ah ci ?_
  refine ew ?_
  exact Wx
 rw [hb] at ci
 have hok:=aaM hb
 have hol:=Wv hb
 refine eX (fun x d=>(x == 39 && d == 21) || (x == 131 && d == 38) || (x == 183 && d == 49)) h.hT ?_
 simp only [jF,Lz,St.enter,List.length_cons,List.length_nil,Nat.zero_add]
 refine ew ?_
 refine ah ci ?_
 refine ew ?_
 refine eH (oU h.bI (n:=0)) (by (refine ew ?_;try with_reducible exact True.intro)) ?_
 intro r q1 o1 G
 obtain ⟨_,rfl,hQ1⟩:=G.ow.dA
 obtain ⟨x1,x2,rfl⟩:=hQ1.rat
 have E : Ep [some ⟨3,[[.bool false,.ak,.ak]]⟩] [] [] [] [(0,⟨3,[[.bool false,.ak,.ak]]⟩)]:=⟨QZ,by simp [aj]⟩
 have E2:=E.got (s1:=[some ⟨3,[[.bool false,.ak,.ak]]⟩] ++ [none,none]) (fun q hq=>by first | exact eY hq | (simp only [List.append_assoc];exact eY hq)) (by simp) hQ1 G.nd G.fresh G.old
 have F0:=E.free (s1:=[some ⟨3,[[.bool false,.ak,.ak]]⟩] ++ [none,none]) (p:=2) G.fresh (by simp) (by simp)
 have hq : 3 ≤ q1.length:=by simpa using G.len
 clear E G
 have E : Ep q1 [.bool (fH 0).neg,x1,x2] [.bool (fH 0).neg,ints (fH 0).mag,ints (fH 0).den] _ [(0,⟨3,[[.bool false,.ak,.ak]]⟩)]:=E2
 clear E2
 replace E:=E.FI (p:=2) (ob:=⟨3,[[.bool (fH 0).neg,x1,x2]]⟩) (L':=[(0,⟨3,[[.bool false,.ak,.ak]]⟩),(2,⟨3,[[.bool (fH 0).neg,x1,x2]]⟩)]) F0 (by omega) (by simp)
 have LF:=And.intro (E.leaf 1 rfl rfl) (E.leaf 2 rfl rfl)
 refine xX @LF @aB @aS @List.set_set.{0} ?_
 clear LF
 refine aO (fun x d=>(x == 39 && d == 21) || (x == 131 && d == 38) || (x == 183 && d == 49)) (α:=Nat × Store × List Lk × List Cd × R × V × List (List V) × V × V × List Nat) (fun q=>⟨bF [bf q.2.2.1,.any,.any,.any,.any,.ptr 0 0 0,.any,q.2.2.2.2.2.1,.ptr 2 0 0,.any,.any,.any,.any,.any,.any,.any,.any,.any,.any,.any,.any,.any,ints o,iv (o.length : Nat),iv (q.1 : Nat)],q.2.1,0,0,[],[]⟩) (fun q=>((q.1 ≤ o.length ∧ ML S o q.1 = some (q.2.2.1,q.2.2.2.1,q.2.2.2.2.1) ∧ q.2.2.2.2.1.ok = true) ∧ q.2.2.2.2.2.2.1.length = q.1 ∧ ∀ r ∈ q.2.2.2.2.2.2.1,r.length = 5) ∧ ∃ M,LAt 5 q.2.2.2.2.2.1 q.2.2.2.2.2.2.1 M ∧ Ep q.2.1 ([.bool q.2.2.2.2.1.neg,q.2.2.2.2.2.2.2.1,q.2.2.2.2.2.2.2.2.1] ++ q.2.2.2.2.2.2.1.flatten) ([.bool q.2.2.2.2.1.neg,ints q.2.2.2.2.1.mag,ints q.2.2.2.2.1.den] ++ (q.2.2.2.1.map Cd.cells).flatten) q.2.2.2.2.2.2.2.2.2 ([(0,⟨3,[[.bool false,.ak,.ak]]⟩),(2,⟨3,[[.bool q.2.2.2.2.1.neg,q.2.2.2.2.2.2.2.1,q.2.2.2.2.2.2.2.2.1]]⟩)] ++ M)) (fun q=>o.length - q.1) rfl (0,(q1.set 2 (some ⟨3,[[.bool (fH 0).neg,x1,x2]]⟩)),S,[],fH 0,.ak,[],x1,x2,[] ++ o1) ?_ ?_ ?_
 ·exact ⟨⟨⟨Nat.zero_le _,rfl,show (fH 0).ok = true by decide +kernel⟩,rfl,fun r hr=>by cases hr⟩,[],.inl ⟨rfl,rfl,rfl⟩,by simpa using E⟩
 ·(refine aH ?_;exact uT)
 ·clear E
  rintro ⟨k,s,L,N,e,pv,A,x1,x2,os⟩ ⟨⟨⟨hk,hf,he⟩,hAl,hA5⟩,M,hLA,E⟩
  dsimp only at hk hf he hAl hA5 hLA E
  obtain ⟨⟨i1,i2,i3⟩,i4,i5,i6⟩:=PU hok hw hz hf
  dsimp only at i1 i2 i3 i4 i5 i6
  have L0:=E.at0 (p:=0) (ob:=⟨3,[[.bool false,.ak,.ak]]⟩) (by simp)
  have L1:=E.at0 (p:=2) (ob:=⟨3,[[.bool e.neg,x1,x2]]⟩) (by simp)
  have LFx:=And.intro (E.leaf 1 rfl rfl) (E.leaf 2 rfl rfl)
  by_cases hc : (k : Int) < (o.length : Nat)
  ·have hkl : k < o.length:=by omega
   have hs : ML S o (k + 1) = if MK L (o.getD k 0) = true then some (YO L (o.getD k 0),N ++ [Ws L (o.getD k 0)],lQ e (WI L (o.getD k 0))) else none:=by simp only [ML,hf]
   have hbad : ML S o (k + 1) = none → SG S o = none:=fun h=>OB h (by omega)
   have hbd2 : ∀ p,ML S o (k + 1) = some p → p.2.2.ok = false → SG S o = none:=fun p h h2=>aaN h h2 (by omega)
   obtain ⟨v,hv⟩ : ∃ v,o.getD k 0 = v:=⟨_,rfl⟩
   rw [hv] at hs
   have ca:=(TK h.MH (S:=L) (v:=v) i1 i2).frz (by
    intro p hp
    simp only [rnT,List.mem_cons,List.not_mem_nil,or_false] at hp
    rcases hp with rfl | rfl | rfl | rfl
    ·exact apJ _ _
    ·exact agj _ _
    ·exact agi _ _
    ·exact Ak _ _)
   simp only [rnT,List.map_cons,List.map_nil] at ca
   have hen:=agn L v
   have hgd:=@aaO L v
   have hNl : N.length ≤ 10:=by omega
   generalize YO L v = S' at *
   generalize Ws L v = c at *
   generalize WI L v = e' at *
   generalize MK L v = b at *
   refine Cb @hc @hkl @hv ?_
   refine ah ca ?_
   have hp2 : ¬ (s.length + 1 = s.length):=by omega
   refine yJ @L0 @L1 @LFx @aB @aS ?_
   obtain ⟨S1,hS1⟩ : ∃ S1 : Store,(((s ++ [some (⟨5,[[.int .i64 0,.bool false,.ak,.ak,.ak]]⟩ : Obj)] ++ [none]).set (s.length + 1) (some ⟨3,[[.bool false,.ak,.ak]]⟩)).set s.length (some ⟨5,[c.cells]⟩)).set (s.length + 1) (some ⟨3,[e'.cells]⟩) = S1:=⟨_,rfl⟩
   have h1 : ∀ o,o < s.length → aj S1 o = aj s o:=fun o ho=>by
    rw [← hS1,aI (by omega),aI (by omega),aI (by omega),List.append_assoc,eY ho]
   have hl1 : S1.length = s.length + 2:=by rw [← hS1];simp
   have hcd : aj S1 s.length = some ⟨5,[c.cells]⟩:=by rw [← hS1,aI (by omega),bn (by simp)]
   rw [hS1]
   clear hS1
   have E1:=E.fr h1
   have R:=And.intro (E1.res1 1 rfl rfl (au _ _)) (E1.res1 2 rfl rfl (au _ _))
   refine eH (Ku h.bP i4 hen) (by (refine Cb @R @aB @aS ?_;try with_reducible exact True.intro)) ?_
   intro r q2 o2 G
   have gl : s.length + 2 ≤ q2.length:=by have:=G.len;omega
   obtain ⟨_,rfl,hQ⟩:=G.ow.dA
   obtain ⟨y1,y2,rfl⟩:=hQ.rat
   have F1 : 2 ∉ os:=(E.l (2,⟨3,[[.bool e.neg,x1,x2]]⟩) (by simp)).2
   obtain ⟨os2,E2,auB⟩:=Ep.alS (a:=[.bool e.neg,x1,x2]) (b:=A.flatten) (ta:=[.bool e.neg,ints e.mag,ints e.den]) (tb:=(N.map Cd.cells).flatten) E1 rfl (s1:=S1) (fun q hq=>rfl) (Nat.le_refl _) hQ G.nd G.fresh G.old
   have F2 : 2 ∉ os2:=fun hm=>by
    rcases auB _ hm with h | h
    ·exact F1 h
    ·have:=L1.2;omega
   have hM : ∀ q ∈ M,q.1 ≠ 0 ∧ q.1 ≠ 2:=fun q hq=>by
    rcases hLA with ⟨_,_,rfl⟩ | ⟨p,rfl,rfl⟩
    ·cases hq
    ·have L3:=E.at0 (p:=p) (ob:=⟨5,A⟩) (by simp)
     rw [List.mem_singleton.1 hq]
     refine ⟨fun e=>?_,fun e=>?_⟩
     ·have e : p = 0:=e
      have:=L3.1;rw [e,L0.1] at this;cases this
     ·have e : p = 2:=e
      have:=L3.1;rw [e,L1.1] at this;cases this
   have hbd2:=fun (hs : ML S o (k + 1) = some (S',N ++ [c],lQ e e'))=>hbd2 (S',N ++ [c],lQ e e') hs
   dsimp only at hbd2
   have al3:=D5 e e'
   generalize lQ e e' = e2 at *
   have LF:=And.intro (E2.leaf 1 rfl rfl) (E2.leaf 2 rfl rfl)
   have M0:=E2.at0 (p:=0) (ob:=⟨3,[[.bool false,.ak,.ak]]⟩) (by simp)
   have M1:=E2.at0 (p:=2) (ob:=⟨3,[[.bool e.neg,x1,x2]]⟩) (by simp)
   refine yJ @LF @M0 @M1 @aB @aS ?_
   have E3:=E2.FI (p:=2) (ob:=⟨3,[[.bool e2.neg,y1,y2]]⟩) (L':=[(0,⟨3,[[.bool false,.ak,.ak]]⟩),(2,⟨3,[[.bool e2.neg,y1,y2]]⟩)] ++ M) F2 M1.2 (fun q hq=>by
    simp only [List.cons_append,List.nil_append,List.mem_cons] at hq
    rcases hq with rfl | rfl | hq
    ·exact .inl ⟨by decide,by simp⟩
    ·exact .inr rfl
    ·exact .inl ⟨(hM q hq).2,by simp [hq]⟩)
   have hcd2 : aj q2 s.length = some ⟨5,[c.cells]⟩:=(G.old _ (by omega)).trans hcd
   have apL : aj (q2.set 2 (some ⟨3,[[.bool e2.neg,y1,y2]]⟩)) s.length = some ⟨5,[c.cells]⟩:=(aI (by have:=L1.2;omega)).trans hcd2
   have axm : (q2.set 2 (some (⟨3,[[.bool e2.neg,y1,y2]]⟩ : Obj))).length = q2.length:=List.length_set
   generalize hq3 : q2.set 2 (some ⟨3,[[.bool e2.neg,y1,y2]]⟩) = q3 at *
   have N0:=E3.at0 (p:=0) (ob:=⟨3,[[.bool false,.ak,.ak]]⟩) (by simp)
   have N1:=E3.at0 (p:=2) (ob:=⟨3,[[.bool e2.neg,y1,y2]]⟩) (by simp)
   have R3:=And.intro (E3.res1 1 rfl rfl (au _ _)) (E3.res1 2 rfl rfl (au _ _))
   have hsl:=L1.2
   clear E E1 E2 hcd hcd2 G hQ
   cases b
   ·obtain ⟨e1,e2,e3⟩:=DF (hbad (by rw [hs];rfl))
    rw [e1,e2,e3]
    refine yJ @N0 @N1 @LF @aB @aS ?_
    exact Wx
   ·have cg:=Je h.aP al3
    have hs : ML S o (k + 1) = some (S',N ++ [c],e2):=hs
    have O:=hgd rfl
    refine vW @N0 @N1 @LF @R3 @aB @aS ?_
    refine ah cg ?_
    cases hb2 : e2.ok
    ·obtain ⟨e1,e2,e3⟩:=DF (hbd2 hs hb2)
     rw [e1,e2,e3]
     refine yJ @N0 @N1 @LF @aB @aS ?_
     exact Wx
    ·refine vW @N0 @N1 @LF @apL @aB @aS ?_
     have e4 : ∀ σ : Store,resolve σ FD (KP c) = some (KP c):=fun σ=>zZ (Jz [c] _ (by simp))
     refine eH (KH h.GN (c:=c) O.ne ⟨by have:=ES O.cn.1;omega,fun a ha=>by have h1:=O.cn.2 a ha;have:=ES h1.1;have:=ES h1.2.1;have:=ES h1.2.2;unfold Pa.sz;omega⟩ (by have:=O.len;omega)) (by (refine xX @e4 @apL @aB @aS ?_;try with_reducible exact True.intro)) ?_
     intro r q4 o4 G
     obtain ⟨_,rfl,hQ⟩:=G.ow.dA
     obtain ⟨z2,z3,z4,rfl⟩:=hQ.cd
     have lz:=hQ.leaf rfl
     simp only [List.all_cons,List.all_nil,Bool.and_eq_true,Bool.and_true] at lz
     have hq5 : ∀ o,o < q3.length → aj (q3 ++ [none,none]) o = aj q3 o:=fun o ho=>eY ho
     have E4:=E3.got (s1:=q3 ++ [none,none]) hq5 (by simp) hQ G.nd (by simpa using G.fresh) (by simpa using G.old)
     have gl4 : q3.length + 2 ≤ q4.length:=by have:=G.len;simpa using this
     have fr4 : ∀ o ∈ o4,q3.length + 2 ≤ o:=fun o ho=>by have:=G.fresh o ho;simpa using this
     have P0:=E4.at0 (p:=0) (ob:=⟨3,[[.bool false,.ak,.ak]]⟩) (by simp)
     have P1:=E4.at0 (p:=2) (ob:=⟨3,[[.bool e2.neg,y1,y2]]⟩) (by simp)
     rcases hLA with ⟨rfl,rfl,rfl⟩ | ⟨p,rfl,rfl⟩
     ·refine vW @P0 @P1 @lz @gl4 @aB @aS ?_
      refine ⟨by omega,(k + 1,?s1,S',N ++ [c],e2,.bC (q3.length + 1) 0 1,[] ++ [[iv c.node,.bool c.total.neg,z2,z3,z4]],y1,y2,os2 ++ o4),?m1,⟨⟨⟨?a1,hs,hb2⟩,?b1,?c1⟩,[(q3.length + 1,⟨5,[] ++ [[iv c.node,.bool c.total.neg,z2,z3,z4]]⟩)],.inr ⟨q3.length + 1,?d1,rfl⟩,?f1⟩,?e1⟩
      case e1=>dsimp only;(refine aH ?_;exact uT)
      case m1=>dsimp only;omega
      case a1=>dsimp only;omega
      case b1=>dsimp only;simp at hAl ⊢;omega
      case c1 =>
       intro r hr
       rcases List.mem_append.1 hr with hr | hr
       ·exact hA5 r hr
       ·rw [List.mem_singleton.1 hr];rfl
      case d1=>dsimp only;simp
      case f1 =>
       dsimp only
       refine Ep.aaJ (E4.to ?_ ?_) ?_ ?_
       ·intro o ho
        have a1 : o < q3.length ∨ q3.length + 2 ≤ o:=by
         rcases List.mem_append.1 ho with ho | ho
         ·exact .inl (E3.V7 o ho)
         ·exact .inr (fr4 o ho)
        exact rZ
       ·intro q hq
        simp only [List.mem_cons,List.not_mem_nil,or_false] at hq
        rcases hq with rfl | rfl | rfl
        ·refine .inl ⟨by simp,?_⟩
         show aj _ 0 = aj q4 0
         exact rZ
        ·refine .inl ⟨by simp,?_⟩
         show aj _ 2 = aj q4 2
         exact rZ
        ·refine .inr ⟨?_,fun hm=>?_⟩
         ·show aj _ (q3.length + 1) = _
          simp (disch:=first | omega | (simp only [List.length_append,List.length_set,List.length_cons,List.length_nil];omega)) only [DK]
          rfl
         ·rcases List.mem_append.1 hm with hm | hm
          ·have:=E3.V7 _ hm;omega
          ·have:=fr4 _ hm;omega
       ·simp
       ·simp
     ·have P3:=E4.at0 (p:=p) (ob:=⟨5,A⟩) (by simp)
      have hpq:=(E3.at0 (p:=p) (ob:=⟨5,A⟩) (by simp)).2
      have hpn:=(E4.l (p,⟨5,A⟩) (by simp)).2
      refine ew8 @P0 @P1 @lz @gl4 @P3 @hpq @aB @aS ?_
      refine ⟨by omega,(k + 1,?s2,S',N ++ [c],e2,.bC (q3.length + 1) 0 (A.length + 1),A ++ [[iv c.node,.bool c.total.neg,z2,z3,z4]],y1,y2,os2 ++ o4),?m2,⟨⟨⟨?a2,hs,hb2⟩,?b2,?c2⟩,[(q3.length + 1,⟨5,A ++ [[iv c.node,.bool c.total.neg,z2,z3,z4]]⟩)],.inr ⟨q3.length + 1,?d2,rfl⟩,?f2⟩,?e2⟩
      case e2=>dsimp only;(refine aH ?_;exact uT)
      case m2=>dsimp only;omega
      case a2=>dsimp only;omega
      case b2=>dsimp only;simp;omega
      case c2 =>
       intro r hr
       rcases List.mem_append.1 hr with hr | hr
       ·exact hA5 r hr
       ·rw [List.mem_singleton.1 hr];rfl
      case d2=>dsimp only;simp
      case f2 =>
       dsimp only
       refine Ep.aaJ (E4.to ?_ ?_) ?_ ?_
       ·intro o ho
        have a1 : o < q3.length ∨ q3.length + 2 ≤ o:=by
         rcases List.mem_append.1 ho with ho | ho
         ·exact .inl (E3.V7 o ho)
         ·exact .inr (fr4 o ho)
        have a2 : o ≠ p:=fun e=>hpn (e ▸ ho)
        exact rZ
       ·intro q hq
        simp only [List.mem_cons,List.not_mem_nil,or_false] at hq
        rcases hq with rfl | rfl | rfl
        ·refine .inl ⟨by simp,?_⟩
         have:=(hM (p,⟨5,A⟩) (by simp)).1
         dsimp only at this
         show aj _ 0 = aj q4 0
         exact rZ
        ·refine .inl ⟨by simp,?_⟩
         have:=(hM (p,⟨5,A⟩) (by simp)).2
         dsimp only at this
         show aj _ 2 = aj q4 2
         exact rZ
        ·refine .inr ⟨?_,fun hm=>?_⟩
         ·show aj _ (q3.length + 1) = _
          exact rZ
         ·rcases List.mem_append.1 hm with hm | hm
          ·have:=E3.V7 _ hm;omega
          ·have:=fr4 _ hm;omega
       ·simp
       ·simp
  ·have hie : k = o.length:=by omega
   have hg : SG S o = some (L,N,e):=by unfold SG;rw [if_pos hb,← hie,hf];exact if_pos he
   obtain ⟨e1,e2,e3⟩:=Sj hg
   rw [e1,e2,e3]
   have n0:=(E.l (0,⟨3,[[.bool false,.ak,.ak]]⟩) (by simp)).2
   rcases hLA with ⟨rfl,rfl,rfl⟩ | ⟨p,rfl,rfl⟩
   ·have hN0 : N = []:=List.eq_nil_of_length_eq_zero (by simp at hAl;omega)
    subst hN0
    refine vW @hc @L0 @L1 @LFx @aB @aS ?_
    refine ⟨kW (L':=3) (by have:=L1.2;omega) (by unfold iW;rfl),?_⟩
    have W:=(E.c.set (o:=0) (x:=some ⟨3,[[.bool e.neg,x1,x2]]⟩) n0)
    have W1 : dX (s.set 0 (some ⟨3,[[.bool e.neg,x1,x2]]⟩)) [.bool e.neg,x1,x2] e.cells os:=by simpa using W.ow
    refine ⟨.eu [Bz [],.agg [.bool e.neg,x1,x2],.bool true],_,?_,LG (jD (o1:=[]) (by simp [bD]) (jD (gQ W1) (jC iq))),by simpa using W.nd⟩
    have h1:=aC (.agg [.bool e.neg,x1,x2])
    simp only [bM,lW] at h1 ⊢
    exact ⟨_,rfl,_,_,rfl,.inl ⟨rfl,.inl rfl⟩,_,_,rfl,h1,_,_,rfl,rfl,rfl⟩
   ·have L3:=E.at0 (p:=p) (ob:=⟨5,A⟩) (by simp)
    have hp0 : p ≠ 0:=fun e=>by have:=L3.1;rw [e,L0.1] at this;cases this
    refine vW @hc @L0 @L1 @LFx @aB @aS ?_
    refine ⟨kW (L':=3) (by have:=L1.2;omega) (by unfold iW;rfl),?_⟩
    have Es:=E.FI (p:=0) (ob:=⟨3,[[.bool e.neg,x1,x2]]⟩) (L':=[(p,⟨5,A⟩)]) n0 L0.2 (fun q hq=>.inl (by rw [List.mem_singleton.1 hq];exact ⟨hp0,by simp⟩))
    have hA' : A.length = (N.map Cd.cells).length:=by rw [List.length_map];omega
    have ht5 : ∀ r ∈ N.map Cd.cells,r.length = 5:=fun r hr=>by obtain ⟨x,_,rfl⟩:=List.mem_map.1 hr;rfl
    have hfl : A.flatten.length = (N.map Cd.cells).flatten.length:=by
     have e1 : ∀ (X : List (List V)),(∀ r ∈ X,r.length = 5) → X.flatten.length = X.length * 5:=fun X=>by
      induction X with
      | nil=>intro _;rfl
      | cons r X ih=>intro h;rw [List.flatten_cons,List.length_append,ih fun r hr=>h r (by simp [hr]),h r (by simp),List.length_cons];omega
     rw [e1 A hA5,e1 _ ht5,hA']
    obtain ⟨os1,E2,_⟩:=(Ep.aaJ (cs':=[.bool e.neg,x1,x2] ++ (A.flatten ++ [])) (ts':=[.bool e.neg,ints e.mag,ints e.den] ++ ((N.map Cd.cells).flatten ++ [])) Es (by simp) (by simp)).swap rfl hfl
    obtain ⟨os2,E3⟩:=E2.close (p:=p) (n:=5) (k:=5) (by simp) hA5 ht5 hA'
    have W : dX _ ([V.bC p 0 A.length] ++ ([.bool e.neg,x1,x2] ++ [])) ([Bz N] ++ (e.cells ++ [])) os2:=E3.c.ow
    obtain ⟨a1,a2,p1,p2,ea,rfl,w1,w2⟩:=gB W
    obtain ⟨rfl,rfl⟩:=List.append_inj ea (by exact w1.len.symm)
    rw [List.append_nil,List.append_nil] at w2
    have W9:=dG w1 (dG (X7 (gQ w2)) (jC (b:=true) iq))
    refine rY (LG W9) ?_
    simpa using E3.c.nd
def nT : Fn:=⟨2,124,[.tmp 4],(sr [oN 4 (.bY (cI 0))] (.seq (sr [oN 5 (.bY (cI 0))] (.block 0 (.loop (.seq (sr [oW 6 5,oW 7 0,oN 8 (ln 7),oN 9 (bt .lss 6 8)] (cd 9 .skip (.exit 0))) (.seq (.block 1 (.seq (sr [oW 12 0,oW 13 5,oN 14 (ix 10 12 13),oN 15 (fd 0 14),oN 16 (lF 1 15),oW 17 1,oN 18 (bt .neq 16 17)] (cd 18 (sr [oN 4 (.bY (cI (-1)))] .ret) .skip)) (sr [oW 19 1,oN 20 (bc .add 19 1),oW 1 20] (.seq (sr [oW 21 0,oW 22 5,oN 23 (ix 10 21 22),oN 24 (fd 1 23),oN 25 (fd 0 24),oN 26 (fd 0 25),oN 27 (lF 1 26),oW 28 1,oN 29 (bc .rem 28 3),oN 30 (bc .eql 29 0),oN 31 (.beq true (.t 27) (.t 30))] (cd 31 (sr [oN 4 (.bY (cI (-1)))] .ret) .skip)) (sr [oW 32 1,oN 33 (bc .add 32 1),oW 1 33] (sr [oW 34 0,oW 35 5,oN 36 (ix 10 34 35),oN 37 (fd 1 36),oN 38 (fd 0 37),oN 39 (fd 1 38),oN 40 (lF 1 39),oW 41 1,oN 42 (cl 59 [40,41]),oW 1 42] (.seq (sr [oW 43 1,oN 44 (bc .lss 43 0)] (cd 44 (sr [oN 4 (.bY (cI (-1)))] .ret) .skip)) (sr [oW 45 0,oW 46 5,oN 47 (ix 10 45 46),oN 48 (fd 1 47),oN 49 (fd 2 48),oN 50 (lF 1 49),oW 51 1,oN 52 (cl 59 [50,51]),oW 1 52] (.seq (sr [oW 53 1,oN 54 (bc .lss 53 0)] (cd 54 (sr [oN 4 (.bY (cI (-1)))] .ret) .skip)) (.seq (sr [oW 55 0,oW 56 5,oN 57 (ix 10 55 56),oN 58 (fd 4 57),oN 59 (fd 0 58),oN 60 (fd 0 59),oN 61 (lF 1 60),oW 62 1,oN 63 (bc .rem 62 3),oN 64 (bc .eql 63 0),oN 65 (.beq true (.t 61) (.t 64))] (cd 65 (sr [oN 4 (.bY (cI (-1)))] .ret) .skip)) (sr [oW 66 1,oN 67 (bc .add 66 1),oW 1 67] (sr [oW 68 0,oW 69 5,oN 70 (ix 10 68 69),oN 71 (fd 4 70),oN 72 (fd 0 71),oN 73 (fd 1 72),oN 74 (lF 1 73),oW 75 1,oN 76 (cl 59 [74,75]),oW 1 76] (.seq (sr [oW 77 1,oN 78 (bc .lss 77 0)] (cd 78 (sr [oN 4 (.bY (cI (-1)))] .ret) .skip)) (sr [oW 79 0,oW 80 5,oN 81 (ix 10 79 80),oN 82 (fd 4 81),oN 83 (fd 2 82),oN 84 (lF 1 83),oW 85 1,oN 86 (cl 59 [84,85]),oW 1 86] (.seq (sr [oW 87 1,oN 88 (bc .lss 87 0)] (cd 88 (sr [oN 4 (.bY (cI (-1)))] .ret) .skip)) (.seq (sr [oW 89 0,oW 90 5,oN 91 (ix 10 89 90),oN 92 (fd 7 91),oN 93 (fd 0 92),oN 94 (fd 0 93),oN 95 (lF 1 94),oW 96 1,oN 97 (bc .rem 96 3),oN 98 (bc .eql 97 0),oN 99 (.beq true (.t 95) (.t 98))] (cd 99 (sr [oN 4 (.bY (cI (-1)))] .ret) .skip)) (sr [oW 100 1,oN 101 (bc .add 100 1),oW 1 101] (sr [oW 102 0,oW 103 5,oN 104 (ix 10 102 103),oN 105 (fd 7 104),oN 106 (fd 0 105),oN 107 (fd 1 106),oN 108 (lF 1 107),oW 109 1,oN 110 (cl 59 [108,109]),oW 1 110] (.seq (sr [oW 111 1,oN 112 (bc .lss 111 0)] (cd 112 (sr [oN 4 (.bY (cI (-1)))] .ret) .skip)) (sr [oW 113 0,oW 114 5,oN 115 (ix 10 113 114),oN 116 (fd 7 115),oN 117 (fd 2 116),oN 118 (lF 1 117),oW 119 1,oN 120 (cl 59 [118,119]),oW 1 120] (sr [oW 121 1,oN 122 (bc .lss 121 0)] (cd 122 (sr [oN 4 (.bY (cI (-1)))] .ret) .skip)))))))))))))))))))))) (rg [oW 10 5,oN 11 (bc .add 10 1),oW 5 11])))))) (sr [oW 123 1,oW 4 123] .ret)))⟩
structure vM (T : Tb) : Prop where
 hT : T 398 = some nT
 dh : kQ T
def jm : Fn:=⟨2,65,[.tmp 4],(sr [oN 4 (.bY (cI 0))] (.seq (sr [oN 5 (.bY (cI 0))] (.block 0 (.loop (.seq (sr [oW 6 5,oW 7 0,oN 8 (ln 7),oN 9 (bt .lss 6 8)] (cd 9 .skip (.exit 0))) (.seq (.block 1 (.seq (sr [oW 12 0,oW 13 5,oN 14 (ix 5 12 13),oN 15 (fd 0 14),oN 16 (lF 1 15),oW 17 1,oN 18 (bt .neq 16 17)] (cd 18 (sr [oN 4 (.bY (cI (-1)))] .ret) .skip)) (sr [oW 19 1,oN 20 (bc .add 19 1),oW 1 20] (.seq (sr [oW 21 0,oW 22 5,oN 23 (ix 5 21 22),oN 24 (fd 1 23),oN 25 (fd 0 24),oN 26 (fd 0 25),oN 27 (lF 1 26),oW 28 1,oN 29 (bc .rem 28 3),oN 30 (bc .eql 29 0),oN 31 (.beq true (.t 27) (.t 30))] (cd 31 (sr [oN 4 (.bY (cI (-1)))] .ret) .skip)) (sr [oW 32 1,oN 33 (bc .add 32 1),oW 1 33] (sr [oW 34 0,oW 35 5,oN 36 (ix 5 34 35),oN 37 (fd 1 36),oN 38 (fd 0 37),oN 39 (fd 1 38),oN 40 (lF 1 39),oW 41 1,oN 42 (cl 59 [40,41]),oW 1 42] (.seq (sr [oW 43 1,oN 44 (bc .lss 43 0)] (cd 44 (sr [oN 4 (.bY (cI (-1)))] .ret) .skip)) (sr [oW 45 0,oW 46 5,oN 47 (ix 5 45 46),oN 48 (fd 1 47),oN 49 (fd 2 48),oN 50 (lF 1 49),oW 51 1,oN 52 (cl 59 [50,51]),oW 1 52] (.seq (sr [oW 53 1,oN 54 (bc .lss 53 0)] (cd 54 (sr [oN 4 (.bY (cI (-1)))] .ret) .skip)) (sr [oW 55 0,oW 56 5,oN 57 (ix 5 55 56),oN 58 (fd 4 57),oN 59 (lF 1 58),oW 60 1,oN 61 (cl 398 [59,60]),oW 1 61] (sr [oW 62 1,oN 63 (bc .lss 62 0)] (cd 63 (sr [oN 4 (.bY (cI (-1)))] .ret) .skip)))))))))))) (rg [oW 10 5,oN 11 (bc .add 10 1),oW 5 11])))))) (sr [oW 64 1,oW 4 64] .ret)))⟩
structure mX (T : Tb) : Prop where
 hT : T 394 = some jm
 dh : kQ T
 KL : vM T
def pY : Fn:=⟨2,12,[.tmp 4],(.seq (rf 1 [oN 2 (.box (.t 0)),oK 4 1 (.bY (cI 0))]) (sr [oN 5 (fd 1 2),oN 6 (lF 1 5),oW 7 1,oN 8 (cl 59 [6,7]),oW 1 8] (.seq (sr [oW 9 1,oN 10 (bc .lss 9 0)] (cd 10 (sr [oN 4 (.bY (cI (-1)))] .ret) .skip)) (sr [oW 11 1,oW 4 11] .ret))))⟩
structure xR (T : Tb) : Prop where
 hT : T 58 = some pY
 dh : kQ T
def xU : Fn:=⟨2,18,[.tmp 4],(.seq (rf 1 [oN 2 (.box (.t 0)),oK 4 1 (.bY (cI 0))]) (sr [oN 5 (fd 0 2),oN 6 (lT 2 5),oW 7 1,oN 8 (cl 58 [6,7]),oW 1 8] (.seq (sr [oW 9 1,oN 10 (bc .lss 9 0)] (cd 10 (sr [oN 4 (.bY (cI (-1)))] .ret) .skip)) (sr [oN 11 (fd 2 2),oN 12 (lF 1 11),oW 13 1,oN 14 (cl 59 [12,13]),oW 1 14] (.seq (sr [oW 15 1,oN 16 (bc .lss 15 0)] (cd 16 (sr [oN 4 (.bY (cI (-1)))] .ret) .skip)) (sr [oW 17 1,oW 4 17] .ret))))))⟩
structure DI (T : Tb) : Prop where
 hT : T 42 = some xU
 MI : xR T
 dh : kQ T
theorem TL {T : Tb} (h : vM T) {l : List Pa} {k : Int} (hl : vY Pa.sz l ≤ 1000000000:=by exact bZ) (hk : 0 ≤ k ∧ k + oP Pa.ct l l.length ≤ 1000000000000:=by exact bZ) :
  PF T 398 [kK (Hr Pa.mk3 Pa.ct k l),iv k] (iv (k + oP Pa.ct l l.length)):=by
 have hll : l.length ≤ 1000000000:=by unfold vY at hl;omega
 have hml:=Eb Pa.mk3 Pa.ct k l
 refine aT nR h.hT ?_
 simp only [nT,Lz]
 refine ev ?_
 refine aO (fun _ _=>false) (α:=Nat) (fun i=>⟨bF [kK (Hr Pa.mk3 Pa.ct k l),iv (k + oP Pa.ct l i),.any,.any,.any,iv (i : Nat)],[],0,0,[],[]⟩) (fun i=>i ≤ l.length) (fun i=>l.length - i) rfl 0 ?_ ?_ ?_
 ·omega
 ·(refine aH ?_) <;> (try (refine ev1 @Q7 ?_;try with_reducible exact True.intro)) <;> (repeat' (first | refine ⟨?_,?_⟩ | exact jI (by omega) | exact lZ (by simp) | exact jJ _))
 ·intro i hi
  refine ev1 @hml ?_
  refine aG (fun hc=>?_) fun hc=>?_
  ·have hil : i < l.length:=by omega
   have hrow:=(mg (f:=Pa.cells) (show i < (Hr Pa.mk3 Pa.ct k l).length by omega)).trans (congrArg Pa.cells (VF Pa.mk3 Pa.ct k l i hil))
   obtain ⟨x,hx⟩ : ∃ x,l.getD i default = x:=⟨_,rfl⟩
   have hcn:=X6 Pa.ct l hil
   have hcl:=NG Pa.ct l (i:=i + 1) hil
   have hxs : Pa.sz x ≤ 1000000000:=by
    have:=Q5 Pa.sz hil
    rw [hx] at this
    omega
   rw [hx] at hcn hrow
   rw [hcn] at hcl
   have hct : Pa.ct x = 1 + 1 + x.share.mag.length + x.share.den.length + 1 + x.dx.mag.length + x.dx.den.length + 1 + x.dy.mag.length + x.dy.den.length:=rfl
   obtain ⟨kk,hkk⟩ : ∃ kk,k + (oP Pa.ct l i : Int) = kk:=⟨_,rfl⟩
   rw [hkk] at hrow
   have hrow : (List.map Pa.cells (Hr Pa.mk3 Pa.ct k l)).getD i [] = [iv (kk),.bool (decide ((kk + 1).tmod 3 = 0)),ints (cnt x.share.mag.length (kk + 1 + 1)),ints (cnt x.share.den.length (kk + 1 + 1 + x.share.mag.length)),.bool (decide ((kk + 1 + 1 + x.share.mag.length + x.share.den.length).tmod 3 = 0)),ints (cnt x.dx.mag.length (kk + 1 + 1 + x.share.mag.length + x.share.den.length + 1)),ints (cnt x.dx.den.length (kk + 1 + 1 + x.share.mag.length + x.share.den.length + 1 + x.dx.mag.length)),.bool (decide ((kk + 1 + 1 + x.share.mag.length + x.share.den.length + 1 + x.dx.mag.length + x.dx.den.length).tmod 3 = 0)),ints (cnt x.dy.mag.length (kk + 1 + 1 + x.share.mag.length + x.share.den.length + 1 + x.dx.mag.length + x.dx.den.length + 1)),ints (cnt x.dy.den.length (kk + 1 + 1 + x.share.mag.length + x.share.den.length + 1 + x.dx.mag.length + x.dx.den.length + 1 + x.dy.mag.length))]:=hrow
   simp only [Pa.sz,R.sz] at hxs
   refine ev4 @hc @hrow @hkk @hml ?_
   refine ah (lN h.dh (n:=x.share.mag.length) (k:=kk + 1 + 1) (by omega) (by omega)) ?_
   refine iP @hrow @hml ?_
   refine aG (fun hc=>absurd hc (by omega)) fun _=>?_
   refine iP @hrow @hml ?_
   refine ah (lN h.dh (n:=x.share.den.length) (k:=kk + 1 + 1 + x.share.mag.length) (by omega) (by omega)) ?_
   refine iP @hrow @hml ?_
   refine aG (fun hc=>absurd hc (by omega)) fun _=>?_
   refine iP @hrow @hml ?_
   refine ah (lN h.dh (n:=x.dx.mag.length) (k:=kk + 1 + 1 + x.share.mag.length + x.share.den.length + 1) (by omega) (by omega)) ?_
   refine iP @hrow @hml ?_
   refine aG (fun hc=>absurd hc (by omega)) fun _=>?_
   refine iP @hrow @hml ?_
   refine ah (lN h.dh (n:=x.dx.den.length) (k:=kk + 1 + 1 + x.share.mag.length + x.share.den.length + 1 + x.dx.mag.length) (by omega) (by omega)) ?_
   refine iP @hrow @hml ?_
   refine aG (fun hc=>absurd hc (by omega)) fun _=>?_
   refine iP @hrow @hml ?_
   refine ah (lN h.dh (n:=x.dy.mag.length) (k:=kk + 1 + 1 + x.share.mag.length + x.share.den.length + 1 + x.dx.mag.length + x.dx.den.length + 1) (by omega) (by omega)) ?_
   refine iP @hrow @hml ?_
   refine aG (fun hc=>absurd hc (by omega)) fun _=>?_
   refine iP @hrow @hml ?_
   refine ah (lN h.dh (n:=x.dy.den.length) (k:=kk + 1 + 1 + x.share.mag.length + x.share.den.length + 1 + x.dx.mag.length + x.dx.den.length + 1 + x.dy.mag.length) (by omega) (by omega)) ?_
   refine iP @hrow @hml ?_
   refine aG (fun hc=>absurd hc (by omega)) fun _=>?_
   refine iP @hrow @hml ?_
   exact ⟨i + 1,by omega,by omega,by (refine aH ?_;exact wz)⟩
  ·have : i = l.length:=by omega
   subst this
   (refine ev1 @hc ?_;try with_reducible exact True.intro)
theorem DJ {T : Tb} (h : mX T) {l : List Cd} {k : Int} (hl : vY Cd.sz l ≤ 1000000000:=by exact bZ) (hk : 0 ≤ k ∧ k + oP Cd.ct l l.length ≤ 1000000000000:=by exact bZ) :
  PF T 394 [Bz (Hr Cd.mk3 Cd.ct k l),iv k] (iv (k + oP Cd.ct l l.length)):=by
 have hll : l.length ≤ 1000000000:=by unfold vY at hl;omega
 have hml:=Eb Cd.mk3 Cd.ct k l
 refine aT nR h.hT ?_
 simp only [jm,Lz]
 refine ev ?_
 refine aO (fun _ _=>false) (α:=Nat) (fun i=>⟨bF [Bz (Hr Cd.mk3 Cd.ct k l),iv (k + oP Cd.ct l i),.any,.any,.any,iv (i : Nat)],[],0,0,[],[]⟩) (fun i=>i ≤ l.length) (fun i=>l.length - i) rfl 0 ?_ ?_ ?_
 ·omega
 ·(refine aH ?_) <;> (try (refine ev1 @Q7 ?_;try with_reducible exact True.intro)) <;> (repeat' (first | refine ⟨?_,?_⟩ | exact jI (by omega) | exact lZ (by simp) | exact jJ _))
 ·intro i hi
  refine ev1 @hml ?_
  refine aG (fun hc=>?_) fun hc=>?_
  ·have hil : i < l.length:=by omega
   have hrow:=(mg (f:=Cd.cells) (show i < (Hr Cd.mk3 Cd.ct k l).length by omega)).trans (congrArg Cd.cells (VF Cd.mk3 Cd.ct k l i hil))
   obtain ⟨x,hx⟩ : ∃ x,l.getD i default = x:=⟨_,rfl⟩
   have hcn:=X6 Cd.ct l hil
   have hcl:=NG Cd.ct l (i:=i + 1) hil
   have hxs : Cd.sz x ≤ 1000000000:=by
    have:=Q5 Cd.sz hil
    rw [hx] at this
    omega
   rw [hx] at hcn hrow
   rw [hcn] at hcl
   have hct : Cd.ct x = 1 + 1 + x.total.mag.length + x.total.den.length + oP Pa.ct x.ps x.ps.length:=rfl
   obtain ⟨kk,hkk⟩ : ∃ kk,k + (oP Cd.ct l i : Int) = kk:=⟨_,rfl⟩
   rw [hkk] at hrow
   have hrow : (List.map Cd.cells (Hr Cd.mk3 Cd.ct k l)).getD i [] = [iv (kk),.bool (decide ((kk + 1).tmod 3 = 0)),ints (cnt x.total.mag.length (kk + 1 + 1)),ints (cnt x.total.den.length (kk + 1 + 1 + x.total.mag.length)),kK (Hr Pa.mk3 Pa.ct (kk + 1 + 1 + x.total.mag.length + x.total.den.length) x.ps)]:=hrow
   simp only [Cd.sz,R.sz] at hxs
   refine ev4 @hc @hrow @hkk @hml ?_
   refine ah (lN h.dh (n:=x.total.mag.length) (k:=kk + 1 + 1) (by omega) (by omega)) ?_
   refine iP @hrow @hml ?_
   refine aG (fun hc=>absurd hc (by omega)) fun _=>?_
   refine iP @hrow @hml ?_
   refine ah (lN h.dh (n:=x.total.den.length) (k:=kk + 1 + 1 + x.total.mag.length) (by omega) (by omega)) ?_
   refine iP @hrow @hml ?_
   refine aG (fun hc=>absurd hc (by omega)) fun _=>?_
   refine iP @hrow @hml ?_
   refine ah (TL h.KL (l:=x.ps) (k:=kk + 1 + 1 + x.total.mag.length + x.total.den.length) (by omega) (by omega)) ?_
   refine iP @hrow @hml ?_
   refine aG (fun hc=>absurd hc (by omega)) fun _=>?_
   refine iP @hrow @hml ?_
   exact ⟨i + 1,by omega,by omega,by (refine aH ?_;exact wz)⟩
  ·have : i = l.length:=by omega
   subst this
   (refine ev1 @hc ?_;try with_reducible exact True.intro)
theorem Wy {T : Tb} (h : xR T) {x : Bi} {k : Int} (hl : x.mag.length ≤ 1000000000:=by exact bZ) (hk : 0 ≤ k ∧ k + Bi.mY x ≤ 1000000000000:=by exact bZ) :
  PF T 58 [Il (Bi.mk2 k x),iv k] (iv (k + Bi.mY x)):=by
 have hk':=hk
 simp only [Bi.mY] at hk'
 refine aT nR h.hT ?_
 simp only [pY,Lz]
 refine ev ?_
 refine ah (lN h.dh (n:=x.mag.length) (k:=k) (by first | omega | (simp only [Bi.mY,R.mY,Bi.mY];omega)) (by first | omega | (simp only [Bi.mY,R.mY,Bi.mY];omega))) ?_
 refine ev ?_
 refine aG (fun hc=>absurd hc (by first | omega | (simp only [Bi.mY];omega))) fun _=>?_
 refine ev ?_
 exact ivc (by first | rfl | (simp only [Bi.mY];omega))
theorem UL {T : Tb} (h : DI T) {x : R} {k : Int} (hl : x.sz ≤ 1000000000:=by exact bZ) (hk : 0 ≤ k ∧ k + R.mY x ≤ 1000000000000:=by exact bZ) :
  PF T 42 [aU (R.mk2 k x),iv k] (iv (k + R.mY x)):=by
 have hl':=hl
 simp only [R.sz] at hl'
 have hk':=hk
 simp only [R.mY,Bi.mY] at hk'
 refine aT nR h.hT ?_
 simp only [xU,Lz]
 refine ev ?_
 refine ah (Wy h.MI (x:=x.num) (k:=k) (by first | omega | (simp only [R.sz,R.mY,Bi.mY];omega)) (by first | omega | (simp only [R.sz,R.mY,Bi.mY];omega))) ?_
 refine ev ?_
 refine aG (fun hc=>absurd hc (by first | omega | (simp only [R.mY,Bi.mY];omega))) fun _=>?_
 refine ev ?_
 refine ah (lN h.dh (n:=x.den.length) (k:=k + Bi.mY x.num) (by first | omega | (simp only [R.sz,R.mY,Bi.mY];omega)) (by first | omega | (simp only [R.sz,R.mY,Bi.mY];omega))) ?_
 refine ev ?_
 refine aG (fun hc=>absurd hc (by first | omega | (simp only [R.mY,Bi.mY];omega))) fun _=>?_
 refine ev ?_
 exact ivc (by first | rfl | (simp only [R.mY,Bi.mY];omega))
theorem aaP {α : Type} {c f : α → Nat} {K : Nat} (h : ∀ x,c x ≤ K * (1 + f x)) (l : List α) : oP c l l.length ≤ K * vY f l:=by
 unfold oP vY
 rw [List.take_length]
 induction l with
 | nil=>simp
 |
  cons x l ih =>
  rw [List.map_cons,List.sum_cons,List.map_cons,List.sum_cons,List.length_cons]
  have:=h x
  rw [show l.length + 1 + (f x + (l.map f).sum) = (1 + f x) + (l.length + (l.map f).sum) by omega,Nat.mul_add]
  omega
theorem apM (x : Lk) : Lk.ct x ≤ 5 * (1 + x.sz):=by unfold Lk.ct Lk.sz R.sz;omega
theorem apN (x : Pa) : Pa.ct x ≤ 5 * (1 + x.sz):=by unfold Pa.ct Pa.sz R.sz;omega
theorem agp (l : List Lk) : oP Lk.ct l l.length ≤ 5 * vY Lk.sz l:=aaP apM l
theorem aaQ (l : List Pa) : oP Pa.ct l l.length ≤ 5 * vY Pa.sz l:=aaP apN l
theorem apO (x : Cd) : Cd.ct x ≤ 5 * (1 + x.sz):=by have:=aaQ x.ps;unfold Cd.ct Cd.sz R.sz;omega
theorem O1 (l : List Cd) : oP Cd.ct l l.length ≤ 5 * vY Cd.sz l:=aaP apO l
theorem al9 (x : R) : x.mY ≤ x.sz:=by unfold R.mY Bi.mY R.sz;exact Nat.le_refl _
def iy : Fn:=⟨2,154,[.tmp 4],(sr [oN 4 mF] (.seq (sr [oW 20 1,oN 21 (ln 20),oN 22 (bc .gtr 21 1048576)] (cd 22 (sr [oN 4 mT] .ret) .skip)) (sr [oN 5 (.bY (cI 1048576))] (sr [oW 23 0,oW 24 5,oN 25 (cl 19 [23,24]),oW 5 25] (.seq (sr [oW 26 5,oN 27 (bc .lss 26 0)] (cd 27 (sr [oN 4 mT] .ret) .skip)) (.seq (rf 1 [oK 29 1 (oV 0),oK 30 1 (cl 21 [29]),oK 31 1 (oV 1),oK 32 1 (cl 6 [31]),oK 33 1 (cl 393 [30,32]),oK 28 1 (oV 33),oK 34 1 (ex 0 28),oK 35 1 (ex 1 28),oK 36 1 (ex 2 28),oN 7 (.alloc jK),oK 6 1 (oV 34),⟨none,none,1,.store 3 (.t 7) (.t 35),[]⟩,oK 8 1 (oV 36)]) (sr [oW 37 0,oN 38 (cl 21 [37]),oW 9 38] (sr [oW 39 1,oN 40 (cl 6 [39]),oW 10 40] (.seq (rf 1 [oK 42 1 (oV 9),oK 43 1 (oV 10),oK 44 1 (cl 270 [42,43]),oK 41 1 (oV 44),oK 45 1 (ex 0 41),oK 46 1 (ex 1 41),oK 47 1 (ex 2 41),oN 12 (.alloc jK),oK 11 1 (oV 45),⟨none,none,1,.store 3 (.t 12) (.t 46),[]⟩,oK 13 1 (oV 47)]) (.seq (sr [oW 48 11,oW 49 6,oN 50 (cl 307 [48,49]),oN 51 (nt 50),oW 52 51,oG 52 false 53 (lT 3 12),oG 52 false 54 (lT 3 7),oG 52 false 55 (cl 40 [53,54]),oG 52 false 56 (nt 55),oN 57 (.pick (.t 52) (.c (.bool true)) (.t 56)),oW 58 57,oG 58 false 59 (oV 13),oG 58 false 60 (oV 8),oG 58 false 61 (.beq true (.t 59) (.t 60)),oN 62 (.pick (.t 58) (.c (.bool true)) (.t 61))] (cd 62 (sr [oN 4 mF] .ret) .skip)) (.seq (sr [oW 63 9,oW 64 0,oN 65 (cl 21 [64]),oN 66 (cl 23 [63,65]),oN 67 (nt 66)] (cd 67 (sr [oN 4 mF] .ret) .skip)) (.seq (sr [oW 68 10,oW 69 1,oN 70 (cl 6 [69]),oN 71 (cl 8 [68,70]),oN 72 (nt 71)] (cd 72 (sr [oN 4 mF] .ret) .skip)) (sr [oN 14 (.bY (cI 1))] (sr [oW 73 9,oW 74 14,oN 75 (cl 118 [73,74]),oW 14 75] (sr [oW 76 10,oW 77 14,oN 78 (cl 57 [76,77]),oW 14 78] (.seq (sr [oW 79 14,oN 80 (bc .lss 79 0),oW 81 80,oG 81 false 82 (oV 11),oG 81 false 83 (oV 6),oG 81 false 84 (cl 307 [82,83]),oG 81 false 85 (nt 84),oN 86 (.pick (.t 81) (.c (.bool true)) (.t 85)),oW 87 86,oG 87 false 88 (lT 3 12),oG 87 false 89 (lT 3 7),oG 87 false 90 (cl 40 [88,89]),oG 87 false 91 (nt 90),oN 92 (.pick (.t 87) (.c (.bool true)) (.t 91)),oW 93 92,oG 93 false 94 (oV 13),oG 93 false 95 (oV 8),oG 93 false 96 (.beq true (.t 94) (.t 95)),oN 97 (.pick (.t 93) (.c (.bool true)) (.t 96))] (cd 97 (sr [oN 4 mF] .ret) .skip)) (sr [oN 15 (.bY (cI 1))] (sr [oW 98 11,oW 99 15,oN 100 (cl 385 [98,99]),oW 15 100] (sr [oN 101 (lT 3 12),oW 102 15,oN 103 (cl 41 [101,102]),oW 15 103] (sr [oN 16 (.bY (cI 1))] (sr [oW 104 11,oW 105 16,oN 106 (cl 394 [104,105]),oW 16 106] (.seq (sr [oW 107 16,oN 108 (bc .lss 107 0)] (cd 108 (sr [oN 4 mF] .ret) .skip)) (sr [oN 109 (lT 3 12),oW 110 16,oN 111 (cl 42 [109,110]),oW 16 111] (.seq (sr [oW 112 16,oN 113 (bc .lss 112 0)] (cd 113 (sr [oN 4 mF] .ret) .skip)) (.seq (sr [oW 114 16,oW 115 15,oN 116 (bt .neq 114 115)] (cd 116 (sr [oN 4 mF] .ret) .skip)) (.seq (rf 1 [oK 118 1 (oV 0),oK 119 1 (cl 21 [118]),oK 120 1 (oV 1),oK 121 1 (cl 6 [120]),oK 122 1 (cl 270 [119,121]),oK 117 1 (oV 122),oK 123 1 (ex 0 117),oK 124 1 (ex 1 117),oK 125 1 (ex 2 117),oN 18 (.alloc jK),oK 17 1 (oV 123),⟨none,none,1,.store 3 (.t 18) (.t 124),[]⟩,oK 19 1 (oV 125)]) (.seq (sr [oW 126 17,oW 127 6,oN 128 (cl 307 [126,127]),oN 129 (nt 128),oW 130 129,oG 130 false 131 (lT 3 18),oG 130 false 132 (lT 3 7),oG 130 false 133 (cl 40 [131,132]),oG 130 false 134 (nt 133),oN 135 (.pick (.t 130) (.c (.bool true)) (.t 134)),oW 136 135,oG 136 false 137 (oV 19),oG 136 false 138 (oV 8),oG 136 false 139 (.beq true (.t 137) (.t 138)),oN 140 (.pick (.t 136) (.c (.bool true)) (.t 139))] (cd 140 (sr [oN 4 mF] .ret) .skip)) (sr [oN 16 (.bY (cI 1))] (sr [oW 141 11,oW 142 16,oN 143 (cl 394 [141,142]),oW 16 143] (.seq (sr [oW 144 16,oN 145 (bc .lss 144 0)] (cd 145 (sr [oN 4 mF] .ret) .skip)) (sr [oN 146 (lT 3 12),oW 147 16,oN 148 (cl 42 [146,147]),oW 16 148] (.seq (sr [oW 149 16,oN 150 (bc .lss 149 0)] (cd 150 (sr [oN 4 mF] .ret) .skip)) (.seq (sr [oW 151 16,oW 152 15,oN 153 (bt .neq 151 152)] (cd 153 (sr [oN 4 mF] .ret) .skip)) (sr [oN 4 mT] .ret))))))))))))))))))))))))))))))))))⟩
structure qQ (T : Tb) : Prop where
 hT : T 382 = some iy
 gU : oQ T
 uh : uf T
 Sl : C9 T
 xW : wX T
 Sm : Df T
 fA : rG T
 Sr : Dh T
 IY : DI T
 aV : iD T
 N9 : yM T
 Js : sH T
 pO : pJ T
 FW : mO T
 Jt : sG T
 vV : mX T
theorem ET {T : Tb} (h : qQ T) (a : List Lk) (wa : (BU Lk.wf) a) (b : List Int) (wb : b.length ≤ 9223372036854775807) : PF T 382 [bf a,ints b] (.bool true):=by
 refine PO.frz ?_ (tY 11 _)
 refine eX (fun x d=>(x == 21 && d == 38) || (x == 6 && d == 40) || (x == 270 && d == 44) || (x == 118 && d == 75) || (x == 57 && d == 78) || (x == 385 && d == 100) || (x == 41 && d == 103)) h.hT ?_
 simp only [iy,Lz,St.enter,List.length_cons,List.length_nil,Nat.zero_add]
 refine ew ?_
 refine aG (fun hbb=>?_) fun hbb=>?_
 ·refine ew ?_
  exact Ri
 refine ew ?_
 refine ah (ac1 h.Sl (l:=a) wa ⟨by omega,by omega⟩) ?_
 refine ew ?_
 have ka:=@Qu (1048576) (vY Lk.sz a)
 refine aG (fun hba=>?_) fun hba=>?_
 ·refine ew ?_
  exact Ri
 have sa:=abb hba
 refine ew ?_
 have za : vY Lk.sz a ≤ 1048576:=by omega
 have zb : b.length ≤ 1048576:=by omega
 have hcn:=al7 b wa za
 have zr:=hcn.1
 have wr:=hcn.2.1
 have we:=hcn.2.2
 have:=agp a
 have:=O1 (Jr a b)
 have:=al9 (iH a b)
 have PI:=N8 h.Js (o:=b) wa za zb
 refine ah (NK h.xW (l:=a) za) ?_
 refine ew ?_
 refine ah (IC h.gU (l:=b) zb) ?_
 refine ew ?_
 refine ah (OZ h.Jt (o:=b) wa za zb) ?_
 refine ew ?_
 refine eH (aad h.xW (l:=a) za) (by (refine ew ?_;try with_reducible exact True.intro)) ?_
 intro x0 q1 o1 G
 have hO:=G.ow
 have gn:=G.nd
 have gf:=G.fresh
 have go:=G.old
 have gl:=G.len
 clear G
 have E : Ep ([some ⟨3,[[.bool (iH a b).neg,ints (iH a b).mag,ints (iH a b).den]]⟩] : Store) [] [] [] [(0,⟨3,[[.bool (iH a b).neg,ints (iH a b).mag,ints (iH a b).den]]⟩)]:=⟨QZ,by simp [aj]⟩
 have E2:=E.got (s1:=([some ⟨3,[[.bool (iH a b).neg,ints (iH a b).mag,ints (iH a b).den]]⟩] : Store)) (fun _ _=>rfl) (by simp) (X7 hO) (by first | exact gn | simpa using gn) (by first | exact gf | simpa using gf) (by first | exact go | simpa using go)
 have hq : ([some ⟨3,[[.bool (iH a b).neg,ints (iH a b).mag,ints (iH a b).den]]⟩] : Store).length + 0 ≤ q1.length:=by first | exact gl | simpa using gl
 clear E gn gf go gl
 have E : Ep q1 [x0] [bf a] _ [(0,⟨3,[[.bool (iH a b).neg,ints (iH a b).mag,ints (iH a b).den]]⟩)]:=E2
 clear E2
 have Rf:=And.intro (E.res 0 rfl rfl (lS _ _)) (fun x=>(E.snoc (x:=x)).res 0 rfl rfl (lS _ _))
 have LF:=E.leaf 0 rfl rfl
 have LO:=E.at0 (p:=0) (ob:=⟨3,[[.bool (iH a b).neg,ints (iH a b).mag,ints (iH a b).den]]⟩) (by simp)
 refine yJ @Rf @LF @LO @aB @aS ?_
 refine eH (NJ h.gU (l:=b) zb) (by (refine yJ @Rf @LF @LO @aB @aS ?_;try with_reducible exact True.intro)) ?_
 intro x1 q2 o2 G
 have hO:=G.ow
 have gn:=G.nd
 have gf:=G.fresh
 have go:=G.old
 have gl:=G.len
 clear G
 have E2:=E.got (s1:=q1) (fun _ _=>rfl) (by simp) (X7 hO) (by first | exact gn | simpa using gn) (by first | exact gf | simpa using gf) (by first | exact go | simpa using go)
 have hq : q1.length + 0 ≤ q2.length:=by first | exact gl | simpa using gl
 clear E gn gf go gl
 have E : Ep q2 [x0,x1] [bf a,ints b] _ [(0,⟨3,[[.bool (iH a b).neg,ints (iH a b).mag,ints (iH a b).den]]⟩)]:=E2
 clear E2
 replace Rf:=And.intro (E.res 0 rfl rfl (lS _ _)) (And.intro (fun x=>(E.snoc (x:=x)).res 0 rfl rfl (lS _ _)) (And.intro (E.res 1 rfl rfl (au _ _)) (fun x=>(E.snoc (x:=x)).res 1 rfl rfl (au _ _))))
 replace LF:=And.intro (E.leaf 0 rfl rfl) (E.leaf 1 rfl rfl)
 replace LO:=E.at0 (p:=0) (ob:=⟨3,[[.bool (iH a b).neg,ints (iH a b).mag,ints (iH a b).den]]⟩) (by simp)
 refine yJ @Rf @LF @LO @aB @aS ?_
 refine eH (PI) (by (refine yJ @Rf @LF @LO @aB @aS ?_;try with_reducible exact True.intro)) ?_
 intro r q3 o3 G
 have hO:=G.ow
 have gn:=G.nd
 have gf:=G.fresh
 have go:=G.old
 have gl:=G.len
 clear G
 obtain ⟨_,rfl,hO0⟩:=hO.abm
 obtain ⟨g0,_,auC,axo,rfl,rfl,apP,apQ⟩:=hO0.inv
 obtain ⟨_,_,auD,axp,rfl,rfl,apR,apS⟩:=apQ.inv
 obtain ⟨_,rfl,ajO⟩:=apR.dA
 obtain ⟨Hu,Hw,rfl⟩:=ajO.rat
 obtain ⟨_,rfl,apT⟩:=apS.tX
 obtain ⟨rfl,rfl⟩:=apT.Ea
 simp only [List.append_nil,List.nil_append] at gn gf
 have E2:=E.got (s1:=q2 ++ [none]) ((fun q hq=>by first | exact eY hq | (simp only [List.append_assoc];exact eY hq))) (by simp) (dG (X7 apP) (ajO)) (by first | exact gn | simpa using gn) (by first | exact gf | simpa using gf) (by first | exact go | simpa using go)
 have F0:=E.free (os2:=auC ++ (auD)) (s1:=q2 ++ [none]) (p:=q2.length) (by first | exact gf | simpa using gf) (by simp) (by simp)
 have hq : q2.length + 1 ≤ q3.length:=by first | exact gl | simpa using gl
 try simp only [List.length_cons,List.length_nil,Nat.zero_add,Nat.reduceAdd] at hq
 have hl0 : q2.length < q3.length:=by omega
 have : 0 ≠ q2.length:=by have:=E.lt (0,⟨3,[[.bool (iH a b).neg,ints (iH a b).mag,ints (iH a b).den]]⟩) (by simp);omega
 clear E gn gf go gl
 have E : Ep q3 [x0,x1,g0,.bool (iH a b).neg,Hu,Hw] [bf a,ints b,Bz (Jr a b),.bool (iH a b).neg,ints (iH a b).mag,ints (iH a b).den] _ [(0,⟨3,[[.bool (iH a b).neg,ints (iH a b).mag,ints (iH a b).den]]⟩)]:=E2
 clear E2
 replace E:=E.FI (p:=q2.length) (ob:=⟨3,[[.bool (iH a b).neg,Hu,Hw]]⟩) (L':=[(0,⟨3,[[.bool (iH a b).neg,ints (iH a b).mag,ints (iH a b).den]]⟩),(q2.length,⟨3,[[.bool (iH a b).neg,Hu,Hw]]⟩)]) F0 (by first | omega | (simp;omega)) (by simp;(try omega))
 replace Rf:=And.intro (E.res 0 rfl rfl (lS _ _)) (And.intro (fun x=>(E.snoc (x:=x)).res 0 rfl rfl (lS _ _)) (And.intro (E.res 1 rfl rfl (au _ _)) (And.intro (fun x=>(E.snoc (x:=x)).res 1 rfl rfl (au _ _)) (And.intro (E.res 2 rfl rfl (rF _ _)) (And.intro (fun x=>(E.snoc (x:=x)).res 2 rfl rfl (rF _ _)) (And.intro (E.res1 4 rfl rfl (au _ _)) (And.intro (fun x=>(E.snoc (x:=x)).res1 4 rfl rfl (au _ _)) (And.intro (E.res1 5 rfl rfl (au _ _)) (fun x=>(E.snoc (x:=x)).res1 5 rfl rfl (au _ _))))))))))
 replace LF:=And.intro (E.leaf 0 rfl rfl) (And.intro (E.leaf 1 rfl rfl) (And.intro (E.leaf 2 rfl rfl) (And.intro (E.leaf 4 rfl rfl) (E.leaf 5 rfl rfl))))
 replace LO:=And.intro (E.at0 (p:=0) (ob:=⟨3,[[.bool (iH a b).neg,ints (iH a b).mag,ints (iH a b).den]]⟩) (by simp)) (E.at0 (p:=q2.length) (ob:=⟨3,[[.bool (iH a b).neg,Hu,Hw]]⟩) (by simp))
 refine vW @Rf @LF @LO @aB @aS @List.set_set.{0} ?_
 obtain ⟨s3,hs⟩ : ∃ s,(q3.set (q2.length) (some ⟨3,[[.bool (iH a b).neg,Hu,Hw]]⟩)) = s:=⟨_,rfl⟩
 have hls : q3.length = s3.length:=by rw [← hs];simp
 simp only [hs] at *
 clear hs
 simp only [hls] at *
 clear hls
 obtain ⟨WA,hpn⟩ : ∃ p,q2.length = p:=⟨_,rfl⟩
 simp only [hpn] at *
 clear hpn
 clear Rf LF LO
 have Rf:=And.intro (E.res 0 rfl rfl (lS _ _)) (And.intro (fun x=>(E.snoc (x:=x)).res 0 rfl rfl (lS _ _)) (And.intro (E.res 1 rfl rfl (au _ _)) (And.intro (fun x=>(E.snoc (x:=x)).res 1 rfl rfl (au _ _)) (And.intro (E.res 2 rfl rfl (rF _ _)) (And.intro (fun x=>(E.snoc (x:=x)).res 2 rfl rfl (rF _ _)) (And.intro (E.res1 4 rfl rfl (au _ _)) (And.intro (fun x=>(E.snoc (x:=x)).res1 4 rfl rfl (au _ _)) (And.intro (E.res1 5 rfl rfl (au _ _)) (fun x=>(E.snoc (x:=x)).res1 5 rfl rfl (au _ _))))))))))
 have LF:=And.intro (E.leaf 0 rfl rfl) (And.intro (E.leaf 1 rfl rfl) (And.intro (E.leaf 2 rfl rfl) (And.intro (E.leaf 4 rfl rfl) (E.leaf 5 rfl rfl))))
 have LO:=And.intro (E.at0 (p:=0) (ob:=⟨3,[[.bool (iH a b).neg,ints (iH a b).mag,ints (iH a b).den]]⟩) (by simp)) (E.at0 (p:=WA) (ob:=⟨3,[[.bool (iH a b).neg,Hu,Hw]]⟩) (by simp))
 refine ah (yL h.pO (a:=(Jr a b)) (b:=(Jr a b)) wr wr) ?_
 refine yJ @Rf @LF @LO @aB @aS ?_
 refine ah (zY h.fA (y:=(iH a b)) (z:=(iH a b)) we we) ?_
 refine yJ @Rf @LF @LO @aB @aS ?_
 refine ah (NK h.xW (l:=a) za) ?_
 refine yJ @Rf @LF @LO @aB @aS ?_
 refine ah (ac2 h.Sm (a:=a) (b:=a) wa wa) ?_
 refine yJ @Rf @LF @LO @aB @aS ?_
 refine ah (IC h.gU (l:=b) zb) ?_
 refine yJ @Rf @LF @LO @aB @aS ?_
 refine ah (Rj h.uh (a:=b) (b:=b) wb wb) ?_
 refine yJ @Rf @LF @LO @aB @aS ?_
 obtain ⟨s4,hr,E2,hl⟩:=E.call 0 (VL h.N9 (l:=a) (k:=1) (by first | omega | (constructor <;> omega)) (by first | omega | (constructor <;> omega))) rfl rfl
 refine fU hr rfl hl (by simp) ?_
 clear hr hl E Rf LF LO
 have E : Ep s4 [x0,x1,g0,.bool (iH a b).neg,Hu,Hw] [bf (Hr Lk.mk3 Lk.ct 1 a),ints b,Bz (Jr a b),.bool (iH a b).neg,ints (iH a b).mag,ints (iH a b).den] _ [(0,⟨3,[[.bool (iH a b).neg,ints (iH a b).mag,ints (iH a b).den]]⟩),(WA,⟨3,[[.bool (iH a b).neg,Hu,Hw]]⟩)]:=E2
 clear E2
 have Rf:=And.intro (E.res 0 rfl rfl (lS _ _)) (And.intro (fun x=>(E.snoc (x:=x)).res 0 rfl rfl (lS _ _)) (And.intro (E.res 1 rfl rfl (au _ _)) (And.intro (fun x=>(E.snoc (x:=x)).res 1 rfl rfl (au _ _)) (And.intro (E.res 2 rfl rfl (rF _ _)) (And.intro (fun x=>(E.snoc (x:=x)).res 2 rfl rfl (rF _ _)) (And.intro (E.res1 4 rfl rfl (au _ _)) (And.intro (fun x=>(E.snoc (x:=x)).res1 4 rfl rfl (au _ _)) (And.intro (E.res1 5 rfl rfl (au _ _)) (fun x=>(E.snoc (x:=x)).res1 5 rfl rfl (au _ _))))))))))
 have LF:=And.intro (E.leaf 0 rfl rfl) (And.intro (E.leaf 1 rfl rfl) (And.intro (E.leaf 2 rfl rfl) (And.intro (E.leaf 4 rfl rfl) (E.leaf 5 rfl rfl))))
 have LO:=And.intro (E.at0 (p:=0) (ob:=⟨3,[[.bool (iH a b).neg,ints (iH a b).mag,ints (iH a b).den]]⟩) (by simp)) (E.at0 (p:=WA) (ob:=⟨3,[[.bool (iH a b).neg,Hu,Hw]]⟩) (by simp))
 refine yJ @Rf @LF @LO @aB @aS ?_
 have hk0 : ¬ ((1 + oP Lk.ct a a.length + b.length : Int) < 0):=by omega
 obtain ⟨s5,hr,E2,hl⟩:=E.call 1 (dM h.aV (l:=b) (k:=1 + oP Lk.ct a a.length) (by first | omega | (constructor <;> omega)) (by first | omega | (constructor <;> omega))) rfl rfl
 refine fU hr rfl hl (by simp) ?_
 clear hr hl E Rf LF LO
 have E : Ep s5 [x0,x1,g0,.bool (iH a b).neg,Hu,Hw] [bf (Hr Lk.mk3 Lk.ct 1 a),ints (_root_.Go.Ml.cnt b.length (1 + oP Lk.ct a a.length)),Bz (Jr a b),.bool (iH a b).neg,ints (iH a b).mag,ints (iH a b).den] _ [(0,⟨3,[[.bool (iH a b).neg,ints (iH a b).mag,ints (iH a b).den]]⟩),(WA,⟨3,[[.bool (iH a b).neg,Hu,Hw]]⟩)]:=E2
 clear E2
 have Rf:=And.intro (E.res 0 rfl rfl (lS _ _)) (And.intro (fun x=>(E.snoc (x:=x)).res 0 rfl rfl (lS _ _)) (And.intro (E.res 1 rfl rfl (au _ _)) (And.intro (fun x=>(E.snoc (x:=x)).res 1 rfl rfl (au _ _)) (And.intro (E.res 2 rfl rfl (rF _ _)) (And.intro (fun x=>(E.snoc (x:=x)).res 2 rfl rfl (rF _ _)) (And.intro (E.res1 4 rfl rfl (au _ _)) (And.intro (fun x=>(E.snoc (x:=x)).res1 4 rfl rfl (au _ _)) (And.intro (E.res1 5 rfl rfl (au _ _)) (fun x=>(E.snoc (x:=x)).res1 5 rfl rfl (au _ _))))))))))
 have LF:=And.intro (E.leaf 0 rfl rfl) (And.intro (E.leaf 1 rfl rfl) (And.intro (E.leaf 2 rfl rfl) (And.intro (E.leaf 4 rfl rfl) (E.leaf 5 rfl rfl))))
 have LO:=And.intro (E.at0 (p:=0) (ob:=⟨3,[[.bool (iH a b).neg,ints (iH a b).mag,ints (iH a b).den]]⟩) (by simp)) (E.at0 (p:=WA) (ob:=⟨3,[[.bool (iH a b).neg,Hu,Hw]]⟩) (by simp))
 refine vW @Rf @LF @LO @aB @aS @hk0 ?_
 refine ah (yL h.pO (a:=(Jr a b)) (b:=(Jr a b)) wr wr) ?_
 refine vW @Rf @LF @LO @aB @aS @hk0 ?_
 refine ah (zY h.fA (y:=(iH a b)) (z:=(iH a b)) we we) ?_
 refine vW @Rf @LF @LO @aB @aS @hk0 ?_
 obtain ⟨s6,hr,E2,hl⟩:=E.call 2 (Jp h.FW (l:=(Jr a b)) (k:=1) (by first | omega | (constructor <;> omega)) (by first | omega | (constructor <;> omega))) rfl rfl
 refine fU hr rfl hl (by simp) ?_
 clear hr hl E Rf LF LO
 have E : Ep s6 [x0,x1,g0,.bool (iH a b).neg,Hu,Hw] [bf (Hr Lk.mk3 Lk.ct 1 a),ints (_root_.Go.Ml.cnt b.length (1 + oP Lk.ct a a.length)),Bz (Hr Cd.mk3 Cd.ct 1 (Jr a b)),.bool (iH a b).neg,ints (iH a b).mag,ints (iH a b).den] _ [(0,⟨3,[[.bool (iH a b).neg,ints (iH a b).mag,ints (iH a b).den]]⟩),(WA,⟨3,[[.bool (iH a b).neg,Hu,Hw]]⟩)]:=E2
 clear E2
 have Rf:=And.intro (E.res 0 rfl rfl (lS _ _)) (And.intro (fun x=>(E.snoc (x:=x)).res 0 rfl rfl (lS _ _)) (And.intro (E.res 1 rfl rfl (au _ _)) (And.intro (fun x=>(E.snoc (x:=x)).res 1 rfl rfl (au _ _)) (And.intro (E.res 2 rfl rfl (rF _ _)) (And.intro (fun x=>(E.snoc (x:=x)).res 2 rfl rfl (rF _ _)) (And.intro (E.res1 4 rfl rfl (au _ _)) (And.intro (fun x=>(E.snoc (x:=x)).res1 4 rfl rfl (au _ _)) (And.intro (E.res1 5 rfl rfl (au _ _)) (fun x=>(E.snoc (x:=x)).res1 5 rfl rfl (au _ _))))))))))
 have LF:=And.intro (E.leaf 0 rfl rfl) (And.intro (E.leaf 1 rfl rfl) (And.intro (E.leaf 2 rfl rfl) (And.intro (E.leaf 4 rfl rfl) (E.leaf 5 rfl rfl))))
 have LO:=And.intro (E.at0 (p:=0) (ob:=⟨3,[[.bool (iH a b).neg,ints (iH a b).mag,ints (iH a b).den]]⟩) (by simp)) (E.at0 (p:=WA) (ob:=⟨3,[[.bool (iH a b).neg,Hu,Hw]]⟩) (by simp))
 refine yJ @Rf @LF @LO @aB @aS ?_
 obtain ⟨s7,hr,E2,hl⟩:=E.part 3 3 (aac h.Sr (x:=(iH a b)) (k:=1 + oP Cd.ct (Jr a b) (Jr a b).length) (by first | omega | (constructor <;> omega)) (by first | omega | (constructor <;> omega))) rfl rfl (by simp)
 refine fU hr rfl hl (by simp) ?_
 clear hr hl E Rf LF LO
 have E : Ep s7 [x0,x1,g0,.bool (iH a b).neg,Hu,Hw] [bf (Hr Lk.mk3 Lk.ct 1 a),ints (_root_.Go.Ml.cnt b.length (1 + oP Lk.ct a a.length)),Bz (Hr Cd.mk3 Cd.ct 1 (Jr a b)),.bool (iH a b).neg,ints (R.mk2 (1 + oP Cd.ct (Jr a b) (Jr a b).length) (iH a b)).mag,ints (R.mk2 (1 + oP Cd.ct (Jr a b) (Jr a b).length) (iH a b)).den] _ [(0,⟨3,[[.bool (iH a b).neg,ints (iH a b).mag,ints (iH a b).den]]⟩),(WA,⟨3,[[.bool (iH a b).neg,Hu,Hw]]⟩)]:=E2
 clear E2
 have Rf:=And.intro (E.res 0 rfl rfl (lS _ _)) (And.intro (fun x=>(E.snoc (x:=x)).res 0 rfl rfl (lS _ _)) (And.intro (E.res 1 rfl rfl (au _ _)) (And.intro (fun x=>(E.snoc (x:=x)).res 1 rfl rfl (au _ _)) (And.intro (E.res 2 rfl rfl (rF _ _)) (And.intro (fun x=>(E.snoc (x:=x)).res 2 rfl rfl (rF _ _)) (And.intro (E.res1 4 rfl rfl (au _ _)) (And.intro (fun x=>(E.snoc (x:=x)).res1 4 rfl rfl (au _ _)) (And.intro (E.res1 5 rfl rfl (au _ _)) (fun x=>(E.snoc (x:=x)).res1 5 rfl rfl (au _ _))))))))))
 have LF:=And.intro (E.leaf 0 rfl rfl) (And.intro (E.leaf 1 rfl rfl) (And.intro (E.leaf 2 rfl rfl) (And.intro (E.leaf 4 rfl rfl) (E.leaf 5 rfl rfl))))
 have LO:=And.intro (E.at0 (p:=0) (ob:=⟨3,[[.bool (iH a b).neg,ints (iH a b).mag,ints (iH a b).den]]⟩) (by simp)) (E.at0 (p:=WA) (ob:=⟨3,[[.bool (iH a b).neg,Hu,Hw]]⟩) (by simp))
 refine yJ @Rf @LF @LO @aB @aS ?_
 refine ah (DJ h.vV (l:=(Jr a b)) (k:=1) (by first | omega | (constructor <;> omega)) (by first | omega | (constructor <;> omega))) ?_
 refine yJ @Rf @LF @LO @aB @aS ?_
 refine aG (fun hc=>absurd hc (by first | omega | (constructor <;> omega))) fun _=>?_
 refine yJ @Rf @LF @LO @aB @aS ?_
 refine ah (UL h.IY (x:=(iH a b)) (k:=1 + oP Cd.ct (Jr a b) (Jr a b).length) (by first | omega | (constructor <;> omega)) (by first | omega | (constructor <;> omega))) ?_
 refine yJ @Rf @LF @LO @aB @aS ?_
 refine aG (fun hc=>absurd hc (by first | omega | (constructor <;> omega))) fun _=>?_
 refine yJ @Rf @LF @LO @aB @aS ?_
 refine ah (NK h.xW (l:=a) za) ?_
 refine yJ @Rf @LF @LO @aB @aS ?_
 refine ah (IC h.gU (l:=b) zb) ?_
 refine yJ @Rf @LF @LO @aB @aS ?_
 refine ah (PI.frz (by exact afl (rF _ _) (aiw _ _) (tY _ _))) ?_
 refine yJ @Rf @LF @LO @aB @aS ?_
 refine ah (yL h.pO (a:=(Jr a b)) (b:=(Jr a b)) wr wr) ?_
 refine yJ @Rf @LF @LO @aB @aS ?_
 refine ah (zY h.fA (y:=(iH a b)) (z:=(iH a b)) we we) ?_
 refine yJ @Rf @LF @LO @aB @aS ?_
 refine ah (DJ h.vV (l:=(Jr a b)) (k:=1) (by first | omega | (constructor <;> omega)) (by first | omega | (constructor <;> omega))) ?_
 refine yJ @Rf @LF @LO @aB @aS ?_
 refine aG (fun hc=>absurd hc (by first | omega | (constructor <;> omega))) fun _=>?_
 refine yJ @Rf @LF @LO @aB @aS ?_
 refine ah (UL h.IY (x:=(iH a b)) (k:=1 + oP Cd.ct (Jr a b) (Jr a b).length) (by first | omega | (constructor <;> omega)) (by first | omega | (constructor <;> omega))) ?_
 refine yJ @Rf @LF @LO @aB @aS ?_
 refine aG (fun hc=>absurd hc (by first | omega | (constructor <;> omega))) fun _=>?_
 refine yJ @Rf @LF @LO @aB @aS ?_
 exact Ri
def agq (P : Program) (fid : Nat) (o : Y3) : Prop :=
 ∀ args σ r σ',o.sem args σ r σ' → ∀ w M D (vals : Array Value),fJ w D (XS M D) args vals.toList → jH w D M σ → Calls P fid vals w (Post M D w σ.length r σ')
def Fits (P : Program) (ν : Nat → Option Nat) (T : Tb) : Prop :=
 ∀ fid f F,ν fid = some f → T f = some F → (∃ fn,P.funcs[fid]? = some fn ∧ ab4 P ν fn = some F) ∨ ∃ o,F.body = .lib o ∧ agq P fid o
theorem ama {T : Tb} {j : Job} {x : Out} (h : Run T j x) : ∀ o st,j ≠ .code (.lib o) st:=by
 induction h with
 | gc ρ hn hρ h ih=>intro o st e;cases e;exact ih o _ rfl
 | forget he ho hk h ih=>intro o st e;cases e;exact ih o _ rfl
 | re W h h' ih=>intro o st e;cases e;exact ih o _ rfl
 | _=>intro o st e;cases e
theorem ai9 {P : Program} {ν : Nat → Option Nat} {nt : Nat} {o : Y3} : ∀ c : Code,MS P ν nt c ≠ some (.lib o):=by
 intro c h
 unfold MS at h
 cases c <;> simp at h
 all_goals (try (split at h <;> simp at h))
theorem agr {P : Program} {ν : Nat → Option Nat} {fn : Func} {F : Fn} {o : Y3} (h : ab4 P ν fn = some F) (hb : F.body = .lib o) : False:=by
 unfold ab4 at h
 split at h <;> first | (cases h;done) | skip
 split at h <;> first | (cases h;done) | skip
 rename_i b rs' hb' apU
 split at h <;> first | (cases h;done) | skip
 simp only [Option.some.injEq] at h
 subst h
 simp only [] at hb
 subst hb
 exact ai9 _ hb'
section
variable {P : Program} {ν : Nat → Option Nat} {T : Tb}
theorem YQ {m : Nat} {x : fQ} {l : List fQ} (h : WB m (x :: l) = true) : WB m l = true ∧ ∀ y ∈ l,y.i.makes = true → y.k ≠ x.k ∧ y.k < m:=by
 have hm : ∀ (l : List fQ),WB m l = true → ∀ y ∈ l,y.i.makes = true → y.k < m:=by
  intro l
  induction l with
  | nil=>intro _ y hy;cases hy
  |
   cons z l ih =>
   intro h y hy hmk
   simp only [WB,Bool.and_eq_true] at h
   rcases List.mem_cons.1 hy with rfl | hy
   ·have:=h.1
    rw [if_pos hmk] at this
    simp only [Bool.and_eq_true,decide_eq_true_eq] at this
    exact this.1
   ·exact ih h.2 y hy hmk
 simp only [WB,Bool.and_eq_true] at h
 refine ⟨h.2,fun y hy hmk=>⟨?_,hm l h.2 y hy hmk⟩⟩
 by_cases hx : x.i.makes = true
 ·have:=h.1
  rw [if_pos hx] at this
  simp only [Bool.and_eq_true,decide_eq_true_eq,List.all_eq_true] at this
  have:=this.2 y hy
  simpa [hmk] using this
 ·have:=h.1
  rw [if_neg hx] at this
  simp only [beq_iff_eq] at this
  have:=hm l h.2 y hy hmk
  omega
theorem aaR {m : Nat} : ∀ (l : List fQ),WB m l = true → ∀ x ∈ l,x.i.makes = true → x.k < m
 | [],_,y,hy,_=>by cases hy
 |
  z :: l,h,y,hy,hmk=>by
  simp only [WB,Bool.and_eq_true] at h
  rcases List.mem_cons.1 hy with rfl | hy
  ·have:=h.1
   rw [if_pos hmk] at this
   simp only [Bool.and_eq_true,decide_eq_true_eq] at this
   exact this.1
  ·exact aaR l h.2 y hy hmk
theorem ags {m : Nat} : ∀ (l : List fQ),WB m l = true → ∀ (i j : Nat) (x y : fQ),l[i]? = some x → l[j]? = some y → i ≠ j → x.i.makes = true → x.k ≠ y.k
 | [],_,i,j,x,y,hx,_,_,_=>by simp at hx
 |
  z :: l,h,i,j,x,y,hx,hy,hij,hmk=>by
  obtain ⟨k1,k2⟩:=YQ h
  cases i with
  |
   zero =>
   simp at hx;subst hx
   cases j with
   | zero=>exact absurd rfl hij
   |
    succ j =>
    have hy' : y ∈ l:=List.mem_of_getElem? (by simpa using hy)
    by_cases hmy : y.i.makes = true
    ·exact fun e=>(k2 y hy' hmy).1 e.symm
    ·-- one that makes none has the number m
     have hm : ∀ (l : List fQ),WB m l = true → ∀ y ∈ l,y.i.makes ≠ true → y.k = m:=by
      intro l
      induction l with
      | nil=>intro _ y hy;cases hy
      |
       cons z l ih =>
       intro h y hy hn
       simp only [WB,Bool.and_eq_true] at h
       rcases List.mem_cons.1 hy with rfl | hy
       ·have:=h.1
        rw [if_neg hn] at this
        simpa using this
       ·exact ih h.2 y hy hn
     have:=hm l k1 y hy' hmy
     have h3:=aaR _ h z (by simp) hmk
     omega
  |
   succ i =>
   have hx' : x ∈ l:=List.mem_of_getElem? (by simpa using hx)
   cases j with
   |
    zero =>
    simp at hy;subst hy
    exact (k2 x hx' hmk).1
   | succ j=>exact ags l k1 i j x y (by simpa using hx) (by simpa using hy) (by omega) hmk
theorem aaS {o : fQ} {l : List fQ} {st st1 st2 : St} (h1 : Xb P ν o st st1) (h2 : adX P ν l st1 st2) : adX P ν (o :: l) st st2:=by
 obtain ⟨a1,a2,a3,a4⟩:=h1
 obtain ⟨b1,b2,b3,b4⟩:=h2
 refine ⟨b1.trans a1,b2.trans a2,Nat.le_trans a3 b3,?_⟩
 intro ops dr nt m k rest htr hk M w0 D0 D a w hs hid Q hQ
 cases rest with
 | nil=>simp [GU] at htr
 |
  cons r rest =>
  simp only [GU] at htr
  split at htr <;> first | (cases htr;done) | skip
  rename_i x hx
  split at htr <;> first | (cases htr;done) | skip
  rename_i l' hl'
  simp only [Option.some.injEq,List.cons.injEq] at htr
  obtain ⟨rfl,rfl⟩:=htr
  obtain ⟨k1,k2⟩:=YQ hk
  have key:=a4 ops dr nt m k r hx M w0 D0 D a w hs (hid x (by simp)) (wpList P ops Q rest) Q (fun D' a' w' hs' hun=>by
   refine b4 ops dr nt m _ rest hl' k1 M w0 D0 D' a' w' hs' (fun y hy hmk=>?_) Q hQ
   rw [a1]
   obtain ⟨e1,e2⟩:=hid y (by simp [hy]) hmk
   exact ⟨Nat.lt_of_lt_of_le e1 a3,hun _ (Nat.le_add_right _ _) e1 e2 (fun h=>(k2 y hy hmk).1 (by omega))⟩)
  unfold wpList
  split
  ·rename_i hw;rw [if_pos hw] at key;exact .inl key
  ·rename_i hw;rw [if_neg hw] at key;exact key
theorem Am {nt : Nat} {cc : Code} {c : C} (h : MS P ν nt cc = some c) : match c with
  | .skip=>cc = .skip
  | .reg d m l=>∃ id ops,cc = .region id ops d ∧ GU P ν ops d nt m 0 ops.toList = some l
  | .seq x y=>∃ a b,cc = .seq a b ∧ MS P ν nt a = some x ∧ MS P ν nt b = some y
  | .cond s x y=>∃ o a b,cc = .cond o a b ∧ EX o = some s ∧ MS P ν nt a = some x ∧ MS P ν nt b = some y
  | .block id x=>∃ a,cc = .block id a ∧ MS P ν nt a = some x
  | .loop x=>∃ a,cc = .loop a ∧ MS P ν nt a = some x
  | .exit id=>cc = .exit id
  | .ret=>cc = .ret
  | .lib _=>False:=by
 cases cc with
 | skip=>simp only [MS,Option.some.injEq] at h;subst h;rfl
 |
  region id ops d =>
  simp only [MS,Option.map_eq_some_iff] at h
  obtain ⟨l,h1,rfl⟩:=h
  exact ⟨id,ops,rfl,h1⟩
 |
  seq a b =>
  simp only [MS] at h
  split at h <;> first | (cases h;done) | skip
  rename_i x y h1 h2
  simp only [Option.some.injEq] at h;subst h
  exact ⟨a,b,rfl,h1,h2⟩
 |
  cond o a b =>
  simp only [MS] at h
  split at h <;> first | (cases h;done) | skip
  rename_i s x y h1 h2 h3
  simp only [Option.some.injEq] at h;subst h
  exact ⟨o,a,b,rfl,h1,h2,h3⟩
 |
  block id a =>
  simp only [MS,Option.map_eq_some_iff] at h
  obtain ⟨x,h1,rfl⟩:=h
  exact ⟨a,rfl,h1⟩
 |
  loop a =>
  simp only [MS,Option.map_eq_some_iff] at h
  obtain ⟨x,h1,rfl⟩:=h
  exact ⟨a,rfl,h1⟩
 | exit id=>simp only [MS,Option.some.injEq] at h;subst h;rfl
 | ret=>simp only [MS,Option.some.injEq] at h;subst h;rfl
 | _=>simp [MS] at h
theorem abT {c : C} {e : Ex} {st st' : St} (hk : st'.keep = st.keep) (h : UZ P ν c e st st') : Zd P ν (.loop c) e st st':=by
 refine ⟨hk,?_⟩
 intro nt cc htr M w0 D0 D a w hs Q hQ
 obtain ⟨cb,rfl,hb⟩:=Am htr
 intro b k cs
 obtain ⟨x,a',w',q,harr⟩:=h nt cb hb M w0 D0 D a w hs Q hQ b k cs
 exact ⟨x,a',w',q,.of_steps (.one step_loop) harr⟩
theorem aja {e : Ex} (h : e ≠ .normal) : WX e ≠ .normal:=by cases e <;> simp [WX] at h ⊢
theorem ajb {next : Act → World → Prop} {Q : Exit → Act → World → Prop} {e : Ex} (h : e ≠ .normal) {a : Act} {w : World} (hq : Q (WX e) a w) : Exit.then next Q (WX e) a w:=by
 cases e <;> first | (simp at h;done) | exact hq
def Oa (tmps : Array Value) : ResultVar → Sem Value
 | .tmp t=>pure (tmps.getD t undef)
 | .cell q t=>do loadVar t (← asAddr (tmps.getD q undef))
theorem aaT (fn : Func) (tmps : Array Value) : results fn tmps = (do let vs ← fn.results.mapM (Oa tmps);pure (if h : vs.size = 1 then vs[0] else .tuple vs)):=rfl
theorem agt (hT : Fits P ν T) {f : Nat} {args : List V} {σ : Store} {F : Fn} {o : Y3} {r : V} {σ' : Store} (hf : T f = some F) (hb : F.body = .lib o) (h : o.sem args σ r σ') : JO P ν f args σ r σ':=by
 intro fid amb w M D vals hv hS
 rcases hT fid f F amb hf with ⟨fn,hfn,htr⟩ | ⟨o',e,hO⟩
 ·exact (agr htr hb).elim
 ·rw [hb] at e
  cases e
  exact hO args σ r σ' h w M D vals hv hS
theorem ajc (hT : Fits P ν T) {f : Nat} {args : List V} {σ : Store} {F : Fn} {e : Ex} {st' : St} {rs : List V} (hf : T f = some F) (hl : args.length = F.nargs) (hnl : ∀ o,F.body ≠ .lib o)
  (ih : Zd P ν F.body e (St.enter args σ) st') (he : e = .normal ∨ e = .ret) (hr : F.res.mapM (Hg.get st') = some rs) : JO P ν f args σ (jG rs) st'.objs:=by
 intro fid amb w M D vals hv hS
 rcases hT fid f F amb hf with ⟨fn,hfn,htr⟩ | ⟨o,e,_⟩
 case inr=>exact (hnl o e).elim
 unfold ab4 at htr
 split at htr <;> first | (cases htr;done) | skip
 rename_i body hbody
 split at htr <;> first | (cases htr;done) | skip
 rename_i b rs' hb apU
 split at htr <;> first | (cases htr;done) | skip
 rename_i hle
 simp only [Option.some.injEq] at htr;subst htr
 have hvl : vals.size = args.length:=by simpa using (gV _ _ hv).symm
 refine calls_of_wp hfn hbody ?_
 have hs0 : SR fn.ntmps M w D (St.enter args σ) D { tmps:=vals ++ Array.replicate (fn.ntmps - vals.size) undef,defers:=[] } w:=by
  refine ⟨?_,?_,rfl,hS,Gr.refl _ _,fun o d h=>.inl ⟨o,d,h,rfl⟩,fun o _=>jW.refl _⟩
  ·intro t
   simp only [St.enter]
   by_cases ht : t < args.length
   ·obtain ⟨y,h1,h2⟩:=yR _ _ hv t args[t] (by simp [ht])
    have e1 : bF args t = args[t]:=by simp [bF,ht]
    rw [e1]
    have e2 : (vals ++ Array.replicate (fn.ntmps - vals.size) undef).getD t undef = y:=by
     rw [Array.getD_eq_getD_getElem?,Array.getElem?_append_left (by omega)]
     rw [← Array.getElem?_toList,h1];rfl
    rw [e2];exact h2
   ·have e1 : bF args t = .any:=by simp [bF,List.getD,List.getElem?_eq_none (Nat.le_of_not_lt ht)]
    rw [e1];simp only [rd]
  ·simp only [Array.size_append,Array.size_replicate];simp only [] at hl;omega
 refine ih.2 fn.ntmps body hb M w D D _ w hs0 _ ?_
 intro D' a' w' hs'
 have hres : ∃ v,(results fn a'.tmps).run P w' = .ok v w' ∧ rd w' D' (XS M D') (jG rs) v:=by
  have hlist : ∀ (vars : List ResultVar) (rl : List Hg) (vl : List V),vars.mapM (aa5 P) = some rl → rl.mapM (Hg.get st') = some vl →
    ∃ ys : List Value,(vars.mapM (Oa a'.tmps)).run P w' = .ok ys w' ∧ fJ w' D' (XS M D') vl ys:=by
   intro vars
   induction vars with
   | nil=>intro rl vl h1 h2;simp at h1;subst h1;simp at h2;subst h2;exact ⟨[],by simp,by simp [fJ]⟩
   |
    cons x vars ihv =>
    intro rl vl h1 h2
    simp only [List.mapM_cons,Option.pure_def,Option.bind_eq_bind,Option.bind_eq_some_iff,Option.some.injEq] at h1
    obtain ⟨r,hr1,rl',hr2,rfl⟩:=h1
    simp only [List.mapM_cons,Option.pure_def,Option.bind_eq_bind,Option.bind_eq_some_iff,Option.some.injEq] at h2
    obtain ⟨z,hz1,vl',hz2,rfl⟩:=h2
    obtain ⟨ys,k1,k2⟩:=ihv rl' vl' hr2 hz2
    cases x with
    |
     tmp t =>
     simp only [aa5,Option.some.injEq] at hr1;subst hr1
     simp only [Hg.get,Option.some.injEq] at hz1;subst hz1
     refine ⟨a'.tmps.getD t undef :: ys,?_,by simp only [fJ];exact ⟨_,_,rfl,hs'.env t,k2⟩⟩
     have hg : (Oa a'.tmps (.tmp t)).run P w' = .ok (a'.tmps.getD t undef) w':=rfl
     simp only [List.mapM_cons,Sem.run_bind,Sem.run_pure,Result.andThen_ok,k1,hg]
    |
     cell q t =>
     simp only [aa5,Option.map_eq_some_iff] at hr1
     obtain ⟨⟨n,g⟩,hg,rfl⟩:=hr1
     simp only [Hg.get] at hz1
     split at hz1 <;> first | (cases hz1;done) | skip
     rename_i row off hrow
     obtain ⟨u,j1,j2⟩:=KU hs'.store hg hrow (hs'.env q) hz1
     obtain ⟨bl,oo,apV,_⟩:=WV hs'.store hrow (hs'.env q)
     refine ⟨u :: ys,?_,by simp only [fJ];exact ⟨_,_,rfl,j2,k2⟩⟩
     have j1' : (loadVar t ⟨bl,oo + off,none⟩).run P w' = .ok u w':=by
      rw [apV] at j1
      simpa [Instr.loadAt,Instr.sureAddr] using j1
     have hg : (Oa a'.tmps (.cell q t)).run P w' = .ok u w':=by
      simp only [Oa,apV,asAddr,Sem.run_bind,Sem.run_pure,Result.andThen_ok,j1']
     simp only [List.mapM_cons,Sem.run_bind,Sem.run_pure,Result.andThen_ok,k1,hg]
  obtain ⟨ys,k1,k2⟩:=hlist fn.results.toList rs' rs apU hr
  refine ⟨if h : ys.toArray.size = 1 then ys.toArray[0] else .tuple ys.toArray,?_,?_⟩
  ·have : (fn.results.mapM (Oa a'.tmps)).run P w' = .ok ys.toArray w':=by
    rw [← Array.toArray_toList (xs:=fn.results),List.mapM_toArray,Sem.run_map,k1];rfl
   rw [aaT]
   simp only [Sem.run_bind,this,Result.andThen_ok,Sem.run_pure]
  ·have hlen:=gV _ _ k2
   have gen : ∀ (rs : List V) (ys : List Value),fJ w' D' (XS M D') rs ys → rs.length = ys.length → rd w' D' (XS M D') (jG rs) (if h : ys.toArray.size = 1 then ys.toArray[0] else .tuple ys.toArray):=by
    intro rs ys h hl
    cases rs with
    |
     nil =>
     cases ys with
     | nil=>simp only [jG];rw [dif_neg (by simp)];simp only [rd];exact ⟨_,rfl,h⟩
     | cons y ys=>simp at hl
    |
     cons x xs =>
     cases ys with
     | nil=>simp at hl
     |
      cons y ys =>
      cases xs with
      |
       nil =>
       cases ys with
       |
        nil =>
        simp only [fJ] at h
        obtain ⟨y',ys',h0,h1,h2⟩:=h
        cases h0
        simpa [jG] using h1
       | cons y' ys=>simp at hl
      |
       cons x' xs =>
       cases ys with
       | nil=>simp at hl
       |
        cons y' ys =>
        simp only [jG]
        rw [dif_neg (by simp)]
        simp only [rd]
        exact ⟨_,rfl,h⟩
   exact gen rs ys k2 hlen
 obtain ⟨v,hv1,hv2⟩:=hres
 have hfin : bodyPost P fn (Post M D w σ.length (jG rs) st'.objs) .ret a' w' :=
  ⟨hs'.df,v,hv1,v,D',rfl,hv2,hs'.store,hs'.gr,hs'.fr,fun o ho=>hs'.kp o (by rw [ih.1];exact ho)⟩
 rcases he with rfl | rfl <;> exact hfin
theorem Ob {ops : Array Oper} {dr : Bool} {nt m : Nat} : ∀ {k : Nat} {rest : List Oper} {l : List fQ},GU P ν ops dr nt m k rest = some l →
  l.length = rest.length ∧ ∀ (i : Nat) (x : fQ),l[i]? = some x → ∃ o k',rest[i]? = some o ∧ Zc P ν ops dr nt m k' o = some x
 | k,[],l,h=>by simp only [GU,Option.some.injEq] at h;subst h;simp
 |
  k,o :: rest,l,h=>by
  simp only [GU] at h
  split at h <;> first | (cases h;done) | skip
  rename_i x hx
  split at h <;> first | (cases h;done) | skip
  rename_i l' hl'
  simp only [Option.some.injEq] at h;subst h
  obtain ⟨e1,e2⟩:=Ob hl'
  refine ⟨by simp [e1],fun i y hi=>?_⟩
  cases i with
  | zero=>simp at hi;subst hi;exact ⟨o,k,rfl,hx⟩
  | succ i=>simpa using e2 i y (by simpa using hi)
theorem YR {ops : Array Oper} {nt m k : Nat} {o : Oper} {x : fQ} (h : Zc P ν ops true nt m k o = some x) : x.aft = aa4 o:=by
 unfold Zc at h
 split at h <;> first | (cases h;done) | skip
 split at h <;> first | (cases h;done) | skip
 simp only [Option.some.injEq] at h;subst h
 rfl
theorem UM {ops : Array Oper} {nt m : Nat} {l : List fQ} (h : GU P ν ops true nt m 0 ops.toList = some l) {done : List Nat} {listed : Array Bool} (hs : listed.size = ops.size)
  (hl : ∀ i,listed.getD i false = true ↔ i ∈ done) {i : Nat} : i ∈ Region.ready .any ops listed ↔ pq l done i = true:=by
 obtain ⟨e1,e2⟩:=Ob h
 rw [mem_ready]
 have hlt : ∀ {i : Nat},i < ops.size → (listed.getD i true = false ↔ i ∉ done):=by
  intro i hi
  have : listed.getD i true = listed.getD i false:=by
   rw [Array.getD_eq_getD_getElem?,Array.getD_eq_getD_getElem?,Array.getElem?_eq_getElem (by omega)];rfl
  rw [this]
  constructor
  ·intro h1 h2;rw [(hl i).2 h2] at h1;cases h1
  ·intro h1
   cases hb : listed.getD i false with
   | false=>rfl
   | true=>exact absurd ((hl i).1 hb) h1
 constructor
 ·rintro ⟨h1,o,ho,h2⟩
  have hi:=(Array.getElem?_eq_some_iff.1 ho).1
  have hil : i < l.length:=by rw [e1];simpa using hi
  obtain ⟨o',k',ho',hx⟩:=e2 i l[i] (by simp [hil])
  have : o' = o:=by rw [Array.getElem?_toList] at ho';rw [ho] at ho';exact (Option.some.inj ho').symm
  subst this
  unfold pq
  rw [List.getElem?_eq_getElem hil]
  simp only [Bool.and_eq_true,Bool.not_eq_true',List.all_eq_true]
  refine ⟨?_,?_⟩
  ·have:=(hlt hi).1 h1
   simpa using this
  ·intro e he
   rw [YR hx] at he
   simp only [aa4,List.mem_map,List.mem_filter] at he
   obtain ⟨ed,⟨h3,h4⟩,rfl⟩:=he
   have:=h2 ed (by simpa using h3) h4
   simpa using (hl _).1 this
 ·intro hr
  unfold pq at hr
  split at hr <;> first | (cases hr;done) | skip
  rename_i x hx
  simp only [Bool.and_eq_true,Bool.not_eq_true',List.all_eq_true] at hr
  obtain ⟨o,k',ho,htr⟩:=e2 i x hx
  have ho' : ops[i]? = some o:=by rwa [Array.getElem?_toList] at ho
  have hi:=(Array.getElem?_eq_some_iff.1 ho').1
  refine ⟨(hlt hi).2 (by simpa using hr.1),o,ho',?_⟩
  intro e he hb
  refine (hl _).2 ?_
  have:=hr.2 e.on (by rw [YR htr];simp only [aa4,List.mem_map,List.mem_filter];exact ⟨e,⟨by simpa using he,hb⟩,rfl⟩)
  simpa using this
theorem sound (hm : P.follows .mixedOrders = true) (hT : Fits P ν T) {j : Job} {o : Out} (h : Run T j o) : Sound P ν j o:=by
 induction h with
 |
  skip st =>
  refine ⟨⟨rfl,?_⟩,fun x h=>by cases h⟩
  intro nt cc htr M w0 D0 D a w hs Q hQ
  have hc : cc = .skip:=Am htr
  subst hc
  exact Go.wp_skip (hQ D a w hs)
 |
  @reg m l st st' hk h ih =>
  obtain ⟨_,i1,i2,i3,i4⟩:=ih
  refine ⟨⟨i2,?_⟩,fun x h=>by cases h⟩
  intro nt cc htr M w0 D0 D a w hs Q hQ
  obtain ⟨id,ops,rfl,hops⟩:=Am htr
  refine wp_region_list ?_
  refine i4 ops false nt m 0 ops.toList hops hk M w0 D0 D a w ⟨hs.env,hs.tm,hs.df,hs.mem m,hs.gr,hs.fr,hs.kp⟩ (fun x hx hmk=>?_) Q (fun D' a' w' h=>hQ D' a' w' h)
  have hkm : x.k < m:=by
   have : ∀ (l : List fQ),WB m l = true → ∀ x ∈ l,x.i.makes = true → x.k < m:=by
    intro l
    induction l with
    | nil=>intro _ y hy;cases hy
    |
     cons z l ih =>
     intro h y hy hmk
     simp only [WB,Bool.and_eq_true] at h
     rcases List.mem_cons.1 hy with rfl | hy
     ·have:=h.1
      rw [if_pos hmk] at this
      simp only [Bool.and_eq_true,decide_eq_true_eq] at this
      exact this.1
     ·exact ih h.2 y hy hmk
   exact this l hk x hx hmk
  simp only [List.length_append,List.length_replicate]
  exact ⟨by omega,hs.store.far _ (by omega)⟩
 |
  @ajR m l st st' hk h ih =>
  obtain ⟨_,i1,i2,i3,i4⟩:=ih
  refine ⟨⟨i2,?_⟩,fun x h=>by cases h⟩
  intro nt cc htr M w0 D0 D a w hs Q hQ
  obtain ⟨id,ops,rfl,hops⟩:=Am htr
  refine wp_region_any hm ?_
  have hsd : SR nt M w0 D0 st D a { w with drawn:=w.drawn + 1 }:=by
   have hE : Ext w D (XS M D) { w with drawn:=w.drawn + 1 } D (XS M D):=⟨Nat.le_refl _,fun _ _ _=>rfl,fun _ _ h=>h,fun _=>jW.refl _⟩
   refine ⟨fun t=>dP _ _ hE (hs.env t),hs.tm,hs.df,?_,⟨hs.gr.size,hs.gr.os,hs.gr.tape,hs.gr.output,hs.gr.block⟩,hs.fr,hs.kp⟩
   refine ⟨fun o d ho=>?_,hs.store.alive,hs.store.inj,hs.store.far,hs.store.mlt⟩
   obtain ⟨ob,c,e,g1,g2,g3,g4,g5,g6,g7,g8,g9,g10,g11⟩:=hs.store.live o d ho
   refine ⟨ob,c,e,g1,g2,g3,g4,g5,g6,g7,g8,g9,g10,fun i x hi=>?_⟩
   obtain ⟨k0,y,k1,k2⟩:=g11 i x hi
   exact ⟨k0,y,k1,dP _ _ hE k2⟩
  refine i4 ops nt m hops hk M w0 D0 D a _ ⟨hsd.env,hsd.tm,hsd.df,hsd.mem m,hsd.gr,hsd.fr,hsd.kp⟩ (fun i x hx _ hmk=>?_) Q (fun D' a' w' h=>hQ D' a' w' h) _ _ (by simp) (fun i=>?_) ?_
  ·have hkm : x.k < m:=aaR l hk x (List.mem_of_getElem? hx) hmk
   simp only [List.length_append,List.length_replicate]
   exact ⟨by omega,hsd.store.far _ (by omega)⟩
  ·simp only [Array.getD_eq_getD_getElem?,Array.getElem?_replicate]
   split <;> simp
  ·simp
 |
  @anN l done st h =>
  refine ⟨rfl,rfl,rfl,Nat.le_refl _,?_⟩
  intro ops nt m htr hk M w0 D0 D a w hs hid Q hQ fuel listed h1 h2 h3
  refine wpAny_done ?_ (hQ D a w hs) fuel
  apply List.eq_nil_iff_forall_not_mem.2
  intro i hi
  rw [UM htr h1 h2,h i] at hi
  cases hi
 |
  @anO l done st st' i0 h0 f h h' ih ih' =>
  obtain ⟨_,b1,b2,b3,_⟩:=ih' i0 h0
  obtain ⟨x0,hx0⟩ : ∃ x0,l[i0]? = some x0:=by
   unfold pq at h0
   split at h0 <;> first | (cases h0;done) | skip
   exact ⟨_,by assumption⟩
  obtain ⟨_,a1,a2,a3,_⟩:=ih i0 x0 hx0 h0
  refine ⟨rfl,b1.trans a1,b2.trans a2,Nat.le_trans a3 b3,?_⟩
  intro ops nt m htr hk M w0 D0 D a w hs hid Q hQ fuel listed h1 h2 h3
  have aaU : ∀ i,i ∈ Region.ready .any ops listed ↔ pq l done i = true:=fun i=>UM htr h1 h2
  have hpos : fuel ≠ 0:=by
   rintro rfl
   have hi:=(aaU i0).2 h0
   have:=(mem_ready.1 hi).1
   obtain ⟨_,o,ho,_⟩:=mem_ready.1 hi
   have hlt:=(Array.getElem?_eq_some_iff.1 ho).1
   have hmem : false ∈ listed.toList:=by
    have : listed[i0]'(by omega) = false:=by
     rw [Array.getD_eq_getD_getElem?,Array.getElem?_eq_getElem (by omega)] at this
     simpa using this
    rw [← this];simp
   have:=List.count_pos_iff.2 hmem
   omega
  obtain ⟨fuel,rfl⟩:=Nat.exists_eq_succ_of_ne_zero hpos
  refine ⟨fun hnil=>?_,fun i hi=>?_⟩
  ·have:=(aaU i0).2 h0
   rw [hnil] at this;cases this
  ·have hr:=(aaU i).1 hi
   obtain ⟨e1,e2⟩:=Ob htr
   obtain ⟨_,o,ho,_⟩:=mem_ready.1 hi
   have hlt:=(Array.getElem?_eq_some_iff.1 ho).1
   have hil : i < l.length:=by rw [e1];simpa using hlt
   obtain ⟨o',k',ho',hx⟩:=e2 i l[i] (by simp [hil])
   have : o' = o:=by rw [Array.getElem?_toList] at ho';rw [ho] at ho';exact (Option.some.inj ho').symm
   subst this
   have hli : l[i]? = some l[i]:=by simp [hil]
   have hnd : i ∉ done:=by
    unfold pq at hr
    rw [hli] at hr
    simp only [Bool.and_eq_true,Bool.not_eq_true'] at hr
    simpa using hr.1
   obtain ⟨_,c1,c2,c3,c4⟩:=ih i l[i] hli hr
   obtain ⟨_,d1,d2,d3,d4⟩:=ih' i hr
   have key:=c4 ops true nt m k' o' hx M w0 D0 D a w hs (fun hmk=>hid i l[i] hli hnd hmk) (wpAny P .any ops Q fuel (listed.setIfInBounds i true)) Q (fun D' a' w' hs' hun=>by
    refine d4 ops nt m htr hk M w0 D0 D' a' w' hs' (fun j y hy hj hmk=>?_) Q hQ fuel _ (by simpa using h1) (fun j=>?_) ?_
    ·simp only [List.mem_cons,not_or] at hj
     rw [c1]
     obtain ⟨g1,g2⟩:=hid j y hy hj.2 hmk
     refine ⟨Nat.lt_of_lt_of_le g1 c3,hun _ (Nat.le_add_right _ _) g1 g2 ?_⟩
     intro he
     have hne:=ags l hk j i y l[i] hy hli hj.1 hmk
     omega
    ·rw [Array.getD_eq_getD_getElem?,Array.getElem?_setIfInBounds]
     by_cases hij : i = j
     ·subst hij
      simp [h1,hlt]
     ·rw [if_neg hij,← Array.getD_eq_getD_getElem?,h2 j]
      simp only [List.mem_cons]
      constructor
      ·exact .inr
      ·rintro (h | h)
       ·exact absurd h.symm hij
       ·exact h
    ·have hfi : listed[i]'(by omega) = false:=by
      have:=(mem_ready.1 hi).1
      rw [Array.getD_eq_getD_getElem?,Array.getElem?_eq_getElem (by omega)] at this
      simpa using this
     rw [Array.toList_setIfInBounds,List.count_set (by simpa using (by omega : i < listed.size))]
     have h4 : listed.toList[i]'(by simpa using (by omega : i < listed.size)) = false:=by simpa using hfi
     have h5 : 0 < listed.toList.count false:=List.count_pos_iff.2 (by rw [← h4];exact List.getElem_mem _)
     simp only [h4,beq_self_eq_true,if_true]
     have : (true == false) = false:=rfl
     simp only [this,Bool.false_eq_true,if_false]
     omega)
   unfold wpOp
   simp only [ho]
   split
   ·rename_i hw;rw [if_pos hw] at key;exact .inl key
   ·rename_i hw;rw [if_neg hw] at key;exact key
 |
  @anP a b st st1 o h h' ih ih' =>
  cases o with
  | fn r σ=>trivial
  | code e st2 =>
  obtain ⟨⟨i1,i2⟩,_⟩:=ih
  obtain ⟨⟨j1,j2⟩,_⟩:=ih'
  refine ⟨⟨j1.trans i1,?_⟩,fun x h=>by cases h⟩
  intro nt cc htr M w0 D0 D a w hs Q hQ
  obtain ⟨ca,cb,rfl,ha,hb⟩:=Am htr
  refine Go.wp_seq (i2 nt ca ha M w0 D0 D a w hs _ fun D' a' w' hs'=>?_)
  exact j2 nt cb hb M w0 D0 D' a' w' hs' Q hQ
 |
  @ajS a b st e st1 he h ih =>
  obtain ⟨⟨i1,i2⟩,_⟩:=ih
  refine ⟨⟨i1,?_⟩,fun x h=>by cases h⟩
  intro nt cc htr M w0 D0 D a w hs Q hQ
  obtain ⟨ca,cb,rfl,ha,hb⟩:=Am htr
  exact Go.wp_seq (i2 nt ca ha M w0 D0 D a w hs _ fun D' a' w' hs'=>ajb he (hQ D' a' w' hs'))
 |
  @cond x a b st t o hx h ih =>
  cases o with
  | fn r σ=>trivial
  | code e st2 =>
  obtain ⟨⟨i1,i2⟩,_⟩:=ih
  refine ⟨⟨i1,?_⟩,fun x h=>by cases h⟩
  intro nt cc htr M w0 D0 D a w hs Q hQ
  obtain ⟨oc,ca,cb,rfl,h1,ha,hb⟩:=Am htr
  have hv:=dQ hs.env h1
  rw [hx] at hv
  simp only [rd] at hv
  refine Go.wp_cond hv (i2 nt _ ?_ M w0 D0 D _ w hs Q hQ)
  cases t
  ·exact hb
  ·exact ha
 |
  @block id c st e st1 h ih =>
  obtain ⟨⟨i1,i2⟩,_⟩:=ih
  refine ⟨⟨i1,?_⟩,fun x h=>by cases h⟩
  intro nt cc htr M w0 D0 D a w hs Q hQ
  obtain ⟨ca,rfl,ha⟩:=Am htr
  refine Go.wp_block (i2 nt ca ha M w0 D0 D a w hs _ fun D' a' w' hs'=>?_)
  have:=hQ D' a' w' hs'
  cases e with
  | normal=>exact this
  | ret=>exact this
  |
   exit id' =>
   simp only [WX,WO,Exit.inBlock] at this ⊢
   by_cases hid : id' = id
   ·simp only [hid,if_true] at this ⊢;exact this
   ·simp only [hid,if_false] at this ⊢;exact this
 |
  @adA c st st1 o h h' ih ih' =>
  cases o with
  | fn r σ=>trivial
  | code e st2 =>
  obtain ⟨⟨i1,i2⟩,_⟩:=ih
  obtain ⟨⟨j1,_⟩,j2⟩:=ih'
  have key : UZ P ν c e st st2:=by
   intro nt cc htr M w0 D0 D a w hs Q hQ b k cs
   obtain ⟨x,a1,w1,⟨D1,hx,hs1⟩,harr⟩:=i2 nt cc htr M w0 D0 D a w hs (fun x a' w'=>∃ D',x = .normal ∧ SR nt M w0 D0 st1 D' a' w') (fun D' a' w' h=>⟨D',rfl,h⟩) b (.inLoop cc :: k) cs
   subst hx
   obtain ⟨x2,a2,w2,q2,apW⟩:=j2 c rfl nt cc htr M w0 D0 D1 a1 w1 hs1 Q hQ b k cs
   exact ⟨x2,a2,w2,q2,.of_steps (Steps.trans harr (.one step_inLoop)) apW⟩
  exact ⟨abT (j1.trans i1) key,fun x hx=>by cases hx;exact key⟩
 |
  @WQ c st e st1 he h ih =>
  obtain ⟨⟨i1,i2⟩,_⟩:=ih
  have key : UZ P ν c e st st1:=by
   intro nt cc htr M w0 D0 D a w hs Q hQ b k cs
   obtain ⟨x,a1,w1,⟨D1,hx,hs1⟩,harr⟩:=i2 nt cc htr M w0 D0 D a w hs (fun x a' w'=>∃ D',x = WX e ∧ SR nt M w0 D0 st1 D' a' w') (fun D' a' w' h=>⟨D',rfl,h⟩) b (.inLoop cc :: k) cs
   subst hx
   exact ⟨_,a1,w1,hQ D1 a1 w1 hs1,.pass (x:=.inLoop cc) rfl (fun _ _=>.inl (aja he)) harr⟩
  exact ⟨abT i1 key,fun x hx=>by cases hx;exact key⟩
 |
  exit id st =>
  refine ⟨⟨rfl,?_⟩,fun x h=>by cases h⟩
  intro nt cc htr M w0 D0 D a w hs Q hQ
  have hc : cc = .exit id:=Am htr
  subst hc
  exact Go.wp_exit (hQ D a w hs)
 |
  ret st =>
  refine ⟨⟨rfl,?_⟩,fun x h=>by cases h⟩
  intro nt cc htr M w0 D0 D a w hs Q hQ
  have hc : cc = .ret:=Am htr
  subst hc
  exact Go.wp_ret (hQ D a w hs)
 |
  @gc c st o ρ hn hρ h ih =>
  cases o with
  | fn r σ=>trivial
  | code e st2 =>
  obtain ⟨⟨i1,i2⟩,i3⟩:=ih
  refine ⟨⟨i1,?_⟩,?_⟩
  ·intro nt cc htr M w0 D0 D a w hs Q hQ
   exact i2 nt cc htr M w0 D0 _ a w (hs.gc hn hρ) Q hQ
  ·intro x hx nt cc htr M w0 D0 D a w hs Q hQ
   exact i3 x hx nt cc htr M w0 D0 _ a w (hs.gc hn hρ) Q hQ
 |
  nil st =>
  refine ⟨rfl,rfl,rfl,Nat.le_refl _,?_⟩
  intro ops dr nt m k rest htr hk M w0 D0 D a w hs hid Q hQ
  cases rest with
  | nil=>exact hQ D a w hs
  |
   cons r rest =>
   simp only [GU] at htr
   split at htr <;> first | (cases htr;done) | skip
   split at htr <;> first | (cases htr;done) | skip
 |
  @cons o l st st1 out h h' ih ih' =>
  cases out with
  | fn r σ=>trivial
  | code e st2=>exact ⟨ih'.1,aaS ih.2 ih'.2⟩
 | off hg he=>exact ⟨rfl,adZ hg he⟩
 | op hg h=>exact ⟨rfl,agT hg h⟩
 | WR hg hi ha h hR ih=>exact ⟨rfl,Ze hg hi ha ih hR⟩
 | adB ρ hn hρ hg hi h ih=>exact ⟨rfl,Zf hn hρ hg hi ih⟩
 | adC hg hi ha h hR ih=>exact ⟨rfl,ZQ hg hi ha ih hR⟩
 | adD hg hi h hl hb ih=>exact ⟨rfl,ZR hg hi ih hl hb⟩
 | @fn f args σ F e st' rs hf hl h he hr ih=>exact ajc hT hf hl (fun o e=>ama h o (St.enter args σ) (by rw [e])) ih.1 he hr
 | lib hf hb h=>exact agt hT hf hb h
 | frz h hr ih=>exact ad4 hr ih
 | gcF ρ hn hρ h ih=>exact ad3 hn hρ ih
 |
  @forget c st st2 o he ho hk h' ih =>
  cases o with
  | fn r σ=>trivial
  | code e st3 =>
  obtain ⟨⟨i1,i2⟩,i3⟩:=ih
  refine ⟨⟨i1.trans hk,?_⟩,?_⟩
  ·intro nt cc htr M w0 D0 D a w hs Q hQ
   exact i2 nt cc htr M w0 D0 _ a w (hs.forget he ho hk) Q hQ
  ·intro x hx nt cc htr M w0 D0 D a w hs Q hQ
   exact i3 x hx nt cc htr M w0 D0 _ a w (hs.forget he ho hk) Q hQ
 |
  @re c st st2 o W h h' ih =>
  cases o with
  | fn r σ=>trivial
  | code e st3 =>
  obtain ⟨⟨i1,i2⟩,i3⟩:=ih
  refine ⟨⟨i1.trans h.keep,?_⟩,?_⟩
  ·intro nt cc htr M w0 D0 D a w hs Q hQ
   exact i2 nt cc htr M w0 D0 _ a w (hs.re h) Q hQ
  ·intro x hx nt cc htr M w0 D0 D a w hs Q hQ
   exact i3 x hx nt cc htr M w0 D0 _ a w (hs.re h) Q hQ
 | reF W ha h hs hr ih=>exact afe ha hs hr ih
 | Y5 ha h hr ih=>exact acN ha hr ih
end
end Go.Ml
end
section
namespace Go.Ml
open Go.ChangeShapes Go.WideShapes Go.ChangeAt Go.RowKit
def O4 : List (Nat × Nat × Fn) → Nat → Option Nat
 | [],_=>none
 | x :: l,i=>if x.1 = i then some x.2.1 else O4 l i
def aW : List (Nat × Nat × Fn) → Tb
 | [],_=>none
 | x :: l,k=>if x.2.1 = k then some x.2.2 else aW l k
theorem YS : ∀ {l : List (Nat × Nat × Fn)} {i k : Nat},O4 l i = some k → ∃ x ∈ l,x.1 = i ∧ x.2.1 = k
 | [],_,_,h=>by simp [O4] at h
 |
  x :: l,i,k,h=>by
  simp only [O4] at h
  split at h
  ·rename_i e;exact ⟨x,by simp,e,by simpa using h⟩
  ·obtain ⟨y,hy,e⟩:=YS h;exact ⟨y,by simp [hy],e⟩
theorem YT : ∀ {l : List (Nat × Nat × Fn)} {k : Nat} {F : Fn},aW l k = some F → ∃ x ∈ l,x.2.1 = k ∧ x.2.2 = F
 | [],_,_,h=>by simp [aW] at h
 |
  x :: l,i,k,h=>by
  simp only [aW] at h
  split at h
  ·rename_i e;exact ⟨x,by simp,e,by simpa using h⟩
  ·obtain ⟨y,hy,e⟩:=YT h;exact ⟨y,by simp [hy],e⟩
theorem Hf {α β : Type} {f : α → β} : ∀ {l : List α},(l.map f).Nodup → ∀ {x y},x ∈ l → y ∈ l → f x = f y → x = y
 | [],_,_,_,h,_,_=>by cases h
 |
  a :: l,hn,x,y,hx,hy,e=>by
  simp only [List.map_cons,List.nodup_cons] at hn
  rcases List.mem_cons.1 hx with rfl | hx' <;> rcases List.mem_cons.1 hy with rfl | hy'
  ·rfl
  ·exact absurd (e ▸ List.mem_map_of_mem hy') hn.1
  ·exact absurd (e ▸ List.mem_map_of_mem hx') hn.1
  ·exact Hf hn.2 hx' hy' e
theorem ajd {P : Program} {l : List (Nat × Nat × Fn)} (hnd : (l.map (·.2.1)).Nodup) (h : ∀ x ∈ l,(∃ fn,P.funcs[x.1]? = some fn ∧ ab4 P (O4 l) fn = some x.2.2) ∨ ∃ o,x.2.2.body = .lib o ∧ agq P x.1 o) : Fits P (O4 l) (aW l):=by
 intro fid f F h1 h2
 obtain ⟨x,hx,e1,e2⟩:=YS h1
 obtain ⟨y,hy,e3,e4⟩:=YT h2
 have : x = y:=Hf hnd hx hy (e2.trans e3.symm)
 subst this
 rw [← e1,← e4]
 exact h x hx
theorem agu {P : Program} {l : List (Nat × Nat × Fn)} (hm : P.follows .mixedOrders = true) (hT : Fits P (O4 l) (aW l)) {f fid : Nat} {args : List V} {r : V} (h : PF (aW l) f args r) (hf : O4 l fid = some f)
  {w : World} {vals : Array Value} (hr : fJ w DM.none (fun _=>False) args vals.toList) :
  Calls P fid vals w fun e w'=>(∃ v D X,e = .returned v ∧ rd w' D X r v) ∧ Below w.heap.size w w':=by
 have hs:=sound hm hT h
 have hX : XS (fun _=>False) DM.none = fun _=>False:=by
  funext b;simp [XS,DM.none]
 refine (hs fid hf w (fun _=>False) DM.none vals (by rw [hX];exact hr) ⟨?_,?_,?_,?_,?_⟩).mono fun e w' hp=>?_
 ·intro o d h;cases h
 ·intro o ob h;simp [aj] at h
 ·intro o o' d d' h;cases h
 ·intro o _;rfl
 ·intro b h;exact h.elim
 ·obtain ⟨v,D',e1,e2,e3,e4,_⟩:=hp
  refine ⟨⟨v,D',_,e1,e2⟩,⟨e4.os,e4.tape,e4.output,e4.size,fun k hk=>e4.block k hk ?_⟩⟩
  rintro ⟨o,d,h,_⟩;cases h
theorem aaV {P : Program} {l : List (Nat × Nat × Fn)} (hm : P.follows .mixedOrders = true) (hT : Fits P (O4 l) (aW l)) {f fid : Nat} {args : List V} (h : PF (aW l) f args (.bool true)) (hf : O4 l fid = some f)
  {w : World} {vals : Array Value} (hr : fJ w DM.none (fun _=>False) args vals.toList) :
  Calls P fid vals w fun e w'=>e = .returned (.bool true) ∧ Below w.heap.size w w' :=
 (agu hm hT h hf hr).mono fun e w' hp=>by
  obtain ⟨⟨v,D,X,rfl,e2⟩,hb⟩:=hp
  have : v = .bool true:=by simpa [rd] using e2
  exact ⟨by rw [this],hb⟩
end Go.Ml
end
section
namespace Go.Ml
open Go.ChangeShapes Go.WideShapes Go.ChangeAt Go.RowKit
inductive Lf where
 | int (k : IntKind)
 | bool
 | str
 | sl (row : List Lf)
mutual
def Mt : Lf → V → Prop
 | .int k,v=>∃ n,v = .int k n ∧ (Lit.int k n).wf = true
 | .bool,v=>∃ b,v = .bool b
 | .str,v=>∃ s,v = .str s ∧ s.length ≤ maxLen
 | .sl row,v=>∃ rows : List (List V),v = .sl row.length rows ∧ rows.length ≤ maxLen ∧ ∀ r ∈ rows,FY row r
def FY : List Lf → List V → Prop
 | [],vs=>vs = []
 | l :: ls,vs=>∃ v vs',vs = v :: vs' ∧ Mt l v ∧ FY ls vs'
end
def agv (P : Program) (sh : TypeId → Option (List Lf)) : List Field → Nat → Option (List Lf)
 | [],_=>some []
 |
  f :: fs,off=>match sh f.type,agv P sh fs (off + P.cellsOf f.type) with
  | some r,some rs=>if f.offset = off ∧ r.length = P.cellsOf f.type then some (r ++ rs) else none
  | _,_=>none
def shapeOf (P : Program) : Nat → TypeId → Option (List Lf)
 | 0,_=>none
 |
  n + 1,t=>match P.underlying t with
  | some (.int k)=>some [.int k]
  | some .bool=>some [.bool]
  | some .string=>some [.str]
  |
   some (.slice e)=>match shapeOf P n e with
   | some r=>if r.length = P.cellsOf e ∧ 0 < r.length then some [.sl r] else none
   | none=>none
  |
   some (.struct fs)=>match agv P (shapeOf P n) fs.toList 0 with
   | some r=>if r.length = P.cellsOf t then some r else none
   | none=>none
  | _=>none
theorem aaW {l1 l2 : List Lf} {v1 v2 : List V} (h1 : FY l1 v1) (h2 : FY l2 v2) : FY (l1 ++ l2) (v1 ++ v2):=by
 induction l1 generalizing v1 with
 | nil=>simp only [FY] at h1;subst h1;simpa using h2
 |
  cons l l1 ih =>
  simp only [FY] at h1
  obtain ⟨v,vs,rfl,a,b⟩:=h1
  simp only [List.cons_append,FY]
  exact ⟨v,vs ++ v2,rfl,a,ih b⟩
theorem abU {l : List Lf} {v : List V} (h : FY l v) : v.length = l.length:=by
 induction l generalizing v with
 | nil=>simp only [FY] at h;subst h;rfl
 |
  cons x l ih =>
  simp only [FY] at h
  obtain ⟨v,vs,rfl,a,b⟩:=h
  simp [ih b]
theorem aje : ∀ {l : Lf} {v : V},Mt l v → v.leaf = true:=by
 intro l v h
 cases l <;> simp only [Mt] at h
 ·obtain ⟨n,rfl,_⟩:=h;rfl
 ·obtain ⟨b,rfl⟩:=h;rfl
 ·obtain ⟨s,rfl,_⟩:=h;rfl
 ·obtain ⟨rows,rfl,_⟩:=h;rfl
theorem agw {l : List Lf} {v : List V} (h : FY l v) : ∀ x ∈ v,x.leaf = true:=by
 induction l generalizing v with
 | nil=>simp only [FY] at h;subst h;intro x hx;cases hx
 |
  cons y l ih =>
  simp only [FY] at h
  obtain ⟨v,vs,rfl,a,b⟩:=h
  intro x hx
  rcases List.mem_cons.1 hx with rfl | hx
  ·exact aje a
  ·exact ih b x hx
theorem UN {w : World} {D : DM} {X : Nat → Prop} {b sz : Nat} : ∀ (off : Nat) (rows : List (List V)),
  (∀ i r,rows[i]? = some r → r.length = sz ∧ dY w D X b (off + i * sz) r) → iE w D X b sz off rows
 | _,[],_=>by simp [iE]
 |
  off,r :: rows,h=>by
  simp only [iE]
  have h0:=h 0 r rfl
  refine ⟨h0.1,by simpa using h0.2,UN (off + sz) rows fun i r' hi=>?_⟩
  have:=h (i + 1) r' (by simpa using hi)
  rwa [show off + (i + 1) * sz = off + sz + i * sz by rw [Nat.succ_mul];omega] at this
theorem IZ {w : World} {D : DM} {X : Nat → Prop} {b : Nat} : ∀ (off : Nat) (vs : List V) (cs : List Value),fJ w D X vs cs → (∀ x ∈ vs,x.leaf = true) →
  (∀ i,i < cs.length → w.cell? ⟨b,off + i,none⟩ = cs[i]?) → dY w D X b off vs
 | _,[],_,_,_,_=>by simp [dY]
 |
  off,v :: vs,cs,h,hl,hc=>by
  simp only [fJ] at h
  obtain ⟨y,ys,rfl,h1,h2⟩:=h
  simp only [dY]
  refine ⟨hl v (by simp),⟨y,by simpa using hc 0 (by simp),h1⟩,IZ (off + 1) vs ys h2 (fun x hx=>hl x (by simp [hx])) fun i hi=>?_⟩
  have:=hc (i + 1) (by simpa using hi)
  rw [show off + 1 + i = off + (i + 1) by omega,this]
  simp
section
variable {H : Type} {enc : TypeId × Value → H} {P : Program} {w : World}
theorem Sv : ∀ (n : Nat) {t : TypeId} {L : List Lf} {fuel : Nat} {cs : List Value} {x : DataW H × List MemPlace},shapeOf P n t = some L →
  DataW.trod enc P w 0 (fun _=>true) true fuel t cs = some x → ∃ vs,FY L vs ∧ fJ w DM.none (fun _=>False) vs cs
 | 0,t,L,fuel,cs,x,h,_=>by simp [shapeOf] at h
 |
  n + 1,t,L,fuel,cs,x,h,hx=>by
  cases fuel with
  | zero=>simp [DataW.trod] at hx
  | succ fuel =>
  simp only [shapeOf] at h
  split at h
  ·rename_i k hu
   simp only [Option.some.injEq] at h;subst h
   obtain ⟨m,rfl,_,hw⟩:=DataW.trod_int hu hx
   exact ⟨[.int k m],by simp [FY,Mt,hw],by simp [fJ,rd]⟩
  ·rename_i hu
   simp only [Option.some.injEq] at h;subst h
   rw [DataW.trod_step] at hx
   unfold DataW.trodStep at hx
   rw [hu] at hx
   split at hx <;> simp_all
   rename_i b
   exact ⟨[.bool b],by simp [FY,Mt],by simp [fJ,rd]⟩
  ·rename_i hu
   simp only [Option.some.injEq] at h;subst h
   rw [DataW.trod_step] at hx
   unfold DataW.trodStep at hx
   rw [hu] at hx
   split at hx <;> simp_all
   rename_i s
   exact ⟨[.str s.data.toList],by simp [FY,Mt];exact hx.1,by simp [fJ,rd]⟩
  ·rename_i e hu
   split at h <;> first | (cases h;done) | skip
   rename_i r hr
   split at h <;> first | (cases h;done) | skip
   rename_i hsz
   simp only [Option.some.injEq] at h;subst h
   rcases DataW.trod_slice hu hx with ⟨rfl,_⟩ | ⟨a,len,cap,elems,rest,m,_,rfl,_,hb,hl,hm,hlen,hel,_,_⟩
   ·exact ⟨[.sl r.length []],by simp [FY,Mt],by simp only [fJ,rd];exact ⟨_,[],rfl,⟨none,0,rfl,Nat.le_refl _,.inl (by trivial)⟩,rfl⟩⟩
   ·have auE : ∀ i,i < len → ∃ cs',w.cells? 0 (a.add (i * P.cellsOf e)) (P.cellsOf e) = some cs' ∧ ∃ vs,FY r vs ∧ fJ w DM.none (fun _=>False) vs cs':=by
     intro i hi
     have h1:=hel i hi
     have h2 : elems[i]? = some (elems[i]'(by omega)):=List.getElem?_eq_getElem (by omega)
     rw [h2,Option.bind_eq_some_iff] at h1
     obtain ⟨cs',k1,k2⟩:=h1
     exact ⟨cs',k1,Sv n hr k2⟩
    have hch : ∀ i,∃ p : List Value × List V,i < len → w.cells? 0 (a.add (i * P.cellsOf e)) (P.cellsOf e) = some p.1 ∧ FY r p.2 ∧ fJ w DM.none (fun _=>False) p.2 p.1:=by
     intro i
     by_cases hi : i < len
     ·obtain ⟨cs',k1,vs,k2,k3⟩:=auE i hi
      exact ⟨(cs',vs),fun _=>⟨k1,k2,k3⟩⟩
     ·exact ⟨([],[]),fun h=>absurd h hi⟩
    obtain ⟨f,hf⟩:=Classical.axiomOfChoice hch
    have hrow : ∀ i vs,((List.range len).map fun i=>(f i).2)[i]? = some vs → i < len ∧ vs = (f i).2:=by
     intro i vs hi
     rw [List.getElem?_map,Option.map_eq_some_iff] at hi
     obtain ⟨j,h1,h2⟩:=hi
     obtain ⟨h3,h4⟩:=List.getElem?_eq_some_iff.1 h1
     rw [List.getElem_range] at h4
     subst h4
     exact ⟨by simpa using h3,h2.symm⟩
    refine ⟨[.sl r.length ((List.range len).map fun i=>(f i).2)],?_,?_⟩
    ·simp only [FY,Mt]
     refine ⟨_,[],rfl,⟨_,rfl,by simp;exact Nat.le_trans hl hm,fun rr hrr=>?_⟩,rfl⟩
     obtain ⟨i,hi⟩:=List.mem_iff_getElem?.1 hrr
     obtain ⟨h1,rfl⟩:=hrow i rr hi
     exact (hf i h1).2.1
    ·simp only [fJ,rd]
     refine ⟨_,[],rfl,⟨some a,cap,by simp,by simpa using hl,?_⟩,rfl⟩
     by_cases h0 : len = 0
     ·left;subst h0;rfl
     ·right
      obtain ⟨b,off,spot⟩:=a
      have hspot : spot = none:=by
       obtain ⟨_,_,hc⟩:=World.cells?_some (hf 0 (by omega)).1
       have hlen0:=(World.cells?_some (hf 0 (by omega)).1).2.1
       have hc0:=hc 0 (by omega)
       have hlt0 : 0 < (f 0).1.length:=by omega
       rw [List.getElem?_eq_getElem hlt0] at hc0
       simpa [Addr.add] using World.cell?_spot hc0
      subst hspot
      have hb' : b < w.heap.size:=by
       have:=World.cells?_block (hf 0 (by omega)).1 (by omega)
       simpa [Addr.add] using this
      refine ⟨b,off,rfl,hb',fun h=>h,UN _ _ fun i rr hi=>?_⟩
      obtain ⟨h1,rfl⟩:=hrow i rr hi
      obtain ⟨g1,g2,g3⟩:=hf i h1
      obtain ⟨_,hl2,hc⟩:=World.cells?_some g1
      refine ⟨abU g2,IZ _ _ _ g3 (agw g2) fun j hj=>?_⟩
      have:=hc j (by omega)
      rw [← this,hsz.1]
      congr 1
      simp only [addr_add]
  ·rename_i fs hu
   split at h <;> first | (cases h;done) | skip
   rename_i r hr
   split at h <;> first | (cases h;done) | skip
   rename_i hsz
   simp only [Option.some.injEq] at h;subst h
   rw [DataW.trod_step] at hx
   unfold DataW.trodStep at hx
   rw [hu] at hx
   simp only [] at hx
   split at hx <;> first | (cases hx;done) | skip
   rename_i hlen
   rw [Option.map_eq_some_iff] at hx
   obtain ⟨xs,hxs,_⟩:=hx
   have key : ∀ (fl : List Field) (off : Nat) (r : List Lf) (xs : List (DataW H × List MemPlace)),agv P (shapeOf P n) fl off = some r →
     (fl.mapM fun f=>DataW.trod enc P w 0 (fun _=>true) true fuel f.type ((cs.drop f.offset).take (P.cellsOf f.type))) = some xs →
     ∃ vs,FY r vs ∧ fJ w DM.none (fun _=>False) vs ((cs.drop off).take r.length):=by
    intro fl
    induction fl with
    |
     nil =>
     intro off r xs h _
     simp only [agv,Option.some.injEq] at h;subst h
     exact ⟨[],by simp [FY],by simp [fJ]⟩
    |
     cons f fl ih =>
     intro off r xs h hm
     simp only [agv] at h
     split at h <;> first | (cases h;done) | skip
     rename_i r1 rs h1 h2
     split at h <;> first | (cases h;done) | skip
     rename_i hc
     simp only [Option.some.injEq] at h;subst h
     simp only [List.mapM_cons,Option.pure_def,Option.bind_eq_bind,Option.bind_eq_some_iff,Option.some.injEq] at hm
     obtain ⟨y,hy,ys,hys,rfl⟩:=hm
     obtain ⟨v1,a1,a2⟩:=Sv n h1 hy
     obtain ⟨v2,b1,b2⟩:=ih _ rs ys h2 hys
     refine ⟨v1 ++ v2,aaW a1 b1,?_⟩
     have e : (cs.drop off).take (r1 ++ rs).length = (cs.drop off).take r1.length ++ (cs.drop (off + P.cellsOf f.type)).take rs.length:=by
      rw [List.length_append,List.take_add,List.drop_drop,hc.2]
     rw [e]
     rw [hc.1,← hc.2] at a2
     exact yu _ _ _ _ a2 b2
   obtain ⟨vs,a1,a2⟩:=key fs.toList 0 r xs hr hxs
   refine ⟨vs,a1,?_⟩
   rw [List.drop_zero,List.take_of_length_le (by omega)] at a2
   exact a2
  ·cases h
theorem agx (n : Nat) {t : TypeId} {L : List Lf} {v : Value} {d : DataW H} {ps : List MemPlace} (hs : shapeOf P n t = some L) (h : DataW.Trod enc P w 0 (fun _=>true) true t v d ps) :
  ∃ vs,FY L vs ∧ fJ w DM.none (fun _=>False) vs v.cells.toList:=by
 obtain ⟨fuel,hf⟩:=h
 exact Sv n hs hf
end
end Go.Ml
namespace Go.Ml
open Go.ChangeShapes Go.WideShapes Go.ChangeAt Go.RowKit
def agy (g : Bool) (vs : List V) : V:=if g = true then .agg vs else vs.headD .any
def aaX : List (Bool × List Lf) → List V → Prop
 | [],vs=>vs = []
 | s :: ss,vs=>∃ cs rest,vs = agy s.1 cs :: rest ∧ FY s.2 cs ∧ aaX ss rest
def ajP (P : Program) (t : TypeId) (s : Bool × List Lf) : Bool :=
 match P.underlying t with
 | some (.struct _)=>s.1
 | some (.int _) | some .bool | some .string | some (.slice _)=>!s.1
 | _=>false
def Sz (P : Program) : List TypeId → List (Bool × List Lf) → Prop
 | [],ss=>ss = []
 | t :: ts,ss=>∃ s rest,ss = s :: rest ∧ shapeOf P 20 t = some s.2 ∧ ajP P t s = true ∧ Sz P ts rest
theorem abV {H : Type} {enc : TypeId × Value → H} {P : Program} {w : World} {r : Reach} {b : Nat} : ∀ {ts : List TypeId} {ss : List (Bool × List Lf)} {vs : List Value} {ds : List (DataW H)} {ps : List MemPlace},
  Sz P ts ss → (∀ (j : Nat) t v,ts[j]? = some t → vs[j]? = some v → Value.okWide P w r b t v) → DataW.TrodAll enc P w 0 (fun _=>true) true ts vs ds ps →
  ∃ Vs,aaX ss Vs ∧ fJ w DM.none (fun _=>False) Vs vs
 | [],ss,[],ds,ps,h,_,_=>by simp only [Sz] at h;subst h;exact ⟨[],rfl,by simp [fJ]⟩
 | [],_,_ :: _,ds,ps,_,_,ht=>by cases ds <;> exact ht.elim
 | _ :: _,_,[],ds,ps,_,_,ht=>by cases ds <;> exact ht.elim
 | t :: ts,ss,v :: vs,[],ps,_,_,ht=>ht.elim
 |
  t :: ts,ss,v :: vs,d :: ds,ps,h,hw,ht=>by
  simp only [Sz] at h
  obtain ⟨s,rest,rfl,h1,h2,h3⟩:=h
  obtain ⟨p,q,k1,k2,_⟩:=ht
  obtain ⟨Vs,a1,a2⟩:=abV h3 (fun j t' v' hj hv=>hw (j + 1) t' v' (by simpa using hj) (by simpa using hv)) k2
  obtain ⟨cs,c1,c2⟩:=agx 20 h1 k1
  have hok:=hw 0 t v rfl rfl
  refine ⟨agy s.1 cs :: Vs,⟨cs,Vs,rfl,c1,a1⟩,?_⟩
  simp only [fJ]
  refine ⟨v,vs,rfl,?_,a2⟩
  unfold ajP at h2
  have one : (∀ cs',v ≠ .agg cs') → s.1 = false → s.2.length = 1 → rd w DM.none (fun _=>False) (agy s.1 cs) v:=by
   intro hv hs hl
   have hvc : v.cells.toList = [v]:=by cases v <;> first | rfl | (exact absurd rfl (hv _))
   rw [hvc] at c2
   have:=abU c1
   rw [hl] at this
   cases cs with
   | nil=>simp at this
   |
    cons x xs =>
    simp only [fJ] at c2
    obtain ⟨y,ys,e,e2,_⟩:=c2
    simp only [List.cons.injEq] at e
    rw [hs]
    simp only [agy,Bool.false_eq_true,if_false,List.headD_cons]
    rw [e.1];exact e2
  unfold shapeOf at h1
  split at h2
  ·rename_i fs hu
   rw [h2]
   simp only [Value.okWide,hu] at hok
   obtain ⟨cs',rfl,_⟩:=hok
   simp only [agy,if_true,rd]
   exact ⟨cs',rfl,c2⟩
  ·rename_i k hu
   rw [hu] at h1
   simp only [Option.some.injEq] at h1
   obtain ⟨n,rfl⟩:=okWide_int hu hok
   exact one (by intro cs' e;cases e) (by simpa using h2) (by rw [← h1];rfl)
  ·rename_i hu
   rw [hu] at h1
   simp only [Option.some.injEq] at h1
   obtain ⟨n,rfl⟩:=okWide_bool hu hok
   exact one (by intro cs' e;cases e) (by simpa using h2) (by rw [← h1];rfl)
  ·rename_i hu
   rw [hu] at h1
   simp only [Option.some.injEq] at h1
   obtain ⟨n,rfl⟩:=okWide_string hu hok
   exact one (by intro cs' e;cases e) (by simpa using h2) (by rw [← h1];rfl)
  ·rename_i e hu
   rw [hu] at h1
   simp only [] at h1
   obtain ⟨a0,l0,c0,rfl⟩:=okWide_slice hu hok
   refine one (by intro cs' e;cases e) (by simpa using h2) ?_
   split at h1 <;> first | (cases h1;done) | skip
   split at h1 <;> first | (cases h1;done) | skip
   simp only [Option.some.injEq] at h1
   rw [← h1];rfl
  ·cases h2
theorem JH {H : Type} {enc : TypeId × Value → H} {P : Program} (hl : laidOutB P = true) {W W' : World} (hb : Below W.heap.size W W') : ∀ {ts : List TypeId} {vs : List Value} {ds : List (DataW H)} {ps : List MemPlace},
  (ts.all fun t=>P.readableRec t && decide (t < P.types.size)) = true → DataW.TrodAll enc P W 0 (fun _=>true) true ts vs ds ps → (∀ x ∈ ps,x.block < W.heap.size) →
  DataW.TrodAll enc P W' 0 (fun b=>decide (b < W.heap.size)) true ts vs ds ps
 | [],[],[],ps,_,h,_=>h
 | [],_ :: _,ds,ps,_,ht,_=>by cases ds <;> exact ht.elim
 | [],[],_ :: _,ps,_,ht,_=>ht.elim
 | _ :: _,[],ds,ps,_,ht,_=>by cases ds <;> exact ht.elim
 | t :: ts,v :: vs,[],ps,_,ht,_=>ht.elim
 |
  t :: ts,v :: vs,d :: ds,ps,h,ht,hlt=>by
  simp only [List.all_cons,Bool.and_eq_true,decide_eq_true_eq] at h
  obtain ⟨p,q,k1,k2,rfl⟩:=ht
  exact ⟨p,q,Below.trod hl h.1.1 h.1.2 k1 hb fun x hx=>hlt x (by simp [hx]),JH hl hb (by simpa using h.2) k2 fun x hx=>hlt x (by simp [hx]),rfl⟩
end Go.Ml
end
section
namespace Go.Ml
theorem FX : ∀ {a b : List Lf} {vs : List V},FY (a ++ b) vs → ∃ v1 v2,vs = v1 ++ v2 ∧ FY a v1 ∧ FY b v2
 | [],b,vs,h=>⟨[],vs,rfl,by simp [FY],h⟩
 |
  x :: a,b,vs,h=>by
  simp only [List.cons_append,FY] at h
  obtain ⟨v,vs',rfl,h1,h2⟩:=h
  obtain ⟨v1,v2,rfl,h3,h4⟩:=FX h2
  refine ⟨v :: v1,v2,rfl,?_,h4⟩
  simp only [FY];exact ⟨v,v1,rfl,h1,h3⟩
theorem YU {α : Type} {row : List Lf} {f : α → List V} {W : α → Prop} (h : ∀ r,FY row r → ∃ x,r = f x ∧ W x) {v : V} (hv : Mt (.sl row) v) : ∃ l : List α,v = .sl row.length (l.map f) ∧ BU W l:=by
 simp only [Mt] at hv
 obtain ⟨rows,rfl,hl,hr⟩:=hv
 have key : ∀ rows : List (List V),(∀ r ∈ rows,FY row r) → ∃ l : List α,rows = l.map f ∧ ∀ x ∈ l,W x:=by
  intro rows
  induction rows with
  | nil=>intro _;exact ⟨[],rfl,by simp⟩
  |
   cons r rows ih =>
   intro hr
   obtain ⟨x,rfl,hx⟩:=h r (hr r (by simp))
   obtain ⟨l,rfl,hl⟩:=ih fun r hr'=>hr r (by simp [hr'])
   exact ⟨x :: l,rfl,by simpa using ⟨hx,hl⟩⟩
 obtain ⟨l,rfl,hw⟩:=key rows hr
 exact ⟨l,rfl,by simpa [maxLen] using hl,hw⟩
theorem YV {v : V} (h : Mt (.int .i64) v) : ∃ n,v = iv n ∧ (Lit.int .i64 n).wf = true:=by simpa only [Mt] using h
theorem agz {v : V} (h : Mt .bool v) : ∃ b,v = .bool b:=by simpa only [Mt] using h
theorem PW {l : Lf} {r : List V} (h : FY [l] r) : ∃ v,r = [v] ∧ Mt l v:=by
 simp only [FY] at h
 obtain ⟨v,vs,rfl,h1,rfl⟩:=h
 exact ⟨v,rfl,h1⟩
abbrev shI : Lf:=.sl [.int .i64]
abbrev shR : List Lf:=[.bool,shI,shI]
abbrev amc : List Lf:=[.int .i64] ++ ([.int .i64] ++ (shR ++ (shR ++ shR)))
theorem SA {v : V} (h : Mt shI v) : ∃ l : List Int,v = ints l ∧ l.length ≤ 9223372036854775807:=by
 obtain ⟨l,rfl,hl⟩:=YU (f:=fun n=>[iv n]) (W:=fun _=>True) (fun r hr=>by
  obtain ⟨v,rfl,g⟩:=PW hr
  obtain ⟨n,rfl,_⟩:=YV g
  exact ⟨n,rfl,trivial⟩) h
 exact ⟨l,rfl,hl.1⟩
theorem agA {vs : List V} (h : FY shR vs) : ∃ r : R,vs = r.cells ∧ r.wf:=by
 simp only [FY] at h
 obtain ⟨v1,_,rfl,h1,v2,_,rfl,h2,v3,_,rfl,h3,rfl⟩:=h
 obtain ⟨b,rfl⟩:=agz h1
 obtain ⟨m,rfl,hm⟩:=SA h2
 obtain ⟨d,rfl,hd⟩:=SA h3
 exact ⟨⟨b,m,d⟩,rfl,hm,hd⟩
theorem YW {vs : List V} (h : FY [.int .i64] vs) : ∃ n,vs = [iv n]:=by
 obtain ⟨v,rfl,g⟩:=PW h
 obtain ⟨n,rfl,_⟩:=YV g
 exact ⟨n,rfl⟩
theorem amd {vs : List V} (h : FY amc vs) : ∃ p : Lk,vs = p.cells ∧ p.wf:=by
 obtain ⟨v1,v2,rfl,h1,h⟩:=FX h
 obtain ⟨v2,v3,rfl,h2,h⟩:=FX h
 obtain ⟨v3,v4,rfl,h3,h⟩:=FX h
 obtain ⟨v4,v5,rfl,h4,h5⟩:=FX h
 obtain ⟨a,rfl⟩:=YW h1
 obtain ⟨b,rfl⟩:=YW h2
 obtain ⟨x,rfl,hx⟩:=agA h3
 obtain ⟨y,rfl,hy⟩:=agA h4
 obtain ⟨z,rfl,hz⟩:=agA h5
 exact ⟨⟨a,b,x,y,z⟩,rfl,hx,hy,hz⟩
theorem ajf {v : V} (h : Mt (.sl amc) v) : ∃ l,v = bf l ∧ BU Lk.wf l:=YU (fun _ hr=>amd hr) h
def agB {α : Type} (P : α → Prop) : List α → Prop
 | []=>True
 | x :: l=>P x ∧ agB P l
theorem agB.mem {α : Type} {P : α → Prop} : ∀ {l : List α},agB P l → ∀ x ∈ l,P x
 | [],_,x,hx=>by cases hx
 |
  y :: l,h,x,hx=>by
  rcases List.mem_cons.1 hx with rfl | hx
  ·exact h.1
  ·exact agB.mem h.2 x hx
end Go.Ml
namespace Go.Ml
theorem YX {H : Type} {enc : TypeId × Value → H} {P : Program} {w : World} {b : Nat} {sp : Nat → Bool} {hd : Bool} : ∀ {ts : List TypeId} {vs : List Value} {ds : List (DataW H)} {ps : List MemPlace},
  DataW.TrodAll enc P w b sp hd ts vs ds ps → ds.length = ts.length
 | [],[],[],_,_=>rfl
 | [],[],_ :: _,_,h=>h.elim
 | [],_ :: _,ds,_,h=>by cases ds <;> exact h.elim
 | _ :: _,[],ds,_,h=>by cases ds <;> exact h.elim
 | _ :: _,_ :: _,[],_,h=>h.elim
 |
  t :: ts,v :: vs,d :: ds,ps,h=>by
  obtain ⟨p,q,_,h2,_⟩:=h
  simp [YX h2]
end Go.Ml
end
