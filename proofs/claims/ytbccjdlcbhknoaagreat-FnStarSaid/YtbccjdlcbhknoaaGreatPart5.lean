/- A small language for the functions of this claim, its soundness, contracts. -/
import Derived.Test.YtbccjdlcbhknoaaGreatPart4
set_option linter.unusedSimpArgs false
set_option linter.unusedVariables false
set_option maxRecDepth 100000
set_option maxHeartbeats 16000000
section
namespace Go.Ml
open Go.ChangeShapes Go.WideShapes Go.ChangeAt Go.RowKit
inductive Lf where
 | int (k : IntKind)
 | bool
 | str
 | sl (row : List Lf)
mutual
def Mt : Lf → V → Prop
 | .int k,v=>∃ n,v = .int k n ∧ (Lit.int k n).wf = true
 | .bool,v=>∃ b,v = .bool b
 | .str,v=>∃ s,v = .str s ∧ s.length ≤ maxLen
 | .sl row,v=>∃ rows : List (List V),v = .sl row.length rows ∧ rows.length ≤ maxLen ∧ ∀ r ∈ rows,I7 row r
def I7 : List Lf → List V → Prop
 | [],vs=>vs = []
 | l :: ls,vs=>∃ v vs',vs = v :: vs' ∧ Mt l v ∧ I7 ls vs'
end
def ae6 (P : Program) (sh : TypeId → Option (List Lf)) : List Field → Nat → Option (List Lf)
 | [],_=>some []
 |
  f :: fs,off=>match sh f.type,ae6 P sh fs (off + P.cellsOf f.type) with
  | some r,some rs=>if f.offset = off ∧ r.length = P.cellsOf f.type then some (r ++ rs) else none
  | _,_=>none
def shapeOf (P : Program) : Nat → TypeId → Option (List Lf)
 | 0,_=>none
 |
  n + 1,t=>match P.underlying t with
  | some (.int k)=>some [.int k]
  | some .bool=>some [.bool]
  | some .string=>some [.str]
  |
   some (.slice e)=>match shapeOf P n e with
   | some r=>if r.length = P.cellsOf e ∧ 0 < r.length then some [.sl r] else none
   | none=>none
  |
   some (.struct fs)=>match ae6 P (shapeOf P n) fs.toList 0 with
   | some r=>if r.length = P.cellsOf t then some r else none
   | none=>none
  | _=>none
theorem YG {l1 l2 : List Lf} {v1 v2 : List V} (h1 : I7 l1 v1) (h2 : I7 l2 v2) : I7 (l1 ++ l2) (v1 ++ v2):=by
 induction l1 generalizing v1 with
 | nil=>simp only [I7] at h1;subst h1;simpa using h2
 |
  cons l l1 ih =>
  simp only [I7] at h1
  obtain ⟨v,vs,rfl,a,b⟩:=h1
  simp only [List.cons_append,I7]
  exact ⟨v,vs ++ v2,rfl,a,ih b⟩
theorem ZX {l : List Lf} {v : List V} (h : I7 l v) : v.length = l.length:=by
 induction l generalizing v with
 | nil=>simp only [I7] at h;subst h;rfl
 |
  cons x l ih =>
  simp only [I7] at h
  obtain ⟨v,vs,rfl,a,b⟩:=h
  simp [ih b]
theorem ah4 : ∀ {l : Lf} {v : V},Mt l v → v.leaf = true:=by
 intro l v h
 cases l <;> simp only [Mt] at h
 ·obtain ⟨n,rfl,_⟩:=h;rfl
 ·obtain ⟨b,rfl⟩:=h;rfl
 ·obtain ⟨s,rfl,_⟩:=h;rfl
 ·obtain ⟨rows,rfl,_⟩:=h;rfl
theorem ae7 {l : List Lf} {v : List V} (h : I7 l v) : ∀ x ∈ v,x.leaf = true:=by
 induction l generalizing v with
 | nil=>simp only [I7] at h;subst h;intro x hx;cases hx
 |
  cons y l ih =>
  simp only [I7] at h
  obtain ⟨v,vs,rfl,a,b⟩:=h
  intro x hx
  rcases List.mem_cons.1 hx with rfl | hx
  ·exact ah4 a
  ·exact ih b x hx
theorem Rx {w : World} {D : DM} {X : Nat → Prop} {b sz : Nat} : ∀ (off : Nat) (rows : List (List V)),
  (∀ i r,rows[i]? = some r → r.length = sz ∧ dW w D X b (off + i * sz) r) → gV w D X b sz off rows
 | _,[],_=>by simp [gV]
 |
  off,r :: rows,h=>by
  simp only [gV]
  have h0:=h 0 r rfl
  refine ⟨h0.1,by simpa using h0.2,Rx (off + sz) rows fun i r' hi=>?_⟩
  have:=h (i + 1) r' (by simpa using hi)
  rwa [show off + (i + 1) * sz = off + sz + i * sz by rw [Nat.succ_mul];omega] at this
theorem F8 {w : World} {D : DM} {X : Nat → Prop} {b : Nat} : ∀ (off : Nat) (vs : List V) (cs : List Value),fD w D X vs cs → (∀ x ∈ vs,x.leaf = true) →
  (∀ i,i < cs.length → w.cell? ⟨b,off + i,none⟩ = cs[i]?) → dW w D X b off vs
 | _,[],_,_,_,_=>by simp [dW]
 |
  off,v :: vs,cs,h,hl,hc=>by
  simp only [fD] at h
  obtain ⟨y,ys,rfl,h1,h2⟩:=h
  simp only [dW]
  refine ⟨hl v (by simp),⟨y,by simpa using hc 0 (by simp),h1⟩,F8 (off + 1) vs ys h2 (fun x hx=>hl x (by simp [hx])) fun i hi=>?_⟩
  have:=hc (i + 1) (by simpa using hi)
  rw [show off + 1 + i = off + (i + 1) by omega,this]
  simp
section
variable {H : Type} {enc : TypeId × Value → H} {P : Program} {w : World}
theorem PG : ∀ (n : Nat) {t : TypeId} {L : List Lf} {fuel : Nat} {cs : List Value} {x : DataW H × List MemPlace},shapeOf P n t = some L →
  DataW.trod enc P w 0 (fun _=>true) true fuel t cs = some x → ∃ vs,I7 L vs ∧ fD w DM.none (fun _=>False) vs cs
 | 0,t,L,fuel,cs,x,h,_=>by simp [shapeOf] at h
 |
  n + 1,t,L,fuel,cs,x,h,hx=>by
  cases fuel with
  | zero=>simp [DataW.trod] at hx
  | succ fuel =>
  simp only [shapeOf] at h
  split at h
  ·rename_i k hu
   simp only [Option.some.injEq] at h;subst h
   obtain ⟨m,rfl,_,hw⟩:=DataW.trod_int hu hx
   exact ⟨[.int k m],by simp [I7,Mt,hw],by simp [fD,rd]⟩
  ·rename_i hu
   simp only [Option.some.injEq] at h;subst h
   rw [DataW.trod_step] at hx
   unfold DataW.trodStep at hx
   rw [hu] at hx
   split at hx <;> simp_all
   rename_i b
   exact ⟨[.bool b],by simp [I7,Mt],by simp [fD,rd]⟩
  ·rename_i hu
   simp only [Option.some.injEq] at h;subst h
   rw [DataW.trod_step] at hx
   unfold DataW.trodStep at hx
   rw [hu] at hx
   split at hx <;> simp_all
   rename_i s
   exact ⟨[.str s.data.toList],by simp [I7,Mt];exact hx.1,by simp [fD,rd]⟩
  ·rename_i e hu
   split at h <;> first | (cases h;done) | skip
   rename_i r hr
   split at h <;> first | (cases h;done) | skip
   rename_i hsz
   simp only [Option.some.injEq] at h;subst h
   rcases DataW.trod_slice hu hx with ⟨rfl,_⟩ | ⟨a,len,cap,elems,rest,m,_,rfl,_,hb,hl,hm,hlen,hel,_,_⟩
   ·exact ⟨[.sl r.length []],by simp [I7,Mt],by simp only [fD,rd];exact ⟨_,[],rfl,⟨none,0,rfl,Nat.le_refl _,.inl (by trivial)⟩,rfl⟩⟩
   ·have asZ : ∀ i,i < len → ∃ cs',w.cells? 0 (a.add (i * P.cellsOf e)) (P.cellsOf e) = some cs' ∧ ∃ vs,I7 r vs ∧ fD w DM.none (fun _=>False) vs cs':=by
     intro i hi
     have h1:=hel i hi
     have h2 : elems[i]? = some (elems[i]'(by omega)):=List.getElem?_eq_getElem (by omega)
     rw [h2,Option.bind_eq_some_iff] at h1
     obtain ⟨cs',k1,k2⟩:=h1
     exact ⟨cs',k1,PG n hr k2⟩
    have hch : ∀ i,∃ p : List Value × List V,i < len → w.cells? 0 (a.add (i * P.cellsOf e)) (P.cellsOf e) = some p.1 ∧ I7 r p.2 ∧ fD w DM.none (fun _=>False) p.2 p.1:=by
     intro i
     by_cases hi : i < len
     ·obtain ⟨cs',k1,vs,k2,k3⟩:=asZ i hi
      exact ⟨(cs',vs),fun _=>⟨k1,k2,k3⟩⟩
     ·exact ⟨([],[]),fun h=>absurd h hi⟩
    obtain ⟨f,hf⟩:=Classical.axiomOfChoice hch
    have hrow : ∀ i vs,((List.range len).map fun i=>(f i).2)[i]? = some vs → i < len ∧ vs = (f i).2:=by
     intro i vs hi
     rw [List.getElem?_map,Option.map_eq_some_iff] at hi
     obtain ⟨j,h1,h2⟩:=hi
     obtain ⟨h3,h4⟩:=List.getElem?_eq_some_iff.1 h1
     rw [List.getElem_range] at h4
     subst h4
     exact ⟨by simpa using h3,h2.symm⟩
    refine ⟨[.sl r.length ((List.range len).map fun i=>(f i).2)],?_,?_⟩
    ·simp only [I7,Mt]
     refine ⟨_,[],rfl,⟨_,rfl,by simp;exact Nat.le_trans hl hm,fun rr hrr=>?_⟩,rfl⟩
     obtain ⟨i,hi⟩:=List.mem_iff_getElem?.1 hrr
     obtain ⟨h1,rfl⟩:=hrow i rr hi
     exact (hf i h1).2.1
    ·simp only [fD,rd]
     refine ⟨_,[],rfl,⟨some a,cap,by simp,by simpa using hl,?_⟩,rfl⟩
     by_cases h0 : len = 0
     ·left;subst h0;rfl
     ·right
      obtain ⟨b,off,spot⟩:=a
      have hspot : spot = none:=by
       obtain ⟨_,_,hc⟩:=World.cells?_some (hf 0 (by omega)).1
       have hlen0:=(World.cells?_some (hf 0 (by omega)).1).2.1
       have hc0:=hc 0 (by omega)
       have hlt0 : 0 < (f 0).1.length:=by omega
       rw [List.getElem?_eq_getElem hlt0] at hc0
       simpa [Addr.add] using World.cell?_spot hc0
      subst hspot
      have hb' : b < w.heap.size:=by
       have:=World.cells?_block (hf 0 (by omega)).1 (by omega)
       simpa [Addr.add] using this
      refine ⟨b,off,rfl,hb',fun h=>h,Rx _ _ fun i rr hi=>?_⟩
      obtain ⟨h1,rfl⟩:=hrow i rr hi
      obtain ⟨g1,g2,g3⟩:=hf i h1
      obtain ⟨_,hl2,hc⟩:=World.cells?_some g1
      refine ⟨ZX g2,F8 _ _ _ g3 (ae7 g2) fun j hj=>?_⟩
      have:=hc j (by omega)
      rw [← this,hsz.1]
      congr 1
      simp only [addr_add]
  ·rename_i fs hu
   split at h <;> first | (cases h;done) | skip
   rename_i r hr
   split at h <;> first | (cases h;done) | skip
   rename_i hsz
   simp only [Option.some.injEq] at h;subst h
   rw [DataW.trod_step] at hx
   unfold DataW.trodStep at hx
   rw [hu] at hx
   simp only [] at hx
   split at hx <;> first | (cases hx;done) | skip
   rename_i hlen
   rw [Option.map_eq_some_iff] at hx
   obtain ⟨xs,hxs,_⟩:=hx
   have key : ∀ (fl : List Field) (off : Nat) (r : List Lf) (xs : List (DataW H × List MemPlace)),ae6 P (shapeOf P n) fl off = some r →
     (fl.mapM fun f=>DataW.trod enc P w 0 (fun _=>true) true fuel f.type ((cs.drop f.offset).take (P.cellsOf f.type))) = some xs →
     ∃ vs,I7 r vs ∧ fD w DM.none (fun _=>False) vs ((cs.drop off).take r.length):=by
    intro fl
    induction fl with
    |
     nil =>
     intro off r xs h _
     simp only [ae6,Option.some.injEq] at h;subst h
     exact ⟨[],by simp [I7],by simp [fD]⟩
    |
     cons f fl ih =>
     intro off r xs h hm
     simp only [ae6] at h
     split at h <;> first | (cases h;done) | skip
     rename_i r1 rs h1 h2
     split at h <;> first | (cases h;done) | skip
     rename_i hc
     simp only [Option.some.injEq] at h;subst h
     simp only [List.mapM_cons,Option.pure_def,Option.bind_eq_bind,Option.bind_eq_some_iff,Option.some.injEq] at hm
     obtain ⟨y,hy,ys,hys,rfl⟩:=hm
     obtain ⟨v1,a1,a2⟩:=PG n h1 hy
     obtain ⟨v2,b1,b2⟩:=ih _ rs ys h2 hys
     refine ⟨v1 ++ v2,YG a1 b1,?_⟩
     have e : (cs.drop off).take (r1 ++ rs).length = (cs.drop off).take r1.length ++ (cs.drop (off + P.cellsOf f.type)).take rs.length:=by
      rw [List.length_append,List.take_add,List.drop_drop,hc.2]
     rw [e]
     rw [hc.1,← hc.2] at a2
     exact vV _ _ _ _ a2 b2
   obtain ⟨vs,a1,a2⟩:=key fs.toList 0 r xs hr hxs
   refine ⟨vs,a1,?_⟩
   rw [List.drop_zero,List.take_of_length_le (by omega)] at a2
   exact a2
  ·cases h
theorem ae8 (n : Nat) {t : TypeId} {L : List Lf} {v : Value} {d : DataW H} {ps : List MemPlace} (hs : shapeOf P n t = some L) (h : DataW.Trod enc P w 0 (fun _=>true) true t v d ps) :
  ∃ vs,I7 L vs ∧ fD w DM.none (fun _=>False) vs v.cells.toList:=by
 obtain ⟨fuel,hf⟩:=h
 exact PG n hs hf
end
end Go.Ml
namespace Go.Ml
open Go.ChangeShapes Go.WideShapes Go.ChangeAt Go.RowKit
def ae9 (g : Bool) (vs : List V) : V:=if g = true then .agg vs else vs.headD .any
def YH : List (Bool × List Lf) → List V → Prop
 | [],vs=>vs = []
 | s :: ss,vs=>∃ cs rest,vs = ae9 s.1 cs :: rest ∧ I7 s.2 cs ∧ YH ss rest
def aiB (P : Program) (t : TypeId) (s : Bool × List Lf) : Bool :=
 match P.underlying t with
 | some (.struct _)=>s.1
 | some (.int _) | some .bool | some .string | some (.slice _)=>!s.1
 | _=>false
def PI (P : Program) : List TypeId → List (Bool × List Lf) → Prop
 | [],ss=>ss = []
 | t :: ts,ss=>∃ s rest,ss = s :: rest ∧ shapeOf P 20 t = some s.2 ∧ aiB P t s = true ∧ PI P ts rest
theorem ZY {H : Type} {enc : TypeId × Value → H} {P : Program} {w : World} {r : Reach} {b : Nat} : ∀ {ts : List TypeId} {ss : List (Bool × List Lf)} {vs : List Value} {ds : List (DataW H)} {ps : List MemPlace},
  PI P ts ss → (∀ (j : Nat) t v,ts[j]? = some t → vs[j]? = some v → Value.okWide P w r b t v) → DataW.TrodAll enc P w 0 (fun _=>true) true ts vs ds ps →
  ∃ Vs,YH ss Vs ∧ fD w DM.none (fun _=>False) Vs vs
 | [],ss,[],ds,ps,h,_,_=>by simp only [PI] at h;subst h;exact ⟨[],rfl,by simp [fD]⟩
 | [],_,_ :: _,ds,ps,_,_,ht=>by cases ds <;> exact ht.elim
 | _ :: _,_,[],ds,ps,_,_,ht=>by cases ds <;> exact ht.elim
 | t :: ts,ss,v :: vs,[],ps,_,_,ht=>ht.elim
 |
  t :: ts,ss,v :: vs,d :: ds,ps,h,hw,ht=>by
  simp only [PI] at h
  obtain ⟨s,rest,rfl,h1,h2,h3⟩:=h
  obtain ⟨p,q,k1,k2,_⟩:=ht
  obtain ⟨Vs,a1,a2⟩:=ZY h3 (fun j t' v' hj hv=>hw (j + 1) t' v' (by simpa using hj) (by simpa using hv)) k2
  obtain ⟨cs,c1,c2⟩:=ae8 20 h1 k1
  have hok:=hw 0 t v rfl rfl
  refine ⟨ae9 s.1 cs :: Vs,⟨cs,Vs,rfl,c1,a1⟩,?_⟩
  simp only [fD]
  refine ⟨v,vs,rfl,?_,a2⟩
  unfold aiB at h2
  have one : (∀ cs',v ≠ .agg cs') → s.1 = false → s.2.length = 1 → rd w DM.none (fun _=>False) (ae9 s.1 cs) v:=by
   intro hv hs hl
   have hvc : v.cells.toList = [v]:=by cases v <;> first | rfl | (exact absurd rfl (hv _))
   rw [hvc] at c2
   have:=ZX c1
   rw [hl] at this
   cases cs with
   | nil=>simp at this
   |
    cons x xs =>
    simp only [fD] at c2
    obtain ⟨y,ys,e,e2,_⟩:=c2
    simp only [List.cons.injEq] at e
    rw [hs]
    simp only [ae9,Bool.false_eq_true,if_false,List.headD_cons]
    rw [e.1];exact e2
  unfold shapeOf at h1
  split at h2
  ·rename_i fs hu
   rw [h2]
   simp only [Value.okWide,hu] at hok
   obtain ⟨cs',rfl,_⟩:=hok
   simp only [ae9,if_true,rd]
   exact ⟨cs',rfl,c2⟩
  ·rename_i k hu
   rw [hu] at h1
   simp only [Option.some.injEq] at h1
   obtain ⟨n,rfl⟩:=okWide_int hu hok
   exact one (by intro cs' e;cases e) (by simpa using h2) (by rw [← h1];rfl)
  ·rename_i hu
   rw [hu] at h1
   simp only [Option.some.injEq] at h1
   obtain ⟨n,rfl⟩:=okWide_bool hu hok
   exact one (by intro cs' e;cases e) (by simpa using h2) (by rw [← h1];rfl)
  ·rename_i hu
   rw [hu] at h1
   simp only [Option.some.injEq] at h1
   obtain ⟨n,rfl⟩:=okWide_string hu hok
   exact one (by intro cs' e;cases e) (by simpa using h2) (by rw [← h1];rfl)
  ·rename_i e hu
   rw [hu] at h1
   simp only [] at h1
   obtain ⟨a0,l0,c0,rfl⟩:=okWide_slice hu hok
   refine one (by intro cs' e;cases e) (by simpa using h2) ?_
   split at h1 <;> first | (cases h1;done) | skip
   split at h1 <;> first | (cases h1;done) | skip
   simp only [Option.some.injEq] at h1
   rw [← h1];rfl
  ·cases h2
theorem Hw {H : Type} {enc : TypeId × Value → H} {P : Program} (hl : laidOutB P = true) {W W' : World} (hb : Below W.heap.size W W') : ∀ {ts : List TypeId} {vs : List Value} {ds : List (DataW H)} {ps : List MemPlace},
  (ts.all fun t=>P.readableRec t && decide (t < P.types.size)) = true → DataW.TrodAll enc P W 0 (fun _=>true) true ts vs ds ps → (∀ x ∈ ps,x.block < W.heap.size) →
  DataW.TrodAll enc P W' 0 (fun b=>decide (b < W.heap.size)) true ts vs ds ps
 | [],[],[],ps,_,h,_=>h
 | [],_ :: _,ds,ps,_,ht,_=>by cases ds <;> exact ht.elim
 | [],[],_ :: _,ps,_,ht,_=>ht.elim
 | _ :: _,[],ds,ps,_,ht,_=>by cases ds <;> exact ht.elim
 | t :: ts,v :: vs,[],ps,_,ht,_=>ht.elim
 |
  t :: ts,v :: vs,d :: ds,ps,h,ht,hlt=>by
  simp only [List.all_cons,Bool.and_eq_true,decide_eq_true_eq] at h
  obtain ⟨p,q,k1,k2,rfl⟩:=ht
  exact ⟨p,q,Below.trod hl h.1.1 h.1.2 k1 hb fun x hx=>hlt x (by simp [hx]),Hw hl hb (by simpa using h.2) k2 fun x hx=>hlt x (by simp [hx]),rfl⟩
end Go.Ml
end
section
namespace Go.Ml
theorem afa {α : Type} {row : List Lf} {f : α → List V} {W : α → Prop} (h : ∀ r,I7 row r → ∃ x,r = f x ∧ W x) {v : V} (hv : Mt (.sl row) v) : ∃ l : List α,v = .sl row.length (l.map f) ∧ MR W l:=by
 simp only [Mt] at hv
 obtain ⟨rows,rfl,hl,hr⟩:=hv
 have key : ∀ rows : List (List V),(∀ r ∈ rows,I7 row r) → ∃ l : List α,rows = l.map f ∧ ∀ x ∈ l,W x:=by
  intro rows
  induction rows with
  | nil=>intro _;exact ⟨[],rfl,by simp⟩
  |
   cons r rows ih =>
   intro hr
   obtain ⟨x,rfl,hx⟩:=h r (hr r (by simp))
   obtain ⟨l,rfl,hl⟩:=ih fun r hr'=>hr r (by simp [hr'])
   exact ⟨x :: l,rfl,by simpa using ⟨hx,hl⟩⟩
 obtain ⟨l,rfl,hw⟩:=key rows hr
 exact ⟨l,rfl,by simpa [maxLen] using hl,hw⟩
theorem Z4 {l : Lf} {r : List V} (h : I7 [l] r) : ∃ v,r = [v] ∧ Mt l v:=by
 simp only [I7] at h
 obtain ⟨v,vs,rfl,h1,rfl⟩:=h
 exact ⟨v,rfl,h1⟩
theorem abn {v : V} (h : Mt (.sl [.int .u8]) v) : ∃ l : List UInt8,v = .sl 1 (l.map fun b=>[.int .u8 b.toNat]) ∧ l.length ≤ 9223372036854775807:=by
 obtain ⟨l,rfl,hl⟩:=afa (f:=fun b : UInt8=>[V.int .u8 b.toNat]) (W:=fun _=>True) (fun r hr=>by
  obtain ⟨v,rfl,g⟩:=Z4 hr
  simp only [Mt] at g
  obtain ⟨n,rfl,hn⟩:=g
  simp only [Lit.wf,Bool.and_eq_true,decide_eq_true_eq] at hn
  have h1 : IntKind.u8.min = 0:=by decide
  have h2 : IntKind.u8.max = 255:=by decide
  rw [h1,h2] at hn
  refine ⟨UInt8.ofNat n.toNat,?_,trivial⟩
  have e : (((UInt8.ofNat n.toNat).toNat : Nat) : Int) = n:=by
   rw [UInt8.toNat_ofNat',Nat.mod_eq_of_lt (by omega)];omega
  rw [e]) h
 exact ⟨l,rfl,hl.1⟩
def afb {α : Type} (P : α → Prop) : List α → Prop
 | []=>True
 | x :: l=>P x ∧ afb P l
theorem afb.mem {α : Type} {P : α → Prop} : ∀ {l : List α},afb P l → ∀ x ∈ l,P x
 | [],_,x,hx=>by cases hx
 |
  y :: l,h,x,hx=>by
  rcases List.mem_cons.1 hx with rfl | hx
  ·exact h.1
  ·exact afb.mem h.2 x hx
end Go.Ml
namespace Go.Ml
theorem WE {H : Type} {enc : TypeId × Value → H} {P : Program} {w : World} {b : Nat} {sp : Nat → Bool} {hd : Bool} : ∀ {ts : List TypeId} {vs : List Value} {ds : List (DataW H)} {ps : List MemPlace},
  DataW.TrodAll enc P w b sp hd ts vs ds ps → ds.length = ts.length
 | [],[],[],_,_=>rfl
 | [],[],_ :: _,_,h=>h.elim
 | [],_ :: _,ds,_,h=>by cases ds <;> exact h.elim
 | _ :: _,[],ds,_,h=>by cases ds <;> exact h.elim
 | _ :: _,_ :: _,[],_,h=>h.elim
 |
  t :: ts,v :: vs,d :: ds,ps,h=>by
  obtain ⟨p,q,_,h2,_⟩:=h
  simp [WE h2]
end Go.Ml
end
