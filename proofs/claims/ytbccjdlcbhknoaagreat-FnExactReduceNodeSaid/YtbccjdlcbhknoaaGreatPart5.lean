/- A small language for the functions of this claim, its soundness, contracts. -/
import Derived.Test.YtbccjdlcbhknoaaGreatPart4
set_option linter.unusedSimpArgs false
set_option linter.unusedVariables false
set_option maxRecDepth 100000
set_option maxHeartbeats 16000000
section
namespace Go.Ml
theorem Ja {T : Tb} {f : Nat} {as : List Src} {dst : Option Nat} {env : Nat → V} {σ : Store} {kp bs : Nat} {rs ms : List Nat} {k : St → Prop} {as' : List V} {ts : List (Bool × V)} {p : Nat} (h : PX T f as' ts)
  (ha : EC env σ as (· = as')) (hr : ∀ o,o ∈ dh env σ as → o = p) (hk : ∀ vs σ2 os S,S.length = σ.length → (∀ o,o ≠ p → aj S o = aj σ o) → U5 S σ2 vs ts os → (∀ S2 : Store,(∀ o,σ.length ≤ o → aj S2 o = aj σ2 o) → Oo S2 vs ts os) → k ⟨dV env dst (.eF vs),σ2,kp,bs,rs,ms⟩) : Jz T f as dst ⟨env,σ,kp,bs,rs,ms⟩ k:=by
 obtain ⟨vs,σ',os,h1,h2,h3⟩:=h
 obtain ⟨as2,e,rfl⟩:=qE ha
 obtain ⟨R,hR,hRs⟩ : ∃ R,R = (if (dH (V.eF vs) && xZ σ') = true then [] else dh env σ as) ∧ ∀ o,o ∉ dh env σ as → o ∉ R:=by
  by_cases hc : (dH (V.eF vs) && xZ σ') = true
  ·exact ⟨[],by rw [if_pos hc],fun _ _=>by simp⟩
  ·exact ⟨dh env σ as,by rw [if_neg hc],fun _ h=>h⟩
 refine ⟨_,.own e h1 (R:=R) hR,?_⟩
 have key : ∀ o,aj (ru (cZ σ R) σ') (σ.length + o) = (aj σ' o).map (iH (bT σ.length)):=by
  intro o
  rw [iM,BU,if_neg (by omega)]
  congr 2;omega
 have:=hk (vs.map (aY (bT σ.length))) (ru (cZ σ R) σ') (os.map (σ.length + ·)) (cZ σ R) (BU _ _) (fun o ho=>by rw [yu,if_neg (hRs o fun hm=>ho (hr o hm))]) ⟨h2.shift key,?_,?_,?_,?_⟩ (fun S2 hS=>h2.shift fun o=>(hS _ (by omega)).trans (key o))
 ·simpa only [aY,KY] using this
 ·exact List.pairwise_map.2 (h3.imp fun hne e=>hne (by omega))
 ·intro o ho
  obtain ⟨q,_,rfl⟩:=List.mem_map.1 ho
  rw [BU]
  omega
 ·intro o ho
  rw [iM,if_pos ho]
 ·simp [ru]
theorem PX.atD {T : Tb} {f : Nat} {as as' : List V} {ts : List (Bool × V)} (h : PX T f as ts) (ha : oJ as as') : PX T f as' ts:=by
 obtain ⟨vs,σ',os,h1,h2,h3⟩:=h
 exact ⟨vs,σ',os,.Yq ha h1 (aC _),h2,h3⟩
def rnT (S : List Lk) (v : Int) : List (Bool × V):=[(false,Hg (bH S v)),(false,bf (GX S v)),(true,aU (gG S v)),(false,.bool (O5 S v))]
theorem Q8 {σ : Store} : Zg σ (.eF [.agg [iv 0,.bool false,.ak,.ak,.ak],.ak,.agg [.bool false,.ak,.ak],.bool false]) [(false,Hg ⟨0,R0,[]⟩),(false,bf []),(true,aU R0),(false,.bool false)]:=by
 refine ⟨[Hg ⟨0,R0,[]⟩,.sl 11 [],aU R0,.bool false],[],O6,?_,.nil⟩
 simp only [Oo,if_true,Bool.false_eq_true,if_false]
 refine ⟨_,_,[],[],rfl,rfl,⟨rfl,rfl⟩,_,_,[],[],rfl,rfl,⟨rfl,rfl⟩,_,_,[],[],rfl,rfl,?_,_,[],[],[],rfl,rfl,⟨rfl,rfl⟩,rfl,rfl⟩
 exact fD (jG (jh (o1:=[]) eX (jh (o1:=[]) eX iq)))
theorem aaU {σ : Store} {a w : V} {vs : List V} {ts : List (Bool × V)} {os : List Nat} (ha : resolve σ FD a = some w) (h : Oo σ vs ts os) (hn : os.Nodup) : Zg σ (.eF (a :: vs)) ((false,w) :: ts):=by
 refine ⟨a :: vs,os,aC _,?_,hn⟩
 unfold Oo
 exact ⟨a,vs,[],os,rfl,rfl,by simpa using ha,h⟩
theorem Sr {T : Tb} (h : xB T) {S : List Lk} {v : Int} (hok : bU S = true) (hw : Hl Lk.wf S) : PX T 274 [bf S,iv v] (rnT S v):=by
 unfold rnT
 have hl : S.length ≤ 100:=Fe hok
 have ce:=Ox h.IB (v:=v) hok hw
 cases hB : J6 S v
 ·obtain ⟨e1,e2,e3⟩:=VD (S:=S) (v:=v) (by unfold O5;rw [hB];rfl)
  rw [e1,e2,e3,show O5 S v = false by unfold O5;rw [hB];rfl]
  rw [hB] at ce
  refine La (fun x d=>(x == 109 && d == 30) || (x == 241 && d == 27)) h.hT ?_
  simp only [kZ,Lz,St.enter,List.length_cons,List.length_nil,Nat.zero_add]
  refine ew ?_
  refine ah ce ?_
  refine ew ?_
  exact .inl Q8
 ·have hB0:=hB
  rw [hB] at ce
  have m1 : (S.filter (Yn v)).length ≤ 1000000:=Nat.le_trans (List.length_filter_le _ _) (by omega)
  have m2 : (Ua S v).length ≤ 20000:=by have:=(Ns S v).1.2.2;have:=rD Lk.sz (Ua S v);omega
  have m3 : (LU S v).length ≤ 1048576:=by unfold LU;rw [List.length_append];omega
  have hall : (LU S v).all jg = true:=List.all_eq_true.2 fun x hx=>by
   rcases List.mem_append.1 hx with hx | hx
   ·exact (vK.1 hok).1 x (List.mem_filter.1 hx).1
   ·rw [(aeX hB).2] at hx
    unfold J6 at hB
    simp only [Bool.and_eq_true] at hB
    exact List.all_eq_true.1 hB.2 x hx
  have px:=Vz h.Nw (l:=LU S v) (afh v hw (by omega)) hall m3
  unfold joT at px
  have hD : O5 S v = G9 (LU S v):=by unfold O5;rw [hB];rfl
  have hT:=@ah6 S v
  have hF:=@VD S v
  rw [hD] at hT hF ⊢
  have hR : LU S v = S.filter (Yn v) ++ Ua S v:=rfl
  have cr:=Q7 h.Kq (v:=v) (σ:=[]) (l:=S) (by omega)
  have hb : G9 (LU S v) = false → Vm (LU S v) = [] ∧ XO (LU S v) = R0:=fun hh=>by
   have : Vl (LU S v) = none:=by unfold G9 at hh;cases hg : Vl (LU S v) with | none=>rfl | some p=>rw [hg] at hh;cases hh
   exact ⟨(C9 this).1,(C9 this).2.1⟩
  have hcs : ∀ σ : Store,resolve σ FD (Hg (VK S v)) = some (Hg (VK S v)):=fun σ=>zX (NS [VK S v] _ (by simp))
  clear hok hw hl hD hB hB0 hall
  generalize VK S v = c at *
  generalize LU S v = L at *
  generalize Ua S v = M at *
  generalize S.filter (Yn v) = F at *
  generalize bH S v = rc at *
  generalize GX S v = rm at *
  generalize gG S v = re at *
  generalize Vm L = jv at *
  generalize XO L = je at *
  generalize G9 L = jo at *
  refine La (fun x d=>(x == 109 && d == 30) || (x == 241 && d == 27)) h.hT ?_
  simp only [kZ,Lz,St.enter,List.length_cons,List.length_nil,Nat.zero_add]
  refine ew ?_
  refine ah ce ?_
  refine ew ?_
  refine X8 cr (by (refine ew ?_;try with_reducible exact True.intro)) (by (refine ew ?_;try with_reducible exact True.intro)) ?_
  intro r s1 ⟨hL,hso,hsl⟩
  simp only [List.length_cons,List.length_nil] at hso hsl hL
  have h0:=(hso 0 (by omega)).trans rfl
  have h1:=(hso 1 (by omega)).trans rfl
  have h2:=(hso 2 (by omega)).trans rfl
  rcases hL with ⟨rfl,rfl⟩ | ⟨p,hp,rfl,hm⟩
  ·have hL0 : L = M:=hR
   refine CO @h0 @h1 @h2 ?_
   refine ⟨fun hM=>?_,fun hM=>⟨⟨by omega,by omega⟩,?_⟩⟩
   ·rw [hL0,List.map_eq_nil_iff.1 hM] at px
    refine Ja (p:=3) (px.atD (as':=[.ak]) ⟨_,_,rfl,of_eq_true (gZ 11),rfl⟩) (by (refine CO @h0 @h1 @h2 ?_;try with_reducible exact True.intro)) (fun o ho=>?_) ?_
    ·have ho : o ∈ reach s1 FD .ak:=by simpa [dh,Src.ev,upd] using ho
     have : reach s1 FD .ak = []:=rfl
     rw [this] at ho;cases ho
    intro vs q os S' hS1 hS2 g gX
    obtain ⟨w,e,z,rfl,hw1,hz1,G⟩:=g.fo
    obtain rfl:=wJ hz1
    obtain ⟨_,rfl,hQ⟩:=G.ow.bP
    obtain ⟨y1,y2,rfl⟩:=hQ.rat
    have lw:=Ah hw1
    have gl:=G.len
    have k0:=(G.old 0 (by omega)).trans ((hS2 0 (by omega)).trans h0)
    have k1:=(G.old 1 (by omega)).trans ((hS2 1 (by omega)).trans h1)
    have k2:=(G.old 2 (by omega)).trans ((hS2 2 (by omega)).trans h2)
    have E : Ep q [.bool je.neg,y1,y2] [.bool je.neg,ints je.mag,ints je.den] os []:=⟨⟨hQ,G.nd⟩,by simp⟩
    have n4 : ∀ o ∈ os,5 ≤ o:=fun o ho=>by have:=G.fresh o ho;omega
    have LF:=And.intro lw (And.intro (E.leaf 1 rfl rfl) (E.leaf 2 rfl rfl))
    have gl5 : 5 ≤ q.length:=by omega
    cases jo
    ·obtain ⟨rfl,rfl,rfl⟩:=hF rfl
     refine yF @LF @k0 @k1 @k2 ?_
     exact .inl Q8
    ·obtain ⟨rfl,rfl,rfl⟩:=hT rfl
     refine yF @LF @k0 @k1 @k2 ?_
     refine ⟨qp (L':=5) (by omega) (by unfold jl;rfl),.inl (aaU (hcs _) (gX _ fun o ho=>?_) G.nd)⟩
     try simp only [List.length_set] at ho
     exact xO
   ·have m3' : M.length ≤ 1048576:=by omega
    rw [show bf L = .sl 11 (M.map Lk.cells) by rw [hL0]] at px
    refine Ja (p:=3) px (by (refine CO @h0 @h1 @h2 ?_;try with_reducible exact True.intro)) (fun o ho=>?_) ?_
    ·have ho : o ∈ reach (s1.set 3 (some ⟨11,M.map Lk.cells⟩)) FD (.bC 3 0 M.length):=by simpa [dh,Src.ev,upd] using ho
     exact yM (aX (by omega)) (vw M) o ho
    intro vs q os S' hS1 hS2 g gX
    obtain ⟨w,e,z,rfl,hw1,hz1,G⟩:=g.fo
    obtain rfl:=wJ hz1
    obtain ⟨_,rfl,hQ⟩:=G.ow.bP
    obtain ⟨y1,y2,rfl⟩:=hQ.rat
    have lw:=Ah hw1
    simp only [List.length_set] at hS1
    have gl:=G.len
    have k0:=(G.old 0 (by omega)).trans ((hS2 0 (by omega)).trans ((aH (by omega)).trans h0))
    have k1:=(G.old 1 (by omega)).trans ((hS2 1 (by omega)).trans ((aH (by omega)).trans h1))
    have k2:=(G.old 2 (by omega)).trans ((hS2 2 (by omega)).trans ((aH (by omega)).trans h2))
    have E : Ep q [.bool je.neg,y1,y2] [.bool je.neg,ints je.mag,ints je.den] os []:=⟨⟨hQ,G.nd⟩,by simp⟩
    have n4 : ∀ o ∈ os,5 ≤ o:=fun o ho=>by have:=G.fresh o ho;omega
    have LF:=And.intro lw (And.intro (E.leaf 1 rfl rfl) (E.leaf 2 rfl rfl))
    have gl5 : 5 ≤ q.length:=by omega
    cases jo
    ·obtain ⟨rfl,rfl,rfl⟩:=hF rfl
     refine yF @LF @k0 @k1 @k2 ?_
     exact .inl Q8
    ·obtain ⟨rfl,rfl,rfl⟩:=hT rfl
     refine yF @LF @k0 @k1 @k2 ?_
     refine ⟨qp (L':=5) (by omega) (by unfold jl;rfl),.inl (aaU (hcs _) (gX _ fun o ho=>?_) G.nd)⟩
     try simp only [List.length_set] at ho
     exact xO
  ·have hFM : F.map Lk.cells ++ M.map Lk.cells = L.map Lk.cells:=by rw [hR,List.map_append]
   have hLn : F.length + M.length = L.length:=by rw [hR,List.length_append]
   refine yF @h0 @h1 @h2 @hm ?_
   refine ⟨fun hM=>?_,fun hM=>⟨⟨by omega,by omega⟩,?_⟩⟩
   ·rw [show bf L = .sl 11 (F.map Lk.cells) by rw [hR,List.map_eq_nil_iff.1 hM,List.append_nil]] at px
    refine Ja (p:=p) px (by (refine yF @h0 @h1 @h2 @hm ?_;try with_reducible exact True.intro)) (fun o ho=>?_) ?_
    ·have ho : o ∈ reach s1 FD (.bC p 0 F.length):=by simpa [dh,Src.ev,upd] using ho
     exact yM hm (vw F) o ho
    intro vs q os S' hS1 hS2 g gX
    obtain ⟨w,e,z,rfl,hw1,hz1,G⟩:=g.fo
    obtain rfl:=wJ hz1
    obtain ⟨_,rfl,hQ⟩:=G.ow.bP
    obtain ⟨y1,y2,rfl⟩:=hQ.rat
    have lw:=Ah hw1
    have gl:=G.len
    have k0:=(G.old 0 (by omega)).trans ((hS2 0 (by omega)).trans h0)
    have k1:=(G.old 1 (by omega)).trans ((hS2 1 (by omega)).trans h1)
    have k2:=(G.old 2 (by omega)).trans ((hS2 2 (by omega)).trans h2)
    have E : Ep q [.bool je.neg,y1,y2] [.bool je.neg,ints je.mag,ints je.den] os []:=⟨⟨hQ,G.nd⟩,by simp⟩
    have n4 : ∀ o ∈ os,5 ≤ o:=fun o ho=>by have:=G.fresh o ho;omega
    have LF:=And.intro lw (And.intro (E.leaf 1 rfl rfl) (E.leaf 2 rfl rfl))
    have gl5 : 5 ≤ q.length:=by omega
    cases jo
    ·obtain ⟨rfl,rfl,rfl⟩:=hF rfl
     refine yF @LF @k0 @k1 @k2 ?_
     exact .inl Q8
    ·obtain ⟨rfl,rfl,rfl⟩:=hT rfl
     refine yF @LF @k0 @k1 @k2 ?_
     refine ⟨qp (L':=5) (by omega) (by unfold jl;rfl),.inl (aaU (hcs _) (gX _ fun o ho=>?_) G.nd)⟩
     try simp only [List.length_set] at ho
     exact xO
   ·rw [hFM]
    try simp only [List.length_map]
    rw [hLn]
    refine Ja (p:=3) px (by (refine yF @h0 @h1 @h2 @hm ?_;try with_reducible exact True.intro)) (fun o ho=>?_) ?_
    ·have ho : o ∈ reach ((s1.set p none).set 3 (some ⟨11,L.map Lk.cells⟩)) FD (.bC 3 0 L.length):=by simpa [dh,Src.ev,upd] using ho
     exact yM (aX (by simp;omega)) (vw L) o ho
    intro vs q os S' hS1 hS2 g gX
    obtain ⟨w,e,z,rfl,hw1,hz1,G⟩:=g.fo
    obtain rfl:=wJ hz1
    obtain ⟨_,rfl,hQ⟩:=G.ow.bP
    obtain ⟨y1,y2,rfl⟩:=hQ.rat
    have lw:=Ah hw1
    simp only [List.length_set] at hS1
    have gl:=G.len
    have k0:=(G.old 0 (by omega)).trans ((hS2 0 (by omega)).trans ((aH (by omega)).trans ((aH (by omega)).trans h0)))
    have k1:=(G.old 1 (by omega)).trans ((hS2 1 (by omega)).trans ((aH (by omega)).trans ((aH (by omega)).trans h1)))
    have k2:=(G.old 2 (by omega)).trans ((hS2 2 (by omega)).trans ((aH (by omega)).trans ((aH (by omega)).trans h2)))
    have E : Ep q [.bool je.neg,y1,y2] [.bool je.neg,ints je.mag,ints je.den] os []:=⟨⟨hQ,G.nd⟩,by simp⟩
    have n4 : ∀ o ∈ os,5 ≤ o:=fun o ho=>by have:=G.fresh o ho;omega
    have LF:=And.intro lw (And.intro (E.leaf 1 rfl rfl) (E.leaf 2 rfl rfl))
    have gl5 : 5 ≤ q.length:=by omega
    cases jo
    ·obtain ⟨rfl,rfl,rfl⟩:=hF rfl
     refine yF @LF @k0 @k1 @k2 ?_
     exact .inl Q8
    ·obtain ⟨rfl,rfl,rfl⟩:=hT rfl
     refine yF @LF @k0 @k1 @k2 ?_
     refine ⟨qp (L':=5) (by omega) (by unfold jl;rfl),.inl (aaU (hcs _) (gX _ fun o ho=>?_) G.nd)⟩
     try simp only [List.length_set] at ho
     exact xO
theorem aaV {σ : Store} : Fin σ (.eF [.agg [iv 0,.bool false,.ak,.ak,.ak],.ak,.agg [.bool false,.ak,.ak],.bool false]) (.eF [Hg ⟨0,R0,[]⟩,bf [],aU R0,.bool false]) :=
 ⟨.eF [Hg ⟨0,R0,[]⟩,.sl 11 [],aU R0,.bool false],[],O6,OL (jh (o1:=[]) (fD (BD (jG (jh (o1:=[]) eX (jh (o1:=[]) eX (jh (o1:=[]) (by simp [bD,dZ]) iq)))))) (jh (o1:=[]) (by simp [bD]) (jh (o1:=[]) aez (jG iq)))),.nil⟩
theorem aoO {S : List Lk} {v : Int} (h : O5 S v = true) : aoH (bH S v) (Ua S v):=by
 have h1 : J6 S v = true:=by unfold O5 at h;simp only [Bool.and_eq_true] at h;exact h.1
 rw [(ah6 h).1]
 exact aiO h1
theorem afi (S : List Lk) (v : Int) : ((bH S v).sz ≤ 40000 ∧ (bH S v).ps.length ≤ 10 ∧ Aq Lk.sz (GX S v) ≤ 20000 ∧ (gG S v).sz ≤ 1000) ∧ (bH S v).wf ∧ Hl Lk.wf (GX S v) ∧ (gG S v).wf:=by
 have hcn:=akQ (l:=LU S v)
 have he:=Ns S v
 cases hB : O5 S v
 ·obtain ⟨e1,e2,e3⟩:=VD hB
  rw [e1,e2,e3]
  exact ⟨⟨by decide,by decide,by decide,by decide⟩,⟨⟨by decide,by decide⟩,by decide,by simp⟩,⟨by decide,by simp⟩,by decide,by decide⟩
 ·obtain ⟨e1,e2,e3⟩:=ah6 hB
  rw [e1,e2,e3]
  exact ⟨⟨he.1.1,he.1.2.1,Vp hcn.1 hcn.2.2.1,Gn hcn.2.1⟩,he.2.1,Vq hcn.1 hcn.2.2.1,dS hcn.2.1⟩
theorem Q9 {σ : Store} {n : Nat} {x t : V} (h : resolve σ (n + 1) x = some t) (ht : t.leaf = true) : x.leaf = true:=by
 cases x with
 | agg cs=>simp only [resolve] at h;obtain ⟨_,_,rfl⟩:=Option.map_eq_some_iff.1 h;cases ht
 | eF cs=>simp only [resolve] at h;obtain ⟨_,_,rfl⟩:=Option.map_eq_some_iff.1 h;cases ht
 | any=>simp only [resolve] at h;cases h
 | _=>rfl
theorem aaW {σ : Store} {n : Nat} {x t : V} (h : resolve σ (n + 1) x = some t) (ht : (∃ b,t = .bool b) ∨ ∃ k i,t = .int k i) : x = t:=by
 cases x with
 |
  bC o s l =>
  simp only [resolve] at h
  split at h
  ·split at h
   ·obtain ⟨_,_,rfl⟩:=Option.map_eq_some_iff.1 h
    rcases ht with ⟨_,e⟩ | ⟨_,_,e⟩ <;> cases e
   ·cases h
  ·cases h
 | ptr o r off=>obtain ⟨_,_,e⟩:=OD h;subst e;rcases ht with ⟨_,e⟩ | ⟨_,_,e⟩ <;> cases e
 | agg cs=>simp only [resolve] at h;obtain ⟨_,_,rfl⟩:=Option.map_eq_some_iff.1 h;rcases ht with ⟨_,e⟩ | ⟨_,_,e⟩ <;> cases e
 | eF cs=>simp only [resolve] at h;obtain ⟨_,_,rfl⟩:=Option.map_eq_some_iff.1 h;rcases ht with ⟨_,e⟩ | ⟨_,_,e⟩ <;> cases e
 | any=>simp only [resolve] at h;cases h
 | _=>simpa [resolve] using h
theorem tH {f : V → Option V} {cs : List V} {t : V} {ts : List V} (h : cs.mapM f = some (t :: ts)) : ∃ a cs',cs = a :: cs' ∧ f a = some t ∧ cs'.mapM f = some ts:=by
 cases cs with
 | nil=>simp at h
 |
  cons a cs' =>
  rw [List.mapM_cons] at h
  cases ha : f a with
  | none=>rw [ha] at h;cases h
  |
   some x =>
   rw [ha] at h
   cases hc : cs'.mapM f with
   | none=>rw [hc] at h;cases h
   | some xs=>rw [hc] at h;cases h;exact ⟨a,cs',rfl,ha,hc⟩
theorem VE {f : V → Option V} {cs : List V} (h : cs.mapM f = some []) : cs = []:=by
 cases cs with
 | nil=>rfl
 |
  cons a cs' =>
  rw [List.mapM_cons] at h
  cases ha : f a with
  | none=>rw [ha] at h;cases h
  |
   some x =>
   rw [ha] at h
   cases hc : cs'.mapM f with
   | none=>rw [hc] at h;cases h
   | some xs=>rw [hc] at h;cases h
theorem X9 {σ : Store} {n : Nat} {a : V} {ts : List V} (h : resolve σ (n + 1) a = some (.agg ts)) : ∃ cs,a = .agg cs ∧ cs.mapM (resolve σ n) = some ts:=by
 cases a with
 |
  agg cs =>
  simp only [resolve] at h
  obtain ⟨ts',h1,e⟩:=Option.map_eq_some_iff.1 h
  cases e
  exact ⟨cs,rfl,h1⟩
 |
  bC o s l =>
  simp only [resolve] at h
  split at h
  ·split at h
   ·obtain ⟨_,_,e⟩:=Option.map_eq_some_iff.1 h
    cases e
   ·cases h
  ·cases h
 | ptr o r off=>obtain ⟨_,_,e⟩:=OD h;cases e
 | eF cs=>simp only [resolve] at h;obtain ⟨_,_,e⟩:=Option.map_eq_some_iff.1 h;cases e
 | _=>simp only [resolve] at h;cases h
theorem ak8 {σ : Store} {a : V} {c : Cd} (h : resolve σ FD a = some (Hg c)) : ∃ x2 x3 x4,a = .agg [iv c.node,.bool c.total.neg,x2,x3,x4] ∧ x2.leaf = true ∧ x3.leaf = true ∧ x4.leaf = true:=by
 obtain ⟨cs,rfl,h1⟩:=X9 (n:=11) (ts:=c.cells) h
 obtain ⟨a0,c1,rfl,k0,h1⟩:=tH h1
 obtain ⟨a1,c2,rfl,k1,h1⟩:=tH h1
 obtain ⟨a2,c3,rfl,k2,h1⟩:=tH h1
 obtain ⟨a3,c4,rfl,k3,h1⟩:=tH h1
 obtain ⟨a4,c5,rfl,k4,h1⟩:=tH h1
 obtain rfl:=VE h1
 obtain rfl:=aaW (n:=10) k0 (.inr ⟨_,_,rfl⟩)
 obtain rfl:=aaW (n:=10) k1 (.inl ⟨_,rfl⟩)
 exact ⟨a2,a3,a4,rfl,Q9 (n:=10) k2 rfl,Q9 (n:=10) k3 rfl,Q9 (n:=10) k4 rfl⟩
theorem U5.tl {σ σ2 : Store} {vs : List V} {t : V} {ts : List (Bool × V)} {os : List Nat} (g : U5 σ σ2 vs ((false,t) :: ts) os) : ∃ a vs',vs = a :: vs' ∧ resolve σ2 FD a = some t ∧ U5 σ σ2 vs' ts os:=by
 have g1:=g.ow
 unfold Oo at g1
 obtain ⟨a,vs',o1,o2,rfl,rfl,h1,h2⟩:=g1
 simp only [Bool.false_eq_true,if_false] at h1
 obtain ⟨h1,rfl⟩:=h1
 exact ⟨a,vs',rfl,h1,⟨by simpa using h2,by simpa using g.nd,fun o ho=>g.fresh o (by simpa using ho),g.old,g.len⟩⟩
theorem Rh {T : Tb} (h : xC T) {S : List Lk} {v : Int} (hw : Hl Lk.wf S) : PO T 268 [bf S,iv v] (.eF [Hg (bH S v),bf (GX S v),aU (gG S v),.bool (O5 S v)]):=by
 have ci:=UR h.Ny hw
 cases hb : bU S
 ·rw [hb] at ci
  have hB : O5 S v = false:=by unfold O5 J6;rw [hb];rfl
  rw [(VD hB).1,(VD hB).2.1,(VD hB).2.2,hB]
  refine dX nR h.hT ?_
  simp only [lC,Lz,St.enter,List.length_cons,List.length_nil,Nat.zero_add]
  refine ew ?_
  refine ah ci ?_
  refine ew ?_
  exact aaV
 rw [hb] at ci
 have px:=Sr h.LK (v:=v) hb hw
 unfold rnT at px
 have hR:=afi S v
 have O:=@aoO S v
 have hF:=@VD S v
 generalize bH S v = c at *
 generalize GX S v = M at *
 generalize gG S v = e at *
 generalize O5 S v = b at *
 refine dX (fun x d=>x == 274 || x == 183 || x == 110) h.hT ?_
 simp only [lC,Lz,St.enter,List.length_cons,List.length_nil,Nat.zero_add]
 refine ew ?_
 refine ah ci ?_
 refine ew ?_
 refine Nb px (by (refine ew ?_;try with_reducible exact True.intro)) (by (refine ew ?_;try with_reducible exact True.intro)) ?_
 intro vs q os g
 obtain ⟨a,vs',rfl,ha1,g⟩:=g.tl
 obtain ⟨w,ev,z,rfl,hw1,hz1,G⟩:=g.fo
 obtain rfl:=wJ hz1
 obtain ⟨_,rfl,hQ⟩:=G.ow.bP
 obtain ⟨y1,y2,rfl⟩:=hQ.rat
 obtain ⟨x2,x3,x4,rfl,l2,l3,l4⟩:=ak8 ha1
 have lw:=Ah hw1
 have gl:=G.len
 simp only [List.length_cons,List.length_nil] at gl
 have ho0:=(G.old 0 (by simp)).trans rfl
 have ho1:=(G.old 1 (by simp)).trans rfl
 have ho2:=(G.old 2 (by simp)).trans rfl
 have ho3:=(G.old 3 (by simp)).trans rfl
 have E : Ep q [.bool e.neg,y1,y2] [.bool e.neg,ints e.mag,ints e.den] os []:=⟨⟨hQ,G.nd⟩,by simp⟩
 have LF:=And.intro lw (And.intro (And.intro l2 (And.intro l3 l4)) (And.intro (E.leaf 1 rfl rfl) (E.leaf 2 rfl rfl)))
 refine vJ @LF @ho0 @ho1 @ho2 @ho3 ?_
 cases b
 ·obtain ⟨rfl,rfl,rfl⟩:=hF rfl
  refine sK @ho0 @ho1 ?_
  exact aaV
 ·have O:=O rfl
  refine CO @LF @ho0 @ho1 ?_
  have aoP : aj q 2 = none:=ho2
  have aoQ : aj q 3 = none:=ho3
  obtain ⟨s4,hs4⟩ : ∃ s,((((q.set 2 (some ⟨5,[[.int .i64 0,.bool false,.ak,.ak,.ak]]⟩)).set 3 (some ⟨3,[[.bool false,.ak,.ak]]⟩)).set 2 (some ⟨5,[[iv c.node,.bool c.total.neg,x2,x3,x4]]⟩)).set 3 (some ⟨3,[[.bool e.neg,y1,y2]]⟩)) = s:=⟨_,rfl⟩
  have kk : ∀ o,o ≠ 2 → o ≠ 3 → aj s4 o = aj q o:=fun o h2 h3=>by rw [← hs4,aH h3,aH h2,aH h3,aH h2]
  have hmono : ∀ o ob,aj q o = some ob → aj s4 o = some ob:=fun o ob ho=>by
   rw [kk o (fun e=>by rw [e,aoP] at ho;cases ho) (fun e=>by rw [e,aoQ] at ho;cases ho)];exact ho
  have ls : s4.length = q.length:=by rw [← hs4];simp
  have t0:=(kk 0 (by decide) (by decide)).trans ho0
  have t1:=(kk 1 (by decide) (by decide)).trans ho1
  have t2 : aj s4 2 = some ⟨5,[[iv c.node,.bool c.total.neg,x2,x3,x4]]⟩:=by rw [← hs4,aH (by decide),aX (by simp;omega)]
  have t3 : aj s4 3 = some ⟨3,[[.bool e.neg,y1,y2]]⟩:=by rw [← hs4,aX (by simp;omega)]
  have C4 : Cs s4 [.bool e.neg,y1,y2] [.bool e.neg,ints e.mag,ints e.den] os:=E.c.frame fun o ho=>by
   have:=G.fresh o ho
   simp at this
   exact kk o (by omega) (by omega)
  have ha2:=LD hmono _ _ _ ha1
  have hw2:=LD hmono _ _ _ hw1
  simp only [hs4]
  clear hs4 kk hmono ho0 ho1 ho2 ho3 aoP aoQ ha1 hw1 E
  refine KU (J9 h.Gp (c:=c) O.ne ⟨by have:=Gn O.cn.1;omega,fun a ha=>by have h1:=O.cn.2 a ha;have:=Gn h1.1;have:=Gn h1.2.1;have:=Gn h1.2.2;unfold Pa.sz;omega⟩ (by have:=O.len;omega)) (by (refine CJ @ha2 ?_;try with_reducible exact True.intro)) ?_
  intro r1 q2 o2 g1
  generalize dh _ _ _ = R1
  obtain ⟨_,rfl,hQ2⟩:=g1.ow.bP
  obtain ⟨z2,z3,z4,rfl⟩:=hQ2.cd
  have lz:=hQ2.leaf rfl
  simp only [List.all_cons,List.all_nil,Bool.and_eq_true,Bool.and_true] at lz
  have hw3:=LD (fun o ob ho=>(g1.old o (aJ ho)).trans ho) _ _ _ hw2
  have gl2:=g1.len
  have u0:=(g1.old 0 (by omega)).trans t0
  have u1:=(g1.old 1 (by omega)).trans t1
  have u2:=(g1.old 2 (by omega)).trans t2
  have u3:=(g1.old 3 (by omega)).trans t3
  refine yF @LF @lz (And.intro u0 u1) (And.intro u2 u3) ?_
  refine KU (Vb h.Nz (l:=M) (by omega)) (by (refine CJ @hw3 ?_;try with_reducible exact True.intro)) ?_
  intro r2 q3 o3 g2
  generalize dh _ _ _ = R2
  have lr:=g2.ow.leaf rfl
  have gl3:=g2.len
  have v0:=(g2.old 0 (by omega)).trans u0
  have v1:=(g2.old 1 (by omega)).trans u1
  have v2:=(g2.old 2 (by omega)).trans u2
  have v3:=(g2.old 3 (by omega)).trans u3
  refine yF @LF (And.intro lz lr) (And.intro v0 v1) (And.intro v2 v3) ?_
  refine ⟨qp (L':=4) (by omega) (by unfold jl;rfl),?_⟩
  have E4 : Ep s4 [.bool e.neg,y1,y2] [.bool e.neg,ints e.mag,ints e.den] os []:=⟨C4,by simp⟩
  have E5:=E4.got (s1:=s4) (fun _ _=>rfl) (Nat.le_refl _) hQ2 g1.nd g1.fresh g1.old
  have E6:=E5.got (s1:=q2) (fun _ _=>rfl) (Nat.le_refl _) (TJ g2.ow) g2.nd g2.fresh g2.old
  have nn : ∀ o ∈ (os ++ o2) ++ o3,2 ≤ o:=fun o ho=>by
   rcases List.mem_append.1 ho with ho | ho
   ·rcases List.mem_append.1 ho with ho | ho
    ·have:=G.fresh o ho;simp at this;omega
    ·have:=g1.fresh o ho;omega
   ·have:=g2.fresh o ho;omega
  have C7:=(E6.c.set (o:=0) (x:=some ⟨5,[[iv c.node,.bool c.total.neg,z2,z3,z4]]⟩) (fun hm=>by have:=nn 0 hm;omega)).set (o:=1) (x:=some ⟨3,[[.bool e.neg,y1,y2]]⟩) (fun hm=>by have:=nn 1 hm;omega)
  have E7 : Ep _ ([.bool e.neg,y1,y2] ++ ([iv c.node,.bool c.total.neg,z2,z3,z4,r2] ++ [])) ([.bool e.neg,ints e.mag,ints e.den] ++ ([iv c.node,.bool c.total.neg,ints c.total.mag,ints c.total.den,dZ c.ps,bf M] ++ [])) _ []:=⟨C7,by simp⟩
  obtain ⟨os',E8,_⟩:=E7.swap rfl rfl
  have W8 : dY _ ([iv c.node,.bool c.total.neg,z2,z3,z4] ++ ([r2] ++ [.bool e.neg,y1,y2])) (c.cells ++ ([bf M] ++ [.bool e.neg,ints e.mag,ints e.den])) os':=E8.c.ow
  obtain ⟨a1,a2,p1,p2,e1,rfl,w1,w2⟩:=gu W8
  obtain ⟨rfl,rfl⟩:=List.append_inj e1 (by exact w1.len.symm)
  obtain ⟨b1,b2,p3,p4,e2,rfl,w3,w4⟩:=gu w2
  obtain ⟨rfl,rfl⟩:=List.append_inj e2 (by exact w3.len.symm)
  have W9:=dB (TJ (fD w1)) (dB w3 (dB (TJ (fD w4)) (jG (b:=true) iq)))
  refine rF (OL W9) ?_
  simpa using E8.c.nd
def qY : Fn:=⟨2,133,[.tmp 4],(sr [oN 4 (.bZ (cI 0))] (.seq (sr [oN 5 (.bZ (cI 0))] (.block 0 (.loop (.seq (sr [oW 6 5,oW 7 0,oN 8 (ln 7),oN 9 (bt .lss 6 8)] (cd 9 .skip (.exit 0))) (.seq (.block 1 (.seq (sr [oW 12 0,oW 13 5,oN 14 (ix 11 12 13),oN 15 (fd 0 14),oN 16 (lF 1 15),oW 17 1,oN 18 (bt .neq 16 17)] (cd 18 (sr [oN 4 (.bZ (cI (-1)))] .ret) .skip)) (sr [oW 19 1,oN 20 (bc .add 19 1),oW 1 20] (.seq (sr [oW 21 0,oW 22 5,oN 23 (ix 11 21 22),oN 24 (fd 1 23),oN 25 (lF 1 24),oW 26 1,oN 27 (bt .neq 25 26)] (cd 27 (sr [oN 4 (.bZ (cI (-1)))] .ret) .skip)) (sr [oW 28 1,oN 29 (bc .add 28 1),oW 1 29] (.seq (sr [oW 30 0,oW 31 5,oN 32 (ix 11 30 31),oN 33 (fd 2 32),oN 34 (fd 0 33),oN 35 (fd 0 34),oN 36 (lF 1 35),oW 37 1,oN 38 (bc .rem 37 3),oN 39 (bc .eql 38 0),oN 40 (.beq true (.t 36) (.t 39))] (cd 40 (sr [oN 4 (.bZ (cI (-1)))] .ret) .skip)) (sr [oW 41 1,oN 42 (bc .add 41 1),oW 1 42] (sr [oW 43 0,oW 44 5,oN 45 (ix 11 43 44),oN 46 (fd 2 45),oN 47 (fd 0 46),oN 48 (fd 1 47),oN 49 (lF 1 48),oW 50 1,oN 51 (cl 59 [49,50]),oW 1 51] (.seq (sr [oW 52 1,oN 53 (bc .lss 52 0)] (cd 53 (sr [oN 4 (.bZ (cI (-1)))] .ret) .skip)) (sr [oW 54 0,oW 55 5,oN 56 (ix 11 54 55),oN 57 (fd 2 56),oN 58 (fd 2 57),oN 59 (lF 1 58),oW 60 1,oN 61 (cl 59 [59,60]),oW 1 61] (.seq (sr [oW 62 1,oN 63 (bc .lss 62 0)] (cd 63 (sr [oN 4 (.bZ (cI (-1)))] .ret) .skip)) (.seq (sr [oW 64 0,oW 65 5,oN 66 (ix 11 64 65),oN 67 (fd 5 66),oN 68 (fd 0 67),oN 69 (fd 0 68),oN 70 (lF 1 69),oW 71 1,oN 72 (bc .rem 71 3),oN 73 (bc .eql 72 0),oN 74 (.beq true (.t 70) (.t 73))] (cd 74 (sr [oN 4 (.bZ (cI (-1)))] .ret) .skip)) (sr [oW 75 1,oN 76 (bc .add 75 1),oW 1 76] (sr [oW 77 0,oW 78 5,oN 79 (ix 11 77 78),oN 80 (fd 5 79),oN 81 (fd 0 80),oN 82 (fd 1 81),oN 83 (lF 1 82),oW 84 1,oN 85 (cl 59 [83,84]),oW 1 85] (.seq (sr [oW 86 1,oN 87 (bc .lss 86 0)] (cd 87 (sr [oN 4 (.bZ (cI (-1)))] .ret) .skip)) (sr [oW 88 0,oW 89 5,oN 90 (ix 11 88 89),oN 91 (fd 5 90),oN 92 (fd 2 91),oN 93 (lF 1 92),oW 94 1,oN 95 (cl 59 [93,94]),oW 1 95] (.seq (sr [oW 96 1,oN 97 (bc .lss 96 0)] (cd 97 (sr [oN 4 (.bZ (cI (-1)))] .ret) .skip)) (.seq (sr [oW 98 0,oW 99 5,oN 100 (ix 11 98 99),oN 101 (fd 8 100),oN 102 (fd 0 101),oN 103 (fd 0 102),oN 104 (lF 1 103),oW 105 1,oN 106 (bc .rem 105 3),oN 107 (bc .eql 106 0),oN 108 (.beq true (.t 104) (.t 107))] (cd 108 (sr [oN 4 (.bZ (cI (-1)))] .ret) .skip)) (sr [oW 109 1,oN 110 (bc .add 109 1),oW 1 110] (sr [oW 111 0,oW 112 5,oN 113 (ix 11 111 112),oN 114 (fd 8 113),oN 115 (fd 0 114),oN 116 (fd 1 115),oN 117 (lF 1 116),oW 118 1,oN 119 (cl 59 [117,118]),oW 1 119] (.seq (sr [oW 120 1,oN 121 (bc .lss 120 0)] (cd 121 (sr [oN 4 (.bZ (cI (-1)))] .ret) .skip)) (sr [oW 122 0,oW 123 5,oN 124 (ix 11 122 123),oN 125 (fd 8 124),oN 126 (fd 2 125),oN 127 (lF 1 126),oW 128 1,oN 129 (cl 59 [127,128]),oW 1 129] (sr [oW 130 1,oN 131 (bc .lss 130 0)] (cd 131 (sr [oN 4 (.bZ (cI (-1)))] .ret) .skip)))))))))))))))))))))))) (rg [oW 10 5,oN 11 (bc .add 10 1),oW 5 11])))))) (sr [oW 132 1,oW 4 132] .ret)))⟩
structure yN (T : Tb) : Prop where
 hT : T 229 = some qY
 bn : kQ T
def nK : Fn:=⟨2,124,[.tmp 4],(sr [oN 4 (.bZ (cI 0))] (.seq (sr [oN 5 (.bZ (cI 0))] (.block 0 (.loop (.seq (sr [oW 6 5,oW 7 0,oN 8 (ln 7),oN 9 (bt .lss 6 8)] (cd 9 .skip (.exit 0))) (.seq (.block 1 (.seq (sr [oW 12 0,oW 13 5,oN 14 (ix 10 12 13),oN 15 (fd 0 14),oN 16 (lF 1 15),oW 17 1,oN 18 (bt .neq 16 17)] (cd 18 (sr [oN 4 (.bZ (cI (-1)))] .ret) .skip)) (sr [oW 19 1,oN 20 (bc .add 19 1),oW 1 20] (.seq (sr [oW 21 0,oW 22 5,oN 23 (ix 10 21 22),oN 24 (fd 1 23),oN 25 (fd 0 24),oN 26 (fd 0 25),oN 27 (lF 1 26),oW 28 1,oN 29 (bc .rem 28 3),oN 30 (bc .eql 29 0),oN 31 (.beq true (.t 27) (.t 30))] (cd 31 (sr [oN 4 (.bZ (cI (-1)))] .ret) .skip)) (sr [oW 32 1,oN 33 (bc .add 32 1),oW 1 33] (sr [oW 34 0,oW 35 5,oN 36 (ix 10 34 35),oN 37 (fd 1 36),oN 38 (fd 0 37),oN 39 (fd 1 38),oN 40 (lF 1 39),oW 41 1,oN 42 (cl 59 [40,41]),oW 1 42] (.seq (sr [oW 43 1,oN 44 (bc .lss 43 0)] (cd 44 (sr [oN 4 (.bZ (cI (-1)))] .ret) .skip)) (sr [oW 45 0,oW 46 5,oN 47 (ix 10 45 46),oN 48 (fd 1 47),oN 49 (fd 2 48),oN 50 (lF 1 49),oW 51 1,oN 52 (cl 59 [50,51]),oW 1 52] (.seq (sr [oW 53 1,oN 54 (bc .lss 53 0)] (cd 54 (sr [oN 4 (.bZ (cI (-1)))] .ret) .skip)) (.seq (sr [oW 55 0,oW 56 5,oN 57 (ix 10 55 56),oN 58 (fd 4 57),oN 59 (fd 0 58),oN 60 (fd 0 59),oN 61 (lF 1 60),oW 62 1,oN 63 (bc .rem 62 3),oN 64 (bc .eql 63 0),oN 65 (.beq true (.t 61) (.t 64))] (cd 65 (sr [oN 4 (.bZ (cI (-1)))] .ret) .skip)) (sr [oW 66 1,oN 67 (bc .add 66 1),oW 1 67] (sr [oW 68 0,oW 69 5,oN 70 (ix 10 68 69),oN 71 (fd 4 70),oN 72 (fd 0 71),oN 73 (fd 1 72),oN 74 (lF 1 73),oW 75 1,oN 76 (cl 59 [74,75]),oW 1 76] (.seq (sr [oW 77 1,oN 78 (bc .lss 77 0)] (cd 78 (sr [oN 4 (.bZ (cI (-1)))] .ret) .skip)) (sr [oW 79 0,oW 80 5,oN 81 (ix 10 79 80),oN 82 (fd 4 81),oN 83 (fd 2 82),oN 84 (lF 1 83),oW 85 1,oN 86 (cl 59 [84,85]),oW 1 86] (.seq (sr [oW 87 1,oN 88 (bc .lss 87 0)] (cd 88 (sr [oN 4 (.bZ (cI (-1)))] .ret) .skip)) (.seq (sr [oW 89 0,oW 90 5,oN 91 (ix 10 89 90),oN 92 (fd 7 91),oN 93 (fd 0 92),oN 94 (fd 0 93),oN 95 (lF 1 94),oW 96 1,oN 97 (bc .rem 96 3),oN 98 (bc .eql 97 0),oN 99 (.beq true (.t 95) (.t 98))] (cd 99 (sr [oN 4 (.bZ (cI (-1)))] .ret) .skip)) (sr [oW 100 1,oN 101 (bc .add 100 1),oW 1 101] (sr [oW 102 0,oW 103 5,oN 104 (ix 10 102 103),oN 105 (fd 7 104),oN 106 (fd 0 105),oN 107 (fd 1 106),oN 108 (lF 1 107),oW 109 1,oN 110 (cl 59 [108,109]),oW 1 110] (.seq (sr [oW 111 1,oN 112 (bc .lss 111 0)] (cd 112 (sr [oN 4 (.bZ (cI (-1)))] .ret) .skip)) (sr [oW 113 0,oW 114 5,oN 115 (ix 10 113 114),oN 116 (fd 7 115),oN 117 (fd 2 116),oN 118 (lF 1 117),oW 119 1,oN 120 (cl 59 [118,119]),oW 1 120] (sr [oW 121 1,oN 122 (bc .lss 121 0)] (cd 122 (sr [oN 4 (.bZ (cI (-1)))] .ret) .skip)))))))))))))))))))))) (rg [oW 10 5,oN 11 (bc .add 10 1),oW 5 11])))))) (sr [oW 123 1,oW 4 123] .ret)))⟩
structure uZ (T : Tb) : Prop where
 hT : T 398 = some nK
 bn : kQ T
def pG : Fn:=⟨2,12,[.tmp 4],(.seq (rf 1 [oN 2 (.box (.t 0)),oK 4 1 (.bZ (cI 0))]) (sr [oN 5 (fd 1 2),oN 6 (lF 1 5),oW 7 1,oN 8 (cl 59 [6,7]),oW 1 8] (.seq (sr [oW 9 1,oN 10 (bc .lss 9 0)] (cd 10 (sr [oN 4 (.bZ (cI (-1)))] .ret) .skip)) (sr [oW 11 1,oW 4 11] .ret))))⟩
structure xE (T : Tb) : Prop where
 hT : T 58 = some pG
 bn : kQ T
def xG : Fn:=⟨2,18,[.tmp 4],(.seq (rf 1 [oN 2 (.box (.t 0)),oK 4 1 (.bZ (cI 0))]) (sr [oN 5 (fd 0 2),oN 6 (lT 2 5),oW 7 1,oN 8 (cl 58 [6,7]),oW 1 8] (.seq (sr [oW 9 1,oN 10 (bc .lss 9 0)] (cd 10 (sr [oN 4 (.bZ (cI (-1)))] .ret) .skip)) (sr [oN 11 (fd 2 2),oN 12 (lF 1 11),oW 13 1,oN 14 (cl 59 [12,13]),oW 1 14] (.seq (sr [oW 15 1,oN 16 (bc .lss 15 0)] (cd 16 (sr [oN 4 (.bZ (cI (-1)))] .ret) .skip)) (sr [oW 17 1,oW 4 17] .ret))))))⟩
structure xH (T : Tb) : Prop where
 hT : T 42 = some xG
 LM : xE T
 bn : kQ T
def jP : Fn:=⟨2,18,[.tmp 4],(.seq (rf 1 [oN 2 (.box (.t 0)),oK 4 1 (.bZ (cI 0))]) (sr [oN 5 (fd 1 2),oN 6 (lT 3 5),oW 7 1,oN 8 (cl 42 [6,7]),oW 1 8] (.seq (sr [oW 9 1,oN 10 (bc .lss 9 0)] (cd 10 (sr [oN 4 (.bZ (cI (-1)))] .ret) .skip)) (sr [oN 11 (fd 4 2),oN 12 (lF 1 11),oW 13 1,oN 14 (cl 398 [12,13]),oW 1 14] (.seq (sr [oW 15 1,oN 16 (bc .lss 15 0)] (cd 16 (sr [oN 4 (.bZ (cI (-1)))] .ret) .skip)) (sr [oW 17 1,oW 4 17] .ret))))))⟩
structure nM (T : Tb) : Prop where
 hT : T 390 = some jP
 xI : xH T
 Kr : uZ T
theorem Ob {T : Tb} (h : yN T) {l : List Lk} {k : Int} (hl : Aq Lk.sz l ≤ 1000000000:=by exact dD) (hk : 0 ≤ k ∧ k + uS Lk.ct l l.length ≤ 1000000000000:=by exact dD) :
  PF T 229 [bf (Il Lk.mk3 Lk.ct k l),iv k] (iv (k + uS Lk.ct l l.length)):=by
 have hll : l.length ≤ 1000000000:=by unfold Aq at hl;omega
 have hml:=DK Lk.mk3 Lk.ct k l
 refine aT nR h.hT ?_
 simp only [qY,Lz]
 refine ev ?_
 refine aQ (fun _ _=>false) (α:=Nat) (fun i=>⟨bM [bf (Il Lk.mk3 Lk.ct k l),iv (k + uS Lk.ct l i),.any,.any,.any,iv (i : Nat)],[],0,0,[],[]⟩) (fun i=>i ≤ l.length) (fun i=>l.length - i) rfl 0 ?_ ?_ ?_
 ·omega
 ·(refine aI ?_) <;> (try (refine ev1 @TG ?_;try with_reducible exact True.intro)) <;> (repeat' (first | refine ⟨?_,?_⟩ | exact kE (by omega) | exact mV (by simp) | exact kF _))
 ·intro i hi
  refine ev1 @hml ?_
  refine aG (fun hc=>?_) fun hc=>?_
  ·have hil : i < l.length:=by omega
   have hrow:=(mg (f:=Lk.cells) (show i < (Il Lk.mk3 Lk.ct k l).length by omega)).trans (congrArg Lk.cells (U4 Lk.mk3 Lk.ct k l i hil))
   obtain ⟨x,hx⟩ : ∃ x,l.getD i default = x:=⟨_,rfl⟩
   have hcn:=aas Lk.ct l hil
   have hcl:=QC Lk.ct l (i:=i + 1) hil
   have hxs : Lk.sz x ≤ 1000000000:=by
    have:=U3 Lk.sz hil
    rw [hx] at this
    omega
   rw [hx] at hcn hrow
   rw [hcn] at hcl
   have hct : Lk.ct x = 1 + 1 + 1 + x.w.mag.length + x.w.den.length + 1 + x.dx.mag.length + x.dx.den.length + 1 + x.dy.mag.length + x.dy.den.length:=rfl
   obtain ⟨kk,hkk⟩ : ∃ kk,k + (uS Lk.ct l i : Int) = kk:=⟨_,rfl⟩
   rw [hkk] at hrow
   have hrow : (List.map Lk.cells (Il Lk.mk3 Lk.ct k l)).getD i [] = [iv (kk),iv (kk + 1),.bool (decide ((kk + 1 + 1).tmod 3 = 0)),ints (cnt x.w.mag.length (kk + 1 + 1 + 1)),ints (cnt x.w.den.length (kk + 1 + 1 + 1 + x.w.mag.length)),.bool (decide ((kk + 1 + 1 + 1 + x.w.mag.length + x.w.den.length).tmod 3 = 0)),ints (cnt x.dx.mag.length (kk + 1 + 1 + 1 + x.w.mag.length + x.w.den.length + 1)),ints (cnt x.dx.den.length (kk + 1 + 1 + 1 + x.w.mag.length + x.w.den.length + 1 + x.dx.mag.length)),.bool (decide ((kk + 1 + 1 + 1 + x.w.mag.length + x.w.den.length + 1 + x.dx.mag.length + x.dx.den.length).tmod 3 = 0)),ints (cnt x.dy.mag.length (kk + 1 + 1 + 1 + x.w.mag.length + x.w.den.length + 1 + x.dx.mag.length + x.dx.den.length + 1)),ints (cnt x.dy.den.length (kk + 1 + 1 + 1 + x.w.mag.length + x.w.den.length + 1 + x.dx.mag.length + x.dx.den.length + 1 + x.dy.mag.length))]:=hrow
   simp only [Lk.sz,R.sz] at hxs
   refine ev4 @hc @hrow @hkk @hml ?_
   refine ah (iw h.bn (n:=x.w.mag.length) (k:=kk + 1 + 1 + 1) (by omega) (by omega)) ?_
   refine iW @hrow @hml ?_
   refine aG (fun hc=>absurd hc (by omega)) fun _=>?_
   refine iW @hrow @hml ?_
   refine ah (iw h.bn (n:=x.w.den.length) (k:=kk + 1 + 1 + 1 + x.w.mag.length) (by omega) (by omega)) ?_
   refine iW @hrow @hml ?_
   refine aG (fun hc=>absurd hc (by omega)) fun _=>?_
   refine iW @hrow @hml ?_
   refine ah (iw h.bn (n:=x.dx.mag.length) (k:=kk + 1 + 1 + 1 + x.w.mag.length + x.w.den.length + 1) (by omega) (by omega)) ?_
   refine iW @hrow @hml ?_
   refine aG (fun hc=>absurd hc (by omega)) fun _=>?_
   refine iW @hrow @hml ?_
   refine ah (iw h.bn (n:=x.dx.den.length) (k:=kk + 1 + 1 + 1 + x.w.mag.length + x.w.den.length + 1 + x.dx.mag.length) (by omega) (by omega)) ?_
   refine iW @hrow @hml ?_
   refine aG (fun hc=>absurd hc (by omega)) fun _=>?_
   refine iW @hrow @hml ?_
   refine ah (iw h.bn (n:=x.dy.mag.length) (k:=kk + 1 + 1 + 1 + x.w.mag.length + x.w.den.length + 1 + x.dx.mag.length + x.dx.den.length + 1) (by omega) (by omega)) ?_
   refine iW @hrow @hml ?_
   refine aG (fun hc=>absurd hc (by omega)) fun _=>?_
   refine iW @hrow @hml ?_
   refine ah (iw h.bn (n:=x.dy.den.length) (k:=kk + 1 + 1 + 1 + x.w.mag.length + x.w.den.length + 1 + x.dx.mag.length + x.dx.den.length + 1 + x.dy.mag.length) (by omega) (by omega)) ?_
   refine iW @hrow @hml ?_
   refine aG (fun hc=>absurd hc (by omega)) fun _=>?_
   refine iW @hrow @hml ?_
   exact ⟨i + 1,by omega,by omega,by (refine aI ?_;exact yB)⟩
  ·have : i = l.length:=by omega
   subst this
   (refine ev1 @hc ?_;try with_reducible exact True.intro)
theorem Sv {T : Tb} (h : uZ T) {l : List Pa} {k : Int} (hl : Aq Pa.sz l ≤ 1000000000:=by exact dD) (hk : 0 ≤ k ∧ k + uS Pa.ct l l.length ≤ 1000000000000:=by exact dD) :
  PF T 398 [dZ (Il Pa.mk3 Pa.ct k l),iv k] (iv (k + uS Pa.ct l l.length)):=by
 have hll : l.length ≤ 1000000000:=by unfold Aq at hl;omega
 have hml:=DK Pa.mk3 Pa.ct k l
 refine aT nR h.hT ?_
 simp only [nK,Lz]
 refine ev ?_
 refine aQ (fun _ _=>false) (α:=Nat) (fun i=>⟨bM [dZ (Il Pa.mk3 Pa.ct k l),iv (k + uS Pa.ct l i),.any,.any,.any,iv (i : Nat)],[],0,0,[],[]⟩) (fun i=>i ≤ l.length) (fun i=>l.length - i) rfl 0 ?_ ?_ ?_
 ·omega
 ·(refine aI ?_) <;> (try (refine ev1 @TG ?_;try with_reducible exact True.intro)) <;> (repeat' (first | refine ⟨?_,?_⟩ | exact kE (by omega) | exact mV (by simp) | exact kF _))
 ·intro i hi
  refine ev1 @hml ?_
  refine aG (fun hc=>?_) fun hc=>?_
  ·have hil : i < l.length:=by omega
   have hrow:=(mg (f:=Pa.cells) (show i < (Il Pa.mk3 Pa.ct k l).length by omega)).trans (congrArg Pa.cells (U4 Pa.mk3 Pa.ct k l i hil))
   obtain ⟨x,hx⟩ : ∃ x,l.getD i default = x:=⟨_,rfl⟩
   have hcn:=aas Pa.ct l hil
   have hcl:=QC Pa.ct l (i:=i + 1) hil
   have hxs : Pa.sz x ≤ 1000000000:=by
    have:=U3 Pa.sz hil
    rw [hx] at this
    omega
   rw [hx] at hcn hrow
   rw [hcn] at hcl
   have hct : Pa.ct x = 1 + 1 + x.share.mag.length + x.share.den.length + 1 + x.dx.mag.length + x.dx.den.length + 1 + x.dy.mag.length + x.dy.den.length:=rfl
   obtain ⟨kk,hkk⟩ : ∃ kk,k + (uS Pa.ct l i : Int) = kk:=⟨_,rfl⟩
   rw [hkk] at hrow
   have hrow : (List.map Pa.cells (Il Pa.mk3 Pa.ct k l)).getD i [] = [iv (kk),.bool (decide ((kk + 1).tmod 3 = 0)),ints (cnt x.share.mag.length (kk + 1 + 1)),ints (cnt x.share.den.length (kk + 1 + 1 + x.share.mag.length)),.bool (decide ((kk + 1 + 1 + x.share.mag.length + x.share.den.length).tmod 3 = 0)),ints (cnt x.dx.mag.length (kk + 1 + 1 + x.share.mag.length + x.share.den.length + 1)),ints (cnt x.dx.den.length (kk + 1 + 1 + x.share.mag.length + x.share.den.length + 1 + x.dx.mag.length)),.bool (decide ((kk + 1 + 1 + x.share.mag.length + x.share.den.length + 1 + x.dx.mag.length + x.dx.den.length).tmod 3 = 0)),ints (cnt x.dy.mag.length (kk + 1 + 1 + x.share.mag.length + x.share.den.length + 1 + x.dx.mag.length + x.dx.den.length + 1)),ints (cnt x.dy.den.length (kk + 1 + 1 + x.share.mag.length + x.share.den.length + 1 + x.dx.mag.length + x.dx.den.length + 1 + x.dy.mag.length))]:=hrow
   simp only [Pa.sz,R.sz] at hxs
   refine ev4 @hc @hrow @hkk @hml ?_
   refine ah (iw h.bn (n:=x.share.mag.length) (k:=kk + 1 + 1) (by omega) (by omega)) ?_
   refine iW @hrow @hml ?_
   refine aG (fun hc=>absurd hc (by omega)) fun _=>?_
   refine iW @hrow @hml ?_
   refine ah (iw h.bn (n:=x.share.den.length) (k:=kk + 1 + 1 + x.share.mag.length) (by omega) (by omega)) ?_
   refine iW @hrow @hml ?_
   refine aG (fun hc=>absurd hc (by omega)) fun _=>?_
   refine iW @hrow @hml ?_
   refine ah (iw h.bn (n:=x.dx.mag.length) (k:=kk + 1 + 1 + x.share.mag.length + x.share.den.length + 1) (by omega) (by omega)) ?_
   refine iW @hrow @hml ?_
   refine aG (fun hc=>absurd hc (by omega)) fun _=>?_
   refine iW @hrow @hml ?_
   refine ah (iw h.bn (n:=x.dx.den.length) (k:=kk + 1 + 1 + x.share.mag.length + x.share.den.length + 1 + x.dx.mag.length) (by omega) (by omega)) ?_
   refine iW @hrow @hml ?_
   refine aG (fun hc=>absurd hc (by omega)) fun _=>?_
   refine iW @hrow @hml ?_
   refine ah (iw h.bn (n:=x.dy.mag.length) (k:=kk + 1 + 1 + x.share.mag.length + x.share.den.length + 1 + x.dx.mag.length + x.dx.den.length + 1) (by omega) (by omega)) ?_
   refine iW @hrow @hml ?_
   refine aG (fun hc=>absurd hc (by omega)) fun _=>?_
   refine iW @hrow @hml ?_
   refine ah (iw h.bn (n:=x.dy.den.length) (k:=kk + 1 + 1 + x.share.mag.length + x.share.den.length + 1 + x.dx.mag.length + x.dx.den.length + 1 + x.dy.mag.length) (by omega) (by omega)) ?_
   refine iW @hrow @hml ?_
   refine aG (fun hc=>absurd hc (by omega)) fun _=>?_
   refine iW @hrow @hml ?_
   exact ⟨i + 1,by omega,by omega,by (refine aI ?_;exact yB)⟩
  ·have : i = l.length:=by omega
   subst this
   (refine ev1 @hc ?_;try with_reducible exact True.intro)
theorem VF {T : Tb} (h : xE T) {x : Bi} {k : Int} (hl : x.mag.length ≤ 1000000000:=by exact dD) (hk : 0 ≤ k ∧ k + Bi.fC x ≤ 1000000000000:=by exact dD) :
  PF T 58 [Ie (Bi.mk2 k x),iv k] (iv (k + Bi.fC x)):=by
 have hk':=hk
 simp only [Bi.fC] at hk'
 refine aT nR h.hT ?_
 simp only [pG,Lz]
 refine ev ?_
 refine ah (iw h.bn (n:=x.mag.length) (k:=k) (by first | omega | (simp only [Bi.fC,R.fC,Bi.fC];omega)) (by first | omega | (simp only [Bi.fC,R.fC,Bi.fC];omega))) ?_
 refine ev ?_
 refine aG (fun hc=>absurd hc (by first | omega | (simp only [Bi.fC];omega))) fun _=>?_
 refine ev ?_
 exact ivc (by first | rfl | (simp only [Bi.fC];omega))
theorem NC {T : Tb} (h : xH T) {x : R} {k : Int} (hl : x.sz ≤ 1000000000:=by exact dD) (hk : 0 ≤ k ∧ k + R.fC x ≤ 1000000000000:=by exact dD) :
  PF T 42 [aU (R.mk2 k x),iv k] (iv (k + R.fC x)):=by
 have hl':=hl
 simp only [R.sz] at hl'
 have hk':=hk
 simp only [R.fC,Bi.fC] at hk'
 refine aT nR h.hT ?_
 simp only [xG,Lz]
 refine ev ?_
 refine ah (VF h.LM (x:=x.num) (k:=k) (by first | omega | (simp only [R.sz,R.fC,Bi.fC];omega)) (by first | omega | (simp only [R.sz,R.fC,Bi.fC];omega))) ?_
 refine ev ?_
 refine aG (fun hc=>absurd hc (by first | omega | (simp only [R.fC,Bi.fC];omega))) fun _=>?_
 refine ev ?_
 refine ah (iw h.bn (n:=x.den.length) (k:=k + Bi.fC x.num) (by first | omega | (simp only [R.sz,R.fC,Bi.fC];omega)) (by first | omega | (simp only [R.sz,R.fC,Bi.fC];omega))) ?_
 refine ev ?_
 refine aG (fun hc=>absurd hc (by first | omega | (simp only [R.fC,Bi.fC];omega))) fun _=>?_
 refine ev ?_
 exact ivc (by first | rfl | (simp only [R.fC,Bi.fC];omega))
theorem DR {T : Tb} (h : nM T) {x : Cd} {k : Int} (hl : x.sz ≤ 1000000000:=by exact dD) (hk : 0 ≤ k ∧ k + Cd.fC x ≤ 1000000000000:=by exact dD) :
  PF T 390 [Hg (Cd.mk2 k x),iv k] (iv (k + Cd.fC x)):=by
 have hl':=hl
 simp only [Cd.sz,R.sz] at hl'
 have hk':=hk
 simp only [Cd.fC,R.fC,Bi.fC] at hk'
 refine aT nR h.hT ?_
 simp only [jP,Lz]
 refine ev ?_
 refine ah (NC h.xI (x:=x.total) (k:=k) (by first | omega | (simp only [Cd.sz,R.sz,R.fC,Bi.fC];omega)) (by first | omega | (simp only [Cd.sz,R.sz,R.fC,Bi.fC];omega))) ?_
 refine ev ?_
 refine aG (fun hc=>absurd hc (by first | omega | (simp only [Cd.fC,R.fC,Bi.fC];omega))) fun _=>?_
 refine ev ?_
 refine ah (Sv h.Kr (l:=x.ps) (k:=k + x.total.fC) (by first | omega | (simp only [Cd.sz,R.sz,R.fC,Bi.fC];omega)) (by first | omega | (simp only [Cd.sz,R.sz,R.fC,Bi.fC];omega))) ?_
 refine ev ?_
 refine aG (fun hc=>absurd hc (by first | omega | (simp only [Cd.fC,R.fC,Bi.fC];omega))) fun _=>?_
 refine ev ?_
 exact ivc (by first | rfl | (simp only [Cd.fC,R.fC,Bi.fC];omega))
theorem afj {α : Type} {c f : α → Nat} {K : Nat} (h : ∀ x,c x ≤ K * (1 + f x)) (l : List α) : uS c l l.length ≤ K * Aq f l:=by
 unfold uS Aq
 rw [List.take_length]
 induction l with
 | nil=>simp
 |
  cons x l ih =>
  rw [List.map_cons,List.sum_cons,List.map_cons,List.sum_cons,List.length_cons]
  have:=h x
  rw [show l.length + 1 + (f x + (l.map f).sum) = (1 + f x) + (l.length + (l.map f).sum) by omega,Nat.mul_add]
  omega
theorem aoR (x : Lk) : Lk.ct x ≤ 5 * (1 + x.sz):=by unfold Lk.ct Lk.sz R.sz;omega
theorem aoS (x : Pa) : Pa.ct x ≤ 5 * (1 + x.sz):=by unfold Pa.ct Pa.sz R.sz;omega
theorem Ya (l : List Lk) : uS Lk.ct l l.length ≤ 5 * Aq Lk.sz l:=afj aoR l
theorem ZP (l : List Pa) : uS Pa.ct l l.length ≤ 5 * Aq Pa.sz l:=afj aoS l
theorem afk (x : R) : x.fC ≤ x.sz:=by unfold R.fC Bi.fC R.sz;exact Nat.le_refl _
theorem Ri (x : Cd) : x.fC ≤ 5 * x.sz:=by have:=afk x.total;have:=ZP x.ps;unfold Cd.fC Cd.sz;omega
def iV : Fn:=⟨2,175,[.tmp 4],(sr [oN 4 mF] (sr [oN 5 (.bZ (cI 1048576))] (sr [oW 22 0,oW 23 5,oN 24 (cl 19 [22,23]),oW 5 24] (.seq (sr [oW 25 5,oN 26 (bc .lss 25 0)] (cd 26 (sr [oN 4 mT] .ret) .skip)) (.seq (rf 2 [oK 28 2 (oV 0),oK 29 2 (cl 21 [28]),oK 30 2 (oV 1),oK 31 2 (cl 392 [29,30]),oK 27 2 (oV 31),oK 32 2 (ex 0 27),oK 33 2 (ex 1 27),oK 34 2 (ex 2 27),oK 35 2 (ex 3 27),oN 6 (.alloc Ku),oK 8 1 (.alloc kK),⟨none,none,2,.store 5 (.t 6) (.t 32),[]⟩,oK 7 2 (oV 33),⟨none,none,2,.store 3 (.t 8) (.t 34),[]⟩,oK 9 2 (oV 35)]) (sr [oW 36 0,oN 37 (cl 21 [36]),oW 10 37] (.seq (rf 2 [oK 39 2 (oV 10),oK 40 2 (oV 1),oK 41 2 (cl 268 [39,40]),oK 38 2 (oV 41),oK 42 2 (ex 0 38),oK 43 2 (ex 1 38),oK 44 2 (ex 2 38),oK 45 2 (ex 3 38),oN 11 (.alloc Ku),oK 13 1 (.alloc kK),⟨none,none,2,.store 5 (.t 11) (.t 42),[]⟩,oK 12 2 (oV 43),⟨none,none,2,.store 3 (.t 13) (.t 44),[]⟩,oK 14 2 (oV 45)]) (.seq (sr [oN 46 (lT 5 11),oN 47 (lT 5 6),oN 48 (cl 28 [46,47]),oN 49 (nt 48),oW 50 49,oG 50 false 51 (oV 12),oG 50 false 52 (oV 7),oG 50 false 53 (cl 23 [51,52]),oG 50 false 54 (nt 53),oN 55 (.pick (.t 50) (.c (.bool true)) (.t 54)),oW 56 55,oG 56 false 57 (lT 3 13),oG 56 false 58 (lT 3 8),oG 56 false 59 (cl 40 [57,58]),oG 56 false 60 (nt 59),oN 61 (.pick (.t 56) (.c (.bool true)) (.t 60)),oW 62 61,oG 62 false 63 (oV 14),oG 62 false 64 (oV 9),oG 62 false 65 (.beq true (.t 63) (.t 64)),oN 66 (.pick (.t 62) (.c (.bool true)) (.t 65))] (cd 66 (sr [oN 4 mF] .ret) .skip)) (.seq (sr [oW 67 10,oW 68 0,oN 69 (cl 21 [68]),oN 70 (cl 23 [67,69]),oN 71 (nt 70)] (cd 71 (sr [oN 4 mF] .ret) .skip)) (sr [oN 15 (.bZ (cI 1))] (sr [oW 72 10,oW 73 15,oN 74 (cl 118 [72,73]),oW 15 74] (.seq (sr [oW 75 15,oN 76 (bc .lss 75 0),oW 77 76,oG 77 false 78 (lT 5 11),oG 77 false 79 (lT 5 6),oG 77 false 80 (cl 28 [78,79]),oG 77 false 81 (nt 80),oN 82 (.pick (.t 77) (.c (.bool true)) (.t 81)),oW 83 82,oG 83 false 84 (oV 12),oG 83 false 85 (oV 7),oG 83 false 86 (cl 23 [84,85]),oG 83 false 87 (nt 86),oN 88 (.pick (.t 83) (.c (.bool true)) (.t 87)),oW 89 88,oG 89 false 90 (lT 3 13),oG 89 false 91 (lT 3 8),oG 89 false 92 (cl 40 [90,91]),oG 89 false 93 (nt 92),oN 94 (.pick (.t 89) (.c (.bool true)) (.t 93)),oW 95 94,oG 95 false 96 (oV 14),oG 95 false 97 (oV 9),oG 95 false 98 (.beq true (.t 96) (.t 97)),oN 99 (.pick (.t 95) (.c (.bool true)) (.t 98))] (cd 99 (sr [oN 4 mF] .ret) .skip)) (sr [oN 16 (.bZ (cI 1))] (sr [oN 100 (lT 5 11),oW 101 16,oN 102 (cl 367 [100,101]),oW 16 102] (sr [oW 103 12,oW 104 16,oN 105 (cl 118 [103,104]),oW 16 105] (sr [oN 106 (lT 3 13),oW 107 16,oN 108 (cl 41 [106,107]),oW 16 108] (sr [oN 17 (.bZ (cI 1))] (sr [oN 109 (lT 5 11),oW 110 17,oN 111 (cl 390 [109,110]),oW 17 111] (.seq (sr [oW 112 17,oN 113 (bc .lss 112 0)] (cd 113 (sr [oN 4 mF] .ret) .skip)) (sr [oW 114 12,oW 115 17,oN 116 (cl 229 [114,115]),oW 17 116] (.seq (sr [oW 117 17,oN 118 (bc .lss 117 0)] (cd 118 (sr [oN 4 mF] .ret) .skip)) (sr [oN 119 (lT 3 13),oW 120 17,oN 121 (cl 42 [119,120]),oW 17 121] (.seq (sr [oW 122 17,oN 123 (bc .lss 122 0)] (cd 123 (sr [oN 4 mF] .ret) .skip)) (.seq (sr [oW 124 17,oW 125 16,oN 126 (bt .neq 124 125)] (cd 126 (sr [oN 4 mF] .ret) .skip)) (.seq (rf 2 [oK 128 2 (oV 0),oK 129 2 (cl 21 [128]),oK 130 2 (oV 1),oK 131 2 (cl 268 [129,130]),oK 127 2 (oV 131),oK 132 2 (ex 0 127),oK 133 2 (ex 1 127),oK 134 2 (ex 2 127),oK 135 2 (ex 3 127),oN 18 (.alloc Ku),oK 20 1 (.alloc kK),⟨none,none,2,.store 5 (.t 18) (.t 132),[]⟩,oK 19 2 (oV 133),⟨none,none,2,.store 3 (.t 20) (.t 134),[]⟩,oK 21 2 (oV 135)]) (.seq (sr [oN 136 (lT 5 18),oN 137 (lT 5 6),oN 138 (cl 28 [136,137]),oN 139 (nt 138),oW 140 139,oG 140 false 141 (oV 19),oG 140 false 142 (oV 7),oG 140 false 143 (cl 23 [141,142]),oG 140 false 144 (nt 143),oN 145 (.pick (.t 140) (.c (.bool true)) (.t 144)),oW 146 145,oG 146 false 147 (lT 3 20),oG 146 false 148 (lT 3 8),oG 146 false 149 (cl 40 [147,148]),oG 146 false 150 (nt 149),oN 151 (.pick (.t 146) (.c (.bool true)) (.t 150)),oW 152 151,oG 152 false 153 (oV 21),oG 152 false 154 (oV 9),oG 152 false 155 (.beq true (.t 153) (.t 154)),oN 156 (.pick (.t 152) (.c (.bool true)) (.t 155))] (cd 156 (sr [oN 4 mF] .ret) .skip)) (sr [oN 17 (.bZ (cI 1))] (sr [oN 157 (lT 5 11),oW 158 17,oN 159 (cl 390 [157,158]),oW 17 159] (.seq (sr [oW 160 17,oN 161 (bc .lss 160 0)] (cd 161 (sr [oN 4 mF] .ret) .skip)) (sr [oW 162 12,oW 163 17,oN 164 (cl 229 [162,163]),oW 17 164] (.seq (sr [oW 165 17,oN 166 (bc .lss 165 0)] (cd 166 (sr [oN 4 mF] .ret) .skip)) (sr [oN 167 (lT 3 13),oW 168 17,oN 169 (cl 42 [167,168]),oW 17 169] (.seq (sr [oW 170 17,oN 171 (bc .lss 170 0)] (cd 171 (sr [oN 4 mF] .ret) .skip)) (.seq (sr [oW 172 17,oW 173 16,oN 174 (bt .neq 172 173)] (cd 174 (sr [oN 4 mF] .ret) .skip)) (sr [oN 4 mT] .ret)))))))))))))))))))))))))))))))))))⟩
structure tJ (T : Tb) : Prop where
 hT : T 381 = some iV
 Rj : CQ T
 xJ : wO T
 xK : CS T
 qC : qw T
 fA : qN T
 CU : wS T
 xI : xH T
 Fq : yH T
 Fv : yN T
 LP : xC T
 Gq : nG T
 xM : nM T
 LQ : xA T
theorem Gs {T : Tb} (h : tJ T) (a : List Lk) (wa : (Hl Lk.wf) a) (b : Int) (wb : -9223372036854775808 ≤ b ∧ b ≤ 9223372036854775807) : PF T 381 [bf a,iv b] (.bool true):=by
 refine PO.frz ?_ (sN 11 _)
 refine dX (fun x d=>(x == 21 && d == 37) || (x == 268 && d == 41) || (x == 118 && d == 74) || (x == 367 && d == 102) || (x == 118 && d == 105) || (x == 41 && d == 108)) h.hT ?_
 simp only [iV,Lz,St.enter,List.length_cons,List.length_nil,Nat.zero_add]
 refine ew ?_
 refine ah (abX h.Rj (l:=a) wa ⟨by omega,by omega⟩) ?_
 refine ew ?_
 have ka:=@P6 (1048576) (Aq Lk.sz a)
 refine aG (fun hba=>?_) fun hba=>?_
 ·refine ew ?_
  exact Xq
 have sa:=aah hba
 refine ew ?_
 have za : Aq Lk.sz a ≤ 1048576:=by omega
 have hcn:=afi a b
 have zr:=hcn.1
 have wr:=hcn.2.1
 have we:=hcn.2.2.1
 have wz:=hcn.2.2.2
 have:=Ya a
 have:=Ri (bH a b)
 have:=Ya (GX a b)
 have:=afk (gG a b)
 have PI:=Rh h.LP (v:=b) wa
 refine ah (Nj h.xJ (l:=a) za) ?_
 refine ew ?_
 refine ah (Sm h.LQ (v:=b) wa za) ?_
 refine ew ?_
 refine fJ (Zp h.xJ (l:=a) za) (by (refine ew ?_;try with_reducible exact True.intro)) ?_
 intro x0 q1 o1 G
 have hO:=G.ow
 have gn:=G.nd
 have gf:=G.fresh
 have go:=G.old
 have gl:=G.len
 clear G
 have E : Ep ([some ⟨5,[[iv (bH a b).node,.bool (bH a b).total.neg,ints (bH a b).total.mag,ints (bH a b).total.den,dZ (bH a b).ps]]⟩,some ⟨3,[[.bool (gG a b).neg,ints (gG a b).mag,ints (gG a b).den]]⟩] : Store) [] [] [] [(0,⟨5,[[iv (bH a b).node,.bool (bH a b).total.neg,ints (bH a b).total.mag,ints (bH a b).total.den,dZ (bH a b).ps]]⟩),(1,⟨3,[[.bool (gG a b).neg,ints (gG a b).mag,ints (gG a b).den]]⟩)]:=⟨U2,by simp [aj]⟩
 have E2:=E.got (s1:=([some ⟨5,[[iv (bH a b).node,.bool (bH a b).total.neg,ints (bH a b).total.mag,ints (bH a b).total.den,dZ (bH a b).ps]]⟩,some ⟨3,[[.bool (gG a b).neg,ints (gG a b).mag,ints (gG a b).den]]⟩] : Store)) (fun _ _=>rfl) (by simp) (TJ hO) (by first | exact gn | simpa using gn) (by first | exact gf | simpa using gf) (by first | exact go | simpa using go)
 have hq : ([some ⟨5,[[iv (bH a b).node,.bool (bH a b).total.neg,ints (bH a b).total.mag,ints (bH a b).total.den,dZ (bH a b).ps]]⟩,some ⟨3,[[.bool (gG a b).neg,ints (gG a b).mag,ints (gG a b).den]]⟩] : Store).length + 0 ≤ q1.length:=by first | exact gl | simpa using gl
 clear E gn gf go gl
 have E : Ep q1 [x0] [bf a] _ [(0,⟨5,[[iv (bH a b).node,.bool (bH a b).total.neg,ints (bH a b).total.mag,ints (bH a b).total.den,dZ (bH a b).ps]]⟩),(1,⟨3,[[.bool (gG a b).neg,ints (gG a b).mag,ints (gG a b).den]]⟩)]:=E2
 clear E2
 have Rf:=And.intro (E.res 0 rfl rfl (bI _ _)) (And.intro (fun x=>(E.snoc (x:=x)).res 0 rfl rfl (bI _ _)) (fun x y=>((E.snoc (x:=x)).snoc (x:=y)).res 0 rfl rfl (bI _ _)))
 have LF:=E.leaf 0 rfl rfl
 have LO:=And.intro (E.at0 (p:=0) (ob:=⟨5,[[iv (bH a b).node,.bool (bH a b).total.neg,ints (bH a b).total.mag,ints (bH a b).total.den,dZ (bH a b).ps]]⟩) (by simp)) (E.at0 (p:=1) (ob:=⟨3,[[.bool (gG a b).neg,ints (gG a b).mag,ints (gG a b).den]]⟩) (by simp))
 refine vJ @Rf @LF @LO @aB @aS ?_
 refine fJ (PI) (by (refine vJ @Rf @LF @LO @aB @aS ?_;try with_reducible exact True.intro)) ?_
 intro r q2 o2 G
 have hO:=G.ow
 have gn:=G.nd
 have gf:=G.fresh
 have go:=G.old
 have gl:=G.len
 clear G
 obtain ⟨_,rfl,hO0⟩:=hO.aao
 obtain ⟨_,_,aoT,awq,rfl,rfl,aoU,aoV⟩:=hO0.inv
 obtain ⟨_,rfl,aiQ⟩:=aoU.bP
 obtain ⟨Gt,Gu,Gv,rfl⟩:=aiQ.cd
 obtain ⟨g1,_,aoW,awr,rfl,rfl,aoX,aoY⟩:=aoV.inv
 obtain ⟨_,_,aoZ,aws,rfl,rfl,ao0,ao1⟩:=aoY.inv
 obtain ⟨_,rfl,aiR⟩:=ao0.bP
 obtain ⟨He,Hf,rfl⟩:=aiR.rat
 obtain ⟨_,rfl,ao2⟩:=ao1.sJ
 obtain ⟨rfl,rfl⟩:=ao2.DJ
 simp only [List.append_nil,List.nil_append] at gn gf
 have E2:=E.got (s1:=q1 ++ [none] ++ [none]) ((fun q hq=>by first | exact eY hq | (simp only [List.append_assoc];exact eY hq))) (by simp) (dB (aiQ) (dB (TJ aoX) (aiR))) (by first | exact gn | simpa using gn) (by first | exact gf | simpa using gf) (by first | exact go | simpa using go)
 have F0:=E.free (os2:=aoT ++ (aoW ++ (aoZ))) (s1:=q1 ++ [none] ++ [none]) (p:=q1.length) (by first | exact gf | simpa using gf) (by simp) (by simp)
 have F1:=E.free (os2:=aoT ++ (aoW ++ (aoZ))) (s1:=q1 ++ [none] ++ [none]) (p:=q1.length + 1) (by first | exact gf | simpa using gf) (by simp) (by simp)
 have hq : q1.length + 2 ≤ q2.length:=by first | exact gl | simpa using gl
 try simp only [List.length_cons,List.length_nil,Nat.zero_add,Nat.reduceAdd] at hq
 have hl0 : q1.length < q2.length:=by omega
 have hl1 : q1.length + 1 < q2.length:=by omega
 have : 0 ≠ q1.length:=by have:=E.lt (0,⟨5,[[iv (bH a b).node,.bool (bH a b).total.neg,ints (bH a b).total.mag,ints (bH a b).total.den,dZ (bH a b).ps]]⟩) (by simp);omega
 have : 0 ≠ q1.length + 1:=by have:=E.lt (0,⟨5,[[iv (bH a b).node,.bool (bH a b).total.neg,ints (bH a b).total.mag,ints (bH a b).total.den,dZ (bH a b).ps]]⟩) (by simp);omega
 have : 1 ≠ q1.length:=by have:=E.lt (1,⟨3,[[.bool (gG a b).neg,ints (gG a b).mag,ints (gG a b).den]]⟩) (by simp);omega
 have : 1 ≠ q1.length + 1:=by have:=E.lt (1,⟨3,[[.bool (gG a b).neg,ints (gG a b).mag,ints (gG a b).den]]⟩) (by simp);omega
 have : q1.length ≠ q1.length + 1:=by omega
 have : q1.length + 1 ≠ q1.length:=by omega
 clear E gn gf go gl
 have E : Ep q2 [x0,iv (bH a b).node,.bool (bH a b).total.neg,Gt,Gu,Gv,g1,.bool (gG a b).neg,He,Hf] [bf a,iv (bH a b).node,.bool (bH a b).total.neg,ints (bH a b).total.mag,ints (bH a b).total.den,dZ (bH a b).ps,bf (GX a b),.bool (gG a b).neg,ints (gG a b).mag,ints (gG a b).den] _ [(0,⟨5,[[iv (bH a b).node,.bool (bH a b).total.neg,ints (bH a b).total.mag,ints (bH a b).total.den,dZ (bH a b).ps]]⟩),(1,⟨3,[[.bool (gG a b).neg,ints (gG a b).mag,ints (gG a b).den]]⟩)]:=E2
 clear E2
 replace E:=E.EW (p:=q1.length) (ob:=⟨5,[[.int .i64 0,.bool false,.ak,.ak,.ak]]⟩) (L':=[(0,⟨5,[[iv (bH a b).node,.bool (bH a b).total.neg,ints (bH a b).total.mag,ints (bH a b).total.den,dZ (bH a b).ps]]⟩),(1,⟨3,[[.bool (gG a b).neg,ints (gG a b).mag,ints (gG a b).den]]⟩),(q1.length,⟨5,[[.int .i64 0,.bool false,.ak,.ak,.ak]]⟩)]) F0 (by first | omega | (simp;omega)) (by intro q hq;simp only [List.mem_cons,List.not_mem_nil,or_false] at hq;rcases hq with rfl | rfl | rfl;all_goals first | exact .inr rfl | exact .inl ⟨by first | assumption | omega,by simp⟩)
 replace E:=E.EW (p:=q1.length + 1) (ob:=⟨3,[[.bool false,.ak,.ak]]⟩) (L':=[(0,⟨5,[[iv (bH a b).node,.bool (bH a b).total.neg,ints (bH a b).total.mag,ints (bH a b).total.den,dZ (bH a b).ps]]⟩),(1,⟨3,[[.bool (gG a b).neg,ints (gG a b).mag,ints (gG a b).den]]⟩),(q1.length,⟨5,[[.int .i64 0,.bool false,.ak,.ak,.ak]]⟩),(q1.length + 1,⟨3,[[.bool false,.ak,.ak]]⟩)]) F1 (by first | omega | (simp;omega)) (by intro q hq;simp only [List.mem_cons,List.not_mem_nil,or_false] at hq;rcases hq with rfl | rfl | rfl | rfl;all_goals first | exact .inr rfl | exact .inl ⟨by first | assumption | omega,by simp⟩)
 replace E:=E.EW (p:=q1.length) (ob:=⟨5,[[iv (bH a b).node,.bool (bH a b).total.neg,Gt,Gu,Gv]]⟩) (L':=[(0,⟨5,[[iv (bH a b).node,.bool (bH a b).total.neg,ints (bH a b).total.mag,ints (bH a b).total.den,dZ (bH a b).ps]]⟩),(1,⟨3,[[.bool (gG a b).neg,ints (gG a b).mag,ints (gG a b).den]]⟩),(q1.length + 1,⟨3,[[.bool false,.ak,.ak]]⟩),(q1.length,⟨5,[[iv (bH a b).node,.bool (bH a b).total.neg,Gt,Gu,Gv]]⟩)]) F0 (by first | omega | (simp;omega)) (by intro q hq;simp only [List.mem_cons,List.not_mem_nil,or_false] at hq;rcases hq with rfl | rfl | rfl | rfl;all_goals first | exact .inr rfl | exact .inl ⟨by first | assumption | omega,by simp⟩)
 replace E:=E.EW (p:=q1.length + 1) (ob:=⟨3,[[.bool (gG a b).neg,He,Hf]]⟩) (L':=[(0,⟨5,[[iv (bH a b).node,.bool (bH a b).total.neg,ints (bH a b).total.mag,ints (bH a b).total.den,dZ (bH a b).ps]]⟩),(1,⟨3,[[.bool (gG a b).neg,ints (gG a b).mag,ints (gG a b).den]]⟩),(q1.length,⟨5,[[iv (bH a b).node,.bool (bH a b).total.neg,Gt,Gu,Gv]]⟩),(q1.length + 1,⟨3,[[.bool (gG a b).neg,He,Hf]]⟩)]) F1 (by first | omega | (simp;omega)) (by intro q hq;simp only [List.mem_cons,List.not_mem_nil,or_false] at hq;rcases hq with rfl | rfl | rfl | rfl;all_goals first | exact .inr rfl | exact .inl ⟨by first | assumption | omega,by simp⟩)
 replace Rf:=And.intro (E.res 0 rfl rfl (bI _ _)) (And.intro (fun x=>(E.snoc (x:=x)).res 0 rfl rfl (bI _ _)) (And.intro (fun x y=>((E.snoc (x:=x)).snoc (x:=y)).res 0 rfl rfl (bI _ _)) (And.intro (E.res1 3 rfl rfl (au _ _)) (And.intro (fun x=>(E.snoc (x:=x)).res1 3 rfl rfl (au _ _)) (And.intro (fun x y=>((E.snoc (x:=x)).snoc (x:=y)).res1 3 rfl rfl (au _ _)) (And.intro (E.res1 4 rfl rfl (au _ _)) (And.intro (fun x=>(E.snoc (x:=x)).res1 4 rfl rfl (au _ _)) (And.intro (fun x y=>((E.snoc (x:=x)).snoc (x:=y)).res1 4 rfl rfl (au _ _)) (And.intro (E.res1 5 rfl rfl (jy _ _)) (And.intro (fun x=>(E.snoc (x:=x)).res1 5 rfl rfl (jy _ _)) (And.intro (fun x y=>((E.snoc (x:=x)).snoc (x:=y)).res1 5 rfl rfl (jy _ _)) (And.intro (E.res 6 rfl rfl (bI _ _)) (And.intro (fun x=>(E.snoc (x:=x)).res 6 rfl rfl (bI _ _)) (And.intro (fun x y=>((E.snoc (x:=x)).snoc (x:=y)).res 6 rfl rfl (bI _ _)) (And.intro (E.res1 8 rfl rfl (au _ _)) (And.intro (fun x=>(E.snoc (x:=x)).res1 8 rfl rfl (au _ _)) (And.intro (fun x y=>((E.snoc (x:=x)).snoc (x:=y)).res1 8 rfl rfl (au _ _)) (And.intro (E.res1 9 rfl rfl (au _ _)) (And.intro (fun x=>(E.snoc (x:=x)).res1 9 rfl rfl (au _ _)) (fun x y=>((E.snoc (x:=x)).snoc (x:=y)).res1 9 rfl rfl (au _ _)))))))))))))))))))))
 replace LF:=And.intro (E.leaf 0 rfl rfl) (And.intro (E.leaf 3 rfl rfl) (And.intro (E.leaf 4 rfl rfl) (And.intro (E.leaf 5 rfl rfl) (And.intro (E.leaf 6 rfl rfl) (And.intro (E.leaf 8 rfl rfl) (E.leaf 9 rfl rfl))))))
 replace LO:=And.intro (E.at0 (p:=0) (ob:=⟨5,[[iv (bH a b).node,.bool (bH a b).total.neg,ints (bH a b).total.mag,ints (bH a b).total.den,dZ (bH a b).ps]]⟩) (by simp)) (And.intro (E.at0 (p:=1) (ob:=⟨3,[[.bool (gG a b).neg,ints (gG a b).mag,ints (gG a b).den]]⟩) (by simp)) (And.intro (E.at0 (p:=q1.length) (ob:=⟨5,[[iv (bH a b).node,.bool (bH a b).total.neg,Gt,Gu,Gv]]⟩) (by simp)) (E.at0 (p:=q1.length + 1) (ob:=⟨3,[[.bool (gG a b).neg,He,Hf]]⟩) (by simp))))
 refine xQ @Rf @LF @LO @aB @aS @List.set_set.{0} ?_
 obtain ⟨s2,hs⟩ : ∃ s,((((q2.set (q1.length) (some ⟨5,[[.int .i64 0,.bool false,.ak,.ak,.ak]]⟩)).set (q1.length + 1) (some ⟨3,[[.bool false,.ak,.ak]]⟩)).set (q1.length) (some ⟨5,[[iv (bH a b).node,.bool (bH a b).total.neg,Gt,Gu,Gv]]⟩)).set (q1.length + 1) (some ⟨3,[[.bool (gG a b).neg,He,Hf]]⟩)) = s:=⟨_,rfl⟩
 have hls : q2.length = s2.length:=by rw [← hs];simp
 simp only [hs] at *
 clear hs
 simp only [hls] at *
 clear hls
 obtain ⟨VG,hpn⟩ : ∃ p,q1.length + 1 = p:=⟨_,rfl⟩
 simp only [hpn] at *
 clear hpn
 obtain ⟨VH,hpn⟩ : ∃ p,q1.length = p:=⟨_,rfl⟩
 simp only [hpn] at *
 clear hpn
 clear Rf LF LO
 have Rf:=And.intro (E.res 0 rfl rfl (bI _ _)) (And.intro (fun x=>(E.snoc (x:=x)).res 0 rfl rfl (bI _ _)) (And.intro (fun x y=>((E.snoc (x:=x)).snoc (x:=y)).res 0 rfl rfl (bI _ _)) (And.intro (E.res1 3 rfl rfl (au _ _)) (And.intro (fun x=>(E.snoc (x:=x)).res1 3 rfl rfl (au _ _)) (And.intro (fun x y=>((E.snoc (x:=x)).snoc (x:=y)).res1 3 rfl rfl (au _ _)) (And.intro (E.res1 4 rfl rfl (au _ _)) (And.intro (fun x=>(E.snoc (x:=x)).res1 4 rfl rfl (au _ _)) (And.intro (fun x y=>((E.snoc (x:=x)).snoc (x:=y)).res1 4 rfl rfl (au _ _)) (And.intro (E.res1 5 rfl rfl (jy _ _)) (And.intro (fun x=>(E.snoc (x:=x)).res1 5 rfl rfl (jy _ _)) (And.intro (fun x y=>((E.snoc (x:=x)).snoc (x:=y)).res1 5 rfl rfl (jy _ _)) (And.intro (E.res 6 rfl rfl (bI _ _)) (And.intro (fun x=>(E.snoc (x:=x)).res 6 rfl rfl (bI _ _)) (And.intro (fun x y=>((E.snoc (x:=x)).snoc (x:=y)).res 6 rfl rfl (bI _ _)) (And.intro (E.res1 8 rfl rfl (au _ _)) (And.intro (fun x=>(E.snoc (x:=x)).res1 8 rfl rfl (au _ _)) (And.intro (fun x y=>((E.snoc (x:=x)).snoc (x:=y)).res1 8 rfl rfl (au _ _)) (And.intro (E.res1 9 rfl rfl (au _ _)) (And.intro (fun x=>(E.snoc (x:=x)).res1 9 rfl rfl (au _ _)) (fun x y=>((E.snoc (x:=x)).snoc (x:=y)).res1 9 rfl rfl (au _ _)))))))))))))))))))))
 have LF:=And.intro (E.leaf 0 rfl rfl) (And.intro (E.leaf 3 rfl rfl) (And.intro (E.leaf 4 rfl rfl) (And.intro (E.leaf 5 rfl rfl) (And.intro (E.leaf 6 rfl rfl) (And.intro (E.leaf 8 rfl rfl) (E.leaf 9 rfl rfl))))))
 have LO:=And.intro (E.at0 (p:=0) (ob:=⟨5,[[iv (bH a b).node,.bool (bH a b).total.neg,ints (bH a b).total.mag,ints (bH a b).total.den,dZ (bH a b).ps]]⟩) (by simp)) (And.intro (E.at0 (p:=1) (ob:=⟨3,[[.bool (gG a b).neg,ints (gG a b).mag,ints (gG a b).den]]⟩) (by simp)) (And.intro (E.at0 (p:=VH) (ob:=⟨5,[[iv (bH a b).node,.bool (bH a b).total.neg,Gt,Gu,Gv]]⟩) (by simp)) (E.at0 (p:=VG) (ob:=⟨3,[[.bool (gG a b).neg,He,Hf]]⟩) (by simp))))
 refine ah (Ba h.qC (x:=(bH a b)) (y:=(bH a b)) wr wr) ?_
 refine vJ @Rf @LF @LO @aB @aS ?_
 refine ah (I5 h.xK (a:=(GX a b)) (b:=(GX a b)) we we) ?_
 refine vJ @Rf @LF @LO @aB @aS ?_
 refine ah (zW h.fA (y:=(gG a b)) (z:=(gG a b)) wz wz) ?_
 refine vJ @Rf @LF @LO @aB @aS ?_
 refine ah (Nj h.xJ (l:=a) za) ?_
 refine vJ @Rf @LF @LO @aB @aS ?_
 refine ah (I5 h.xK (a:=a) (b:=a) wa wa) ?_
 refine vJ @Rf @LF @LO @aB @aS ?_
 have hk0 : ¬ ((1 + uS Lk.ct a a.length : Int) < 0):=by omega
 obtain ⟨s3,hr,E2,hl⟩:=E.call 0 (Ld h.Fq (l:=a) (k:=1) (by first | omega | (constructor <;> omega)) (by first | omega | (constructor <;> omega))) rfl rfl
 refine gQ hr rfl hl (by simp) ?_
 clear hr hl E Rf LF LO
 have E : Ep s3 [x0,iv (bH a b).node,.bool (bH a b).total.neg,Gt,Gu,Gv,g1,.bool (gG a b).neg,He,Hf] [bf (Il Lk.mk3 Lk.ct 1 a),iv (bH a b).node,.bool (bH a b).total.neg,ints (bH a b).total.mag,ints (bH a b).total.den,dZ (bH a b).ps,bf (GX a b),.bool (gG a b).neg,ints (gG a b).mag,ints (gG a b).den] _ [(0,⟨5,[[iv (bH a b).node,.bool (bH a b).total.neg,ints (bH a b).total.mag,ints (bH a b).total.den,dZ (bH a b).ps]]⟩),(1,⟨3,[[.bool (gG a b).neg,ints (gG a b).mag,ints (gG a b).den]]⟩),(VH,⟨5,[[iv (bH a b).node,.bool (bH a b).total.neg,Gt,Gu,Gv]]⟩),(VG,⟨3,[[.bool (gG a b).neg,He,Hf]]⟩)]:=E2
 clear E2
 have Rf:=And.intro (E.res 0 rfl rfl (bI _ _)) (And.intro (fun x=>(E.snoc (x:=x)).res 0 rfl rfl (bI _ _)) (And.intro (fun x y=>((E.snoc (x:=x)).snoc (x:=y)).res 0 rfl rfl (bI _ _)) (And.intro (E.res1 3 rfl rfl (au _ _)) (And.intro (fun x=>(E.snoc (x:=x)).res1 3 rfl rfl (au _ _)) (And.intro (fun x y=>((E.snoc (x:=x)).snoc (x:=y)).res1 3 rfl rfl (au _ _)) (And.intro (E.res1 4 rfl rfl (au _ _)) (And.intro (fun x=>(E.snoc (x:=x)).res1 4 rfl rfl (au _ _)) (And.intro (fun x y=>((E.snoc (x:=x)).snoc (x:=y)).res1 4 rfl rfl (au _ _)) (And.intro (E.res1 5 rfl rfl (jy _ _)) (And.intro (fun x=>(E.snoc (x:=x)).res1 5 rfl rfl (jy _ _)) (And.intro (fun x y=>((E.snoc (x:=x)).snoc (x:=y)).res1 5 rfl rfl (jy _ _)) (And.intro (E.res 6 rfl rfl (bI _ _)) (And.intro (fun x=>(E.snoc (x:=x)).res 6 rfl rfl (bI _ _)) (And.intro (fun x y=>((E.snoc (x:=x)).snoc (x:=y)).res 6 rfl rfl (bI _ _)) (And.intro (E.res1 8 rfl rfl (au _ _)) (And.intro (fun x=>(E.snoc (x:=x)).res1 8 rfl rfl (au _ _)) (And.intro (fun x y=>((E.snoc (x:=x)).snoc (x:=y)).res1 8 rfl rfl (au _ _)) (And.intro (E.res1 9 rfl rfl (au _ _)) (And.intro (fun x=>(E.snoc (x:=x)).res1 9 rfl rfl (au _ _)) (fun x y=>((E.snoc (x:=x)).snoc (x:=y)).res1 9 rfl rfl (au _ _)))))))))))))))))))))
 have LF:=And.intro (E.leaf 0 rfl rfl) (And.intro (E.leaf 3 rfl rfl) (And.intro (E.leaf 4 rfl rfl) (And.intro (E.leaf 5 rfl rfl) (And.intro (E.leaf 6 rfl rfl) (And.intro (E.leaf 8 rfl rfl) (E.leaf 9 rfl rfl))))))
 have LO:=And.intro (E.at0 (p:=0) (ob:=⟨5,[[iv (bH a b).node,.bool (bH a b).total.neg,ints (bH a b).total.mag,ints (bH a b).total.den,dZ (bH a b).ps]]⟩) (by simp)) (And.intro (E.at0 (p:=1) (ob:=⟨3,[[.bool (gG a b).neg,ints (gG a b).mag,ints (gG a b).den]]⟩) (by simp)) (And.intro (E.at0 (p:=VH) (ob:=⟨5,[[iv (bH a b).node,.bool (bH a b).total.neg,Gt,Gu,Gv]]⟩) (by simp)) (E.at0 (p:=VG) (ob:=⟨3,[[.bool (gG a b).neg,He,Hf]]⟩) (by simp))))
 refine xQ @Rf @LF @LO @aB @aS @hk0 ?_
 refine ah (Ba h.qC (x:=(bH a b)) (y:=(bH a b)) wr wr) ?_
 refine xQ @Rf @LF @LO @aB @aS @hk0 ?_
 refine ah (I5 h.xK (a:=(GX a b)) (b:=(GX a b)) we we) ?_
 refine xQ @Rf @LF @LO @aB @aS @hk0 ?_
 refine ah (zW h.fA (y:=(gG a b)) (z:=(gG a b)) wz wz) ?_
 refine xQ @Rf @LF @LO @aB @aS @hk0 ?_
 obtain ⟨s4,hr,E2,hl⟩:=E.part 1 5 (J3 h.Gq (x:=(bH a b)) (k:=1) (by first | omega | (constructor <;> omega)) (by first | omega | (constructor <;> omega))) rfl rfl (by simp)
 refine gQ hr rfl hl (by simp) ?_
 clear hr hl E Rf LF LO
 have E : Ep s4 [x0,iv (bH a b).node,.bool (bH a b).total.neg,Gt,Gu,Gv,g1,.bool (gG a b).neg,He,Hf] [bf (Il Lk.mk3 Lk.ct 1 a),iv (bH a b).node,.bool (bH a b).total.neg,ints (Cd.mk2 1 (bH a b)).total.mag,ints (Cd.mk2 1 (bH a b)).total.den,dZ (Cd.mk2 1 (bH a b)).ps,bf (GX a b),.bool (gG a b).neg,ints (gG a b).mag,ints (gG a b).den] _ [(0,⟨5,[[iv (bH a b).node,.bool (bH a b).total.neg,ints (bH a b).total.mag,ints (bH a b).total.den,dZ (bH a b).ps]]⟩),(1,⟨3,[[.bool (gG a b).neg,ints (gG a b).mag,ints (gG a b).den]]⟩),(VH,⟨5,[[iv (bH a b).node,.bool (bH a b).total.neg,Gt,Gu,Gv]]⟩),(VG,⟨3,[[.bool (gG a b).neg,He,Hf]]⟩)]:=E2
 clear E2
 have Rf:=And.intro (E.res 0 rfl rfl (bI _ _)) (And.intro (fun x=>(E.snoc (x:=x)).res 0 rfl rfl (bI _ _)) (And.intro (fun x y=>((E.snoc (x:=x)).snoc (x:=y)).res 0 rfl rfl (bI _ _)) (And.intro (E.res1 3 rfl rfl (au _ _)) (And.intro (fun x=>(E.snoc (x:=x)).res1 3 rfl rfl (au _ _)) (And.intro (fun x y=>((E.snoc (x:=x)).snoc (x:=y)).res1 3 rfl rfl (au _ _)) (And.intro (E.res1 4 rfl rfl (au _ _)) (And.intro (fun x=>(E.snoc (x:=x)).res1 4 rfl rfl (au _ _)) (And.intro (fun x y=>((E.snoc (x:=x)).snoc (x:=y)).res1 4 rfl rfl (au _ _)) (And.intro (E.res1 5 rfl rfl (jy _ _)) (And.intro (fun x=>(E.snoc (x:=x)).res1 5 rfl rfl (jy _ _)) (And.intro (fun x y=>((E.snoc (x:=x)).snoc (x:=y)).res1 5 rfl rfl (jy _ _)) (And.intro (E.res 6 rfl rfl (bI _ _)) (And.intro (fun x=>(E.snoc (x:=x)).res 6 rfl rfl (bI _ _)) (And.intro (fun x y=>((E.snoc (x:=x)).snoc (x:=y)).res 6 rfl rfl (bI _ _)) (And.intro (E.res1 8 rfl rfl (au _ _)) (And.intro (fun x=>(E.snoc (x:=x)).res1 8 rfl rfl (au _ _)) (And.intro (fun x y=>((E.snoc (x:=x)).snoc (x:=y)).res1 8 rfl rfl (au _ _)) (And.intro (E.res1 9 rfl rfl (au _ _)) (And.intro (fun x=>(E.snoc (x:=x)).res1 9 rfl rfl (au _ _)) (fun x y=>((E.snoc (x:=x)).snoc (x:=y)).res1 9 rfl rfl (au _ _)))))))))))))))))))))
 have LF:=And.intro (E.leaf 0 rfl rfl) (And.intro (E.leaf 3 rfl rfl) (And.intro (E.leaf 4 rfl rfl) (And.intro (E.leaf 5 rfl rfl) (And.intro (E.leaf 6 rfl rfl) (And.intro (E.leaf 8 rfl rfl) (E.leaf 9 rfl rfl))))))
 have LO:=And.intro (E.at0 (p:=0) (ob:=⟨5,[[iv (bH a b).node,.bool (bH a b).total.neg,ints (bH a b).total.mag,ints (bH a b).total.den,dZ (bH a b).ps]]⟩) (by simp)) (And.intro (E.at0 (p:=1) (ob:=⟨3,[[.bool (gG a b).neg,ints (gG a b).mag,ints (gG a b).den]]⟩) (by simp)) (And.intro (E.at0 (p:=VH) (ob:=⟨5,[[iv (bH a b).node,.bool (bH a b).total.neg,Gt,Gu,Gv]]⟩) (by simp)) (E.at0 (p:=VG) (ob:=⟨3,[[.bool (gG a b).neg,He,Hf]]⟩) (by simp))))
 refine vJ @Rf @LF @LO @aB @aS ?_
 obtain ⟨s5,hr,E2,hl⟩:=E.call 6 (Ld h.Fq (l:=(GX a b)) (k:=1 + Cd.fC (bH a b)) (by first | omega | (constructor <;> omega)) (by first | omega | (constructor <;> omega))) rfl rfl
 refine gQ hr rfl hl (by simp) ?_
 clear hr hl E Rf LF LO
 have E : Ep s5 [x0,iv (bH a b).node,.bool (bH a b).total.neg,Gt,Gu,Gv,g1,.bool (gG a b).neg,He,Hf] [bf (Il Lk.mk3 Lk.ct 1 a),iv (bH a b).node,.bool (bH a b).total.neg,ints (Cd.mk2 1 (bH a b)).total.mag,ints (Cd.mk2 1 (bH a b)).total.den,dZ (Cd.mk2 1 (bH a b)).ps,bf (Il Lk.mk3 Lk.ct (1 + Cd.fC (bH a b)) (GX a b)),.bool (gG a b).neg,ints (gG a b).mag,ints (gG a b).den] _ [(0,⟨5,[[iv (bH a b).node,.bool (bH a b).total.neg,ints (bH a b).total.mag,ints (bH a b).total.den,dZ (bH a b).ps]]⟩),(1,⟨3,[[.bool (gG a b).neg,ints (gG a b).mag,ints (gG a b).den]]⟩),(VH,⟨5,[[iv (bH a b).node,.bool (bH a b).total.neg,Gt,Gu,Gv]]⟩),(VG,⟨3,[[.bool (gG a b).neg,He,Hf]]⟩)]:=E2
 clear E2
 have Rf:=And.intro (E.res 0 rfl rfl (bI _ _)) (And.intro (fun x=>(E.snoc (x:=x)).res 0 rfl rfl (bI _ _)) (And.intro (fun x y=>((E.snoc (x:=x)).snoc (x:=y)).res 0 rfl rfl (bI _ _)) (And.intro (E.res1 3 rfl rfl (au _ _)) (And.intro (fun x=>(E.snoc (x:=x)).res1 3 rfl rfl (au _ _)) (And.intro (fun x y=>((E.snoc (x:=x)).snoc (x:=y)).res1 3 rfl rfl (au _ _)) (And.intro (E.res1 4 rfl rfl (au _ _)) (And.intro (fun x=>(E.snoc (x:=x)).res1 4 rfl rfl (au _ _)) (And.intro (fun x y=>((E.snoc (x:=x)).snoc (x:=y)).res1 4 rfl rfl (au _ _)) (And.intro (E.res1 5 rfl rfl (jy _ _)) (And.intro (fun x=>(E.snoc (x:=x)).res1 5 rfl rfl (jy _ _)) (And.intro (fun x y=>((E.snoc (x:=x)).snoc (x:=y)).res1 5 rfl rfl (jy _ _)) (And.intro (E.res 6 rfl rfl (bI _ _)) (And.intro (fun x=>(E.snoc (x:=x)).res 6 rfl rfl (bI _ _)) (And.intro (fun x y=>((E.snoc (x:=x)).snoc (x:=y)).res 6 rfl rfl (bI _ _)) (And.intro (E.res1 8 rfl rfl (au _ _)) (And.intro (fun x=>(E.snoc (x:=x)).res1 8 rfl rfl (au _ _)) (And.intro (fun x y=>((E.snoc (x:=x)).snoc (x:=y)).res1 8 rfl rfl (au _ _)) (And.intro (E.res1 9 rfl rfl (au _ _)) (And.intro (fun x=>(E.snoc (x:=x)).res1 9 rfl rfl (au _ _)) (fun x y=>((E.snoc (x:=x)).snoc (x:=y)).res1 9 rfl rfl (au _ _)))))))))))))))))))))
 have LF:=And.intro (E.leaf 0 rfl rfl) (And.intro (E.leaf 3 rfl rfl) (And.intro (E.leaf 4 rfl rfl) (And.intro (E.leaf 5 rfl rfl) (And.intro (E.leaf 6 rfl rfl) (And.intro (E.leaf 8 rfl rfl) (E.leaf 9 rfl rfl))))))
 have LO:=And.intro (E.at0 (p:=0) (ob:=⟨5,[[iv (bH a b).node,.bool (bH a b).total.neg,ints (bH a b).total.mag,ints (bH a b).total.den,dZ (bH a b).ps]]⟩) (by simp)) (And.intro (E.at0 (p:=1) (ob:=⟨3,[[.bool (gG a b).neg,ints (gG a b).mag,ints (gG a b).den]]⟩) (by simp)) (And.intro (E.at0 (p:=VH) (ob:=⟨5,[[iv (bH a b).node,.bool (bH a b).total.neg,Gt,Gu,Gv]]⟩) (by simp)) (E.at0 (p:=VG) (ob:=⟨3,[[.bool (gG a b).neg,He,Hf]]⟩) (by simp))))
 refine vJ @Rf @LF @LO @aB @aS ?_
 obtain ⟨s6,hr,E2,hl⟩:=E.part 7 3 (QJ h.CU (x:=(gG a b)) (k:=1 + Cd.fC (bH a b) + uS Lk.ct (GX a b) (GX a b).length) (by first | omega | (constructor <;> omega)) (by first | omega | (constructor <;> omega))) rfl rfl (by simp)
 refine gQ hr rfl hl (by simp) ?_
 clear hr hl E Rf LF LO
 have E : Ep s6 [x0,iv (bH a b).node,.bool (bH a b).total.neg,Gt,Gu,Gv,g1,.bool (gG a b).neg,He,Hf] [bf (Il Lk.mk3 Lk.ct 1 a),iv (bH a b).node,.bool (bH a b).total.neg,ints (Cd.mk2 1 (bH a b)).total.mag,ints (Cd.mk2 1 (bH a b)).total.den,dZ (Cd.mk2 1 (bH a b)).ps,bf (Il Lk.mk3 Lk.ct (1 + Cd.fC (bH a b)) (GX a b)),.bool (gG a b).neg,ints (R.mk2 (1 + Cd.fC (bH a b) + uS Lk.ct (GX a b) (GX a b).length) (gG a b)).mag,ints (R.mk2 (1 + Cd.fC (bH a b) + uS Lk.ct (GX a b) (GX a b).length) (gG a b)).den] _ [(0,⟨5,[[iv (bH a b).node,.bool (bH a b).total.neg,ints (bH a b).total.mag,ints (bH a b).total.den,dZ (bH a b).ps]]⟩),(1,⟨3,[[.bool (gG a b).neg,ints (gG a b).mag,ints (gG a b).den]]⟩),(VH,⟨5,[[iv (bH a b).node,.bool (bH a b).total.neg,Gt,Gu,Gv]]⟩),(VG,⟨3,[[.bool (gG a b).neg,He,Hf]]⟩)]:=E2
 clear E2
 have Rf:=And.intro (E.res 0 rfl rfl (bI _ _)) (And.intro (fun x=>(E.snoc (x:=x)).res 0 rfl rfl (bI _ _)) (And.intro (fun x y=>((E.snoc (x:=x)).snoc (x:=y)).res 0 rfl rfl (bI _ _)) (And.intro (E.res1 3 rfl rfl (au _ _)) (And.intro (fun x=>(E.snoc (x:=x)).res1 3 rfl rfl (au _ _)) (And.intro (fun x y=>((E.snoc (x:=x)).snoc (x:=y)).res1 3 rfl rfl (au _ _)) (And.intro (E.res1 4 rfl rfl (au _ _)) (And.intro (fun x=>(E.snoc (x:=x)).res1 4 rfl rfl (au _ _)) (And.intro (fun x y=>((E.snoc (x:=x)).snoc (x:=y)).res1 4 rfl rfl (au _ _)) (And.intro (E.res1 5 rfl rfl (jy _ _)) (And.intro (fun x=>(E.snoc (x:=x)).res1 5 rfl rfl (jy _ _)) (And.intro (fun x y=>((E.snoc (x:=x)).snoc (x:=y)).res1 5 rfl rfl (jy _ _)) (And.intro (E.res 6 rfl rfl (bI _ _)) (And.intro (fun x=>(E.snoc (x:=x)).res 6 rfl rfl (bI _ _)) (And.intro (fun x y=>((E.snoc (x:=x)).snoc (x:=y)).res 6 rfl rfl (bI _ _)) (And.intro (E.res1 8 rfl rfl (au _ _)) (And.intro (fun x=>(E.snoc (x:=x)).res1 8 rfl rfl (au _ _)) (And.intro (fun x y=>((E.snoc (x:=x)).snoc (x:=y)).res1 8 rfl rfl (au _ _)) (And.intro (E.res1 9 rfl rfl (au _ _)) (And.intro (fun x=>(E.snoc (x:=x)).res1 9 rfl rfl (au _ _)) (fun x y=>((E.snoc (x:=x)).snoc (x:=y)).res1 9 rfl rfl (au _ _)))))))))))))))))))))
 have LF:=And.intro (E.leaf 0 rfl rfl) (And.intro (E.leaf 3 rfl rfl) (And.intro (E.leaf 4 rfl rfl) (And.intro (E.leaf 5 rfl rfl) (And.intro (E.leaf 6 rfl rfl) (And.intro (E.leaf 8 rfl rfl) (E.leaf 9 rfl rfl))))))
 have LO:=And.intro (E.at0 (p:=0) (ob:=⟨5,[[iv (bH a b).node,.bool (bH a b).total.neg,ints (bH a b).total.mag,ints (bH a b).total.den,dZ (bH a b).ps]]⟩) (by simp)) (And.intro (E.at0 (p:=1) (ob:=⟨3,[[.bool (gG a b).neg,ints (gG a b).mag,ints (gG a b).den]]⟩) (by simp)) (And.intro (E.at0 (p:=VH) (ob:=⟨5,[[iv (bH a b).node,.bool (bH a b).total.neg,Gt,Gu,Gv]]⟩) (by simp)) (E.at0 (p:=VG) (ob:=⟨3,[[.bool (gG a b).neg,He,Hf]]⟩) (by simp))))
 refine vJ @Rf @LF @LO @aB @aS ?_
 refine ah (DR h.xM (x:=(bH a b)) (k:=1) (by first | omega | (constructor <;> omega)) (by first | omega | (constructor <;> omega))) ?_
 refine vJ @Rf @LF @LO @aB @aS ?_
 refine aG (fun hc=>absurd hc (by first | omega | (constructor <;> omega))) fun _=>?_
 refine vJ @Rf @LF @LO @aB @aS ?_
 refine ah (Ob h.Fv (l:=(GX a b)) (k:=1 + Cd.fC (bH a b)) (by first | omega | (constructor <;> omega)) (by first | omega | (constructor <;> omega))) ?_
 refine vJ @Rf @LF @LO @aB @aS ?_
 refine aG (fun hc=>absurd hc (by first | omega | (constructor <;> omega))) fun _=>?_
 refine vJ @Rf @LF @LO @aB @aS ?_
 refine ah (NC h.xI (x:=(gG a b)) (k:=1 + Cd.fC (bH a b) + uS Lk.ct (GX a b) (GX a b).length) (by first | omega | (constructor <;> omega)) (by first | omega | (constructor <;> omega))) ?_
 refine vJ @Rf @LF @LO @aB @aS ?_
 refine aG (fun hc=>absurd hc (by first | omega | (constructor <;> omega))) fun _=>?_
 refine vJ @Rf @LF @LO @aB @aS ?_
 refine ah (Nj h.xJ (l:=a) za) ?_
 refine vJ @Rf @LF @LO @aB @aS ?_
 refine ah (PI.frz (by exact aem (akE _ _) (bI _ _) (ahu _ _) (sN _ _))) ?_
 refine vJ @Rf @LF @LO @aB @aS ?_
 replace Rf:=And.intro (fun x y z w v=>(E.TR (x:=x) (y:=y) (z:=z) (w:=w) (v:=v)).res1 3 rfl rfl (au _ _)) (And.intro (fun x y z w v=>(E.TR (x:=x) (y:=y) (z:=z) (w:=w) (v:=v)).res1 4 rfl rfl (au _ _)) (And.intro (fun x y z w v=>(E.TR (x:=x) (y:=y) (z:=z) (w:=w) (v:=v)).res1 5 rfl rfl (jy _ _)) (And.intro (fun x y z w v=>(E.TR (x:=x) (y:=y) (z:=z) (w:=w) (v:=v)).res 6 rfl rfl (bI _ _)) (And.intro (fun x y z w v=>(E.TR (x:=x) (y:=y) (z:=z) (w:=w) (v:=v)).res1 8 rfl rfl (au _ _)) (fun x y z w v=>(E.TR (x:=x) (y:=y) (z:=z) (w:=w) (v:=v)).res1 9 rfl rfl (au _ _))))))
 refine ah (Ba h.qC (x:=(bH a b)) (y:=(bH a b)) wr wr) ?_
 refine vJ @Rf @LF @LO @aB @aS ?_
 refine ah (I5 h.xK (a:=(GX a b)) (b:=(GX a b)) we we) ?_
 refine vJ @Rf @LF @LO @aB @aS ?_
 refine ah (zW h.fA (y:=(gG a b)) (z:=(gG a b)) wz wz) ?_
 refine vJ @Rf @LF @LO @aB @aS ?_
 refine ah (DR h.xM (x:=(bH a b)) (k:=1) (by first | omega | (constructor <;> omega)) (by first | omega | (constructor <;> omega))) ?_
 refine vJ @Rf @LF @LO @aB @aS ?_
 refine aG (fun hc=>absurd hc (by first | omega | (constructor <;> omega))) fun _=>?_
 refine vJ @Rf @LF @LO @aB @aS ?_
 refine ah (Ob h.Fv (l:=(GX a b)) (k:=1 + Cd.fC (bH a b)) (by first | omega | (constructor <;> omega)) (by first | omega | (constructor <;> omega))) ?_
 refine vJ @Rf @LF @LO @aB @aS ?_
 refine aG (fun hc=>absurd hc (by first | omega | (constructor <;> omega))) fun _=>?_
 refine vJ @Rf @LF @LO @aB @aS ?_
 refine ah (NC h.xI (x:=(gG a b)) (k:=1 + Cd.fC (bH a b) + uS Lk.ct (GX a b) (GX a b).length) (by first | omega | (constructor <;> omega)) (by first | omega | (constructor <;> omega))) ?_
 refine vJ @Rf @LF @LO @aB @aS ?_
 refine aG (fun hc=>absurd hc (by first | omega | (constructor <;> omega))) fun _=>?_
 refine vJ @Rf @LF @LO @aB @aS ?_
 exact Xq
def afl (P : Program) (fid : Nat) (o : Yo) : Prop :=
 ∀ args σ r σ',o.sem args σ r σ' → ∀ w M D (vals : Array Value),fG w D (XS M D) args vals.toList → jI w D M σ → Calls P fid vals w (Post M D w σ.length r σ')
def Fits (P : Program) (ν : Nat → Option Nat) (T : Tb) : Prop :=
 ∀ fid f F,ν fid = some f → T f = some F → (∃ fn,P.funcs[fid]? = some fn ∧ aa6 P ν fn = some F) ∨ ∃ o,F.body = .lib o ∧ afl P fid o
theorem ak9 {T : Tb} {j : Job} {x : Out} (h : Run T j x) : ∀ o st,j ≠ .code (.lib o) st:=by
 induction h with
 | gc ρ hn hρ h ih=>intro o st e;cases e;exact ih o _ rfl
 | forget he ho hk h ih=>intro o st e;cases e;exact ih o _ rfl
 | re W h h' ih=>intro o st e;cases e;exact ih o _ rfl
 | _=>intro o st e;cases e
theorem ah8 {P : Program} {ν : Nat → Option Nat} {nt : Nat} {o : Yo} : ∀ c : Code,L8 P ν nt c ≠ some (.lib o):=by
 intro c h
 unfold L8 at h
 cases c <;> simp at h
 all_goals (try (split at h <;> simp at h))
theorem afm {P : Program} {ν : Nat → Option Nat} {fn : Func} {F : Fn} {o : Yo} (h : aa6 P ν fn = some F) (hb : F.body = .lib o) : False:=by
 unfold aa6 at h
 split at h <;> first | (cases h;done) | skip
 split at h <;> first | (cases h;done) | skip
 rename_i b rs' hb' ao3
 split at h <;> first | (cases h;done) | skip
 simp only [Option.some.injEq] at h
 subst h
 simp only [] at hb
 subst hb
 exact ah8 _ hb'
section
variable {P : Program} {ν : Nat → Option Nat} {T : Tb}
theorem Yb {m : Nat} {x : fP} {l : List fP} (h : VI m (x :: l) = true) : VI m l = true ∧ ∀ y ∈ l,y.i.makes = true → y.k ≠ x.k ∧ y.k < m:=by
 have hm : ∀ (l : List fP),VI m l = true → ∀ y ∈ l,y.i.makes = true → y.k < m:=by
  intro l
  induction l with
  | nil=>intro _ y hy;cases hy
  |
   cons z l ih =>
   intro h y hy hmk
   simp only [VI,Bool.and_eq_true] at h
   rcases List.mem_cons.1 hy with rfl | hy
   ·have:=h.1
    rw [if_pos hmk] at this
    simp only [Bool.and_eq_true,decide_eq_true_eq] at this
    exact this.1
   ·exact ih h.2 y hy hmk
 simp only [VI,Bool.and_eq_true] at h
 refine ⟨h.2,fun y hy hmk=>⟨?_,hm l h.2 y hy hmk⟩⟩
 by_cases hx : x.i.makes = true
 ·have:=h.1
  rw [if_pos hx] at this
  simp only [Bool.and_eq_true,decide_eq_true_eq,List.all_eq_true] at this
  have:=this.2 y hy
  simpa [hmk] using this
 ·have:=h.1
  rw [if_neg hx] at this
  simp only [beq_iff_eq] at this
  have:=hm l h.2 y hy hmk
  omega
theorem ZQ {m : Nat} : ∀ (l : List fP),VI m l = true → ∀ x ∈ l,x.i.makes = true → x.k < m
 | [],_,y,hy,_=>by cases hy
 |
  z :: l,h,y,hy,hmk=>by
  simp only [VI,Bool.and_eq_true] at h
  rcases List.mem_cons.1 hy with rfl | hy
  ·have:=h.1
   rw [if_pos hmk] at this
   simp only [Bool.and_eq_true,decide_eq_true_eq] at this
   exact this.1
  ·exact ZQ l h.2 y hy hmk
theorem afn {m : Nat} : ∀ (l : List fP),VI m l = true → ∀ (i j : Nat) (x y : fP),l[i]? = some x → l[j]? = some y → i ≠ j → x.i.makes = true → x.k ≠ y.k
 | [],_,i,j,x,y,hx,_,_,_=>by simp at hx
 |
  z :: l,h,i,j,x,y,hx,hy,hij,hmk=>by
  obtain ⟨k1,k2⟩:=Yb h
  cases i with
  |
   zero =>
   simp at hx;subst hx
   cases j with
   | zero=>exact absurd rfl hij
   |
    succ j =>
    have hy' : y ∈ l:=List.mem_of_getElem? (by simpa using hy)
    by_cases hmy : y.i.makes = true
    ·exact fun e=>(k2 y hy' hmy).1 e.symm
    ·-- one that makes none has the number m
     have hm : ∀ (l : List fP),VI m l = true → ∀ y ∈ l,y.i.makes ≠ true → y.k = m:=by
      intro l
      induction l with
      | nil=>intro _ y hy;cases hy
      |
       cons z l ih =>
       intro h y hy hn
       simp only [VI,Bool.and_eq_true] at h
       rcases List.mem_cons.1 hy with rfl | hy
       ·have:=h.1
        rw [if_neg hn] at this
        simpa using this
       ·exact ih h.2 y hy hn
     have:=hm l k1 y hy' hmy
     have h3:=ZQ _ h z (by simp) hmk
     omega
  |
   succ i =>
   have hx' : x ∈ l:=List.mem_of_getElem? (by simpa using hx)
   cases j with
   |
    zero =>
    simp at hy;subst hy
    exact (k2 x hx' hmk).1
   | succ j=>exact afn l k1 i j x y (by simpa using hx) (by simpa using hy) (by omega) hmk
theorem ZR {o : fP} {l : List fP} {st st1 st2 : St} (h1 : V6 P ν o st st1) (h2 : acS P ν l st1 st2) : acS P ν (o :: l) st st2:=by
 obtain ⟨a1,a2,a3,a4⟩:=h1
 obtain ⟨b1,b2,b3,b4⟩:=h2
 refine ⟨b1.trans a1,b2.trans a2,Nat.le_trans a3 b3,?_⟩
 intro ops dr nt m k rest htr hk M w0 D0 D a w hs hid Q hQ
 cases rest with
 | nil=>simp [Gx] at htr
 |
  cons r rest =>
  simp only [Gx] at htr
  split at htr <;> first | (cases htr;done) | skip
  rename_i x hx
  split at htr <;> first | (cases htr;done) | skip
  rename_i l' hl'
  simp only [Option.some.injEq,List.cons.injEq] at htr
  obtain ⟨rfl,rfl⟩:=htr
  obtain ⟨k1,k2⟩:=Yb hk
  have key:=a4 ops dr nt m k r hx M w0 D0 D a w hs (hid x (by simp)) (wpList P ops Q rest) Q (fun D' a' w' hs' hun=>by
   refine b4 ops dr nt m _ rest hl' k1 M w0 D0 D' a' w' hs' (fun y hy hmk=>?_) Q hQ
   rw [a1]
   obtain ⟨e1,e2⟩:=hid y (by simp [hy]) hmk
   exact ⟨Nat.lt_of_lt_of_le e1 a3,hun _ (Nat.le_add_right _ _) e1 e2 (fun h=>(k2 y hy hmk).1 (by omega))⟩)
  unfold wpList
  split
  ·rename_i hw;rw [if_pos hw] at key;exact .inl key
  ·rename_i hw;rw [if_neg hw] at key;exact key
theorem Af {nt : Nat} {cc : Code} {c : C} (h : L8 P ν nt cc = some c) : match c with
  | .skip=>cc = .skip
  | .reg d m l=>∃ id ops,cc = .region id ops d ∧ Gx P ν ops d nt m 0 ops.toList = some l
  | .seq x y=>∃ a b,cc = .seq a b ∧ L8 P ν nt a = some x ∧ L8 P ν nt b = some y
  | .cond s x y=>∃ o a b,cc = .cond o a b ∧ Ew o = some s ∧ L8 P ν nt a = some x ∧ L8 P ν nt b = some y
  | .block id x=>∃ a,cc = .block id a ∧ L8 P ν nt a = some x
  | .loop x=>∃ a,cc = .loop a ∧ L8 P ν nt a = some x
  | .exit id=>cc = .exit id
  | .ret=>cc = .ret
  | .lib _=>False:=by
 cases cc with
 | skip=>simp only [L8,Option.some.injEq] at h;subst h;rfl
 |
  region id ops d =>
  simp only [L8,Option.map_eq_some_iff] at h
  obtain ⟨l,h1,rfl⟩:=h
  exact ⟨id,ops,rfl,h1⟩
 |
  seq a b =>
  simp only [L8] at h
  split at h <;> first | (cases h;done) | skip
  rename_i x y h1 h2
  simp only [Option.some.injEq] at h;subst h
  exact ⟨a,b,rfl,h1,h2⟩
 |
  cond o a b =>
  simp only [L8] at h
  split at h <;> first | (cases h;done) | skip
  rename_i s x y h1 h2 h3
  simp only [Option.some.injEq] at h;subst h
  exact ⟨o,a,b,rfl,h1,h2,h3⟩
 |
  block id a =>
  simp only [L8,Option.map_eq_some_iff] at h
  obtain ⟨x,h1,rfl⟩:=h
  exact ⟨a,rfl,h1⟩
 |
  loop a =>
  simp only [L8,Option.map_eq_some_iff] at h
  obtain ⟨x,h1,rfl⟩:=h
  exact ⟨a,rfl,h1⟩
 | exit id=>simp only [L8,Option.some.injEq] at h;subst h;rfl
 | ret=>simp only [L8,Option.some.injEq] at h;subst h;rfl
 | _=>simp [L8] at h
theorem aaX {c : C} {e : Ex} {st st' : St} (hk : st'.keep = st.keep) (h : Uk P ν c e st st') : Yz P ν (.loop c) e st st':=by
 refine ⟨hk,?_⟩
 intro nt cc htr M w0 D0 D a w hs Q hQ
 obtain ⟨cb,rfl,hb⟩:=Af htr
 intro b k cs
 obtain ⟨x,a',w',q,harr⟩:=h nt cb hb M w0 D0 D a w hs Q hQ b k cs
 exact ⟨x,a',w',q,.of_steps (.one step_loop) harr⟩
theorem ah9 {e : Ex} (h : e ≠ .normal) : VZ e ≠ .normal:=by cases e <;> simp [VZ] at h ⊢
theorem aia {next : Act → World → Prop} {Q : Exit → Act → World → Prop} {e : Ex} (h : e ≠ .normal) {a : Act} {w : World} (hq : Q (VZ e) a w) : Exit.then next Q (VZ e) a w:=by
 cases e <;> first | (simp at h;done) | exact hq
def ND (tmps : Array Value) : ResultVar → Sem Value
 | .tmp t=>pure (tmps.getD t undef)
 | .cell q t=>do loadVar t (← asAddr (tmps.getD q undef))
theorem ZT (fn : Func) (tmps : Array Value) : results fn tmps = (do let vs ← fn.results.mapM (ND tmps);pure (if h : vs.size = 1 then vs[0] else .tuple vs)):=rfl
theorem afo (hT : Fits P ν T) {f : Nat} {args : List V} {σ : Store} {F : Fn} {o : Yo} {r : V} {σ' : Store} (hf : T f = some F) (hb : F.body = .lib o) (h : o.sem args σ r σ') : Jw P ν f args σ r σ':=by
 intro fid ala w M D vals hv hS
 rcases hT fid f F ala hf with ⟨fn,hfn,htr⟩ | ⟨o',e,hO⟩
 ·exact (afm htr hb).elim
 ·rw [hb] at e
  cases e
  exact hO args σ r σ' h w M D vals hv hS
theorem aib (hT : Fits P ν T) {f : Nat} {args : List V} {σ : Store} {F : Fn} {e : Ex} {st' : St} {rs : List V} (hf : T f = some F) (hl : args.length = F.nargs) (hnl : ∀ o,F.body ≠ .lib o)
  (ih : Yz P ν F.body e (St.enter args σ) st') (he : e = .normal ∨ e = .ret) (hr : F.res.mapM (GZ.get st') = some rs) : Jw P ν f args σ (jH rs) st'.objs:=by
 intro fid ala w M D vals hv hS
 rcases hT fid f F ala hf with ⟨fn,hfn,htr⟩ | ⟨o,e,_⟩
 case inr=>exact (hnl o e).elim
 unfold aa6 at htr
 split at htr <;> first | (cases htr;done) | skip
 rename_i body hbody
 split at htr <;> first | (cases htr;done) | skip
 rename_i b rs' hb ao3
 split at htr <;> first | (cases htr;done) | skip
 rename_i hle
 simp only [Option.some.injEq] at htr;subst htr
 have hvl : vals.size = args.length:=by simpa using (gU _ _ hv).symm
 refine calls_of_wp hfn hbody ?_
 have hs0 : SR fn.ntmps M w D (St.enter args σ) D { tmps:=vals ++ Array.replicate (fn.ntmps - vals.size) undef,defers:=[] } w:=by
  refine ⟨?_,?_,rfl,hS,Gr.refl _ _,fun o d h=>.inl ⟨o,d,h,rfl⟩,fun o _=>jV.refl _⟩
  ·intro t
   simp only [St.enter]
   by_cases ht : t < args.length
   ·obtain ⟨y,h1,h2⟩:=yO _ _ hv t args[t] (by simp [ht])
    have e1 : bM args t = args[t]:=by simp [bM,ht]
    rw [e1]
    have e2 : (vals ++ Array.replicate (fn.ntmps - vals.size) undef).getD t undef = y:=by
     rw [Array.getD_eq_getD_getElem?,Array.getElem?_append_left (by omega)]
     rw [← Array.getElem?_toList,h1];rfl
    rw [e2];exact h2
   ·have e1 : bM args t = .any:=by simp [bM,List.getD,List.getElem?_eq_none (Nat.le_of_not_lt ht)]
    rw [e1];simp only [rd]
  ·simp only [Array.size_append,Array.size_replicate];simp only [] at hl;omega
 refine ih.2 fn.ntmps body hb M w D D _ w hs0 _ ?_
 intro D' a' w' hs'
 have hres : ∃ v,(results fn a'.tmps).run P w' = .ok v w' ∧ rd w' D' (XS M D') (jH rs) v:=by
  have hlist : ∀ (vars : List ResultVar) (rl : List GZ) (vl : List V),vars.mapM (aad P) = some rl → rl.mapM (GZ.get st') = some vl →
    ∃ ys : List Value,(vars.mapM (ND a'.tmps)).run P w' = .ok ys w' ∧ fG w' D' (XS M D') vl ys:=by
   intro vars
   induction vars with
   | nil=>intro rl vl h1 h2;simp at h1;subst h1;simp at h2;subst h2;exact ⟨[],by simp,by simp [fG]⟩
   |
    cons x vars ihv =>
    intro rl vl h1 h2
    simp only [List.mapM_cons,Option.pure_def,Option.bind_eq_bind,Option.bind_eq_some_iff,Option.some.injEq] at h1
    obtain ⟨r,hr1,rl',hr2,rfl⟩:=h1
    simp only [List.mapM_cons,Option.pure_def,Option.bind_eq_bind,Option.bind_eq_some_iff,Option.some.injEq] at h2
    obtain ⟨z,hz1,vl',hz2,rfl⟩:=h2
    obtain ⟨ys,k1,k2⟩:=ihv rl' vl' hr2 hz2
    cases x with
    |
     tmp t =>
     simp only [aad,Option.some.injEq] at hr1;subst hr1
     simp only [GZ.get,Option.some.injEq] at hz1;subst hz1
     refine ⟨a'.tmps.getD t undef :: ys,?_,by simp only [fG];exact ⟨_,_,rfl,hs'.env t,k2⟩⟩
     have hg : (ND a'.tmps (.tmp t)).run P w' = .ok (a'.tmps.getD t undef) w':=rfl
     simp only [List.mapM_cons,Sem.run_bind,Sem.run_pure,Result.andThen_ok,k1,hg]
    |
     cell q t =>
     simp only [aad,Option.map_eq_some_iff] at hr1
     obtain ⟨⟨n,g⟩,hg,rfl⟩:=hr1
     simp only [GZ.get] at hz1
     split at hz1 <;> first | (cases hz1;done) | skip
     rename_i row off hrow
     obtain ⟨u,j1,j2⟩:=Ky hs'.store hg hrow (hs'.env q) hz1
     obtain ⟨bl,oo,ao4,_⟩:=VX hs'.store hrow (hs'.env q)
     refine ⟨u :: ys,?_,by simp only [fG];exact ⟨_,_,rfl,j2,k2⟩⟩
     have j1' : (loadVar t ⟨bl,oo + off,none⟩).run P w' = .ok u w':=by
      rw [ao4] at j1
      simpa [Instr.loadAt,Instr.sureAddr] using j1
     have hg : (ND a'.tmps (.cell q t)).run P w' = .ok u w':=by
      simp only [ND,ao4,asAddr,Sem.run_bind,Sem.run_pure,Result.andThen_ok,j1']
     simp only [List.mapM_cons,Sem.run_bind,Sem.run_pure,Result.andThen_ok,k1,hg]
  obtain ⟨ys,k1,k2⟩:=hlist fn.results.toList rs' rs ao3 hr
  refine ⟨if h : ys.toArray.size = 1 then ys.toArray[0] else .tuple ys.toArray,?_,?_⟩
  ·have : (fn.results.mapM (ND a'.tmps)).run P w' = .ok ys.toArray w':=by
    rw [← Array.toArray_toList (xs:=fn.results),List.mapM_toArray,Sem.run_map,k1];rfl
   rw [ZT]
   simp only [Sem.run_bind,this,Result.andThen_ok,Sem.run_pure]
  ·have hlen:=gU _ _ k2
   have gen : ∀ (rs : List V) (ys : List Value),fG w' D' (XS M D') rs ys → rs.length = ys.length → rd w' D' (XS M D') (jH rs) (if h : ys.toArray.size = 1 then ys.toArray[0] else .tuple ys.toArray):=by
    intro rs ys h hl
    cases rs with
    |
     nil =>
     cases ys with
     | nil=>simp only [jH];rw [dif_neg (by simp)];simp only [rd];exact ⟨_,rfl,h⟩
     | cons y ys=>simp at hl
    |
     cons x xs =>
     cases ys with
     | nil=>simp at hl
     |
      cons y ys =>
      cases xs with
      |
       nil =>
       cases ys with
       |
        nil =>
        simp only [fG] at h
        obtain ⟨y',ys',h0,h1,h2⟩:=h
        cases h0
        simpa [jH] using h1
       | cons y' ys=>simp at hl
      |
       cons x' xs =>
       cases ys with
       | nil=>simp at hl
       |
        cons y' ys =>
        simp only [jH]
        rw [dif_neg (by simp)]
        simp only [rd]
        exact ⟨_,rfl,h⟩
   exact gen rs ys k2 hlen
 obtain ⟨v,hv1,hv2⟩:=hres
 have hfin : bodyPost P fn (Post M D w σ.length (jH rs) st'.objs) .ret a' w' :=
  ⟨hs'.df,v,hv1,v,D',rfl,hv2,hs'.store,hs'.gr,hs'.fr,fun o ho=>hs'.kp o (by rw [ih.1];exact ho)⟩
 rcases he with rfl | rfl <;> exact hfin
theorem NG {ops : Array Oper} {dr : Bool} {nt m : Nat} : ∀ {k : Nat} {rest : List Oper} {l : List fP},Gx P ν ops dr nt m k rest = some l →
  l.length = rest.length ∧ ∀ (i : Nat) (x : fP),l[i]? = some x → ∃ o k',rest[i]? = some o ∧ Yy P ν ops dr nt m k' o = some x
 | k,[],l,h=>by simp only [Gx,Option.some.injEq] at h;subst h;simp
 |
  k,o :: rest,l,h=>by
  simp only [Gx] at h
  split at h <;> first | (cases h;done) | skip
  rename_i x hx
  split at h <;> first | (cases h;done) | skip
  rename_i l' hl'
  simp only [Option.some.injEq] at h;subst h
  obtain ⟨e1,e2⟩:=NG hl'
  refine ⟨by simp [e1],fun i y hi=>?_⟩
  cases i with
  | zero=>simp at hi;subst hi;exact ⟨o,k,rfl,hx⟩
  | succ i=>simpa using e2 i y (by simpa using hi)
theorem Yc {ops : Array Oper} {nt m k : Nat} {o : Oper} {x : fP} (h : Yy P ν ops true nt m k o = some x) : x.aft = aac o:=by
 unfold Yy at h
 split at h <;> first | (cases h;done) | skip
 split at h <;> first | (cases h;done) | skip
 simp only [Option.some.injEq] at h;subst h
 rfl
theorem Uc {ops : Array Oper} {nt m : Nat} {l : List fP} (h : Gx P ν ops true nt m 0 ops.toList = some l) {done : List Nat} {listed : Array Bool} (hs : listed.size = ops.size)
  (hl : ∀ i,listed.getD i false = true ↔ i ∈ done) {i : Nat} : i ∈ Region.ready .any ops listed ↔ oL l done i = true:=by
 obtain ⟨e1,e2⟩:=NG h
 rw [mem_ready]
 have hlt : ∀ {i : Nat},i < ops.size → (listed.getD i true = false ↔ i ∉ done):=by
  intro i hi
  have : listed.getD i true = listed.getD i false:=by
   rw [Array.getD_eq_getD_getElem?,Array.getD_eq_getD_getElem?,Array.getElem?_eq_getElem (by omega)];rfl
  rw [this]
  constructor
  ·intro h1 h2;rw [(hl i).2 h2] at h1;cases h1
  ·intro h1
   cases hb : listed.getD i false with
   | false=>rfl
   | true=>exact absurd ((hl i).1 hb) h1
 constructor
 ·rintro ⟨h1,o,ho,h2⟩
  have hi:=(Array.getElem?_eq_some_iff.1 ho).1
  have hil : i < l.length:=by rw [e1];simpa using hi
  obtain ⟨o',k',ho',hx⟩:=e2 i l[i] (by simp [hil])
  have : o' = o:=by rw [Array.getElem?_toList] at ho';rw [ho] at ho';exact (Option.some.inj ho').symm
  subst this
  unfold oL
  rw [List.getElem?_eq_getElem hil]
  simp only [Bool.and_eq_true,Bool.not_eq_true',List.all_eq_true]
  refine ⟨?_,?_⟩
  ·have:=(hlt hi).1 h1
   simpa using this
  ·intro e he
   rw [Yc hx] at he
   simp only [aac,List.mem_map,List.mem_filter] at he
   obtain ⟨ed,⟨h3,h4⟩,rfl⟩:=he
   have:=h2 ed (by simpa using h3) h4
   simpa using (hl _).1 this
 ·intro hr
  unfold oL at hr
  split at hr <;> first | (cases hr;done) | skip
  rename_i x hx
  simp only [Bool.and_eq_true,Bool.not_eq_true',List.all_eq_true] at hr
  obtain ⟨o,k',ho,htr⟩:=e2 i x hx
  have ho' : ops[i]? = some o:=by rwa [Array.getElem?_toList] at ho
  have hi:=(Array.getElem?_eq_some_iff.1 ho').1
  refine ⟨(hlt hi).2 (by simpa using hr.1),o,ho',?_⟩
  intro e he hb
  refine (hl _).2 ?_
  have:=hr.2 e.on (by rw [Yc htr];simp only [aac,List.mem_map,List.mem_filter];exact ⟨e,⟨by simpa using he,hb⟩,rfl⟩)
  simpa using this
theorem sound (hm : P.follows .mixedOrders = true) (hT : Fits P ν T) {j : Job} {o : Out} (h : Run T j o) : Sound P ν j o:=by
 induction h with
 |
  skip st =>
  refine ⟨⟨rfl,?_⟩,fun x h=>by cases h⟩
  intro nt cc htr M w0 D0 D a w hs Q hQ
  have hc : cc = .skip:=Af htr
  subst hc
  exact Go.wp_skip (hQ D a w hs)
 |
  @reg m l st st' hk h ih =>
  obtain ⟨_,i1,i2,i3,i4⟩:=ih
  refine ⟨⟨i2,?_⟩,fun x h=>by cases h⟩
  intro nt cc htr M w0 D0 D a w hs Q hQ
  obtain ⟨id,ops,rfl,hops⟩:=Af htr
  refine wp_region_list ?_
  refine i4 ops false nt m 0 ops.toList hops hk M w0 D0 D a w ⟨hs.env,hs.tm,hs.df,hs.mem m,hs.gr,hs.fr,hs.kp⟩ (fun x hx hmk=>?_) Q (fun D' a' w' h=>hQ D' a' w' h)
  have hkm : x.k < m:=by
   have : ∀ (l : List fP),VI m l = true → ∀ x ∈ l,x.i.makes = true → x.k < m:=by
    intro l
    induction l with
    | nil=>intro _ y hy;cases hy
    |
     cons z l ih =>
     intro h y hy hmk
     simp only [VI,Bool.and_eq_true] at h
     rcases List.mem_cons.1 hy with rfl | hy
     ·have:=h.1
      rw [if_pos hmk] at this
      simp only [Bool.and_eq_true,decide_eq_true_eq] at this
      exact this.1
     ·exact ih h.2 y hy hmk
   exact this l hk x hx hmk
  simp only [List.length_append,List.length_replicate]
  exact ⟨by omega,hs.store.far _ (by omega)⟩
 |
  @aiU m l st st' hk h ih =>
  obtain ⟨_,i1,i2,i3,i4⟩:=ih
  refine ⟨⟨i2,?_⟩,fun x h=>by cases h⟩
  intro nt cc htr M w0 D0 D a w hs Q hQ
  obtain ⟨id,ops,rfl,hops⟩:=Af htr
  refine wp_region_any hm ?_
  have hsd : SR nt M w0 D0 st D a { w with drawn:=w.drawn + 1 }:=by
   have hE : Ext w D (XS M D) { w with drawn:=w.drawn + 1 } D (XS M D):=⟨Nat.le_refl _,fun _ _ _=>rfl,fun _ _ h=>h,fun _=>jV.refl _⟩
   refine ⟨fun t=>dL _ _ hE (hs.env t),hs.tm,hs.df,?_,⟨hs.gr.size,hs.gr.os,hs.gr.tape,hs.gr.output,hs.gr.block⟩,hs.fr,hs.kp⟩
   refine ⟨fun o d ho=>?_,hs.store.alive,hs.store.inj,hs.store.far,hs.store.mlt⟩
   obtain ⟨ob,c,e,g1,g2,g3,g4,g5,g6,g7,g8,g9,g10,g11⟩:=hs.store.live o d ho
   refine ⟨ob,c,e,g1,g2,g3,g4,g5,g6,g7,g8,g9,g10,fun i x hi=>?_⟩
   obtain ⟨k0,y,k1,k2⟩:=g11 i x hi
   exact ⟨k0,y,k1,dL _ _ hE k2⟩
  refine i4 ops nt m hops hk M w0 D0 D a _ ⟨hsd.env,hsd.tm,hsd.df,hsd.mem m,hsd.gr,hsd.fr,hsd.kp⟩ (fun i x hx _ hmk=>?_) Q (fun D' a' w' h=>hQ D' a' w' h) _ _ (by simp) (fun i=>?_) ?_
  ·have hkm : x.k < m:=ZQ l hk x (List.mem_of_getElem? hx) hmk
   simp only [List.length_append,List.length_replicate]
   exact ⟨by omega,hsd.store.far _ (by omega)⟩
  ·simp only [Array.getD_eq_getD_getElem?,Array.getElem?_replicate]
   split <;> simp
  ·simp
 |
  @amR l done st h =>
  refine ⟨rfl,rfl,rfl,Nat.le_refl _,?_⟩
  intro ops nt m htr hk M w0 D0 D a w hs hid Q hQ fuel listed h1 h2 h3
  refine wpAny_done ?_ (hQ D a w hs) fuel
  apply List.eq_nil_iff_forall_not_mem.2
  intro i hi
  rw [Uc htr h1 h2,h i] at hi
  cases hi
 |
  @amS l done st st' i0 h0 f h h' ih ih' =>
  obtain ⟨_,b1,b2,b3,_⟩:=ih' i0 h0
  obtain ⟨x0,hx0⟩ : ∃ x0,l[i0]? = some x0:=by
   unfold oL at h0
   split at h0 <;> first | (cases h0;done) | skip
   exact ⟨_,by assumption⟩
  obtain ⟨_,a1,a2,a3,_⟩:=ih i0 x0 hx0 h0
  refine ⟨rfl,b1.trans a1,b2.trans a2,Nat.le_trans a3 b3,?_⟩
  intro ops nt m htr hk M w0 D0 D a w hs hid Q hQ fuel listed h1 h2 h3
  have ZU : ∀ i,i ∈ Region.ready .any ops listed ↔ oL l done i = true:=fun i=>Uc htr h1 h2
  have hpos : fuel ≠ 0:=by
   rintro rfl
   have hi:=(ZU i0).2 h0
   have:=(mem_ready.1 hi).1
   obtain ⟨_,o,ho,_⟩:=mem_ready.1 hi
   have hlt:=(Array.getElem?_eq_some_iff.1 ho).1
   have hmem : false ∈ listed.toList:=by
    have : listed[i0]'(by omega) = false:=by
     rw [Array.getD_eq_getD_getElem?,Array.getElem?_eq_getElem (by omega)] at this
     simpa using this
    rw [← this];simp
   have:=List.count_pos_iff.2 hmem
   omega
  obtain ⟨fuel,rfl⟩:=Nat.exists_eq_succ_of_ne_zero hpos
  refine ⟨fun hnil=>?_,fun i hi=>?_⟩
  ·have:=(ZU i0).2 h0
   rw [hnil] at this;cases this
  ·have hr:=(ZU i).1 hi
   obtain ⟨e1,e2⟩:=NG htr
   obtain ⟨_,o,ho,_⟩:=mem_ready.1 hi
   have hlt:=(Array.getElem?_eq_some_iff.1 ho).1
   have hil : i < l.length:=by rw [e1];simpa using hlt
   obtain ⟨o',k',ho',hx⟩:=e2 i l[i] (by simp [hil])
   have : o' = o:=by rw [Array.getElem?_toList] at ho';rw [ho] at ho';exact (Option.some.inj ho').symm
   subst this
   have hli : l[i]? = some l[i]:=by simp [hil]
   have hnd : i ∉ done:=by
    unfold oL at hr
    rw [hli] at hr
    simp only [Bool.and_eq_true,Bool.not_eq_true'] at hr
    simpa using hr.1
   obtain ⟨_,c1,c2,c3,c4⟩:=ih i l[i] hli hr
   obtain ⟨_,d1,d2,d3,d4⟩:=ih' i hr
   have key:=c4 ops true nt m k' o' hx M w0 D0 D a w hs (fun hmk=>hid i l[i] hli hnd hmk) (wpAny P .any ops Q fuel (listed.setIfInBounds i true)) Q (fun D' a' w' hs' hun=>by
    refine d4 ops nt m htr hk M w0 D0 D' a' w' hs' (fun j y hy hj hmk=>?_) Q hQ fuel _ (by simpa using h1) (fun j=>?_) ?_
    ·simp only [List.mem_cons,not_or] at hj
     rw [c1]
     obtain ⟨g1,g2⟩:=hid j y hy hj.2 hmk
     refine ⟨Nat.lt_of_lt_of_le g1 c3,hun _ (Nat.le_add_right _ _) g1 g2 ?_⟩
     intro he
     have hne:=afn l hk j i y l[i] hy hli hj.1 hmk
     omega
    ·rw [Array.getD_eq_getD_getElem?,Array.getElem?_setIfInBounds]
     by_cases hij : i = j
     ·subst hij
      simp [h1,hlt]
     ·rw [if_neg hij,← Array.getD_eq_getD_getElem?,h2 j]
      simp only [List.mem_cons]
      constructor
      ·exact .inr
      ·rintro (h | h)
       ·exact absurd h.symm hij
       ·exact h
    ·have hfi : listed[i]'(by omega) = false:=by
      have:=(mem_ready.1 hi).1
      rw [Array.getD_eq_getD_getElem?,Array.getElem?_eq_getElem (by omega)] at this
      simpa using this
     rw [Array.toList_setIfInBounds,List.count_set (by simpa using (by omega : i < listed.size))]
     have h4 : listed.toList[i]'(by simpa using (by omega : i < listed.size)) = false:=by simpa using hfi
     have h5 : 0 < listed.toList.count false:=List.count_pos_iff.2 (by rw [← h4];exact List.getElem_mem _)
     simp only [h4,beq_self_eq_true,if_true]
     have : (true == false) = false:=rfl
     simp only [this,Bool.false_eq_true,if_false]
     omega)
   unfold wpOp
   simp only [ho]
   split
   ·rename_i hw;rw [if_pos hw] at key;exact .inl key
   ·rename_i hw;rw [if_neg hw] at key;exact key
 |
  @amT a b st st1 o h h' ih ih' =>
  cases o with
  | fn r σ=>trivial
  | code e st2 =>
  obtain ⟨⟨i1,i2⟩,_⟩:=ih
  obtain ⟨⟨j1,j2⟩,_⟩:=ih'
  refine ⟨⟨j1.trans i1,?_⟩,fun x h=>by cases h⟩
  intro nt cc htr M w0 D0 D a w hs Q hQ
  obtain ⟨ca,cb,rfl,ha,hb⟩:=Af htr
  refine Go.wp_seq (i2 nt ca ha M w0 D0 D a w hs _ fun D' a' w' hs'=>?_)
  exact j2 nt cb hb M w0 D0 D' a' w' hs' Q hQ
 |
  @aiV a b st e st1 he h ih =>
  obtain ⟨⟨i1,i2⟩,_⟩:=ih
  refine ⟨⟨i1,?_⟩,fun x h=>by cases h⟩
  intro nt cc htr M w0 D0 D a w hs Q hQ
  obtain ⟨ca,cb,rfl,ha,hb⟩:=Af htr
  exact Go.wp_seq (i2 nt ca ha M w0 D0 D a w hs _ fun D' a' w' hs'=>aia he (hQ D' a' w' hs'))
 |
  @cond x a b st t o hx h ih =>
  cases o with
  | fn r σ=>trivial
  | code e st2 =>
  obtain ⟨⟨i1,i2⟩,_⟩:=ih
  refine ⟨⟨i1,?_⟩,fun x h=>by cases h⟩
  intro nt cc htr M w0 D0 D a w hs Q hQ
  obtain ⟨oc,ca,cb,rfl,h1,ha,hb⟩:=Af htr
  have hv:=dM hs.env h1
  rw [hx] at hv
  simp only [rd] at hv
  refine Go.wp_cond hv (i2 nt _ ?_ M w0 D0 D _ w hs Q hQ)
  cases t
  ·exact hb
  ·exact ha
 |
  @block id c st e st1 h ih =>
  obtain ⟨⟨i1,i2⟩,_⟩:=ih
  refine ⟨⟨i1,?_⟩,fun x h=>by cases h⟩
  intro nt cc htr M w0 D0 D a w hs Q hQ
  obtain ⟨ca,rfl,ha⟩:=Af htr
  refine Go.wp_block (i2 nt ca ha M w0 D0 D a w hs _ fun D' a' w' hs'=>?_)
  have:=hQ D' a' w' hs'
  cases e with
  | normal=>exact this
  | ret=>exact this
  |
   exit id' =>
   simp only [VZ,VP,Exit.inBlock] at this ⊢
   by_cases hid : id' = id
   ·simp only [hid,if_true] at this ⊢;exact this
   ·simp only [hid,if_false] at this ⊢;exact this
 |
  @acz c st st1 o h h' ih ih' =>
  cases o with
  | fn r σ=>trivial
  | code e st2 =>
  obtain ⟨⟨i1,i2⟩,_⟩:=ih
  obtain ⟨⟨j1,_⟩,j2⟩:=ih'
  have key : Uk P ν c e st st2:=by
   intro nt cc htr M w0 D0 D a w hs Q hQ b k cs
   obtain ⟨x,a1,w1,⟨D1,hx,hs1⟩,harr⟩:=i2 nt cc htr M w0 D0 D a w hs (fun x a' w'=>∃ D',x = .normal ∧ SR nt M w0 D0 st1 D' a' w') (fun D' a' w' h=>⟨D',rfl,h⟩) b (.inLoop cc :: k) cs
   subst hx
   obtain ⟨x2,a2,w2,q2,ao5⟩:=j2 c rfl nt cc htr M w0 D0 D1 a1 w1 hs1 Q hQ b k cs
   exact ⟨x2,a2,w2,q2,.of_steps (Steps.trans harr (.one step_inLoop)) ao5⟩
  exact ⟨aaX (j1.trans i1) key,fun x hx=>by cases hx;exact key⟩
 |
  @VQ c st e st1 he h ih =>
  obtain ⟨⟨i1,i2⟩,_⟩:=ih
  have key : Uk P ν c e st st1:=by
   intro nt cc htr M w0 D0 D a w hs Q hQ b k cs
   obtain ⟨x,a1,w1,⟨D1,hx,hs1⟩,harr⟩:=i2 nt cc htr M w0 D0 D a w hs (fun x a' w'=>∃ D',x = VZ e ∧ SR nt M w0 D0 st1 D' a' w') (fun D' a' w' h=>⟨D',rfl,h⟩) b (.inLoop cc :: k) cs
   subst hx
   exact ⟨_,a1,w1,hQ D1 a1 w1 hs1,.pass (x:=.inLoop cc) rfl (fun _ _=>.inl (ah9 he)) harr⟩
  exact ⟨aaX i1 key,fun x hx=>by cases hx;exact key⟩
 |
  exit id st =>
  refine ⟨⟨rfl,?_⟩,fun x h=>by cases h⟩
  intro nt cc htr M w0 D0 D a w hs Q hQ
  have hc : cc = .exit id:=Af htr
  subst hc
  exact Go.wp_exit (hQ D a w hs)
 |
  ret st =>
  refine ⟨⟨rfl,?_⟩,fun x h=>by cases h⟩
  intro nt cc htr M w0 D0 D a w hs Q hQ
  have hc : cc = .ret:=Af htr
  subst hc
  exact Go.wp_ret (hQ D a w hs)
 |
  @gc c st o ρ hn hρ h ih =>
  cases o with
  | fn r σ=>trivial
  | code e st2 =>
  obtain ⟨⟨i1,i2⟩,i3⟩:=ih
  refine ⟨⟨i1,?_⟩,?_⟩
  ·intro nt cc htr M w0 D0 D a w hs Q hQ
   exact i2 nt cc htr M w0 D0 _ a w (hs.gc hn hρ) Q hQ
  ·intro x hx nt cc htr M w0 D0 D a w hs Q hQ
   exact i3 x hx nt cc htr M w0 D0 _ a w (hs.gc hn hρ) Q hQ
 |
  nil st =>
  refine ⟨rfl,rfl,rfl,Nat.le_refl _,?_⟩
  intro ops dr nt m k rest htr hk M w0 D0 D a w hs hid Q hQ
  cases rest with
  | nil=>exact hQ D a w hs
  |
   cons r rest =>
   simp only [Gx] at htr
   split at htr <;> first | (cases htr;done) | skip
   split at htr <;> first | (cases htr;done) | skip
 |
  @cons o l st st1 out h h' ih ih' =>
  cases out with
  | fn r σ=>trivial
  | code e st2=>exact ⟨ih'.1,ZR ih.2 ih'.2⟩
 | off hg he=>exact ⟨rfl,acU hg he⟩
 | op hg h=>exact ⟨rfl,afQ hg h⟩
 | VR hg hi ha h hR ih=>exact ⟨rfl,YA hg hi ha ih hR⟩
 | acA ρ hn hρ hg hi h ih=>exact ⟨rfl,YB hn hρ hg hi ih⟩
 | acB hg hi ha h hR ih=>exact ⟨rfl,Zc hg hi ha ih hR⟩
 | acC hg hi h hl hb ih=>exact ⟨rfl,Zd hg hi ih hl hb⟩
 | @fn f args σ F e st' rs hf hl h he hr ih=>exact aib hT hf hl (fun o e=>ak9 h o (St.enter args σ) (by rw [e])) ih.1 he hr
 | lib hf hb h=>exact afo hT hf hb h
 | frz h hr ih=>exact acY hr ih
 | gcF ρ hn hρ h ih=>exact acX hn hρ ih
 |
  @forget c st st2 o he ho hk h' ih =>
  cases o with
  | fn r σ=>trivial
  | code e st3 =>
  obtain ⟨⟨i1,i2⟩,i3⟩:=ih
  refine ⟨⟨i1.trans hk,?_⟩,?_⟩
  ·intro nt cc htr M w0 D0 D a w hs Q hQ
   exact i2 nt cc htr M w0 D0 _ a w (hs.forget he ho hk) Q hQ
  ·intro x hx nt cc htr M w0 D0 D a w hs Q hQ
   exact i3 x hx nt cc htr M w0 D0 _ a w (hs.forget he ho hk) Q hQ
 |
  @re c st st2 o W h h' ih =>
  cases o with
  | fn r σ=>trivial
  | code e st3 =>
  obtain ⟨⟨i1,i2⟩,i3⟩:=ih
  refine ⟨⟨i1.trans h.keep,?_⟩,?_⟩
  ·intro nt cc htr M w0 D0 D a w hs Q hQ
   exact i2 nt cc htr M w0 D0 _ a w (hs.re h) Q hQ
  ·intro x hx nt cc htr M w0 D0 D a w hs Q hQ
   exact i3 x hx nt cc htr M w0 D0 _ a w (hs.re h) Q hQ
 | reF W ha h hs hr ih=>exact aee ha hs hr ih
 | Yq ha h hr ih=>exact abM ha hr ih
end
end Go.Ml
end
section
namespace Go.Ml
open Go.ChangeShapes Go.WideShapes Go.ChangeAt Go.RowKit
def Oz : List (Nat × Nat × Fn) → Nat → Option Nat
 | [],_=>none
 | x :: l,i=>if x.1 = i then some x.2.1 else Oz l i
def aV : List (Nat × Nat × Fn) → Tb
 | [],_=>none
 | x :: l,k=>if x.2.1 = k then some x.2.2 else aV l k
theorem Yd : ∀ {l : List (Nat × Nat × Fn)} {i k : Nat},Oz l i = some k → ∃ x ∈ l,x.1 = i ∧ x.2.1 = k
 | [],_,_,h=>by simp [Oz] at h
 |
  x :: l,i,k,h=>by
  simp only [Oz] at h
  split at h
  ·rename_i e;exact ⟨x,by simp,e,by simpa using h⟩
  ·obtain ⟨y,hy,e⟩:=Yd h;exact ⟨y,by simp [hy],e⟩
theorem Ye : ∀ {l : List (Nat × Nat × Fn)} {k : Nat} {F : Fn},aV l k = some F → ∃ x ∈ l,x.2.1 = k ∧ x.2.2 = F
 | [],_,_,h=>by simp [aV] at h
 |
  x :: l,i,k,h=>by
  simp only [aV] at h
  split at h
  ·rename_i e;exact ⟨x,by simp,e,by simpa using h⟩
  ·obtain ⟨y,hy,e⟩:=Ye h;exact ⟨y,by simp [hy],e⟩
theorem GY {α β : Type} {f : α → β} : ∀ {l : List α},(l.map f).Nodup → ∀ {x y},x ∈ l → y ∈ l → f x = f y → x = y
 | [],_,_,_,h,_,_=>by cases h
 |
  a :: l,hn,x,y,hx,hy,e=>by
  simp only [List.map_cons,List.nodup_cons] at hn
  rcases List.mem_cons.1 hx with rfl | hx' <;> rcases List.mem_cons.1 hy with rfl | hy'
  ·rfl
  ·exact absurd (e ▸ List.mem_map_of_mem hy') hn.1
  ·exact absurd (e ▸ List.mem_map_of_mem hx') hn.1
  ·exact GY hn.2 hx' hy' e
theorem aic {P : Program} {l : List (Nat × Nat × Fn)} (hnd : (l.map (·.2.1)).Nodup) (h : ∀ x ∈ l,(∃ fn,P.funcs[x.1]? = some fn ∧ aa6 P (Oz l) fn = some x.2.2) ∨ ∃ o,x.2.2.body = .lib o ∧ afl P x.1 o) : Fits P (Oz l) (aV l):=by
 intro fid f F h1 h2
 obtain ⟨x,hx,e1,e2⟩:=Yd h1
 obtain ⟨y,hy,e3,e4⟩:=Ye h2
 have : x = y:=GY hnd hx hy (e2.trans e3.symm)
 subst this
 rw [← e1,← e4]
 exact h x hx
theorem afp {P : Program} {l : List (Nat × Nat × Fn)} (hm : P.follows .mixedOrders = true) (hT : Fits P (Oz l) (aV l)) {f fid : Nat} {args : List V} {r : V} (h : PF (aV l) f args r) (hf : Oz l fid = some f)
  {w : World} {vals : Array Value} (hr : fG w DM.none (fun _=>False) args vals.toList) :
  Calls P fid vals w fun e w'=>(∃ v D X,e = .returned v ∧ rd w' D X r v) ∧ Below w.heap.size w w':=by
 have hs:=sound hm hT h
 have hX : XS (fun _=>False) DM.none = fun _=>False:=by
  funext b;simp [XS,DM.none]
 refine (hs fid hf w (fun _=>False) DM.none vals (by rw [hX];exact hr) ⟨?_,?_,?_,?_,?_⟩).mono fun e w' hp=>?_
 ·intro o d h;cases h
 ·intro o ob h;simp [aj] at h
 ·intro o o' d d' h;cases h
 ·intro o _;rfl
 ·intro b h;exact h.elim
 ·obtain ⟨v,D',e1,e2,e3,e4,_⟩:=hp
  refine ⟨⟨v,D',_,e1,e2⟩,⟨e4.os,e4.tape,e4.output,e4.size,fun k hk=>e4.block k hk ?_⟩⟩
  rintro ⟨o,d,h,_⟩;cases h
theorem ZV {P : Program} {l : List (Nat × Nat × Fn)} (hm : P.follows .mixedOrders = true) (hT : Fits P (Oz l) (aV l)) {f fid : Nat} {args : List V} (h : PF (aV l) f args (.bool true)) (hf : Oz l fid = some f)
  {w : World} {vals : Array Value} (hr : fG w DM.none (fun _=>False) args vals.toList) :
  Calls P fid vals w fun e w'=>e = .returned (.bool true) ∧ Below w.heap.size w w' :=
 (afp hm hT h hf hr).mono fun e w' hp=>by
  obtain ⟨⟨v,D,X,rfl,e2⟩,hb⟩:=hp
  have : v = .bool true:=by simpa [rd] using e2
  exact ⟨by rw [this],hb⟩
end Go.Ml
end
section
namespace Go.Ml
open Go.ChangeShapes Go.WideShapes Go.ChangeAt Go.RowKit
inductive Lf where
 | int (k : IntKind)
 | bool
 | str
 | sl (row : List Lf)
mutual
def Mt : Lf → V → Prop
 | .int k,v=>∃ n,v = .int k n ∧ (Lit.int k n).wf = true
 | .bool,v=>∃ b,v = .bool b
 | .str,v=>∃ s,v = .str s ∧ s.length ≤ maxLen
 | .sl row,v=>∃ rows : List (List V),v = .sl row.length rows ∧ rows.length ≤ maxLen ∧ ∀ r ∈ rows,FB row r
def FB : List Lf → List V → Prop
 | [],vs=>vs = []
 | l :: ls,vs=>∃ v vs',vs = v :: vs' ∧ Mt l v ∧ FB ls vs'
end
def afq (P : Program) (sh : TypeId → Option (List Lf)) : List Field → Nat → Option (List Lf)
 | [],_=>some []
 |
  f :: fs,off=>match sh f.type,afq P sh fs (off + P.cellsOf f.type) with
  | some r,some rs=>if f.offset = off ∧ r.length = P.cellsOf f.type then some (r ++ rs) else none
  | _,_=>none
def shapeOf (P : Program) : Nat → TypeId → Option (List Lf)
 | 0,_=>none
 |
  n + 1,t=>match P.underlying t with
  | some (.int k)=>some [.int k]
  | some .bool=>some [.bool]
  | some .string=>some [.str]
  |
   some (.slice e)=>match shapeOf P n e with
   | some r=>if r.length = P.cellsOf e ∧ 0 < r.length then some [.sl r] else none
   | none=>none
  |
   some (.struct fs)=>match afq P (shapeOf P n) fs.toList 0 with
   | some r=>if r.length = P.cellsOf t then some r else none
   | none=>none
  | _=>none
theorem ZW {l1 l2 : List Lf} {v1 v2 : List V} (h1 : FB l1 v1) (h2 : FB l2 v2) : FB (l1 ++ l2) (v1 ++ v2):=by
 induction l1 generalizing v1 with
 | nil=>simp only [FB] at h1;subst h1;simpa using h2
 |
  cons l l1 ih =>
  simp only [FB] at h1
  obtain ⟨v,vs,rfl,a,b⟩:=h1
  simp only [List.cons_append,FB]
  exact ⟨v,vs ++ v2,rfl,a,ih b⟩
theorem aaY {l : List Lf} {v : List V} (h : FB l v) : v.length = l.length:=by
 induction l generalizing v with
 | nil=>simp only [FB] at h;subst h;rfl
 |
  cons x l ih =>
  simp only [FB] at h
  obtain ⟨v,vs,rfl,a,b⟩:=h
  simp [ih b]
theorem aie : ∀ {l : Lf} {v : V},Mt l v → v.leaf = true:=by
 intro l v h
 cases l <;> simp only [Mt] at h
 ·obtain ⟨n,rfl,_⟩:=h;rfl
 ·obtain ⟨b,rfl⟩:=h;rfl
 ·obtain ⟨s,rfl,_⟩:=h;rfl
 ·obtain ⟨rows,rfl,_⟩:=h;rfl
theorem afr {l : List Lf} {v : List V} (h : FB l v) : ∀ x ∈ v,x.leaf = true:=by
 induction l generalizing v with
 | nil=>simp only [FB] at h;subst h;intro x hx;cases hx
 |
  cons y l ih =>
  simp only [FB] at h
  obtain ⟨v,vs,rfl,a,b⟩:=h
  intro x hx
  rcases List.mem_cons.1 hx with rfl | hx
  ·exact aie a
  ·exact ih b x hx
theorem Ud {w : World} {D : DM} {X : Nat → Prop} {b sz : Nat} : ∀ (off : Nat) (rows : List (List V)),
  (∀ i r,rows[i]? = some r → r.length = sz ∧ dU w D X b (off + i * sz) r) → iE w D X b sz off rows
 | _,[],_=>by simp [iE]
 |
  off,r :: rows,h=>by
  simp only [iE]
  have h0:=h 0 r rfl
  refine ⟨h0.1,by simpa using h0.2,Ud (off + sz) rows fun i r' hi=>?_⟩
  have:=h (i + 1) r' (by simpa using hi)
  rwa [show off + (i + 1) * sz = off + sz + i * sz by rw [Nat.succ_mul];omega] at this
theorem IC {w : World} {D : DM} {X : Nat → Prop} {b : Nat} : ∀ (off : Nat) (vs : List V) (cs : List Value),fG w D X vs cs → (∀ x ∈ vs,x.leaf = true) →
  (∀ i,i < cs.length → w.cell? ⟨b,off + i,none⟩ = cs[i]?) → dU w D X b off vs
 | _,[],_,_,_,_=>by simp [dU]
 |
  off,v :: vs,cs,h,hl,hc=>by
  simp only [fG] at h
  obtain ⟨y,ys,rfl,h1,h2⟩:=h
  simp only [dU]
  refine ⟨hl v (by simp),⟨y,by simpa using hc 0 (by simp),h1⟩,IC (off + 1) vs ys h2 (fun x hx=>hl x (by simp [hx])) fun i hi=>?_⟩
  have:=hc (i + 1) (by simpa using hi)
  rw [show off + 1 + i = off + (i + 1) by omega,this]
  simp
section
variable {H : Type} {enc : TypeId × Value → H} {P : Program} {w : World}
theorem Rk : ∀ (n : Nat) {t : TypeId} {L : List Lf} {fuel : Nat} {cs : List Value} {x : DataW H × List MemPlace},shapeOf P n t = some L →
  DataW.trod enc P w 0 (fun _=>true) true fuel t cs = some x → ∃ vs,FB L vs ∧ fG w DM.none (fun _=>False) vs cs
 | 0,t,L,fuel,cs,x,h,_=>by simp [shapeOf] at h
 |
  n + 1,t,L,fuel,cs,x,h,hx=>by
  cases fuel with
  | zero=>simp [DataW.trod] at hx
  | succ fuel =>
  simp only [shapeOf] at h
  split at h
  ·rename_i k hu
   simp only [Option.some.injEq] at h;subst h
   obtain ⟨m,rfl,_,hw⟩:=DataW.trod_int hu hx
   exact ⟨[.int k m],by simp [FB,Mt,hw],by simp [fG,rd]⟩
  ·rename_i hu
   simp only [Option.some.injEq] at h;subst h
   rw [DataW.trod_step] at hx
   unfold DataW.trodStep at hx
   rw [hu] at hx
   split at hx <;> simp_all
   rename_i b
   exact ⟨[.bool b],by simp [FB,Mt],by simp [fG,rd]⟩
  ·rename_i hu
   simp only [Option.some.injEq] at h;subst h
   rw [DataW.trod_step] at hx
   unfold DataW.trodStep at hx
   rw [hu] at hx
   split at hx <;> simp_all
   rename_i s
   exact ⟨[.str s.data.toList],by simp [FB,Mt];exact hx.1,by simp [fG,rd]⟩
  ·rename_i e hu
   split at h <;> first | (cases h;done) | skip
   rename_i r hr
   split at h <;> first | (cases h;done) | skip
   rename_i hsz
   simp only [Option.some.injEq] at h;subst h
   rcases DataW.trod_slice hu hx with ⟨rfl,_⟩ | ⟨a,len,cap,elems,rest,m,_,rfl,_,hb,hl,hm,hlen,hel,_,_⟩
   ·exact ⟨[.sl r.length []],by simp [FB,Mt],by simp only [fG,rd];exact ⟨_,[],rfl,⟨none,0,rfl,Nat.le_refl _,.inl (by trivial)⟩,rfl⟩⟩
   ·have atG : ∀ i,i < len → ∃ cs',w.cells? 0 (a.add (i * P.cellsOf e)) (P.cellsOf e) = some cs' ∧ ∃ vs,FB r vs ∧ fG w DM.none (fun _=>False) vs cs':=by
     intro i hi
     have h1:=hel i hi
     have h2 : elems[i]? = some (elems[i]'(by omega)):=List.getElem?_eq_getElem (by omega)
     rw [h2,Option.bind_eq_some_iff] at h1
     obtain ⟨cs',k1,k2⟩:=h1
     exact ⟨cs',k1,Rk n hr k2⟩
    have hch : ∀ i,∃ p : List Value × List V,i < len → w.cells? 0 (a.add (i * P.cellsOf e)) (P.cellsOf e) = some p.1 ∧ FB r p.2 ∧ fG w DM.none (fun _=>False) p.2 p.1:=by
     intro i
     by_cases hi : i < len
     ·obtain ⟨cs',k1,vs,k2,k3⟩:=atG i hi
      exact ⟨(cs',vs),fun _=>⟨k1,k2,k3⟩⟩
     ·exact ⟨([],[]),fun h=>absurd h hi⟩
    obtain ⟨f,hf⟩:=Classical.axiomOfChoice hch
    have hrow : ∀ i vs,((List.range len).map fun i=>(f i).2)[i]? = some vs → i < len ∧ vs = (f i).2:=by
     intro i vs hi
     rw [List.getElem?_map,Option.map_eq_some_iff] at hi
     obtain ⟨j,h1,h2⟩:=hi
     obtain ⟨h3,h4⟩:=List.getElem?_eq_some_iff.1 h1
     rw [List.getElem_range] at h4
     subst h4
     exact ⟨by simpa using h3,h2.symm⟩
    refine ⟨[.sl r.length ((List.range len).map fun i=>(f i).2)],?_,?_⟩
    ·simp only [FB,Mt]
     refine ⟨_,[],rfl,⟨_,rfl,by simp;exact Nat.le_trans hl hm,fun rr hrr=>?_⟩,rfl⟩
     obtain ⟨i,hi⟩:=List.mem_iff_getElem?.1 hrr
     obtain ⟨h1,rfl⟩:=hrow i rr hi
     exact (hf i h1).2.1
    ·simp only [fG,rd]
     refine ⟨_,[],rfl,⟨some a,cap,by simp,by simpa using hl,?_⟩,rfl⟩
     by_cases h0 : len = 0
     ·left;subst h0;rfl
     ·right
      obtain ⟨b,off,spot⟩:=a
      have hspot : spot = none:=by
       obtain ⟨_,_,hc⟩:=World.cells?_some (hf 0 (by omega)).1
       have hlen0:=(World.cells?_some (hf 0 (by omega)).1).2.1
       have hc0:=hc 0 (by omega)
       have hlt0 : 0 < (f 0).1.length:=by omega
       rw [List.getElem?_eq_getElem hlt0] at hc0
       simpa [Addr.add] using World.cell?_spot hc0
      subst hspot
      have hb' : b < w.heap.size:=by
       have:=World.cells?_block (hf 0 (by omega)).1 (by omega)
       simpa [Addr.add] using this
      refine ⟨b,off,rfl,hb',fun h=>h,Ud _ _ fun i rr hi=>?_⟩
      obtain ⟨h1,rfl⟩:=hrow i rr hi
      obtain ⟨g1,g2,g3⟩:=hf i h1
      obtain ⟨_,hl2,hc⟩:=World.cells?_some g1
      refine ⟨aaY g2,IC _ _ _ g3 (afr g2) fun j hj=>?_⟩
      have:=hc j (by omega)
      rw [← this,hsz.1]
      congr 1
      simp only [addr_add]
  ·rename_i fs hu
   split at h <;> first | (cases h;done) | skip
   rename_i r hr
   split at h <;> first | (cases h;done) | skip
   rename_i hsz
   simp only [Option.some.injEq] at h;subst h
   rw [DataW.trod_step] at hx
   unfold DataW.trodStep at hx
   rw [hu] at hx
   simp only [] at hx
   split at hx <;> first | (cases hx;done) | skip
   rename_i hlen
   rw [Option.map_eq_some_iff] at hx
   obtain ⟨xs,hxs,_⟩:=hx
   have key : ∀ (fl : List Field) (off : Nat) (r : List Lf) (xs : List (DataW H × List MemPlace)),afq P (shapeOf P n) fl off = some r →
     (fl.mapM fun f=>DataW.trod enc P w 0 (fun _=>true) true fuel f.type ((cs.drop f.offset).take (P.cellsOf f.type))) = some xs →
     ∃ vs,FB r vs ∧ fG w DM.none (fun _=>False) vs ((cs.drop off).take r.length):=by
    intro fl
    induction fl with
    |
     nil =>
     intro off r xs h _
     simp only [afq,Option.some.injEq] at h;subst h
     exact ⟨[],by simp [FB],by simp [fG]⟩
    |
     cons f fl ih =>
     intro off r xs h hm
     simp only [afq] at h
     split at h <;> first | (cases h;done) | skip
     rename_i r1 rs h1 h2
     split at h <;> first | (cases h;done) | skip
     rename_i hc
     simp only [Option.some.injEq] at h;subst h
     simp only [List.mapM_cons,Option.pure_def,Option.bind_eq_bind,Option.bind_eq_some_iff,Option.some.injEq] at hm
     obtain ⟨y,hy,ys,hys,rfl⟩:=hm
     obtain ⟨v1,a1,a2⟩:=Rk n h1 hy
     obtain ⟨v2,b1,b2⟩:=ih _ rs ys h2 hys
     refine ⟨v1 ++ v2,ZW a1 b1,?_⟩
     have e : (cs.drop off).take (r1 ++ rs).length = (cs.drop off).take r1.length ++ (cs.drop (off + P.cellsOf f.type)).take rs.length:=by
      rw [List.length_append,List.take_add,List.drop_drop,hc.2]
     rw [e]
     rw [hc.1,← hc.2] at a2
     exact yc _ _ _ _ a2 b2
   obtain ⟨vs,a1,a2⟩:=key fs.toList 0 r xs hr hxs
   refine ⟨vs,a1,?_⟩
   rw [List.drop_zero,List.take_of_length_le (by omega)] at a2
   exact a2
  ·cases h
theorem afs (n : Nat) {t : TypeId} {L : List Lf} {v : Value} {d : DataW H} {ps : List MemPlace} (hs : shapeOf P n t = some L) (h : DataW.Trod enc P w 0 (fun _=>true) true t v d ps) :
  ∃ vs,FB L vs ∧ fG w DM.none (fun _=>False) vs v.cells.toList:=by
 obtain ⟨fuel,hf⟩:=h
 exact Rk n hs hf
end
end Go.Ml
namespace Go.Ml
open Go.ChangeShapes Go.WideShapes Go.ChangeAt Go.RowKit
def afu (g : Bool) (vs : List V) : V:=if g = true then .agg vs else vs.headD .any
def ZX : List (Bool × List Lf) → List V → Prop
 | [],vs=>vs = []
 | s :: ss,vs=>∃ cs rest,vs = afu s.1 cs :: rest ∧ FB s.2 cs ∧ ZX ss rest
def aiS (P : Program) (t : TypeId) (s : Bool × List Lf) : Bool :=
 match P.underlying t with
 | some (.struct _)=>s.1
 | some (.int _) | some .bool | some .string | some (.slice _)=>!s.1
 | _=>false
def Rl (P : Program) : List TypeId → List (Bool × List Lf) → Prop
 | [],ss=>ss = []
 | t :: ts,ss=>∃ s rest,ss = s :: rest ∧ shapeOf P 20 t = some s.2 ∧ aiS P t s = true ∧ Rl P ts rest
theorem aaZ {H : Type} {enc : TypeId × Value → H} {P : Program} {w : World} {r : Reach} {b : Nat} : ∀ {ts : List TypeId} {ss : List (Bool × List Lf)} {vs : List Value} {ds : List (DataW H)} {ps : List MemPlace},
  Rl P ts ss → (∀ (j : Nat) t v,ts[j]? = some t → vs[j]? = some v → Value.okWide P w r b t v) → DataW.TrodAll enc P w 0 (fun _=>true) true ts vs ds ps →
  ∃ Vs,ZX ss Vs ∧ fG w DM.none (fun _=>False) Vs vs
 | [],ss,[],ds,ps,h,_,_=>by simp only [Rl] at h;subst h;exact ⟨[],rfl,by simp [fG]⟩
 | [],_,_ :: _,ds,ps,_,_,ht=>by cases ds <;> exact ht.elim
 | _ :: _,_,[],ds,ps,_,_,ht=>by cases ds <;> exact ht.elim
 | t :: ts,ss,v :: vs,[],ps,_,_,ht=>ht.elim
 |
  t :: ts,ss,v :: vs,d :: ds,ps,h,hw,ht=>by
  simp only [Rl] at h
  obtain ⟨s,rest,rfl,h1,h2,h3⟩:=h
  obtain ⟨p,q,k1,k2,_⟩:=ht
  obtain ⟨Vs,a1,a2⟩:=aaZ h3 (fun j t' v' hj hv=>hw (j + 1) t' v' (by simpa using hj) (by simpa using hv)) k2
  obtain ⟨cs,c1,c2⟩:=afs 20 h1 k1
  have hok:=hw 0 t v rfl rfl
  refine ⟨afu s.1 cs :: Vs,⟨cs,Vs,rfl,c1,a1⟩,?_⟩
  simp only [fG]
  refine ⟨v,vs,rfl,?_,a2⟩
  unfold aiS at h2
  have one : (∀ cs',v ≠ .agg cs') → s.1 = false → s.2.length = 1 → rd w DM.none (fun _=>False) (afu s.1 cs) v:=by
   intro hv hs hl
   have hvc : v.cells.toList = [v]:=by cases v <;> first | rfl | (exact absurd rfl (hv _))
   rw [hvc] at c2
   have:=aaY c1
   rw [hl] at this
   cases cs with
   | nil=>simp at this
   |
    cons x xs =>
    simp only [fG] at c2
    obtain ⟨y,ys,e,e2,_⟩:=c2
    simp only [List.cons.injEq] at e
    rw [hs]
    simp only [afu,Bool.false_eq_true,if_false,List.headD_cons]
    rw [e.1];exact e2
  unfold shapeOf at h1
  split at h2
  ·rename_i fs hu
   rw [h2]
   simp only [Value.okWide,hu] at hok
   obtain ⟨cs',rfl,_⟩:=hok
   simp only [afu,if_true,rd]
   exact ⟨cs',rfl,c2⟩
  ·rename_i k hu
   rw [hu] at h1
   simp only [Option.some.injEq] at h1
   obtain ⟨n,rfl⟩:=okWide_int hu hok
   exact one (by intro cs' e;cases e) (by simpa using h2) (by rw [← h1];rfl)
  ·rename_i hu
   rw [hu] at h1
   simp only [Option.some.injEq] at h1
   obtain ⟨n,rfl⟩:=okWide_bool hu hok
   exact one (by intro cs' e;cases e) (by simpa using h2) (by rw [← h1];rfl)
  ·rename_i hu
   rw [hu] at h1
   simp only [Option.some.injEq] at h1
   obtain ⟨n,rfl⟩:=okWide_string hu hok
   exact one (by intro cs' e;cases e) (by simpa using h2) (by rw [← h1];rfl)
  ·rename_i e hu
   rw [hu] at h1
   simp only [] at h1
   obtain ⟨a0,l0,c0,rfl⟩:=okWide_slice hu hok
   refine one (by intro cs' e;cases e) (by simpa using h2) ?_
   split at h1 <;> first | (cases h1;done) | skip
   split at h1 <;> first | (cases h1;done) | skip
   simp only [Option.some.injEq] at h1
   rw [← h1];rfl
  ·cases h2
theorem Jq {H : Type} {enc : TypeId × Value → H} {P : Program} (hl : laidOutB P = true) {W W' : World} (hb : Below W.heap.size W W') : ∀ {ts : List TypeId} {vs : List Value} {ds : List (DataW H)} {ps : List MemPlace},
  (ts.all fun t=>P.readableRec t && decide (t < P.types.size)) = true → DataW.TrodAll enc P W 0 (fun _=>true) true ts vs ds ps → (∀ x ∈ ps,x.block < W.heap.size) →
  DataW.TrodAll enc P W' 0 (fun b=>decide (b < W.heap.size)) true ts vs ds ps
 | [],[],[],ps,_,h,_=>h
 | [],_ :: _,ds,ps,_,ht,_=>by cases ds <;> exact ht.elim
 | [],[],_ :: _,ps,_,ht,_=>ht.elim
 | _ :: _,[],ds,ps,_,ht,_=>by cases ds <;> exact ht.elim
 | t :: ts,v :: vs,[],ps,_,ht,_=>ht.elim
 |
  t :: ts,v :: vs,d :: ds,ps,h,ht,hlt=>by
  simp only [List.all_cons,Bool.and_eq_true,decide_eq_true_eq] at h
  obtain ⟨p,q,k1,k2,rfl⟩:=ht
  exact ⟨p,q,Below.trod hl h.1.1 h.1.2 k1 hb fun x hx=>hlt x (by simp [hx]),Jq hl hb (by simpa using h.2) k2 fun x hx=>hlt x (by simp [hx]),rfl⟩
end Go.Ml
end
section
namespace Go.Ml
theorem Fz : ∀ {a b : List Lf} {vs : List V},FB (a ++ b) vs → ∃ v1 v2,vs = v1 ++ v2 ∧ FB a v1 ∧ FB b v2
 | [],b,vs,h=>⟨[],vs,rfl,by simp [FB],h⟩
 |
  x :: a,b,vs,h=>by
  simp only [List.cons_append,FB] at h
  obtain ⟨v,vs',rfl,h1,h2⟩:=h
  obtain ⟨v1,v2,rfl,h3,h4⟩:=Fz h2
  refine ⟨v :: v1,v2,rfl,?_,h4⟩
  simp only [FB];exact ⟨v,v1,rfl,h1,h3⟩
theorem Yf {α : Type} {row : List Lf} {f : α → List V} {W : α → Prop} (h : ∀ r,FB row r → ∃ x,r = f x ∧ W x) {v : V} (hv : Mt (.sl row) v) : ∃ l : List α,v = .sl row.length (l.map f) ∧ Hl W l:=by
 simp only [Mt] at hv
 obtain ⟨rows,rfl,hl,hr⟩:=hv
 have key : ∀ rows : List (List V),(∀ r ∈ rows,FB row r) → ∃ l : List α,rows = l.map f ∧ ∀ x ∈ l,W x:=by
  intro rows
  induction rows with
  | nil=>intro _;exact ⟨[],rfl,by simp⟩
  |
   cons r rows ih =>
   intro hr
   obtain ⟨x,rfl,hx⟩:=h r (hr r (by simp))
   obtain ⟨l,rfl,hl⟩:=ih fun r hr'=>hr r (by simp [hr'])
   exact ⟨x :: l,rfl,by simpa using ⟨hx,hl⟩⟩
 obtain ⟨l,rfl,hw⟩:=key rows hr
 exact ⟨l,rfl,by simpa [maxLen] using hl,hw⟩
theorem Rn {v : V} (h : Mt (.int .i64) v) : ∃ n,v = iv n ∧ (Lit.int .i64 n).wf = true:=by simpa only [Mt] using h
theorem aif {n : Int} (h : (Lit.int .i64 n).wf = true) : -9223372036854775808 ≤ n ∧ n ≤ 9223372036854775807:=by
 simp only [Lit.wf,Bool.and_eq_true,decide_eq_true_eq] at h
 have h1 : IntKind.i64.min = -9223372036854775808:=by decide
 have h2 : IntKind.i64.max = 9223372036854775807:=by decide
 rw [h1,h2] at h;exact h
theorem afv {v : V} (h : Mt .bool v) : ∃ b,v = .bool b:=by simpa only [Mt] using h
theorem O7 {l : Lf} {r : List V} (h : FB [l] r) : ∃ v,r = [v] ∧ Mt l v:=by
 simp only [FB] at h
 obtain ⟨v,vs,rfl,h1,rfl⟩:=h
 exact ⟨v,rfl,h1⟩
abbrev shI : Lf:=.sl [.int .i64]
abbrev shR : List Lf:=[.bool,shI,shI]
abbrev alb : List Lf:=[.int .i64] ++ ([.int .i64] ++ (shR ++ (shR ++ shR)))
theorem Yg {v : V} (h : Mt shI v) : ∃ l : List Int,v = ints l ∧ l.length ≤ 9223372036854775807:=by
 obtain ⟨l,rfl,hl⟩:=Yf (f:=fun n=>[iv n]) (W:=fun _=>True) (fun r hr=>by
  obtain ⟨v,rfl,g⟩:=O7 hr
  obtain ⟨n,rfl,_⟩:=Rn g
  exact ⟨n,rfl,trivial⟩) h
 exact ⟨l,rfl,hl.1⟩
theorem afw {vs : List V} (h : FB shR vs) : ∃ r : R,vs = r.cells ∧ r.wf:=by
 simp only [FB] at h
 obtain ⟨v1,_,rfl,h1,v2,_,rfl,h2,v3,_,rfl,h3,rfl⟩:=h
 obtain ⟨b,rfl⟩:=afv h1
 obtain ⟨m,rfl,hm⟩:=Yg h2
 obtain ⟨d,rfl,hd⟩:=Yg h3
 exact ⟨⟨b,m,d⟩,rfl,hm,hd⟩
theorem Yh {vs : List V} (h : FB [.int .i64] vs) : ∃ n,vs = [iv n]:=by
 obtain ⟨v,rfl,g⟩:=O7 h
 obtain ⟨n,rfl,_⟩:=Rn g
 exact ⟨n,rfl⟩
theorem alc {vs : List V} (h : FB alb vs) : ∃ p : Lk,vs = p.cells ∧ p.wf:=by
 obtain ⟨v1,v2,rfl,h1,h⟩:=Fz h
 obtain ⟨v2,v3,rfl,h2,h⟩:=Fz h
 obtain ⟨v3,v4,rfl,h3,h⟩:=Fz h
 obtain ⟨v4,v5,rfl,h4,h5⟩:=Fz h
 obtain ⟨a,rfl⟩:=Yh h1
 obtain ⟨b,rfl⟩:=Yh h2
 obtain ⟨x,rfl,hx⟩:=afw h3
 obtain ⟨y,rfl,hy⟩:=afw h4
 obtain ⟨z,rfl,hz⟩:=afw h5
 exact ⟨⟨a,b,x,y,z⟩,rfl,hx,hy,hz⟩
theorem aii {v : V} (h : Mt (.sl alb) v) : ∃ l,v = bf l ∧ Hl Lk.wf l:=Yf (fun _ hr=>alc hr) h
def afx {α : Type} (P : α → Prop) : List α → Prop
 | []=>True
 | x :: l=>P x ∧ afx P l
theorem afx.mem {α : Type} {P : α → Prop} : ∀ {l : List α},afx P l → ∀ x ∈ l,P x
 | [],_,x,hx=>by cases hx
 |
  y :: l,h,x,hx=>by
  rcases List.mem_cons.1 hx with rfl | hx
  ·exact h.1
  ·exact afx.mem h.2 x hx
end Go.Ml
namespace Go.Ml
theorem Yi {H : Type} {enc : TypeId × Value → H} {P : Program} {w : World} {b : Nat} {sp : Nat → Bool} {hd : Bool} : ∀ {ts : List TypeId} {vs : List Value} {ds : List (DataW H)} {ps : List MemPlace},
  DataW.TrodAll enc P w b sp hd ts vs ds ps → ds.length = ts.length
 | [],[],[],_,_=>rfl
 | [],[],_ :: _,_,h=>h.elim
 | [],_ :: _,ds,_,h=>by cases ds <;> exact h.elim
 | _ :: _,[],ds,_,h=>by cases ds <;> exact h.elim
 | _ :: _,_ :: _,[],_,h=>h.elim
 |
  t :: ts,v :: vs,d :: ds,ps,h=>by
  obtain ⟨p,q,_,h2,_⟩:=h
  simp [Yi h2]
end Go.Ml
end
