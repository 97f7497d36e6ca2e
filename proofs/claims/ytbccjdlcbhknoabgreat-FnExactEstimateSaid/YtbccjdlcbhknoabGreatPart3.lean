/- Contracts of functions. -/
import Derived.Test.YtbccjdlcbhknoabGreatPart2
set_option linter.unusedSimpArgs false
set_option linter.unusedVariables false
set_option maxRecDepth 100000
set_option maxHeartbeats 16000000
section
namespace Go.Ml
theorem VT(g:Nat→Option Nat)(l:List Int):qK g ⟨1,kF l⟩=⟨1,kF l⟩:=by
 unfold qK
 congr 1
 simp only [kF,fK];rfl
theorem VU{T:Tb}{f:Nat}{as:List Src}{dst:Option Nat}{env:Nat→V}{σ:Store}{kp bs:Nat}{rs ms:List Nat}{k:St→Prop}{ρ:List Nat}{as':List V}{r:V}{σ':Store}(hn:ρ.Nodup)
  (hρ:∀o,o∈ρ→∃l,jH σ o=some ⟨1,kF l⟩) (ha:(as.map fun s=>lD (place ρ) (s.ev env))=as') (hr:Run T (.fn f as' (NH ρ σ)) (.fn r σ'))
  (hold:∀q,q<ρ.length→jH σ' q=jH (NH ρ σ) q) (hk:∀σ2:Store,(∀q,q<σ.length→jH σ2 q=jH σ q)→σ.length≤σ2.length→k ⟨oL env dst (lD (back ρ σ.length) r),σ2,kp,bs,rs,ms⟩) :
  Ro T f as dst ⟨env,σ,kp,bs,rs,ms⟩ k:=by
 subst ha;refine⟨_,.ref ρ hn (fun o ho=>by obtain⟨l,h⟩:=hρ o ho;rw [h];rfl) hr,?_⟩;refine hk _ (fun q hq=>?_) (by simp [ql]);have e1:jH (ql ρ σ σ') q=((σ.mapIdx fun o ob=>match place ρ o with
   |some j=>(jH σ' j).map (qK (back ρ σ.length))
   |none=>ob)[q]?).getD none:=by
  show ((ql ρ σ σ')[q]?).getD none=_;unfold ql;rw [bH (by simpa using hq)];rfl
 show jH (ql ρ σ σ') q=_;rw [e1,jI,aB hq];simp only [bY,gZ]
 cases hp:place ρ q with
 |none=>simp [jH,aB hq]
 |
  some j =>
  have hj:=qF hp;have hlt:=(aK.1 hj).1;simp only [];rw [hold j hlt,NK,hj];obtain⟨l,hl⟩:=hρ q (aS hj);simp only [hl,bY,VT]
end Go.Ml
namespace Go.Ml
theorem acw{L:Nat}{d e:qh}{i:Nat}{R:List Nat}{b:Acc}(hw:∀w∈b.W,w∉R)(h:vX L d e ⟨i,[],[],true⟩ b=true):vX L d e ⟨i,R,[],true⟩ b=true:=by
 simp only [vX,aG]at h ⊢;obtain⟨⟨⟨⟨h1,h2⟩,h3⟩,h4⟩,h5⟩:=h;refine⟨⟨⟨⟨h1,h2⟩,?_⟩,h4⟩,?_⟩
 ·rw [aZ];intro w hw';simpa using hw w hw'
 unfold AQ at h5 ⊢;simpa using h5
theorem acy{L:Nat}{d e:qh}{i:Nat}{R:List Nat}{b:Acc}(hw:∀w∈b.W,w∉R)(h:vX L d e b ⟨i,[],[],true⟩=true):vX L d e b ⟨i,R,[],true⟩=true:=by
 simp only [vX,aG]at h ⊢;obtain⟨⟨⟨⟨h1,h2⟩,h3⟩,h4⟩,h5⟩:=h;refine⟨⟨⟨⟨h1,?_⟩,h3⟩,?_⟩,h5⟩
 ·rw [aZ];intro w hw';simpa using hw w hw'
 unfold AQ at h4 ⊢;simpa using h4
theorem aeQ{L:Nat}{B:Nat→List Nat}{ops:List qh}{i:Nat}{R:List Nat}:∀(pre post:List Acc),(∀b∈pre++post,∀w∈b.W,w∉R)→okA L B ops (pre++⟨i,[],[],true⟩::post)=true→okA L B ops (pre++⟨i,R,[],true⟩::post)=true
 |
  [],post,hw,h=>by
  simp only [dL,okA,aG,aZ,fA]at h ⊢;refine⟨fun b hb=>?_,h.2⟩;rcases h.1 b hb with k|k
  ·exact .inl k
  exact .inr (acw (hw b (by simpa using hb)) k)
 |
  a::pre,post,hw,h=>by
  simp only [bP,okA,aG,aZ,fA]at h ⊢;refine⟨fun b hb=>?_,aeQ pre post (fun b hb=>hw b (by simp only [bP,aH];exact .inr hb)) h.2⟩;rcases aO.1 hb with hb|hb
  ·exact h.1 b (gq _ hb)
  rcases aH.1 hb with rfl|hb
  ·rcases h.1 ⟨i,[],[],true⟩ (by simp)with k|k
   ·exact .inl k
   exact .inr (acy (hw a (by simp)) k)
  exact h.1 b (dU _ (jh _ hb))
theorem amL{L:Nat}{ops:List qh}{i:Nat}{R:List Nat}(pre post:List Acc)(hw:∀b∈pre++post,∀w∈b.W,w∉R)(h:pz L ops (pre++⟨i,[],[],true⟩::post)):pz L ops (pre++⟨i,R,[],true⟩::post):=by
 unfold pz at h ⊢;simp only [List.reverse_append,List.reverse_cons,bJ,List.singleton_append]at h ⊢;exact aeQ _ _ (fun b hb=>hw b (by rcases aO.1 hb with h|h<;>simp at h<;>simp [h])) h
theorem Y4{σ:Store}{v:V}{l:List Int}{os:List Nat}(h:lM σ v (ints l) os):∀n,∀o∈reach σ n v,o∈os:=by
 intro n o ho;rcases h.wX with ⟨_,rfl,_⟩|⟨q,rfl,h1,rfl⟩
 ·cases n<;>simp [reach]at ho
 cases n with
 |zero=>simp [reach]at ho
 |
  succ n =>
  simp only [reach,h1,aH,dV]at ho;rcases ho with rfl|⟨r,hr,c,hc,ho⟩
  ·simp
  have hs:=pF l r hr c hc
  cases n with
  |zero=>simp [reach]at ho
  |succ n=>rw [DU hs]at ho;cases ho
theorem Am{σ:Store}{n:Nat}{cs:List V}{o:Nat}:o∈reach σ (n+1) (.agg cs)↔∃c∈cs,o∈reach σ n c:=by
 simp [reach,dV]
theorem DY{T:Tb}{f:Nat}{as:List Src}{dst:Option Nat}{env:Nat→V}{σ:Store}{kp bs:Nat}{rs ms:List Nat}{k:List Nat→List Nat→Bool→St→Prop}{as':List V}{t:V}(P:Nat→Prop)(h:PO T f as' t)
  (ha:NM env σ as (· = as')) (hr:∀o∈nO env σ as,P o) (hk:∀R r σ2 os,(∀o∈R,P o)→Got σ σ2 r t os→k R [] true ⟨oL env dst r,σ2,kp,bs,rs,ms⟩):agc T f as dst ⟨env,σ,kp,bs,rs,ms⟩ k :=
 Y1 h ha fun r σ2 os g=>hk _ r σ2 os hr g
end Go.Ml
namespace Go.Ml
theorem aeR{L L':Nat}(hL:L'≤L){d e:qh}{a b:Acc}(h:vX L' d e a b=true):vX L d e a b=true:=by
 have hb:∀a b:Acc,AQ L' a b=true→AQ L a b=true:=by
  intro a b h;unfold AQ at h ⊢;simp only [fA,aG,fQ,aZ,decide_eq_true_eq]at h ⊢;rcases h with h|⟨⟨h1,h2⟩,h3⟩
  ·exact .inl h
  exact .inr ⟨⟨h1,fun o ho=>aU (h2 o ho) hL⟩,fun o ho=>aU (h3 o ho) hL⟩
 simp only [vX,aG]at h ⊢;exact⟨⟨h.1.1,hb _ _ h.1.2⟩,hb _ _ h.2⟩
theorem aeS{L L':Nat}(hL:L'≤L){B:Nat→List Nat}{ops:List qh}:∀l:List Acc,okA L' B ops l=true→okA L B ops l=true
 | [],_=>rfl
 |
  a::l,h=>by
  simp only [okA,aG,aZ,fA]at h ⊢;refine⟨fun b hb=>?_,aeS hL l h.2⟩;rcases h.1 b hb with k|k
  ·exact .inl k
  exact .inr (aeR hL k)
theorem uS{L L':Nat}{ops:List qh}{l:List Acc}(hL:L'≤L)(h:pz L' ops l):pz L ops l:=aeS hL _ h
theorem Q7{L:Nat}{ops:List qh}(aF:List Nat→List Acc)(Q:List Nat→Prop)(m i:Nat)(h1:(aF [])[m]? = some ⟨i,[],[],true⟩)(h2:∀R,aF R=(aF []).set m ⟨i,R,[],true⟩)
  (hw:∀R,Q R→∀b∈aF [],∀w∈b.W,w∉R) (h:pz L ops (aF [])):∀R,Q R→pz L ops (aF R):=by
 intro R hR;have hlt:=(aK.1 h1).1;have e:aF []=(aF []).take m++⟨i,[],[],true⟩::(aF []).drop (m+1):=by
  conv=>lhs;rw [←fH m (aF []),bT hlt]
  rw [(aK.1 h1).2]
 have e2:aF R=(aF []).take m++⟨i,R,[],true⟩::(aF []).drop (m+1):=by
  rw [h2,iI,if_pos hlt]
 rw [e2];refine amL _ _ (fun b hb=>hw R hR b ?_) (e▸h);rcases aO.1 hb with h|h
 ·exact cO h
 exact fV h
theorem Ep.push{s:Store}{cs ts:List V}{os:List Nat}{L:List (Nat×Obj)}{ob:Obj}(E:Ep s cs ts os L):Ep (s++[some ob]) cs ts os (L++[(s.length,ob)]):=by
 refine⟨E.c.snoc,fun q hq=>?_⟩;rcases aO.1 hq with hq|hq
 ·exact E.snoc.l q hq
 simp only [aH,bV,or_false]at hq;subst hq;exact⟨tu _ _,fun hm=>absurd (E.c.lt _ hm) (jZ _)⟩
theorem Ep.reach{s:Store}{cs ts:List V}{os:List Nat}{L:List (Nat×Obj)}(E:Ep s cs ts os L)(c:Nat){v:V}{l:List Int}(hv:cs[c]? = some v)(ht:ts[c]? = some (ints l))(n:Nat):∀o∈reach s n v,o∈os:=by
 intro o ho;obtain⟨vc,oc,j1,j2,_,j4,_⟩:=E.c.ow.focus c _ E.c.nd ht;rw [hv]at j1
 cases j1
 exact j4 o (Y4 j2 n o ho)
def BJ:Fn:=⟨1,22,[.tmp 2],(sr [oN 2 mN] (.seq (rf 1 [oK 5 1 (oV 0),oK 6 1 (ln 5),oN 7 (.make F8 8 (.t 6)),oK 3 1 (oV 7)]) (.seq (sr [oN 4 (.mM (cI 0))] (.block 0 (.loop (.seq (sr [oW 8 4,oW 9 0,oN 10 (ln 9),oN 11 (bt .lss 8 10)] (cd 11 .skip (.exit 0))) (.seq (.block 1 (rg [oW 14 3,oW 15 4,oW 16 0,oW 17 4,oN 18 (ix 1 16 17),oN 19 (lF 1 18),oN 20 (ix 1 14 15),oS (.store 1 (.t 20) (.t 19))])) (rg [oW 12 4,oN 13 (bc .add 12 1),oW 4 13])))))) (sr [oW 21 3,oW 2 21] .ret))))⟩
structure BK (T:Tb):Prop where
 hT:T 6=some BJ
def IG:Fn:=⟨2,26,[.tmp 4],(sr [oN 4 mF] (.seq (sr [oW 6 0,oN 7 (ln 6),oW 8 1,oN 9 (ln 8),oN 10 (bt .neq 7 9)] (cd 10 (sr [oN 4 mF] .ret) .skip)) (.seq (sr [oN 5 (.mM (cI 0))] (.block 0 (.loop (.seq (sr [oW 11 5,oW 12 0,oN 13 (ln 12),oN 14 (bt .lss 11 13)] (cd 14 .skip (.exit 0))) (.seq (.block 1 (.seq (rt 0 [oW 17 0,oW 18 5,oA 19 0 (ix 1 17 18) [0,1],oA 20 0 (lF 1 19) [2],oW 21 1,oW 22 5,oA 23 0 (ix 1 21 22) [4,5],oA 24 0 (lF 1 23) [6],oA 25 0 (bt .neq 20 24) [3,7]]) (cd 25 (sr [oN 4 mF] .ret) .skip))) (rg [oW 15 5,oN 16 (bc .add 15 1),oW 5 16])))))) (sr [oN 4 mT] .ret))))⟩
structure II (T:Tb):Prop where
 hT:T 8=some IG
def IJ:Fn:=⟨2,12,[.tmp 4],(sr [oN 4 (.mM (cI 0))] (sr [oW 5 1,oW 6 0,oN 7 (ln 6),oN 8 (bt .sub 5 7),oW 1 8] (.seq (sr [oW 9 1,oN 10 (bc .lss 9 0)] (cd 10 (sr [oN 4 (.mM (cI (-1)))] .ret) .skip)) (sr [oW 11 1,oW 4 11] .ret))))⟩
structure IK (T:Tb):Prop where
 hT:T 61=some IJ
def Dh:Fn:=⟨2,12,[.tmp 4],(.seq (rf 1 [oN 2 (.box (.t 0)),oK 4 1 (.mM (cI 0))]) (sr [oN 5 (fd 1 2),oN 6 (lF 1 5),oW 7 1,oN 8 (cl 61 [6,7]),oW 1 8] (.seq (sr [oW 9 1,oN 10 (bc .lss 9 0)] (cd 10 (sr [oN 4 (.mM (cI (-1)))] .ret) .skip)) (sr [oW 11 1,oW 4 11] .ret))))⟩
structure Jz (T:Tb):Prop where
 hT:T 60=some Dh
 Nq:IK T
def J5:Fn:=⟨2,18,[.tmp 4],(.seq (rf 1 [oN 2 (.box (.t 0)),oK 4 1 (.mM (cI 0))]) (sr [oN 5 (fd 0 2),oN 6 (lT 2 5),oW 7 1,oN 8 (cl 60 [6,7]),oW 1 8] (.seq (sr [oW 9 1,oN 10 (bc .lss 9 0)] (cd 10 (sr [oN 4 (.mM (cI (-1)))] .ret) .skip)) (sr [oN 11 (fd 2 2),oN 12 (lF 1 11),oW 13 1,oN 14 (cl 61 [12,13]),oW 1 14] (.seq (sr [oW 15 1,oN 16 (bc .lss 15 0)] (cd 16 (sr [oN 4 (.mM (cI (-1)))] .ret) .skip)) (sr [oW 17 1,oW 4 17] .ret))))))⟩
structure OQ (T:Tb):Prop where
 hT:T 46=some J5
 Xi:Jz T
 Nq:IK T
def yg:Fn:=⟨1,12,[.cell 2 2 true],(.seq (rf 2 [oN 1 (.box (.t 0)),oK 2 1 (.alloc Z4)]) (.seq (rf 1 [oN 3 (.alloc Z4)]) (sr [oN 4 (fd 0 1),oN 5 (lF 1 4),oN 6 (fd 0 3),oS (.store 1 (.t 6) (.t 5))] (sr [oN 7 (fd 1 1),oN 8 (lF 1 7),oN 9 (cl 6 [8]),oN 10 (fd 1 3),oS (.store 1 (.t 10) (.t 9))] (sr [oN 11 (lT 2 3),oS (.store 2 (.t 2) (.t 11))] .ret)))))⟩
structure Di (T:Tb):Prop where
 hT:T 63=some yg
 BL:BK T
def EG:Fn:=⟨1,13,[.cell 2 3 true],(.seq (rf 2 [oN 1 (.box (.t 0)),oK 2 1 (.alloc qL)]) (.seq (rf 1 [oN 3 (.alloc qL)]) (sr [oN 4 (fd 0 1),oN 5 (lT 2 4),oN 6 (cl 63 [5]),oN 7 (fd 0 3),oS (.store 2 (.t 7) (.t 6))] (sr [oN 8 (fd 2 1),oN 9 (lF 1 8),oN 10 (cl 6 [9]),oN 11 (fd 2 3),oS (.store 1 (.t 11) (.t 10))] (sr [oN 12 (lT 3 3),oS (.store 3 (.t 2) (.t 12))] .ret)))))⟩
structure J6 (T:Tb):Prop where
 hT:T 48=some EG
 BL:BK T
 PE:Di T
def Dj:Fn:=⟨2,16,[.tmp 4],(.seq (rf 2 [oN 2 (.box (.t 0)),oK 3 1 (.box (.t 1)),oK 4 2 mF]) (.seq (sr [oN 5 (fd 0 2),oN 6 (lF 1 5),oN 7 (fd 0 3),oN 8 (lF 1 7),oN 9 (.beq true (.t 6) (.t 8))] (cd 9 (sr [oN 4 mF] .ret) .skip)) (.seq (sr [oN 10 (fd 1 2),oN 11 (lF 1 10),oN 12 (fd 1 3),oN 13 (lF 1 12),oN 14 (cl 8 [11,13]),oN 15 (nt 14)] (cd 15 (sr [oN 4 mF] .ret) .skip)) (sr [oN 4 mT] .ret))))⟩
structure JA (T:Tb):Prop where
 hT:T 55=some Dj
 Nr:II T
def J7:Fn:=⟨2,17,[.tmp 4],(.seq (rf 2 [oN 2 (.box (.t 0)),oK 3 1 (.box (.t 1)),oK 4 2 mF]) (.seq (sr [oN 5 (fd 0 2),oN 6 (lT 2 5),oN 7 (fd 0 3),oN 8 (lT 2 7),oN 9 (cl 55 [6,8]),oN 10 (nt 9)] (cd 10 (sr [oN 4 mF] .ret) .skip)) (.seq (sr [oN 11 (fd 2 2),oN 12 (lF 1 11),oN 13 (fd 2 3),oN 14 (lF 1 13),oN 15 (cl 8 [12,14]),oN 16 (nt 15)] (cd 16 (sr [oN 4 mF] .ret) .skip)) (sr [oN 4 mT] .ret))))⟩
structure EH (T:Tb):Prop where
 hT:T 40=some J7
 Nr:II T
 Xj:JA T
theorem aeT{T:Tb}(h:IK T){l:List Int}{left:Int}(hl:l.length≤9223372036854775807:=by exact lX)(h0:0≤left∧left≤1048576:=by exact lX):PF T 61 [ints l,iv left] (iv (szr left l.length)):=by
 refine kQ nR h.hT ?_;simp only [IJ,Lz];refine ev ?_;refine kD (fun hb=>?_) fun hb=>?_<;>(refine ev1 @hb ?_;try with_reducible exact True.intro)
 ·simp [szr];omega
 simp [szr];omega
theorem aeU{T:Tb}(h:BK T){l:List Int}(hl:l.length≤1048576:=by exact lX):PF T 6 [ints l] (ints l):=by
 refine kQ nR h.hT ?_;simp only [BJ,Lz];refine ev ?_;refine⟨by omega,?_⟩;rw [Oz];refine kG (fun _ _=>false) (α:=Nat) (fun i=>⟨kX [ints l,.any,.any,.kP 0 0 l.length,iv (i:Nat)],[some ⟨1,kF (KJ l 0 i)⟩],0,0,[],[]⟩) (fun i=>i≤l.length) (fun i=>l.length-i) rfl 0 ?_ ?_ ?_
 ·omega
 ·(refine jW ?_)<;>(try (refine ev1 @WQ ?_;try with_reducible exact True.intro))<;>(repeat' (first|refine⟨?_,?_⟩|exact vH (by omega)|exact xH (by simp)|exact vI _))
 intro i hi;have e1:=YG l 0 hi;refine ev1 @e1 ?_;refine kD (fun hb=>?_) fun hb=>?_<;>(refine qW @hb @e1 ?_;try with_reducible exact True.intro)
 ·have e2:=YH l 0 (i:=i) (by omega);have e3:(default:Int)=0:=rfl;rw [e3]at e2;rw [e2];exact⟨i+1,by omega,by omega,by (refine jW ?_;exact zX)⟩
 have:i=l.length:=by omega
 subst this;rw [YF]
theorem aeV{T:Tb}(h:II T){a b:List Int}(hl:a.length≤9223372036854775807:=by exact lX)(hb:b.length≤9223372036854775807:=by exact lX):PF T 8 [ints a,ints b] (.bool (decide (a=b))):=by
 refine kQ nR h.hT ?_;simp only [IG,Lz];refine ev ?_;refine kD (fun h1=>?_) fun h1=>?_<;>(refine ev1 @h1 ?_;try with_reducible exact True.intro)
 ·have h1:a.length=b.length:=by omega
  refine kG (fun _ _=>false) (α:=Nat) (fun i=>⟨kX [ints a,ints b,.any,.any,.any,iv (i:Nat)],[],0,0,[],[]⟩) (fun i=>i≤a.length∧∀j,j<i→a.getD j 0=b.getD j 0) (fun i=>a.length-i) rfl 0 ?_ ?_ ?_
  ·exact⟨by omega,by intro j hj;omega⟩
  ·(refine jW ?_;exact zX)
  rintro i ⟨hi,hj⟩;refine ev ?_;refine kD (fun h2=>?_) fun h2=>?_<;>(refine ev1 @h2 ?_;try with_reducible exact True.intro)
  ·refine kD (fun h3=>?_) fun h3=>?_<;>(refine ev1 @h3 ?_;try with_reducible exact True.intro)
   ·refine⟨i+1,by omega,⟨by omega,fun j hj'=>?_⟩,by (refine jW ?_;exact zX)⟩;by_cases e:j=i
    ·subst e;exact h3
    exact hj j (by omega)
   have:¬a=b:=fun e=>h3 (by rw [e]);simp [this]
  have:a=b:=NV h1 fun j h=>hj j (by omega);simp [this]
 have:¬a=b:=fun e=>h1 (by rw [e]);simp [this]
theorem agU{T:Tb}(h:Jz T){z:Bi}{left:Int}(hl:z.mag.length≤9223372036854775807:=by exact lX)(h0:0≤left∧left≤1048576:=by exact lX):PF T 60 [Oo z,iv left] (iv (szr left z.mag.length)):=by
 refine kQ nR h.hT ?_;simp only [Dh,Lz];refine ev ?_;refine jy (aeT h.Nq) ?_;refine ev ?_;refine kD (fun hb=>?_) fun hb=>?_<;>(refine ev1 @hb ?_;try with_reducible exact True.intro);unfold szr at hb ⊢;split at hb
 ·rename_i k;simp [k]
 omega
theorem acz{T:Tb}(h:OQ T){r:R}{left:Int}(hw:r.wf:=by exact lX)(h0:0≤left∧left≤1048576:=by exact lX):PF T 46 [kN r,iv left] (iv (szr left r.sz)):=by
 obtain⟨w1,w2⟩:=hw;refine kQ nR h.hT ?_;simp only [J5,Lz];refine ev ?_;refine jy (agU h.Xi (z:=r.num)) ?_;refine ev ?_;have k1:=@YC left r.mag.length;refine kD (fun hb=>?_) fun hb=>?_<;>(refine ev1 @hb ?_;try with_reducible exact True.intro)
 ·simp only [R.sz,XD hb h0.1]
 refine jy (aeT h.Nq) ?_;refine ev ?_;rw [ab9 hb];refine kD (fun hb2=>?_) fun hb2=>?_<;>(refine ev1 @hb2 ?_;try with_reducible exact True.intro)
 ·simp only [R.sz];unfold szr at hb2 ⊢;split at hb2
  ·rename_i k;rw [if_pos k]
  omega
 rfl
theorem agV{T:Tb}(h:Di T){z:Bi}(hl:z.mag.length≤1048576:=by exact lX):PF T 63 [Oo z] (Oo z):=by
 refine kQ nR h.hT ?_;simp only [yg,Lz];refine ev ?_;refine jy (aeU h.BL) ?_
 (refine ev ?_;try with_reducible exact True.intro)
theorem acA{T:Tb}(h:J6 T){r:R}(hl:r.sz≤1048576:=by exact lX):PF T 48 [kN r] (kN r):=by
 unfold R.sz at hl;refine kQ nR h.hT ?_;simp only [EG,Lz];refine ev ?_;refine jy (agV h.PE (z:=r.num)) ?_;refine ev ?_;refine jy (aeU h.BL) ?_
 (refine ev ?_;try with_reducible exact True.intro)
theorem agW{T:Tb}(h:JA T){y z:Bi}(hy:y.mag.length≤9223372036854775807:=by exact lX)(hz:z.mag.length≤9223372036854775807:=by exact lX):PF T 55 [Oo y,Oo z] (.bool (decide (y=z))):=by
 refine kQ nR h.hT ?_;simp only [Dj,Lz];refine ev ?_;refine kD (fun hb=>?_) fun hb=>?_<;>(refine ev1 @hb ?_;try with_reducible exact True.intro)
 ·refine jy (aeV h.Nr) ?_;refine ev ?_;refine kD (fun hc=>?_) fun hc=>?_<;>(refine ev1 @hc ?_;try with_reducible exact True.intro)
  ·cases y;cases z;simp_all
  cases y;cases z;simp_all
 cases y;cases z;simp_all
theorem MJ{T:Tb}(h:EH T){y z:R}(hy:y.wf:=by exact lX)(hz:z.wf:=by exact lX):PF T 40 [kN y,kN z] (.bool (decide (y=z))):=by
 obtain⟨w1,w2⟩:=hy;obtain⟨w3,w4⟩:=hz;refine kQ nR h.hT ?_;simp only [J7,Lz];refine ev ?_;refine jy (agW h.Xj (y:=y.num) (z:=z.num)) ?_;refine ev ?_;refine kD (fun hb=>?_) fun hb=>?_<;>(refine ev1 @hb ?_;try with_reducible exact True.intro)
 ·refine jy (aeV h.Nr) ?_;refine ev ?_;refine kD (fun hc=>?_) fun hc=>?_<;>(refine ev1 @hc ?_;try with_reducible exact True.intro)
  ·cases y;cases z;simp_all
  cases y;cases z;simp_all
 cases y;cases z;simp_all
def yh:Fn:=⟨2,19,[.tmp 4],(sr [oN 4 (.mM (cI 0))] (.seq (sr [oN 5 (.mM (cI 0))] (.block 0 (.loop (.seq (sr [oW 6 5,oW 7 0,oN 8 (ln 7),oN 9 (bt .lss 6 8)] (cd 9 .skip (.exit 0))) (.seq (.block 1 (sr [oW 12 0,oW 13 5,oW 14 1,oN 15 (ix 1 12 13),oS (.store 1 (.t 15) (.t 14))] (rg [oW 16 1,oN 17 (bc .add 16 1),oW 1 17]))) (rg [oW 10 5,oN 11 (bc .add 10 1),oW 5 11])))))) (sr [oW 18 1,oW 4 18] .ret)))⟩
structure vC (T:Tb):Prop where
 hT:T 57=some yh
def Dk:Fn:=⟨2,21,[.tmp 4],(sr [oN 4 (.mM (cI 0))] (.seq (sr [oN 5 (.mM (cI 0))] (.block 0 (.loop (.seq (sr [oW 6 5,oW 7 0,oN 8 (ln 7),oN 9 (bt .lss 6 8)] (cd 9 .skip (.exit 0))) (.seq (.block 1 (.seq (sr [oW 12 0,oW 13 5,oN 14 (ix 1 12 13),oN 15 (lF 1 14),oW 16 1,oN 17 (bt .neq 15 16)] (cd 17 (sr [oN 4 (.mM (cI (-1)))] .ret) .skip)) (rg [oW 18 1,oN 19 (bc .add 18 1),oW 1 19]))) (rg [oW 10 5,oN 11 (bc .add 10 1),oW 5 11])))))) (sr [oW 20 1,oW 4 20] .ret)))⟩
structure yj (T:Tb):Prop where
 hT:T 59=some Dk
theorem WU{T:Tb}(h:vk T){l:List Int}(hl:l.length≤1048576:=by exact lX):PO T 139 [ints l] (ints l):=by
 refine kW nR h.hT ?_;simp only [yc,Lz,St.enter,aj,au,aN];refine ew ?_;exact⟨fun e=>ajZ e,fun _=>⟨by omega,N8 rfl⟩⟩
theorem abl{T:Tb}(h:BK T){l:List Int}(hl:l.length≤1048576:=by exact lX):PO T 6 [ints l] (ints l):=by
 refine kW nR h.hT ?_;simp only [BJ,Lz,St.enter,aj,au,aN];refine ew ?_;refine⟨by omega,?_⟩;rw [Oz];refine kG (fun _ _=>false) (α:=Nat) (fun i=>⟨kX [ints l,.any,.any,.kP 0 0 l.length,iv (i:Nat)],[some ⟨1,kF (KJ l 0 i)⟩],0,0,[],[]⟩) (fun i=>i≤l.length) (fun i=>l.length-i) rfl 0 ?_ ?_ ?_
 ·omega
 ·(refine jW ?_)<;>(try (refine qj @WQ ?_;try with_reducible exact True.intro))<;>(repeat' (first|refine⟨?_,?_⟩|exact vH (by omega)|exact xH (by simp)|exact vI _))
 intro i hi;have e1:=YG l 0 hi;refine qj @e1 ?_;refine kD (fun hb=>?_) fun hb=>?_<;>(refine uh @hb @e1 ?_;try with_reducible exact True.intro)
 ·have e2:=YH l 0 (i:=i) (by omega);have e3:(default:Int)=0:=rfl;rw [e3]at e2;rw [e2];exact⟨i+1,by omega,by omega,by (refine jW ?_;exact qw)⟩
 have:i=l.length:=by omega
 subst this;rw [YF];exact N8 rfl
def cnt(n:Nat)(k:Int):List Int:=(List.range n).map fun i=>k+((i:Nat):Int)
theorem UA(n:Nat)(k:Int):(cnt n k).length=n:=by simp [cnt]
theorem auh{n i:Nat}(k:Int)(h:i<n):(cnt n k).getD i 0=k+(i:Nat):=by
 simp [cnt,ak,h]
def Qv(l:List Int)(k:Int)(i:Nat):List Int:=cnt i k++l.drop i
theorem aqp(l:List Int)(k:Int):Qv l k 0=l:=by simp [Qv,cnt]
theorem aj3(l:List Int)(k:Int):Qv l k l.length=cnt l.length k:=by simp [Qv]
theorem aj6(l:List Int)(k:Int){i:Nat}(h:i≤l.length):(Qv l k i).length=l.length:=by simp [Qv,UA];omega
theorem aj7(l:List Int)(k:Int){i:Nat}(h:i<l.length):(Qv l k i).set i (k+(i:Nat))=Qv l k (i+1):=by
 unfold Qv;rw [gG _ _ (by rw [UA];exact aP _),UA,jd,bT h,gU];unfold cnt;rw [iZ,bK];simp
theorem qO{T:Tb}(h:vC T){l:List Int}{k:Int}(hl:l.length≤1000000000:=by exact lX)(hk:0≤k∧k≤1000000000000:=by exact lX) :
  Mk T 57 (ints l) k (ints (cnt l.length k)) (k+l.length):=by
 refine mk_iff fun σ v os ho hn=>?_;rcases ho.wX with ⟨rfl,rfl,rfl⟩|⟨o,rfl,h1,rfl⟩
 ·have:∃r σ',Run T (.fn 57 [.sl 1 [],iv k] σ) (.fn r σ')∧(r=iv k∧σ'=σ):=by
   refine run_end nR h.hT ?_;simp only [yh,Lz,St.enter,aj,au,aN];refine ew ?_;refine kG (fun _ _=>false) (α:=Nat) (fun i=>⟨kX [.sl 1 [],iv k,.any,.any,.any,iv 0],σ,σ.length,0,[],[]⟩) (fun i=>i=0) (fun i=>i) rfl 0 ?_ ?_ ?_
   ·rfl
   ·(refine jW ?_;exact qw)
   rintro i rfl;refine ew ?_;refine kD (fun hc=>absurd hc (by omega)) fun hc=>?_
   (refine ew ?_;try with_reducible exact True.intro)
  obtain⟨r,σ',h2,rfl,rfl⟩:=this;exact⟨σ',by simpa using h2,ho,Fr.refl _ _⟩
 have hlt:=kK h1;have:∃r σ',Run T (.fn 57 [.kP o 0 l.length,iv k] σ) (.fn r σ')∧(r=iv (k+l.length)∧jH σ' o=some ⟨1,kF (cnt l.length k)⟩∧Fr [o] σ σ'):=by
  refine run_end nR h.hT ?_;simp only [yh,Lz,St.enter,aj,au,aN];refine ew ?_;refine kG (fun _ _=>false) (α:=Nat×Store) (fun q=>⟨kX [.kP o 0 l.length,iv (k+(q.1:Nat)),.any,.any,.any,iv (q.1:Nat)],q.2,σ.length,0,[],[]⟩) (fun q=>q.1≤l.length∧jH q.2 o=some ⟨1,kF (Qv l k q.1)⟩∧Fr [o] σ q.2) (fun q=>l.length-q.1) rfl (0,σ) ?_ ?_ ?_
  ·exact⟨by omega,by rw [aqp];exact h1,Fr.refl _ _⟩
  ·(refine jW ?_;exact qw)
  rintro⟨i,s⟩ ⟨hi,h2,h3⟩;dsimp only at hi h2 h3;have e1:=aj6 l k hi;have hls:=h3.len;refine qj @h2 ?_;refine kD (fun hc=>?_) fun hc=>?_<;>(refine vW @hc @h2 @e1 ?_;try with_reducible exact True.intro)
  ·have e2:=aj7 l k (i:=i) (by omega);rw [e2];refine⟨(i+1,s.set o (some ⟨1,kF (Qv l k (i+1))⟩)),by dsimp only;omega,⟨by dsimp only;omega,?_,?_⟩,by (refine jW ?_;exact qw)⟩
   ·dsimp only;exact kT (by omega)
   dsimp only;exact h3.trans (VQ (by simp))
  have:i=l.length:=by omega
  subst this;exact⟨rfl,by rw [aj3],h3⟩
 obtain⟨r,σ',h2,rfl,h3,h4⟩:=this;have:=Ez h3;rw [UA]at this;exact⟨σ',h2,this,h4⟩
theorem Gu{T:Tb}(h:yj T){n:Nat}{k:Int}(hl:n≤1000000000:=by exact lX)(hk:0≤k∧k≤1000000000000:=by exact lX) :
  PF T 59 [ints (cnt n k),iv k] (iv (k+n)):=by
 have hcl:=UA n k;refine kQ nR h.hT ?_;simp only [Dk,Lz];refine ev ?_;refine kG (fun _ _=>false) (α:=Nat) (fun i=>⟨kX [ints (cnt n k),iv (k+(i:Nat)),.any,.any,.any,iv (i:Nat)],[],0,0,[],[]⟩) (fun i=>i≤n) (fun i=>n-i) rfl 0 ?_ ?_ ?_
 ·omega
 ·(refine jW ?_;exact zX)
 intro i hi;refine ev1 @hcl ?_;refine kD (fun hc=>?_) fun hc=>?_<;>(refine qW @hc @hcl ?_;try with_reducible exact True.intro)
 ·have:=auh k (show i<n by omega);refine ev1 @this ?_;exact⟨i+1,by omega,by omega,by (refine jW ?_;exact zX)⟩
 have:i=n:=by omega
 subst this;rfl
theorem ais{a b:St}(h:Fg a b:=by
 (refine KH [] (by simp) (by intro p hp;cases hp) rfl ?_)<;>(try (refine ew ?_;try with_reducible exact True.intro))<;>(repeat' (first|exact True.intro|omega|exact nP rfl (by simp)|refine⟨?_,?_⟩|exact of_eq_true (tH _ _ _)|exact lY rfl (by simp;done)|exact lY rfl rfl|(refine mW rfl ?_ rfl;simp [kF];done)|(refine mW rfl ?_ rfl;simp [kF];omega)|(refine tJ ?_ ?_;(focus ((refine ew ?_;try with_reducible exact True.intro);done));(intro q hq k s0 l0;simp;done))))):Fg a b:=h
theorem arN{a b:St}(h:Fg a b:=by
 (simp only [←sO];refine JQ (k:=1) (Je _ _) rfl ?_;(try (refine ew ?_;try with_reducible exact True.intro));(repeat' (first|exact True.intro|omega|exact Ac (by simp) (by simp) (by simp)|refine⟨?_,?_⟩|exact lY rfl (by simp))))):Fg a b:=h
theorem arO{a b:St}(h:Fg a b:=by
 (simp only [←sO];refine JQ (k:=2) (Je _ _) rfl ?_;(try (refine ew ?_;try with_reducible exact True.intro));(repeat' (first|exact True.intro|omega|exact Ac (by simp) (by simp) (by simp)|refine⟨?_,?_⟩|exact lY rfl (by simp))))):Fg a b:=h
theorem OT{T:Tb}(h:uD T){n:Int}(hn:0≤n∧n<18446744073709551616:=by exact lX):PO T 69 [.int .u64 n] (ints (mk n.toNat)):=by
 have hlen:(mk n.toNat).length≤3:=lK.2 (by omega);refine kW nR h.hT ?_;simp only [wQ,Lz,St.enter,aj,au,aN];refine ew ?_;refine kG (fun _ _=>false) (α:=Nat×List Int) (fun q=>⟨kX [.int .u64 (q.1:Nat),.any,.any,slV q.2.length],VH 1 (kF q.2),0,0,[],[]⟩) (fun q=>q.2++mk q.1=mk n.toNat∧q.1≤n.toNat) (fun q=>q.1) rfl (n.toNat,[]) ?_ ?_ ?_
 ·exact⟨rfl,aP _⟩
 ·first|((refine jW ?_;exact qw);done)|(exact ais;done)
 rintro⟨m,xs⟩ ⟨hm,hle⟩;dsimp only at hm hle;have hx:xs.length≤3:=by
  have:=congrArg List.length hm;simp at this;omega
 have e1:((m:Int).tmod 1000000000)=((m % 1000000000:Nat):Int):=by rw [SL (by omega)];omega
 have e2:((m:Int).tdiv 1000000000)=((m / 1000000000:Nat):Int):=by rw [SN (by omega)];omega
 have key:0<m→(xs++[((m % 1000000000:Nat):Int)])++mk (m / 1000000000)=mk n.toNat:=fun h=>by
  rw [←hm,mk_pos (n:=m) (by omega)];simp
 (rcases xs with _|⟨x,xs⟩<;>simp only [au,aj,qX,qH,mO,lI]at hx ⊢)
 ·refine ew ?_;refine kD (fun hb=>?_) fun hb=>?_<;>(refine vW @hb @e1 @e2 ?_;try with_reducible exact True.intro)
  ·exact⟨by omega,(m / 1000000000,[]++[((m % 1000000000:Nat):Int)]),by dsimp only;omega,⟨key (by omega),by dsimp only;omega⟩,by exact arN⟩
  have e:mk n.toNat=[]:=by rw [←hm,show m=0 by omega,mk_zero];rfl
  rw [e];exact CZ
 refine ew ?_;refine kD (fun hb=>?_) fun hb=>?_<;>(refine vW @hb @e1 @e2 ?_;try with_reducible exact True.intro)
 ·refine⟨by omega,(m / 1000000000,(x::xs)++[((m % 1000000000:Nat):Int)]),by dsimp only;omega,⟨key (by omega),by dsimp only;omega⟩,by exact arO⟩
 have e:x::xs=mk n.toNat:=by rw [←hm,show m=0 by omega,mk_zero];simp
 rw [←e];exact N8 (o:=0) (l:=x::xs) rfl
theorem agX{T:Tb}(h:wR T){l:List Int}{σ:Store}{o:Nat}(h0:jH σ o=some ⟨1,kF l⟩)(hl:l.length≤1048576:=by exact lX) :
  Run T (.fn 151 [.kP o 0 l.length] σ) (.fn (.kP o 0 (trim l).length) σ):=by
 have:∃r σ',Run T (.fn 151 [.kP o 0 l.length] σ) (.fn r σ')∧(r=.kP o 0 (trim l).length∧σ'=σ):=by
  have htl:∀n,n≤l.length→xC l l.length=xC l n→(n=0∨l.getD (n-1) 0≠0)→(trim l).length=n:=by
   intro n hn h1 h2;unfold trim;rw [h1,dS]
   cases n with
   |zero=>simp [xC]
   |
    succ m =>
    simp only [Nat.add_sub_cancel]at h2;simp only [xC];rw [if_neg (by omega)];omega
  refine run_end nR h.hT ?_;simp only [zC,Lz,St.enter,aj,au,aN];refine ew ?_;refine qj @h0 ?_;refine kG (fun _ _=>false) (α:=Nat) (fun n=>⟨kX [.kP o 0 l.length,.any,.any,iv (n:Nat)],σ,σ.length,0,[],[]⟩) (fun n=>n≤l.length∧xC l l.length=xC l n) (fun n=>n) rfl l.length ?_ ?_ ?_
  ·exact⟨by omega,rfl⟩
  ·(refine jW ?_;exact qw)
  rintro n ⟨hn,ht⟩;refine qj @h0 ?_;refine kD (fun hb=>?_) fun hb=>?_
  ·obtain⟨m,rfl⟩:∃m,n=m+1:=⟨n-1,by omega⟩;have e1:((m+1:Nat):Int)-1=(m:Nat):=by omega
   refine vW @h0 @e1 @hb ?_;refine kD (fun hc=>?_) fun hc=>?_<;>(refine uh @hc @h0 ?_;try with_reducible exact True.intro)
   ·refine⟨m,by omega,⟨by omega,?_⟩,by (refine jW ?_;exact qw)⟩;rw [ht];simp only [xC,hc,if_true]
   rw [htl (m+1) hn ht (by simp only [Nat.add_sub_cancel];omega)]
  have:n=0:=by omega
  subst this;rw [htl 0 hn ht (by omega)]
  (refine uh @h0 @hb ?_;try with_reducible exact True.intro)
 obtain⟨r,σ',h1,rfl,rfl⟩:=this;exact h1
theorem Y5{T:Tb}(h:oU T){neg:Bool}{n:Nat}{σ:Store}{o:Nat}(h0:jH σ o=some ⟨1,kF (mk n)⟩)(hn:0<n)(hl:(mk n).length≤60:=by exact lX) :
  ∃σ',Run T (.fn 68 [.bool neg,.kP o 0 (mk n).length] σ) (.fn (.agg [.bool neg,.kP o 0 (mk n).length]) σ')∧(∀q,q<σ.length→jH σ' q=jH σ q)∧σ.length≤σ'.length:=by
 have:∃r σ',Run T (.fn 68 [.bool neg,.kP o 0 (mk n).length] σ) (.fn r σ')∧(r=.agg [.bool neg,.kP o 0 (mk n).length]∧(∀q,q<σ.length→jH σ' q=jH σ q)∧σ.length≤σ'.length):=by
  have hp:=Eb.2 hn;refine run_end nR h.hT ?_;simp only [uJ,Lz,St.enter,aj,au,aN];refine ew ?_;have hlt:=kK h0;have c1:¬(((mk n).length:Nat):Int)=0:=by omega
  have c2:¬(60:Int)<((mk n).length:Nat):=by omega
  refine DF @h0 @hlt @c1 @c2 ?_;exact⟨fun q hq=>kJ hq,by omega⟩
 obtain⟨r,σ',h1,rfl,h2,h3⟩:=this;exact⟨σ',h1,h2,h3⟩
theorem ait{a b:St}(h:Fg a b:=by
 (refine KH [(0,_)] (by simp) (by intro p hp;simp only [aH,bV,or_false]at hp;rcases hp with rfl<;>refine⟨rfl,?_⟩<;>first|exact pF _|simp [l7,V.still]) rfl ?_)<;>(try (refine ew ?_;try with_reducible exact True.intro))<;>(repeat' (first|exact True.intro|omega|exact nP rfl (by simp)|refine⟨?_,?_⟩|exact of_eq_true (tH _ _ _)|exact lY rfl (by simp;done)|exact lY rfl rfl|(refine mW rfl ?_ rfl;simp [kF];done)|(refine mW rfl ?_ rfl;simp [kF];omega)|(refine tJ ?_ ?_;(focus ((refine ew ?_;try with_reducible exact True.intro);done));(intro q hq k s0 l0;simp;done))))):Fg a b:=h
theorem abm{T:Tb}(h:Bj T){m n:Nat}(hn:0<n)(la:(mk m).length≤900:=by exact lX)(lb:(mk n).length≤900:=by exact lX) :
  PX T 138 [ints (mk m),ints (mk n)] [(true,ints (mk (m / n))),(false,ints (mk (m % n)))]:=by
 obtain⟨A,hA⟩:∃A,mk m=A:=⟨_,rfl⟩;obtain⟨B,hB⟩:∃B,mk n=B:=⟨_,rfl⟩;have hva:val A=m:=by rw [←hA,val_mk]
 have hbA:Lb A:=hA▸uZ m;have hbB:Lb B:=hB▸uZ n;rw [hA]at la ⊢;rw [hB]at lb ⊢;refine Uz (fun x d=>(x == 69&&d == 28)||(x == 151&&d == 74)) h.hT ?_;simp only [Bh,Lz,St.enter,aj,au,aN];refine ew ?_;have cas:(((A.length:Nat):Int)≤2∧((B.length:Nat):Int)≤2)∨((((A.length:Nat):Int)≤2∧¬((B.length:Nat):Int)≤2)∨¬((A.length:Nat):Int)≤2):=by omega
 rcases cas with ⟨c1,c2⟩|big
 ·have sm:m<1000000000000000000:=by
   have:=yQ hbA;rw [hva]at this;exact aU this (cZ (eG (by omega) (show A.length≤2 by omega)) (by omega))
  have sn:n<1000000000000000000:=by
   have:=yQ hbB;rw [←hB,val_mk]at this;exact aU this (cZ (eG (by omega) (show (mk n).length≤2 by rw [hB];omega)) (by omega))
  have cs:=Gq h.sU sm;have ct:=Gq h.sU sn;rw [hA]at cs;rw [hB]at ct;have e1:((m:Nat):Int).tdiv (n:Nat)=((m / n:Nat):Int):=by rw [eU (by omega),Int.natCast_ediv]
  have e2:((m:Nat):Int).tmod (n:Nat)=((m % n:Nat):Int):=by rw [gI (by omega),jM]
  have d1:m / n≤m:=Nat.div_le_self ..;have d2:m % n≤m:=Nat.mod_le ..;have nz:¬((n:Nat):Int)=0:=by omega
  generalize m / n=q at *;generalize m % n=r at *;have c3:=zD h.nG (n:=((q:Nat):Int)) (by omega);have c4:=zD h.nG (n:=((r:Nat):Int)) (by omega);rw [fU]at c3 c4;refine uh @c1 @c2 ?_;refine jy cs ?_;refine ew ?_;refine jy ct ?_;refine vW @nz @e1 @e2 ?_;have p3:=OT h.nG (n:=((q:Nat):Int)) (by omega);rw [fU]at p3;refine qx p3 (by (refine ew ?_;try with_reducible exact True.intro)) (by (refine ew ?_;try with_reducible exact True.intro)) ?_;intro v1 s1 o1 g;refine vW @nz @e1 @e2 ?_;refine jy c4 ?_;refine ew ?_;refine⟨by unfold pz;decide +kernel,?_⟩;exact .inl (aqn g.ow g.nd rfl)
 rcases big with ⟨c1,c2⟩|c1
 case' inl=>(refine uh @c1 @c2 ?_;try with_reducible exact True.intro)
 case' inr=>(refine qj @c1 ?_;try with_reducible exact True.intro)
 all_goals
  refine⟨by omega,?_⟩;rw [Oz];refine kG (fun x d=>(x == 69&&d == 28)||(x == 151&&d == 74)) (α:=Nat×List Int×Nat) (fun q=>⟨kX [ints A,ints B,.any,.any,.any,.any,.any,.any,.kP 0 0 A.length,ints (mk q.2.2),iv ((q.1:Nat)-1)],[some ⟨1,kF q.2.1⟩],0,0,[],[]⟩) (fun q=>q.1≤A.length∧q.2.1.length=A.length∧Lb q.2.1∧(∀j,j<q.1→q.2.1.getD j 0=0)∧q.2.2<n∧val (A.drop q.1)=val (q.2.1.drop q.1)*n+q.2.2) (fun q=>q.1) rfl (A.length,List.replicate A.length 0,0) ?_ ?_ ?_
  ·exact⟨by omega,by simp,SE _,by intro j _;simp [List.getD_eq_getElem?_getD,List.getElem?_replicate];split<;>rfl,hn,by dsimp only;rw [ni (Nat.le_refl _),ni (by simp)];simp⟩
  ·rw [mk_zero];exact ait
  rintro⟨k,Q,x⟩ ⟨hk,hQ,hQb,hz,hx,hv⟩;dsimp only at hk hQ hQb hz hx hv;by_cases k0:k=0
  ·subst k0;rw [bZ,bZ,hva]at hv;obtain⟨q1,q2⟩:=OG hv hx;have e0:¬(0:Int)≤((0:Nat):Int)-1:=by omega
   refine qj @e0 ?_;have hr:=agX h.rZ (l:=Q) (σ:=[some ⟨1,kF Q⟩]) (o:=0) rfl (by omega);rw [hQ]at hr;refine uj hr rfl (aP _) (by simp) ?_;refine ew ?_;rw [←q1,←q2];exact .inr (amK (by have:=(abk Q).2;omega) (by rw [←(abk Q).1,Cj hQb]) rfl)
  obtain⟨i,rfl⟩:∃i,k=i+1:=⟨k-1,by omega⟩;have e0:(((i+1:Nat):Int)-1)=(i:Nat):=by omega
  have e1:((i:Nat):Int)<(A.length:Nat):=by omega
  have e2:(0:Int)≤(i:Nat):=by omega
  rw [e0];have ga:=vg hbA i;have hvi:=qp A i;obtain⟨t,ht⟩:∃t,(A.getD i 0).toNat+1000000000*x=t:=⟨_,rfl⟩;have htn:t<n*1000000000:=by omega
  have lt':(A.getD i 0::mk x).length≤1048576:=by
   have:(mk x).length≤B.length:=by rw [lK];exact Nat.lt_trans hx (by have:=yQ hbB;rw [←hB,val_mk,hB]at this;exact this)
   simp only [aj];omega
  have tr:trim (A.getD i 0::mk x)=mk t:=by
   rw [Cj (by intro y hy;rcases aH.1 hy with rfl|hy;exact ga;exact uZ x y hy),←ht,val,val_mk]
  have ct:=NY h.rZ (l:=A.getD i 0::mk x) lt';rw [tr]at ct;have ely:∀y,y≤t→(mk y).length≤901:=by
   intro y hy;have:(mk y).length≤B.length+1:=by
    rw [lK,iC];have:=yQ hbB;rw [←hB,val_mk,hB]at this;exact aU (Nat.lt_of_le_of_lt hy htn) (dM _ (Nat.le_of_lt this))
   omega
  have lx:=ely;refine uh @e2 @e1 ?_;refine⟨fun e3=>?_,fun e3=>?_⟩
  case' refine_1 =>
   have x0:mk x=[]:=by cases hm:mk x with|nil=>rfl|cons a l=>rw [hm]at e3;cases e3
   rw [x0]at ct;rw [show [[V.int IntKind.i64 (A.getD i 0)]]=kF [A.getD i 0]from rfl]
   (refine ew ?_;try with_reducible exact True.intro)
  case' refine_2 =>
   refine qj @e3 ?_;rw [show [V.int IntKind.i64 (A.getD i 0)]::kF (mk x)=kF (A.getD i 0::mk x)from rfl];refine ew ?_;have lm:=lt';simp only [aj]at lm;refine⟨by omega,?_⟩
  all_goals
   clear lt';refine jy ct ?_;refine ew ?_;refine kG (fun x d=>(x == 69&&d == 28)||(x == 151&&d == 74)) (α:=List Int×Nat) (fun q=>⟨kX [ints A,ints B,.any,.any,.any,.any,.any,.any,.kP 0 0 A.length,ints (mk q.2),iv (i:Nat)],[some ⟨1,kF q.1⟩],0,0,[],[]⟩) (fun q=>q.1.length=A.length∧Lb q.1∧(∀j,j<i→q.1.getD j 0=0)∧q.1.drop (i+1)=Q.drop (i+1)∧q.2+(q.1.getD i 0).toNat*n=t) (fun q=>q.2) rfl (Q,t) ?_ ?_ ?_
   ·exact⟨hQ,hQb,fun j hj=>hz j (by omega),rfl,by dsimp only;rw [hz i (by omega)];simp⟩
   ·exact ait
   rintro⟨P,y⟩ ⟨hP,hPb,hzP,hd,hy⟩;dsimp only at hP hPb hzP hd hy;have yt:y≤t:=by omega
   have ly:=ely y yt;have cc:=YK h.Hw (uI y) (uI n) (by omega) (by rw [hB];omega);rw [val_mk,val_mk,hB]at cc;refine ew ?_;refine jy cc ?_;refine ew ?_;refine kD (fun c3=>?_) fun c3=>?_<;>(refine qj @c3 ?_;try with_reducible exact True.intro)
   ·have hny:n≤y:=xE.1 c3;obtain⟨d,pg,d0,d1,d2⟩:=YN h.Pq hn hny (by omega) (by omega) (by rw [hB];omega);rw [hB]at pg;have pm:=YL h.Hy (m:=n) (n:=d) (by rw [hB];omega) (by rw [mk_one d0 d1];simp);have dn:n*d≤y:=by rw [dH];exact d2
    have lnd:=ely (n*d) (by omega);have ps:=Ui h.Bl dn (by omega) (by omega);rw [hB,mk_one d0 d1]at pm;have gp:=vg hPb i;have y2:y-n*d+((P.getD i 0).toNat+d)*n=t:=by rw [eP,dH d n];omega
    have gp2:P.getD i 0+d<1000000000:=by
     have:((P.getD i 0).toNat+d)*n<1000000000*n:=by rw [dH 1000000000];omega
     have:=Nat.lt_of_mul_lt_mul_right this;omega
    have d0':0<n*d:=Nat.mul_pos hn d0;have k1:=OD (l:=P) (i:=i) (d:=P.getD i 0+d) (by omega) gp2 hPb;have k2:∀j,j<i→(P.set i (P.getD i 0+d)).getD j 0=0:=by
     intro j hj;rw [rG,if_neg (by omega)];exact hzP j hj
    have k3:(P.set i (P.getD i 0+d)).drop (i+1)=Q.drop (i+1):=by rw [List.drop_set_of_lt (by omega),hd]
    have k4:((P.set i (P.getD i 0+d)).getD i 0)=P.getD i 0+d:=by rw [rG,if_pos ⟨rfl,by omega⟩]
    have k5:y-n*d+((P.set i (P.getD i 0+d)).getD i 0).toNat*n=t:=by
     rw [k4,show (P.getD i 0+(d:Int)).toNat=(P.getD i 0).toNat+d by omega];exact y2
    have k6:y-n*d<y:=by omega
    clear y2 hy htn ht hvi k4 hzP hd d2 lx ely hv hz hx;refine jy pg ?_;refine ew ?_;rw [show [[V.int IntKind.i64 (d:Int)]]=kF [(d:Int)]from rfl];refine ew ?_;refine jy pm ?_;refine ew ?_;refine jy ps ?_;refine uh @e1 @hP ?_;exact⟨(P.set i (P.getD i 0+d),y-n*d),k6,⟨by simp [hP],k1,k2,k3,k5⟩,by exact ait⟩
   have hny:y<n:=by
    have:=@xE y n;omega
   have k1:=qp P i;rw [hd]at k1;have k2:val (A.drop i)=val (P.drop i)*n+y:=by
    rw [hvi,hv,k1,eP,iQ,←eY];omega
   exact⟨(i,P,y),by dsimp only;omega,⟨by dsimp only;omega,hP,hPb,hzP,hny,k2⟩,by (refine jW ?_;exact qw)⟩
theorem Y6{σ:Store}{b:Bool}{v:V}{l:List Int}{os:List Nat}(h:lM σ v (ints l) os):lM σ (.agg [.bool b,v]) (.agg [.bool b,ints l]) os:=nN (nS (by simpa using oC h nM))
theorem Q8{σ:Store}{b:Bool}{v w:V}{l m:List Int}{o1 o2:List Nat}(h:lM σ v (ints l) o1)(k:lM σ w (ints m) o2):lM σ (.agg [.bool b,v,w]) (.agg [.bool b,ints l,ints m]) (o1++o2) :=
 nN (nS (oC h (by simpa using oC k nM)))
theorem agY{σ:Store}:lM σ (kN R0) (kN R0) []:=Q8 (o1:=[]) (o2:=[]) mQ mQ
theorem yT{σ:Store}:Fin σ (.agg [.bool false,.jL,.jL]) (kN R0):=⟨_,[],qN,agY,.nil⟩
theorem lM.ayg{σ:Store}{v:V}{l:List Int}{os:List Nat}(h:lM σ v (ints l) os):lenOf σ v=some l.length:=by
 rcases h.wX with ⟨rfl,rfl,_⟩|⟨o,rfl,h1,_⟩
 ·rfl
 simp [lenOf,h1]
theorem Qw{T:Tb}(h:oU T){neg:Bool}{σ:Store}{v:V}{os:List Nat}(h0:lM σ v (ints []) os) :
  ∃σ',Run T (.fn 68 [.bool neg,v] σ) (.fn (.agg [.bool false,.jL]) σ')∧(∀q,q<σ.length→jH σ' q=jH σ q)∧σ.length≤σ'.length:=by
 have:∃r σ',Run T (.fn 68 [.bool neg,v] σ) (.fn r σ')∧(r=.agg [.bool false,.jL]∧(∀q,q<σ.length→jH σ' q=jH σ q)∧σ.length≤σ'.length):=by
  rcases h0.wX with ⟨_,rfl,_⟩|⟨o,rfl,h1,_⟩
  ·have hz:((0:Nat):Int)=0:=rfl;refine run_end nR h.hT ?_;simp only [uJ,Lz,St.enter,aj,au,aN];refine ew ?_;refine qj @hz ?_;exact⟨fun q hq=>kJ hq,by omega⟩
  have hlt:=kK h1;have hz:((0:Nat):Int)=0:=rfl;simp only [au];refine run_end nR h.hT ?_;simp only [uJ,Lz,St.enter,aj,au,aN];refine ew ?_;refine vW @h1 @hlt @hz ?_;exact⟨fun q hq=>kJ hq,by omega⟩
 obtain⟨r,σ',h1,rfl,h2,h3⟩:=this;exact⟨σ',h1,h2,h3⟩
theorem aeW{T:Tb}(h:oU T){as:List Src}{dst:Option Nat}{env:Nat→V}{σ:Store}{kp bs:Nat}{rs ms:List Nat}{k:St→Prop}{neg:Bool}{n o:Nat}
  (h0:jH σ o=some ⟨1,kF (mk n)⟩) (hn:0<n) (ha:(as.map fun s=>s.ev env)=[.bool neg,.kP o 0 (mk n).length]) (hl:(mk n).length≤60)
  (hk:∀σ2:Store,(∀q,q<σ.length→jH σ2 q=jH σ q)→σ.length≤σ2.length→k ⟨oL env dst (.agg [.bool neg,.kP o 0 (mk n).length]),σ2,kp,bs,rs,ms⟩):Ro T 68 as dst ⟨env,σ,kp,bs,rs,ms⟩ k:=by
 have e1:NH [o] σ=[some ⟨1,kF (mk n)⟩]:=by simp [NH,h0,VT]
 obtain⟨σ',hr,hold,hlen⟩:=Y5 h (neg:=neg) (n:=n) (σ:=NH [o] σ) (o:=0) (by rw [e1];rfl) hn hl;refine VU (ρ:=[o]) (by simp) (fun q hq=>⟨_,by simp at hq;subst hq;exact h0⟩) ?_ hr (fun q hq=>hold q (by rw [e1];exact hq)) ?_
 ·have:=congrArg (List.map (lD (place [o]))) ha;rw [fK]at this;refine Eq.trans this ?_;simp [lD,place]
 intro σ2 h1 h2;have:=hk σ2 h1 h2;simpa [lD,lD.MR,back]using this
theorem aj8{T:Tb}(h:oU T){as:List Src}{dst:Option Nat}{env:Nat→V}{σ:Store}{kp bs:Nat}{rs ms:List Nat}{k:St→Prop}{neg:Bool}{v:V}{os:List Nat}
  (h0:lM σ v (ints []) os) (ha:(as.map fun s=>s.ev env)=[.bool neg,v])
  (hk:∀σ2:Store,(∀q,q<σ.length→jH σ2 q=jH σ q)→σ.length≤σ2.length→k ⟨oL env dst (.agg [.bool false,.jL]),σ2,kp,bs,rs,ms⟩):Ro T 68 as dst ⟨env,σ,kp,bs,rs,ms⟩ k:=by
 rcases h0.wX with ⟨_,rfl,_⟩|⟨o,rfl,h1,_⟩
 ·obtain⟨σ',hr,hold,hlen⟩:=Qw h (neg:=neg) (σ:=NH [] σ) (v:=.sl 1 []) (os:=[]) mQ;refine VU (ρ:=[]) (by simp) (by simp) ?_ hr (fun q hq=>by simp at hq) ?_
  ·have:=congrArg (List.map (lD (place []))) ha;rw [fK]at this;refine Eq.trans this ?_;simp [lD,place]
  intro σ2 h1 h2;have:=hk σ2 h1 h2;simpa [lD,lD.MR,back]using this
 have e1:NH [o] σ=[some ⟨1,kF []⟩]:=by simp [NH,h1,VT]
 obtain⟨σ',hr,hold,hlen⟩:=Qw h (neg:=neg) (σ:=NH [o] σ) (v:=.kP 0 0 ([]:List Int).length) (os:=[0]) (Ez (by rw [e1];rfl));refine VU (ρ:=[o]) (by simp) (fun q hq=>⟨_,by simp at hq;subst hq;exact h1⟩) ?_ hr (fun q hq=>hold q (by rw [e1];exact hq)) ?_
 ·have:=congrArg (List.map (lD (place [o]))) ha;rw [fK]at this;refine Eq.trans this ?_;simp [lD,place]
 intro σ2 h1 h2;have:=hk σ2 h1 h2;simpa [lD,lD.MR,back]using this
theorem Tc{T:Tb}(h:wU T){n d:Int}(ln:(mk n.natAbs).length≤60:=by exact lX)(ld:(mk d.natAbs).length≤60:=by exact lX) :
  PO T 144 [Oo (bi n),Oo (bi d)] (kN (Q.raw (Qm n d))):=by
 by_cases hd:d=0
 ·subst hd;have e:Qm n 0=none:=rfl;rw [e];refine kW nR h.hT ?_;simp only [uM,Lz,St.enter,aj,au,aN];refine ew ?_;have c1:(((mk (0:Int).natAbs).length:Nat):Int)=0:=by
   show (((mk 0).length:Nat):Int)=0;rw [XF];rfl
  refine qj @c1 ?_;exact yT
 rw [XG hd];have hg:0<Nat.gcd n.natAbs d.natAbs:=iD _ (by omega);have cg:=YP h.Ih (m:=n.natAbs) (n:=d.natAbs) (by omega) (by omega);have lg:(mk (Nat.gcd n.natAbs d.natAbs)).length≤60:=cZ (Md (jX (by omega) (ji _ _))) ld;have l1:=Qp n.natAbs (Nat.gcd n.natAbs d.natAbs);have l2:=Qp d.natAbs (Nat.gcd n.natAbs d.natAbs);have cn:=abm h.yC (m:=n.natAbs) hg (by omega) (by omega);have cd:=abm h.yC (m:=d.natAbs) hg (by omega) (by omega);have c1:¬(((mk d.natAbs).length:Nat):Int)=0:=by have:=@agB d.natAbs;omega
 clear hg lg;generalize n.natAbs / Nat.gcd n.natAbs d.natAbs=u at *;generalize d.natAbs / Nat.gcd n.natAbs d.natAbs=v at *;generalize n.natAbs % Nat.gcd n.natAbs d.natAbs=u2 at *;generalize d.natAbs % Nat.gcd n.natAbs d.natAbs=v2 at *;refine kW (fun x d=>x == 138||x == 68) h.hT ?_;simp only [uM,Lz,St.enter,aj,au,aN];refine ew ?_;refine qj @c1 ?_;refine jy cg ?_;refine ew ?_;refine VR cn (by (refine ew ?_;try with_reducible exact True.intro)) (by (refine ew ?_;try with_reducible exact True.intro)) ?_;intro vs q1 o1 g;obtain⟨x,x2,rfl,hx2,g⟩:=g.of1;have B0:=g.at 0 (by simp) rfl;have B1:=g.at 1 (by simp) rfl;have B2:=g.at 2 (by simp) rfl;have lq:3≤q1.length:=g.len;have f1:∀o∈o1,3≤o:=g.fresh;have k1:=g.ow;have n1:=g.nd;clear g;refine DF @B0 @B1 @B2 @lq ?_;refine VR cd (by (refine ew ?_;try with_reducible exact True.intro)) (by (refine ew ?_;try with_reducible exact True.intro)) ?_;intro vs q2 o2 g;obtain⟨y,y2,rfl,hy2,g⟩:=g.of1
 replace B0:=(g.old 0 (by omega)).trans B0
 replace B1:=(g.old 1 (by omega)).trans B1
 replace B2:=(g.old 2 (by omega)).trans B2
 have lq2:=g.len;have aDg:=k1.lt
 replace k1:=k1.frame (σ':=q2) fun o ho=>g.old o (k1.lt o ho)
 have k2:=g.ow;have n2:=g.nd;have dj:∀o∈o1,∀p∈o2,o≠p:=fun o ho p hp e=>by
  have:=aDg o ho;have:=g.fresh p hp;omega
 have f2:∀o∈o2,3≤o:=fun o ho=>by have:=g.fresh o ho;omega
 replace lq:3≤q2.length:=by omega
 clear g lq2;have e1:=k1.ayg;have e2:=k2.ayg;have lfy:=k2.leaf rfl;have fcy:=KP lfy;have aDi:(o1++o2).Nodup:=by
  rw [bg];exact⟨n1,n2,dj⟩
 by_cases c2:(24:Int)<((mk u).length:Nat)
 ·refine ew7 @B0 @B1 @B2 @lq @e1 @e2 @c2 ?_;rw [if_neg (by omega)];exact yT
 by_cases c3:(24:Int)<((mk v).length:Nat)
 ·refine ew8 @B0 @B1 @B2 @lq @e1 @e2 @c2 @c3 ?_;rw [if_neg (by omega)];exact yT
 refine ew8 @B0 @B1 @B2 @lq @e1 @e2 @c2 @c3 ?_;rw [if_pos (by omega),←Uk];have key:=Gt (!decide (decide (n<0)=decide (d<0))) u;by_cases hu:u=0
 ·subst hu;rw [mk_zero]at k1;obtain⟨q3,hr,hold,hlen⟩:=Qw h.lV (neg:=!decide (decide (n<0)=decide (d<0))) k1;refine uj hr rfl hlen (by simp) ?_
  replace B2:=(hold 2 (by omega)).trans B2
  have lq3:3≤q3.length:=by omega
  refine DF @B2 @lq3 @lfy @fcy ?_;rw [QY,mk_zero];have k2':=k2.frame (σ':=q3.set 2 (some ⟨3,[[.bool false,.jL,y]]⟩)) fun o ho=>by
   have:=f2 o ho;rw [jV (by omega),hold o (k2.lt o ho)]
  refine⟨.agg [.bool false,.sl 1 [],y],o2,?_,Q8 (o1:=[]) mQ k2',n2⟩;simp only [NW,SK,SI,Ku,mX,true_and,and_true];exact kE _
 rcases k1.wX with ⟨h1,_,_⟩|⟨o,rfl,h1,_⟩
 ·have:=Eb.2 (iV hu);rw [h1]at this;simp at this
 obtain⟨q3,hr,hold,hlen⟩:=Y5 h.lV (neg:=!decide (decide (n<0)=decide (d<0))) h1 (iV hu) (by omega);refine uj hr rfl hlen (by simp) ?_
 replace B2:=(hold 2 (by omega)).trans B2
 have lq3:3≤q3.length:=by omega
 refine DF @B2 @lq3 @lfy @fcy ?_;have hb:=congrArg Bi.neg (aii (!decide (decide (n<0)=decide (d<0))) u (iV hu));have hb:decide (sg (!decide (decide (n<0)=decide (d<0))) u<0) = !decide (decide (n<0)=decide (d<0)):=hb;rw [hb];generalize (!decide (decide (n<0)=decide (d<0)))=ng;have fr:∀p,p∈o1++o2→jH (q3.set 2 (some ⟨3,[[.bool ng,.kP o 0 (mk u).length,y]]⟩)) p=jH q2 p:=fun p hp=>by
  have h3:3≤p∧p<q2.length:=by
   rcases aO.1 hp with hp|hp
   ·exact⟨f1 p hp,k1.lt p hp⟩
   exact⟨f2 p hp,k2.lt p hp⟩
  rw [jV (by omega),hold p h3.2]
 exact rE (Q8 (k1.frame fun p hp=>fr p (gq _ hp)) (k2.frame fun p hp=>fr p (dU _ hp))) aDi
theorem aj9{T:Tb}(h:nJ T){a b:Q}(ha:a.ok:=by assumption)(hb:b.ok:=by assumption):PO T 131 [kN (Q.raw a),kN (Q.raw b)] (kN (Q.raw (PU a b))):=by
 cases a with
 |
  none =>
  refine kW (fun x d=>x == 144) h.hT ?_;simp only [rH,Lz,St.enter,aj,au,aN];refine ew ?_;refine jy (yY h.kL) ?_;refine ew ?_;exact yT
 |
  some q=>cases b with
  |
   none =>
   refine kW (fun x d=>x == 144) h.hT ?_;simp only [rH,Lz,St.enter,aj,au,aN];refine ew ?_;refine jy (sN h.kL) ?_;refine ew ?_;refine jy (yY h.kL) ?_;refine ew ?_;exact yT
  |
   some s =>
   obtain⟨l1,l2⟩:=LV ha;obtain⟨l3,l4⟩:=LV hb;have e:PU (some q) (some s)=Qm (q.num*s.den+s.num*q.den) (q.den*s.den):=(XC q s).symm;rw [e];have t1:=qC q.num s.den;have t2:=qC s.num q.den;have t3:=qC q.den s.den;have t5:=qC q.num s.num;have t4:=H6 (q.num*s.den) (s.num*q.den);have n1:(mk (q.den:Int).natAbs).length≤24:=by rw [bW];exact l2
   have n2:(mk (s.den:Int).natAbs).length≤24:=by rw [bW];exact l4
   refine kW (fun x d=>x == 144) h.hT ?_;simp only [rH,Lz,St.enter,aj,au,aN];refine ew ?_;refine jy (sN h.kL) ?_;refine ew ?_;refine jy (sN h.kL) ?_;refine ew ?_;refine jy (AU h.mZ (q:=s)) ?_;refine ew ?_;refine jy (vJ h.nD (x:=q.num) (y:=s.den) (by omega) (by omega)) ?_;refine ew ?_;refine jy (AU h.mZ (q:=q)) ?_;refine ew ?_;refine jy (vJ h.nD (x:=s.num) (y:=q.den) (by omega) (by omega)) ?_;refine ew ?_;refine jy (aes h.RI (x:=q.num*s.den) (y:=s.num*q.den) (by omega) (by omega)) ?_;refine ew ?_;refine⟨by unfold pz;decide +kernel,?_⟩;refine jy (AU h.mZ (q:=q)) ?_;refine ew ?_;refine jy (AU h.mZ (q:=s)) ?_;refine ew ?_;refine jy (vJ h.nD (x:=q.den) (y:=s.den) (by omega) (by omega)) ?_;refine ew ?_;refine qx (Tc h.sG (n:=q.num*s.den+s.num*q.den) (d:=q.den*s.den) (by omega) (by omega)) (by (refine ew ?_;try with_reducible exact True.intro)) (by (refine ew ?_;try with_reducible exact True.intro)) ?_;intro v q os g;have g0:=g;obtain⟨a0,d0,_,_,rfl,_,k1,k2⟩:=g.ow.J4;have B2:=g0.at 2 (by simp) rfl;have lq:3≤q.length:=by have:=g0.len;simp at this;omega
   have la:=k1.leaf rfl;have ld:=k2.leaf rfl;have PY:=ah la ld;have fc:=fun b k=>rF (cs:=[.bool b,a0,d0]) (by simp [la,ld,show ∀b,V.leaf (.bool b)=true from fun _=>rfl]) k;refine DF @B2 @lq @PY @fc ?_;refine⟨by unfold pz;decide +kernel,?_⟩;refine DF @B2 @lq @PY @fc ?_;exact g0.agS (by simp)
theorem akb{T:Tb}(h:rM T){a b:Q}(ha:a.ok:=by assumption)(hb:b.ok:=by assumption):PO T 157 [kN (Q.raw a),kN (Q.raw b)] (kN (Q.raw (Yz a b))):=by
 cases a with
 |
  none =>
  refine kW (fun x d=>x == 144) h.hT ?_;simp only [rJ,Lz,St.enter,aj,au,aN];refine ew ?_;refine jy (yY h.kL) ?_;refine ew ?_;exact yT
 |
  some q=>cases b with
  |
   none =>
   refine kW (fun x d=>x == 144) h.hT ?_;simp only [rJ,Lz,St.enter,aj,au,aN];refine ew ?_;refine jy (sN h.kL) ?_;refine ew ?_;refine jy (yY h.kL) ?_;refine ew ?_;exact yT
  |
   some s =>
   obtain⟨l1,l2⟩:=LV ha;obtain⟨l3,l4⟩:=LV hb;have e:Yz (some q) (some s)=Qm (q.num*s.num) (q.den*s.den):=(ab7 q s).symm;rw [e];have t1:=qC q.num s.den;have t2:=qC s.num q.den;have t3:=qC q.den s.den;have t5:=qC q.num s.num;have t4:=H6 (q.num*s.den) (s.num*q.den);have n1:(mk (q.den:Int).natAbs).length≤24:=by rw [bW];exact l2
   have n2:(mk (s.den:Int).natAbs).length≤24:=by rw [bW];exact l4
   refine kW (fun x d=>x == 144) h.hT ?_;simp only [rJ,Lz,St.enter,aj,au,aN];refine ew ?_;refine jy (sN h.kL) ?_;refine ew ?_;refine jy (sN h.kL) ?_;refine ew ?_;refine jy (vJ h.nD (x:=q.num) (y:=s.num) (by omega) (by omega)) ?_;refine ew ?_;refine jy (AU h.mZ (q:=q)) ?_;refine ew ?_;refine jy (AU h.mZ (q:=s)) ?_;refine ew ?_;refine jy (vJ h.nD (x:=q.den) (y:=s.den) (by omega) (by omega)) ?_;refine ew ?_;refine qx (Tc h.sG (n:=q.num*s.num) (d:=q.den*s.den) (by omega) (by omega)) (by (refine ew ?_;try with_reducible exact True.intro)) (by (refine ew ?_;try with_reducible exact True.intro)) ?_;intro v q os g;have g0:=g;obtain⟨a0,d0,_,_,rfl,_,k1,k2⟩:=g.ow.J4;have B2:=g0.at 2 (by simp) rfl;have lq:3≤q.length:=by have:=g0.len;simp at this;omega
   have la:=k1.leaf rfl;have ld:=k2.leaf rfl;have PY:=ah la ld;have fc:=fun b k=>rF (cs:=[.bool b,a0,d0]) (by simp [la,ld,show ∀b,V.leaf (.bool b)=true from fun _=>rfl]) k;refine DF @B2 @lq @PY @fc ?_;refine⟨by unfold pz;decide +kernel,?_⟩;refine DF @B2 @lq @PY @fc ?_;exact g0.agS (by simp)
theorem akc{T:Tb}(h:wB T){a b:Q}(ha:a.ok:=by assumption)(hb:b.ok:=by assumption):PO T 156 [kN (Q.raw a),kN (Q.raw b)] (kN (Q.raw (YA a b))):=by
 cases a with
 |
  none =>
  refine kW (fun x d=>x == 144) h.hT ?_;simp only [rO,Lz,St.enter,aj,au,aN];refine ew ?_;refine jy (yY h.kL) ?_;refine ew ?_;exact yT
 |
  some q=>cases b with
  |
   none =>
   refine kW (fun x d=>x == 144) h.hT ?_;simp only [rO,Lz,St.enter,aj,au,aN];refine ew ?_;refine jy (sN h.kL) ?_;refine ew ?_;refine jy (yY h.kL) ?_;refine ew ?_;exact yT
  |
   some s =>
   obtain⟨l1,l2⟩:=LV ha;obtain⟨l3,l4⟩:=LV hb;have e:YA (some q) (some s)=Qm (q.num*s.den) (s.num*q.den):=(ab8 q s).symm;rw [e];have t1:=qC q.num s.den;have t2:=qC s.num q.den;have t3:=qC q.den s.den;have t5:=qC q.num s.num;have t4:=H6 (q.num*s.den) (s.num*q.den);have n1:(mk (q.den:Int).natAbs).length≤24:=by rw [bW];exact l2
   have n2:(mk (s.den:Int).natAbs).length≤24:=by rw [bW];exact l4
   refine kW (fun x d=>x == 144) h.hT ?_;simp only [rO,Lz,St.enter,aj,au,aN];refine ew ?_;refine jy (sN h.kL) ?_;refine ew ?_;refine jy (sN h.kL) ?_;refine ew ?_;refine jy (AU h.mZ (q:=s)) ?_;refine ew ?_;refine jy (vJ h.nD (x:=q.num) (y:=s.den) (by omega) (by omega)) ?_;refine ew ?_;refine jy (AU h.mZ (q:=q)) ?_;refine ew ?_;refine jy (vJ h.nD (x:=s.num) (y:=q.den) (by omega) (by omega)) ?_;refine ew ?_;refine qx (Tc h.sG (n:=q.num*s.den) (d:=s.num*q.den) (by omega) (by omega)) (by (refine ew ?_;try with_reducible exact True.intro)) (by (refine ew ?_;try with_reducible exact True.intro)) ?_;intro v q os g;have g0:=g;obtain⟨a0,d0,_,_,rfl,_,k1,k2⟩:=g.ow.J4;have B2:=g0.at 2 (by simp) rfl;have lq:3≤q.length:=by have:=g0.len;simp at this;omega
   have la:=k1.leaf rfl;have ld:=k2.leaf rfl;have PY:=ah la ld;have fc:=fun b k=>rF (cs:=[.bool b,a0,d0]) (by simp [la,ld,show ∀b,V.leaf (.bool b)=true from fun _=>rfl]) k;refine DF @B2 @lq @PY @fc ?_;refine⟨by unfold pz;decide +kernel,?_⟩;refine DF @B2 @lq @PY @fc ?_;exact g0.agS (by simp)
theorem Gv{T:Tb}(h:nJ T){r s:R}(hr:r.cn:=by exact Ut)(hs:s.cn:=by exact Ut):PO T 131 [kN r,kN s] (kN (pI r s)):=by
 have:=aj9 h (a:=r.q) (b:=s.q) (Qn r) (Qn s);rw [hr,hs]at this;exact this
theorem agZ{T:Tb}(h:rM T){r s:R}(hr:r.cn:=by exact Ut)(hs:s.cn:=by exact Ut):PO T 157 [kN r,kN s] (kN (mulR r s)):=by
 have:=akb h (a:=r.q) (b:=s.q) (Qn r) (Qn s);rw [hr,hs]at this;exact this
theorem Td{T:Tb}(h:wB T){r s:R}(hr:r.cn:=by exact Ut)(hs:s.cn:=by exact Ut):PO T 156 [kN r,kN s] (kN (DC r s)):=by
 have:=akc h (a:=r.q) (b:=s.q) (Qn r) (Qn s);rw [hr,hs]at this;exact this
theorem aeX{T:Tb}(h:CV T){n:Int}(hn : -1000000000000000000<n∧n<1000000000000000000:=by exact lX):PO T 54 [iv n] (Oo (bi n)):=by
 have hl:(mk n.natAbs).length≤2:=Ur (by omega);by_cases hneg:n<0
 ·have c1:=OT h.nG (n:=-(n+1)+1) (by omega);rw [show (-(n+1)+1).toNat=n.natAbs by omega]at c1;have e:bi n=⟨true,mk n.natAbs⟩:=by unfold bi;rw [decide_eq_true hneg]
  rw [e];refine kW (fun x d=>x == 69||x == 68) h.hT ?_;simp only [sZ,Lz,St.enter,aj,au,aN];refine ew ?_;refine qj @hneg ?_;rw [show (0:Int)-(n+1)+1 = -(n+1)+1 by omega];refine kU c1 (by (refine ew ?_;try with_reducible exact True.intro)) ?_;intro v q1 o1 g;have B0:=g.at 0 (by simp) rfl;have lq:1≤q1.length:=g.len;have f1:∀o∈o1,1≤o:=g.fresh;have k1:=g.ow;have n1:=g.nd;clear g;refine uh @B0 @lq ?_;rcases k1.wX with ⟨h1,_,_⟩|⟨o,rfl,h1,_⟩
  ·have:=Eb.2 (show 0<n.natAbs by omega);rw [h1]at this;simp at this
  refine aeW h.lV (neg:=true) h1 (by omega) rfl (by omega) ?_;intro q3 hold hlen
  replace B0:=(hold 0 (by omega)).trans B0
  have lq3:1≤q3.length:=by omega
  refine uh @B0 @lq3 ?_;refine rE (Y6 (k1.frame fun p hp=>?_)) n1;have:=f1 p hp;rw [jV (by omega),hold p (k1.lt p hp)]
 have c1:=OT h.nG (n:=n) (by omega);rw [show n.toNat=n.natAbs by omega]at c1;have e:bi n=⟨false,mk n.natAbs⟩:=by unfold bi;rw [decide_eq_false hneg]
 rw [e];refine kW (fun x d=>x == 69||x == 68) h.hT ?_;simp only [sZ,Lz,St.enter,aj,au,aN];refine ew ?_;refine qj @hneg ?_;refine kU c1 (by (refine ew ?_;try with_reducible exact True.intro)) ?_;intro v q1 o1 g;have B0:=g.at 0 (by simp) rfl;have lq:1≤q1.length:=g.len;have f1:∀o∈o1,1≤o:=g.fresh;have k1:=g.ow;have n1:=g.nd;clear g;refine uh @B0 @lq ?_;by_cases h0:n.natAbs=0
 ·rw [h0,mk_zero]at k1 ⊢;refine aj8 h.lV (neg:=false) k1 rfl ?_;intro q3 hold hlen
  replace B0:=(hold 0 (by omega)).trans B0
  have lq3:1≤q3.length:=by omega
  refine uh @B0 @lq3 ?_;exact⟨.agg [.bool false,.sl 1 []],[],acg,Y6 (mQ),.nil⟩
 rcases k1.wX with ⟨h1,_,_⟩|⟨o,rfl,h1,_⟩
 ·have:=Eb.2 (show 0<n.natAbs by omega);rw [h1]at this;simp at this
 refine aeW h.lV (neg:=false) h1 (by omega) rfl (by omega) ?_;intro q3 hold hlen
 replace B0:=(hold 0 (by omega)).trans B0
 have lq3:1≤q3.length:=by omega
 refine uh @B0 @lq3 ?_;refine rE (Y6 (k1.frame fun p hp=>?_)) n1;have:=f1 p hp;rw [jV (by omega),hold p (k1.lt p hp)]
theorem uy{T:Tb}(h:oP T){n:Int}(hn : -1000000000000000000<n∧n<1000000000000000000:=by exact lX):PO T 39 [iv n] (kN (kR n)):=by
 rw [Us];refine kW (fun x d=>x == 54) h.hT ?_;simp only [vN,Lz,St.enter,aj,au,aN];refine ew ?_;refine kU (aeX h.PD hn) (by (refine ew ?_;try with_reducible exact True.intro)) ?_;intro v q1 o1 g;obtain⟨v1,rfl,k1⟩:=g.ow.amz;have B0:=g.at 0 (by simp) rfl;have B1:=g.at 1 (by simp) rfl;have lq:2≤q1.length:=g.len;have f1:∀o∈o1,2≤o:=g.fresh;have n1:=g.nd;have la:=k1.leaf rfl;have fc:=fun b k=>rF (cs:=[.bool b,v1]) (by simp [la,show ∀b,V.leaf (.bool b)=true from fun _=>rfl]) k;clear g;refine Df @B0 @B1 @lq @la @fc ?_;refine rE (Q8 (o1:=o1) (o2:=[1]) (k1.frame fun p hp=>?_) (Ez (l:=[1]) ?_)) ?_
 ·have:=f1 p hp;rw [jV (by omega),jV (by omega)]
 ·rw [jV (by omega),kT (by omega)];rfl
 rw [bg];refine⟨n1,by simp,fun a ha b hb e=>?_⟩;have:=f1 a ha;simp at hb;omega
theorem aeY{T:Tb}(h:Di T){z:Bi}(hl:z.mag.length≤1048576:=by exact lX):PO T 63 [Oo z] (Oo z):=by
 refine kW (fun x d=>x == 6) h.hT ?_;simp only [yg,Lz,St.enter,aj,au,aN];refine ew ?_;refine kU (abl h.BL (l:=z.mag) (by omega)) (by (refine ew ?_;try with_reducible exact True.intro)) ?_;intro r σ2 os g;have g1:=g.at 1 (by simp) rfl;have g2:=g.at 2 (by simp) rfl;have gl:3≤σ2.length:=g.len;have lf:=g.lf rfl;have lb:=g.lfb rfl;have fr:∀o∈os,3≤o:=g.fresh;refine DF @g1 @g2 @lf @lb ?_;refine rE (nN (nS (oC (g.ow.frame fun o ho=>?_) nM))) (by simpa using g.nd);have:=fr o ho;rw [jV (by omega),jV (by omega)]
theorem Y7{T:Tb}(h:J6 T){r:R}(hl:r.mag.length+r.den.length≤1048576:=by exact lX):PO T 48 [kN r] (kN r):=by
 refine kW (fun x d=>x == 6||x == 63) h.hT ?_;simp only [EG,Lz,St.enter,aj,au,aN];refine ew ?_;refine kU (aeY h.PE (z:=r.num) (by show r.mag.length≤_;omega)) (by (refine ew ?_;try with_reducible exact True.intro)) ?_;intro r1 σ1 o1 g;obtain⟨v1,rfl,k1⟩:=g.ow.amz;have a0:=g.at 0 (by simp) rfl;have a1:=g.at 1 (by simp) rfl;have a2:=g.at 2 (by simp) rfl;have gl:3≤σ1.length:=g.len;have lf:=KP (k1.leaf rfl);have lb:=k1.leaf rfl;have f1:∀o∈o1,3≤o:=g.fresh;refine Df @a0 @a1 @a2 @lf @lb ?_;refine kU (abl h.BL (l:=r.den) (by omega)) (by (refine ew ?_;try with_reducible exact True.intro)) ?_;intro v2 σ2 o2 g2;have b1:=g2.old 1 (by simp;omega);have b2:=g2.old 2 (by simp;omega);have gl2:σ1.length≤σ2.length:=by simpa using g2.len
 have lf2:=KP (g2.ow.leaf rfl);have lb2:=g2.ow.leaf rfl;have f2:∀o∈o2,σ1.length≤o:=by simpa using g2.fresh
 refine zK @b1 @b2 @a1 @lf2 @lb2 @lb ?_;refine rE (nN (nS (oC (k1.frame fun o ho=>?_) (oC (g2.ow.frame fun o ho=>?_) nM)))) ?_
 ·have:=f1 o ho;have:=k1.lt o ho;rw [jV (by omega),jV (by omega),g2.old o (by simp;omega),jV (by omega)]
 ·have:=f2 o ho;rw [jV (by omega),jV (by omega)]
 rw [aQ,bg];refine⟨by simpa using g.nd,g2.nd,fun a ha b hb e=>?_⟩;have:=k1.lt a ha;have:=f2 b hb;omega
def ayi(z:List V)(bytes sz f:Nat):Fn:=⟨1,23,[.tmp 2],(.seq (.reg false 0 [oN 2 (.mM (.c (.jL)))]) (.seq (.reg false 1 [oK 5 1 (oV 0),oK 6 1 (.len (.t 5)),oN 7 (.make z bytes (.t 6)),oK 3 1 (oV 7)]) (.seq (.seq (.reg false 0 [oN 4 (.mM (cI 0))]) (.block 0 (.loop (.seq (.seq (.reg false 0 [oN 8 (oV 4),oN 9 (oV 0),oN 10 (.len (.t 9)),oN 11 (.bin .lss (.t 8) (.t 10))]) (.cond (.t 11) .skip (.exit 0))) (.seq (.block 1 (.reg false 0 [oN 14 (oV 3),oN 15 (oV 4),oN 16 (oV 0),oN 17 (oV 4),oN 18 (.idx sz (.t 16) (.t 17)),oN 19 (.load sz true (.t 18)),oN 20 (.call f [(.t 19)]),oN 21 (.idx sz (.t 14) (.t 15)),oS (.store sz (.t 21) (.t 20))])) (.reg false 0 [oN 12 (oV 4),oN 13 (.bin .add (.t 12) (cI 1)),oN 4 (oV 13)])))))) (.seq (.reg false 0 [oN 22 (oV 3),oN 2 (oV 22)]) .ret))))⟩
theorem aqs{α:Type}(A:List α)(z:α){n i:Nat}(ha:A.length=i)(h:i<n):(A++List.replicate (n-i) z)[i]? = some z:=by
 rw [bI (by omega),ha,jd,show n-i=(n-(i+1))+1 by omega,gB];rfl
theorem aqt{α:Type}(A:List α)(z x:α){n i:Nat}(ha:A.length=i)(h:i<n):(A++List.replicate (n-i) z).set i x=(A++[x])++List.replicate (n-(i+1)) z:=by
 rw [gG _ _ (by omega),ha,jd,show n-i=(n-(i+1))+1 by omega,gB];simp
theorem RJ{α:Type} [Inhabited α] (cl:α→List V) (l:List α) {i:Nat} (h:i<l.length):(l.take (i+1)).map cl=(l.take i).map cl++[cl (l.getD i default)]:=by
 rw [dD,aB h,ak,aB h,bK];rfl
theorem Y8{σ:Store}:∀{cs:List V},(∀v∈cs,v.still=true)→SB σ cs=some cs
 | [],_=>rfl
 |
  c::cs,h=>by
  simp only [SB];rw [NR (n:=10) (h c (by simp)),Y8 fun v hv=>h v (by simp [hv])]
theorem BM{σ:Store}{cs:List V}(h:∀v∈cs,v.still=true):resolve σ FD (.agg cs)=some (.agg cs):=by
 show (cs.mapM (resolve σ 11)).map V.agg=_;rw [zy (n:=10) h];rfl
theorem aui{T:Tb}{n f bytes:Nat}{z:List V}{α:Type} [Inhabited α] {cl:α→List V} {l:List α} (hT:T n=some (ayi z bytes z.length f)) (hb:bytes≤1024) (hl:l.length≤1048576)
  (hcl:∀x∈l,(cl x).length=z.length∧(∀v∈cl x,v.still=true)∧(cl x).all V.leaf=true) (hpo:∀x∈l,PO T f [.agg (cl x)] (.agg (cl x))):PO T n [.sl z.length (l.map cl)] (.sl z.length (l.map cl)):=by

 refine kW (fun x _=>x == f) hT ?_;dsimp only [ayi,oN,oS,oG,oK,oA,oH,oV,cI];refine ew ?_;have hbl:l.length*bytes≤1048576*1024:=jK hl hb;refine⟨by omega,?_⟩;refine kG (fun x _=>x == f) (α:=Nat×Store×List (List V)) (fun q=>⟨kX [.sl z.length (l.map cl),.any,.any,.kP 0 0 l.length,iv (q.1:Nat)],q.2.1,0,0,[],[]⟩) (fun q=>q.1≤l.length∧q.2.2.length=q.1∧jH q.2.1 0=some ⟨z.length,q.2.2++List.replicate (l.length-q.1) z⟩∧aan 1 q.2.1 q.2.2 ((l.take q.1).map cl)∧1≤q.2.1.length) (fun q=>l.length-q.1) rfl (0,[some ⟨z.length,List.replicate l.length z⟩],[]) ?_ ?_ ?_
 ·exact⟨by omega,rfl,rfl,by simpa using amA,by simp⟩
 ·(refine jW ?_;exact qw)
 rintro⟨i,s,A⟩ ⟨hi,hA,h0,hO,hs⟩;dsimp only at hi hA h0 hO hs;refine qj @h0 ?_;refine kD (fun hc=>?_) fun hc=>?_<;>(refine vW @hc @mg @h0 ?_;try with_reducible exact True.intro)
 ·have hil:i<l.length:=by omega
  have hx:=getD_mem hil;obtain⟨x,hxe⟩:∃x,l.getD i default=x:=⟨_,rfl⟩;have hts:=RJ cl l hil;rw [hxe]at hx hts ⊢;obtain⟨e1,e2,e3⟩:=hcl x hx;have e4:∀σ:Store,SB σ (cl x)=some (cl x):=fun σ=>Y8 e2;have e5:∀σ:Store,resolve σ FD (.agg (cl x))=some (.agg (cl x)):=fun σ=>BM e2;have eb:(f == f)=true:=by simp
  refine vW @e1 @e4 @eb ?_;refine kU (hpo x hx) (by (refine qj @e5 ?_;try with_reducible exact True.intro)) ?_;intro r σ2 os g;obtain⟨cs,rfl,k1⟩:=g.ow.kV;have g0:=g.at 0 (by omega) h0;have gl:=g.len;have lf:=rF (k1.leaf e3);have cl1:cs.length=z.length:=by rw [k1.len,e1]
  have r1:=aqs A z hA hil;have r2:=aqt A z cs hA hil;refine Df @g0 @lf @cl1 @r1 @List.drop_length.{0} ?_;rw [r2];refine⟨(i+1,σ2.set 0 (some ⟨z.length,(A++[cs])++List.replicate (l.length-(i+1)) z⟩),A++[cs]),by dsimp only;omega,⟨by dsimp only;omega,by simp [hA],?_,?_,by simp;omega⟩,by (refine jW ?_;exact qw)⟩
  ·dsimp only;exact kT (by omega)
  dsimp only;rw [hts];exact(hO.got g hs).set (by omega)
 have ei:i=l.length:=by omega
 subst ei;rw [jd,List.replicate_zero,aQ]at h0;rw [bQ]at hO;have:=hO.fin h0 (by omega);rw [aV]at this;exact this
def EI:Fn:=⟨2,17,[.tmp 4],(.seq (rf 2 [oN 2 (.box (.t 0)),oK 3 1 (.box (.t 1)),oK 4 2 mF]) (.seq (sr [oN 5 (fd 0 2),oN 6 (lT 3 5),oN 7 (fd 0 3),oN 8 (lT 3 7),oN 9 (cl 40 [6,8]),oN 10 (nt 9)] (cd 10 (sr [oN 4 mF] .ret) .skip)) (.seq (sr [oN 11 (fd 3 2),oN 12 (lT 3 11),oN 13 (fd 3 3),oN 14 (lT 3 13),oN 15 (cl 40 [12,14]),oN 16 (nt 15)] (cd 16 (sr [oN 4 mF] .ret) .skip)) (sr [oN 4 mT] .ret))))⟩
structure KT (T:Tb):Prop where
 hT:T 33=some EI
 rV:EH T
def Dl:Fn:=⟨2,27,[.tmp 4],(sr [oN 4 mF] (.seq (sr [oW 6 0,oN 7 (ln 6),oW 8 1,oN 9 (ln 8),oN 10 (bt .neq 7 9)] (cd 10 (sr [oN 4 mF] .ret) .skip)) (.seq (sr [oN 5 (.mM (cI 0))] (.block 0 (.loop (.seq (sr [oW 11 5,oW 12 0,oN 13 (ln 12),oN 14 (bt .lss 11 13)] (cd 14 .skip (.exit 0))) (.seq (.block 1 (.seq (rt 0 [oW 17 0,oW 18 5,oA 19 0 (ix 6 17 18) [0,1],oA 20 0 (lT 6 19) [2],oW 21 1,oW 22 5,oA 23 0 (ix 6 21 22) [4,5],oA 24 0 (lT 6 23) [6],oA 25 0 (cl 33 [20,24]) [3,7],oA 26 0 (nt 25) [8]]) (cd 26 (sr [oN 4 mF] .ret) .skip))) (rg [oW 15 5,oN 16 (bc .add 15 1),oW 5 16])))))) (sr [oN 4 mT] .ret))))⟩
structure JB (T:Tb):Prop where
 hT:T 13=some Dl
 Y9:KT T
def IL:Fn:=⟨2,24,[.tmp 4],(.seq (rf 1 [oN 2 (.box (.t 0)),oK 4 1 (.mM (cI 0))]) (sr [oN 5 (fd 2 2),oN 6 (lT 3 5),oW 7 1,oN 8 (cl 46 [6,7]),oW 1 8] (.seq (sr [oW 9 1,oN 10 (bc .lss 9 0)] (cd 10 (sr [oN 4 (.mM (cI (-1)))] .ret) .skip)) (sr [oN 11 (fd 5 2),oN 12 (lT 3 11),oW 13 1,oN 14 (cl 46 [12,13]),oW 1 14] (.seq (sr [oW 15 1,oN 16 (bc .lss 15 0)] (cd 16 (sr [oN 4 (.mM (cI (-1)))] .ret) .skip)) (sr [oN 17 (fd 8 2),oN 18 (lT 3 17),oW 19 1,oN 20 (cl 46 [18,19]),oW 1 20] (.seq (sr [oW 21 1,oN 22 (bc .lss 21 0)] (cd 22 (sr [oN 4 (.mM (cI (-1)))] .ret) .skip)) (sr [oW 23 1,oW 4 23] .ret))))))))⟩
structure Ns (T:Tb):Prop where
 hT:T 43=some IL
 OU:OQ T
def BN:Fn:=⟨1,23,[.cell 2 11 true],(.seq (rf 2 [oN 1 (.box (.t 0)),oK 2 1 (.alloc D6)]) (.seq (rf 1 [oN 3 (.alloc D6)]) (sr [oN 4 (fd 0 1),oN 5 (lF 1 4),oN 6 (fd 0 3),oS (.store 1 (.t 6) (.t 5))] (sr [oN 7 (fd 1 1),oN 8 (lF 1 7),oN 9 (fd 1 3),oS (.store 1 (.t 9) (.t 8))] (sr [oN 10 (fd 2 1),oN 11 (lT 3 10),oN 12 (cl 48 [11]),oN 13 (fd 2 3),oS (.store 3 (.t 13) (.t 12))] (sr [oN 14 (fd 5 1),oN 15 (lT 3 14),oN 16 (cl 48 [15]),oN 17 (fd 5 3),oS (.store 3 (.t 17) (.t 16))] (sr [oN 18 (fd 8 1),oN 19 (lT 3 18),oN 20 (cl 48 [19]),oN 21 (fd 8 3),oS (.store 3 (.t 21) (.t 20))] (sr [oN 22 (lT 11 3),oS (.store 11 (.t 2) (.t 22))] .ret))))))))⟩
structure IQ (T:Tb):Prop where
 hT:T 44=some BN
 Ap:J6 T
def IU:Fn:=⟨2,33,[.tmp 4],(.seq (rf 2 [oN 2 (.box (.t 0)),oK 3 1 (.box (.t 1)),oK 4 2 mF]) (.seq (sr [oN 5 (fd 0 2),oN 6 (lF 1 5),oN 7 (fd 0 3),oN 8 (lF 1 7),oN 9 (bt .neq 6 8)] (cd 9 (sr [oN 4 mF] .ret) .skip)) (.seq (sr [oN 10 (fd 1 2),oN 11 (lF 1 10),oN 12 (fd 1 3),oN 13 (lF 1 12),oN 14 (bt .neq 11 13)] (cd 14 (sr [oN 4 mF] .ret) .skip)) (.seq (sr [oN 15 (fd 2 2),oN 16 (lT 3 15),oN 17 (fd 2 3),oN 18 (lT 3 17),oN 19 (cl 40 [16,18]),oN 20 (nt 19)] (cd 20 (sr [oN 4 mF] .ret) .skip)) (.seq (sr [oN 21 (fd 5 2),oN 22 (lT 3 21),oN 23 (fd 5 3),oN 24 (lT 3 23),oN 25 (cl 40 [22,24]),oN 26 (nt 25)] (cd 26 (sr [oN 4 mF] .ret) .skip)) (.seq (sr [oN 27 (fd 8 2),oN 28 (lT 3 27),oN 29 (fd 8 3),oN 30 (lT 3 29),oN 31 (cl 40 [28,30]),oN 32 (nt 31)] (cd 32 (sr [oN 4 mF] .ret) .skip)) (sr [oN 4 mT] .ret)))))))⟩
structure Nu (T:Tb):Prop where
 hT:T 16=some IU
 rV:EH T
def EJ:Fn:=⟨2,27,[.tmp 4],(sr [oN 4 (.mM (cI 0))] (sr [oW 6 1,oW 7 0,oN 8 (ln 7),oN 9 (bt .sub 6 8),oW 1 9] (.seq (sr [oW 10 1,oN 11 (bc .lss 10 0)] (cd 11 (sr [oN 4 (.mM (cI (-1)))] .ret) .skip)) (.seq (sr [oN 5 (.mM (cI 0))] (.block 0 (.loop (.seq (sr [oW 12 5,oW 13 0,oN 14 (ln 13),oN 15 (bt .lss 12 14)] (cd 15 .skip (.exit 0))) (.seq (.block 1 (sr [oW 18 0,oW 19 5,oN 20 (ix 11 18 19),oN 21 (lT 11 20),oW 22 1,oN 23 (cl 43 [21,22]),oW 1 23] (sr [oW 24 1,oN 25 (bc .lss 24 0)] (cd 25 (sr [oN 4 (.mM (cI (-1)))] .ret) .skip)))) (rg [oW 16 5,oN 17 (bc .add 16 1),oW 5 17])))))) (sr [oW 26 1,oW 4 26] .ret)))))⟩
structure KU (T:Tb):Prop where
 hT:T 19=some EJ
 aap:Ns T
def EK:Fn:=⟨1,23,[.tmp 2],(sr [oN 2 mN] (.seq (rf 1 [oK 5 1 (oV 0),oK 6 1 (ln 5),oN 7 (.make D6 184 (.t 6)),oK 3 1 (oV 7)]) (.seq (sr [oN 4 (.mM (cI 0))] (.block 0 (.loop (.seq (sr [oW 8 4,oW 9 0,oN 10 (ln 9),oN 11 (bt .lss 8 10)] (cd 11 .skip (.exit 0))) (.seq (.block 1 (rg [oW 14 3,oW 15 4,oW 16 0,oW 17 4,oN 18 (ix 11 16 17),oN 19 (lT 11 18),oN 20 (cl 44 [19]),oN 21 (ix 11 14 15),oS (.store 11 (.t 21) (.t 20))])) (rg [oW 12 4,oN 13 (bc .add 12 1),oW 4 13])))))) (sr [oW 22 3,oW 2 22] .ret))))⟩
structure EM (T:Tb):Prop where
 hT:T 21=some EK
 RN:IQ T
def EN:Fn:=⟨2,27,[.tmp 4],(sr [oN 4 mF] (.seq (sr [oW 6 0,oN 7 (ln 6),oW 8 1,oN 9 (ln 8),oN 10 (bt .neq 7 9)] (cd 10 (sr [oN 4 mF] .ret) .skip)) (.seq (sr [oN 5 (.mM (cI 0))] (.block 0 (.loop (.seq (sr [oW 11 5,oW 12 0,oN 13 (ln 12),oN 14 (bt .lss 11 13)] (cd 14 .skip (.exit 0))) (.seq (.block 1 (.seq (rt 0 [oW 17 0,oW 18 5,oA 19 0 (ix 11 17 18) [0,1],oA 20 0 (lT 11 19) [2],oW 21 1,oW 22 5,oA 23 0 (ix 11 21 22) [4,5],oA 24 0 (lT 11 23) [6],oA 25 0 (cl 16 [20,24]) [3,7],oA 26 0 (nt 25) [8]]) (cd 26 (sr [oN 4 mF] .ret) .skip))) (rg [oW 15 5,oN 16 (bc .add 15 1),oW 5 16])))))) (sr [oN 4 mT] .ret))))⟩
structure KW (T:Tb):Prop where
 hT:T 23=some EN
 aaq:Nu T
theorem akd{T:Tb}(h:KT T){x y:Pt}(hx:x.wf:=by exact lX)(hy:y.wf:=by exact lX):PF T 33 [ptV x,ptV y] (.bool (decide (x=y))):=by
 obtain⟨w0,w1⟩:=hx;obtain⟨v0,v1⟩:=hy;refine kQ nR h.hT ?_;simp only [EI,Lz];refine ev ?_;refine jy (MJ h.rV (y:=x.x) (z:=y.x) w0 v0) ?_;refine ev ?_;refine kD (fun hb0=>?_) fun hb0=>?_<;>(refine ev1 @hb0 ?_;try with_reducible exact True.intro)
 rotate_left
 ·cases x;cases y;simp_all
 refine jy (MJ h.rV (y:=x.y) (z:=y.y) w1 v1) ?_;refine ev ?_;refine kD (fun hb1=>?_) fun hb1=>?_<;>(refine ev1 @hb1 ?_;try with_reducible exact True.intro)
 rotate_left
 ·cases x;cases y;simp_all
 cases x;cases y;simp_all
theorem Tf{T:Tb}(h:JB T){a b:List Pt}(ha:Bg Pt.wf a:=by exact lX)(hb:Bg Pt.wf b:=by exact lX):PF T 13 [D5 a,D5 b] (.bool (decide (a=b))):=by
 have l1:=ha.1;have l2:=hb.1;refine kQ nR h.hT ?_;simp only [Dl,Lz];refine ev ?_;refine kD (fun h1=>?_) fun h1=>?_<;>(refine ev1 @h1 ?_;try with_reducible exact True.intro)
 ·have h1:a.length=b.length:=by omega
  refine kG (fun _ _=>false) (α:=Nat) (fun i=>⟨kX [D5 a,D5 b,.any,.any,.any,iv (i:Nat)],[],0,0,[],[]⟩) (fun i=>i≤a.length∧∀j,j<i→a.getD j default=b.getD j default) (fun i=>a.length-i) rfl 0 ?_ ?_ ?_
  ·exact⟨by omega,by intro j hj;omega⟩
  ·(refine jW ?_;exact zX)
  rintro i ⟨hi,hj⟩;refine ev ?_;refine kD (fun h2=>?_) fun h2=>?_<;>(refine qW @h2 @mg ?_;try with_reducible exact True.intro)
  ·refine jy (akd h.Y9 (x:=a.getD i default) (y:=b.getD i default) (ha.at_ (by omega)) (hb.at_ (by omega))) ?_;refine ev ?_;refine kD (fun h3=>?_) fun h3=>?_<;>(refine ev1 @h3 ?_;try with_reducible exact True.intro)
   ·refine⟨i+1,by omega,⟨by omega,fun j hj'=>?_⟩,by (refine jW ?_;exact zX)⟩;by_cases e:j=i
    ·subst e;exact h3
    exact hj j (by omega)
   have:¬a=b:=fun e=>h3 (by rw [e]);simp [this]
  have:a=b:=NV h1 fun j h=>hj j (by omega);simp [this]
 have:¬a=b:=fun e=>h1 (by rw [e]);simp [this]
theorem amN{T:Tb}(h:Ns T){x:Lk}{left:Int}(hw:x.wf:=by exact lX)(h0:0≤left∧left≤1048576:=by exact lX):PF T 43 [QV x,iv left] (iv (szr left x.sz)):=by
 obtain⟨w0,w1,w2⟩:=hw;refine kQ nR h.hT ?_;simp only [IL,Lz];refine ev ?_;refine jy (acz h.OU (r:=x.w) w0 ⟨by omega,by omega⟩) ?_;refine ev ?_;have k0:=@YC left (x.w.sz);refine kD (fun hb0=>?_) fun hb0=>?_<;>(refine ev1 @hb0 ?_;try with_reducible exact True.intro)
 ·rw [show x.sz=(x.w.sz)+(x.dx.sz+x.dy.sz)from by (unfold Lk.sz;omega),XD hb0 h0.1]
 refine jy (acz h.OU (r:=x.dx) w1 ⟨by omega,by omega⟩) ?_;refine ev ?_;rw [ab9 hb0];have k1:=@YC left (x.w.sz+x.dx.sz);refine kD (fun hb1=>?_) fun hb1=>?_<;>(refine ev1 @hb1 ?_;try with_reducible exact True.intro)
 ·rw [show x.sz=(x.w.sz+x.dx.sz)+(x.dy.sz)from by (unfold Lk.sz;omega),XD hb1 h0.1]
 refine jy (acz h.OU (r:=x.dy) w2 ⟨by omega,by omega⟩) ?_;refine ev ?_;rw [ab9 hb1];have k2:=@YC left (x.w.sz+x.dx.sz+x.dy.sz);refine kD (fun hb2=>?_) fun hb2=>?_<;>(refine ev1 @hb2 ?_;try with_reducible exact True.intro)
 ·rw [show x.sz=x.w.sz+x.dx.sz+x.dy.sz from rfl,alU hb2 h0.1]
 rfl
theorem amO{T:Tb}(h:IQ T){x:Lk}(hl:x.sz≤1048576:=by exact lX):PF T 44 [QV x] (QV x):=by
 unfold Lk.sz at hl;refine kQ nR h.hT ?_;simp only [BN,Lz];refine ev ?_;refine jy (acA h.Ap (r:=x.w) (by omega)) ?_;refine ev ?_;refine jy (acA h.Ap (r:=x.dx) (by omega)) ?_;refine ev ?_;refine jy (acA h.Ap (r:=x.dy) (by omega)) ?_
 (refine ev ?_;try with_reducible exact True.intro)
theorem amP{T:Tb}(h:Nu T){x y:Lk}(hx:x.wf:=by exact lX)(hy:y.wf:=by exact lX):PF T 16 [QV x,QV y] (.bool (decide (x=y))):=by
 obtain⟨w0,w1,w2⟩:=hx;obtain⟨v0,v1,v2⟩:=hy;refine kQ nR h.hT ?_;simp only [IU,Lz];refine ev ?_;refine kD (fun hb0=>?_) fun hb0=>?_<;>(refine ev1 @hb0 ?_;try with_reducible exact True.intro)
 rotate_left
 ·cases x;cases y;simp_all
 refine kD (fun hb1=>?_) fun hb1=>?_<;>(refine ev1 @hb1 ?_;try with_reducible exact True.intro)
 rotate_left
 ·cases x;cases y;simp_all
 refine jy (MJ h.rV (y:=x.w) (z:=y.w) w0 v0) ?_;refine ev ?_;refine kD (fun hb2=>?_) fun hb2=>?_<;>(refine ev1 @hb2 ?_;try with_reducible exact True.intro)
 rotate_left
 ·cases x;cases y;simp_all
 refine jy (MJ h.rV (y:=x.dx) (z:=y.dx) w1 v1) ?_;refine ev ?_;refine kD (fun hb3=>?_) fun hb3=>?_<;>(refine ev1 @hb3 ?_;try with_reducible exact True.intro)
 rotate_left
 ·cases x;cases y;simp_all
 refine jy (MJ h.rV (y:=x.dy) (z:=y.dy) w2 v2) ?_;refine ev ?_;refine kD (fun hb4=>?_) fun hb4=>?_<;>(refine ev1 @hb4 ?_;try with_reducible exact True.intro)
 rotate_left
 ·cases x;cases y;simp_all
 cases x;cases y;simp_all
theorem ake{T:Tb}(h:KU T){l:List Lk}{left:Int}(hw:Bg Lk.wf l:=by exact lX)(h0:0≤left∧left≤1048576:=by exact lX):PF T 19 [kY l,iv left] (iv (szr left (Dy Lk.sz l))):=by
 have hlen:=hw.1;refine kQ nR h.hT ?_;simp only [EJ,Lz];refine ev ?_;refine kD (fun hb=>?_) fun hb=>?_<;>(refine ev1 @hb ?_;try with_reducible exact True.intro)
 ·rw [alW (by rw [vY];omega)]
 refine kG (fun _ _=>false) (α:=Nat) (fun i=>⟨kX [kY l,iv (left-(l.length:Nat)-(sumTo Lk.sz l i:Nat)),.any,.any,.any,iv (i:Nat)],[],0,0,[],[]⟩) (fun i=>i≤l.length∧(l.length:Int)+(sumTo Lk.sz l i:Nat)≤left) (fun i=>l.length-i) rfl 0 ?_ ?_ ?_
 ·rw [YD];omega
 ·(refine jW ?_)<;>(try (refine ev1 @YD ?_;try with_reducible exact True.intro))<;>(repeat' (first|refine⟨?_,?_⟩|exact vH (by omega)|exact xH (by simp)|exact vI _))
 rintro i ⟨hi,hs⟩;refine ev ?_;refine kD (fun hc=>?_) fun hc=>?_<;>(refine qW @hc @mg ?_;try with_reducible exact True.intro)
 ·refine jy (amN h.aap (x:=l.getD i default) (hw.at_ (by omega)) ⟨by omega,by omega⟩) ?_;refine ev ?_;have k1:=YE Lk.sz (l:=l) (i:=i) (by omega);have k2:=SH Lk.sz (l:=l) (i:=i) (by omega);refine kD (fun hd=>?_) fun hd=>?_<;>(refine ev1 @hd ?_;try with_reducible exact True.intro)
  ·have:=atF hd (by omega);rw [alW (left:=left) (by rw [vY];omega)]
  have e1:szr (left-(l.length:Nat)-(sumTo Lk.sz l i:Nat)) (Lk.sz (l.getD i default))=left-(l.length:Nat)-(sumTo Lk.sz l (i+1):Nat):=by
   rw [alV (aia hd)];omega
  rw [show (l.getD i default).sz=Lk.sz (l.getD i default)from rfl,e1]at hd ⊢;exact⟨i+1,by omega,⟨by omega,by omega⟩,by (refine jW ?_;exact zX)⟩
 have:i=l.length:=by omega
 subst this;rw [ajJ]at hs ⊢;rw [alV (by rw [vY];omega)];rw [vY]
 congr 1;omega
theorem VW{T:Tb}(h:EM T){l:List Lk}(hl:Dy Lk.sz l≤1048576:=by exact lX):PF T 21 [kY l] (kY l):=by
 rw [vY]at hl;refine kQ nR h.hT ?_;simp only [EK,Lz];refine ev ?_;refine⟨by omega,?_⟩;refine kG (fun _ _=>false) (α:=Nat) (fun i=>⟨kX [kY l,.any,.any,.kP 0 0 l.length,iv (i:Nat)],[some ⟨11,Pn Lk.cells l [iv 0,iv 0,.bool false,.jL,.jL,.bool false,.jL,.jL,.bool false,.jL,.jL] i⟩],0,0,[],[]⟩) (fun i=>i≤l.length) (fun i=>l.length-i) rfl 0 ?_ ?_ ?_
 ·omega
 ·(refine jW ?_)<;>(try (refine ev1 @agu ?_;try with_reducible exact True.intro))<;>(repeat' (first|refine⟨?_,?_⟩|exact vH (by omega)|exact xH (by simp)|exact vI _))
 intro i hi;have e1:=ajL Lk.cells l [iv 0,iv 0,.bool false,.jL,.jL,.bool false,.jL,.jL,.bool false,.jL,.jL] hi;refine ev1 @e1 ?_;refine kD (fun hb=>?_) fun hb=>?_<;>(refine zl @hb @e1 @mg ?_;try with_reducible exact True.intro)
 ·have k1:=YE Lk.sz (l:=l) (i:=i) (by omega);refine jy (amO h.RN (x:=l.getD i default) (by first|omega|(change Lk.sz _≤_;omega))) ?_;have e0:=ajN Lk.cells l [iv 0,iv 0,.bool false,.jL,.jL,.bool false,.jL,.jL,.bool false,.jL,.jL] (i:=i) (by omega);refine qW @e0 @e1 ?_;have e2:=ajM Lk.cells l [iv 0,iv 0,.bool false,.jL,.jL,.bool false,.jL,.jL,.bool false,.jL,.jL] (i:=i) (by omega);refine⟨i+1,by omega,by omega,ah8 ?_ (by rw [←e2])⟩;refine ev ?_
  repeat' (first|refine⟨?_,?_⟩|exact vH (by omega)|exact xH (by simp))
 have:i=l.length:=by omega
 subst this;rw [ajK,JO (Gp (f:=Lk.cells) (l:=l) (by intro x _ v hv;simp at hv;rcases hv with rfl|rfl|rfl|rfl|rfl|rfl|rfl|rfl|rfl|rfl|rfl<;>rfl)) (by simp),bZ,aY (by simp)];rfl
theorem akf{T:Tb}(h:KW T){a b:List Lk}(ha:Bg Lk.wf a:=by exact lX)(hb:Bg Lk.wf b:=by exact lX):PF T 23 [kY a,kY b] (.bool (decide (a=b))):=by
 have l1:=ha.1;have l2:=hb.1;refine kQ nR h.hT ?_;simp only [EN,Lz];refine ev ?_;refine kD (fun h1=>?_) fun h1=>?_<;>(refine ev1 @h1 ?_;try with_reducible exact True.intro)
 ·have h1:a.length=b.length:=by omega
  refine kG (fun _ _=>false) (α:=Nat) (fun i=>⟨kX [kY a,kY b,.any,.any,.any,iv (i:Nat)],[],0,0,[],[]⟩) (fun i=>i≤a.length∧∀j,j<i→a.getD j default=b.getD j default) (fun i=>a.length-i) rfl 0 ?_ ?_ ?_
  ·exact⟨by omega,by intro j hj;omega⟩
  ·(refine jW ?_;exact zX)
  rintro i ⟨hi,hj⟩;refine ev ?_;refine kD (fun h2=>?_) fun h2=>?_<;>(refine qW @h2 @mg ?_;try with_reducible exact True.intro)
  ·refine jy (amP h.aaq (x:=a.getD i default) (y:=b.getD i default) (ha.at_ (by omega)) (hb.at_ (by omega))) ?_;refine ev ?_;refine kD (fun h3=>?_) fun h3=>?_<;>(refine ev1 @h3 ?_;try with_reducible exact True.intro)
   ·refine⟨i+1,by omega,⟨by omega,fun j hj'=>?_⟩,by (refine jW ?_;exact zX)⟩;by_cases e:j=i
    ·subst e;exact h3
    exact hj j (by omega)
   have:¬a=b:=fun e=>h3 (by rw [e]);simp [this]
  have:a=b:=NV h1 fun j h=>hj j (by omega);simp [this]
 have:¬a=b:=fun e=>h1 (by rw [e]);simp [this]
def vS:Fn:=⟨2,69,[.tmp 4],(sr [oN 4 (.mM (cI 0))] (.seq (sr [oN 5 (.mM (cI 0))] (.block 0 (.loop (.seq (sr [oW 6 5,oW 7 0,oN 8 (ln 7),oN 9 (bt .lss 6 8)] (cd 9 .skip (.exit 0))) (.seq (.block 1 (sr [oW 12 0,oW 13 5,oW 14 1,oN 15 (bc .rem 14 3),oN 16 (bc .eql 15 0),oN 17 (ix 6 12 13),oN 18 (fd 0 17),oN 19 (fd 0 18),oN 20 (fd 0 19),oS (.store 1 (.t 20) (.t 16))] (sr [oW 21 1,oN 22 (bc .add 21 1),oW 1 22] (sr [oW 23 0,oW 24 5,oN 25 (ix 6 23 24),oN 26 (fd 0 25),oN 27 (fd 0 26),oN 28 (fd 1 27),oN 29 (lF 1 28),oW 30 1,oN 31 (cl 57 [29,30]),oW 1 31] (sr [oW 32 0,oW 33 5,oN 34 (ix 6 32 33),oN 35 (fd 0 34),oN 36 (fd 2 35),oN 37 (lF 1 36),oW 38 1,oN 39 (cl 57 [37,38]),oW 1 39] (sr [oW 40 0,oW 41 5,oW 42 1,oN 43 (bc .rem 42 3),oN 44 (bc .eql 43 0),oN 45 (ix 6 40 41),oN 46 (fd 3 45),oN 47 (fd 0 46),oN 48 (fd 0 47),oS (.store 1 (.t 48) (.t 44))] (sr [oW 49 1,oN 50 (bc .add 49 1),oW 1 50] (sr [oW 51 0,oW 52 5,oN 53 (ix 6 51 52),oN 54 (fd 3 53),oN 55 (fd 0 54),oN 56 (fd 1 55),oN 57 (lF 1 56),oW 58 1,oN 59 (cl 57 [57,58]),oW 1 59] (rg [oW 60 0,oW 61 5,oN 62 (ix 6 60 61),oN 63 (fd 3 62),oN 64 (fd 2 63),oN 65 (lF 1 64),oW 66 1,oN 67 (cl 57 [65,66]),oW 1 67]))))))))) (rg [oW 10 5,oN 11 (bc .add 10 1),oW 5 11])))))) (sr [oW 68 1,oW 4 68] .ret)))⟩
structure EO (T:Tb):Prop where
 hT:T 334=some vS
 mG:vC T
def wY:Fn:=⟨2,111,[.tmp 4],(sr [oN 4 (.mM (cI 0))] (.seq (sr [oN 5 (.mM (cI 0))] (.block 0 (.loop (.seq (sr [oW 6 5,oW 7 0,oN 8 (ln 7),oN 9 (bt .lss 6 8)] (cd 9 .skip (.exit 0))) (.seq (.block 1 (sr [oW 12 0,oW 13 5,oW 14 1,oN 15 (ix 11 12 13),oN 16 (fd 0 15),oS (.store 1 (.t 16) (.t 14))] (sr [oW 17 1,oN 18 (bc .add 17 1),oW 1 18] (sr [oW 19 0,oW 20 5,oW 21 1,oN 22 (ix 11 19 20),oN 23 (fd 1 22),oS (.store 1 (.t 23) (.t 21))] (sr [oW 24 1,oN 25 (bc .add 24 1),oW 1 25] (sr [oW 26 0,oW 27 5,oW 28 1,oN 29 (bc .rem 28 3),oN 30 (bc .eql 29 0),oN 31 (ix 11 26 27),oN 32 (fd 2 31),oN 33 (fd 0 32),oN 34 (fd 0 33),oS (.store 1 (.t 34) (.t 30))] (sr [oW 35 1,oN 36 (bc .add 35 1),oW 1 36] (sr [oW 37 0,oW 38 5,oN 39 (ix 11 37 38),oN 40 (fd 2 39),oN 41 (fd 0 40),oN 42 (fd 1 41),oN 43 (lF 1 42),oW 44 1,oN 45 (cl 57 [43,44]),oW 1 45] (sr [oW 46 0,oW 47 5,oN 48 (ix 11 46 47),oN 49 (fd 2 48),oN 50 (fd 2 49),oN 51 (lF 1 50),oW 52 1,oN 53 (cl 57 [51,52]),oW 1 53] (sr [oW 54 0,oW 55 5,oW 56 1,oN 57 (bc .rem 56 3),oN 58 (bc .eql 57 0),oN 59 (ix 11 54 55),oN 60 (fd 5 59),oN 61 (fd 0 60),oN 62 (fd 0 61),oS (.store 1 (.t 62) (.t 58))] (sr [oW 63 1,oN 64 (bc .add 63 1),oW 1 64] (sr [oW 65 0,oW 66 5,oN 67 (ix 11 65 66),oN 68 (fd 5 67),oN 69 (fd 0 68),oN 70 (fd 1 69),oN 71 (lF 1 70),oW 72 1,oN 73 (cl 57 [71,72]),oW 1 73] (sr [oW 74 0,oW 75 5,oN 76 (ix 11 74 75),oN 77 (fd 5 76),oN 78 (fd 2 77),oN 79 (lF 1 78),oW 80 1,oN 81 (cl 57 [79,80]),oW 1 81] (sr [oW 82 0,oW 83 5,oW 84 1,oN 85 (bc .rem 84 3),oN 86 (bc .eql 85 0),oN 87 (ix 11 82 83),oN 88 (fd 8 87),oN 89 (fd 0 88),oN 90 (fd 0 89),oS (.store 1 (.t 90) (.t 86))] (sr [oW 91 1,oN 92 (bc .add 91 1),oW 1 92] (sr [oW 93 0,oW 94 5,oN 95 (ix 11 93 94),oN 96 (fd 8 95),oN 97 (fd 0 96),oN 98 (fd 1 97),oN 99 (lF 1 98),oW 100 1,oN 101 (cl 57 [99,100]),oW 1 101] (rg [oW 102 0,oW 103 5,oN 104 (ix 11 102 103),oN 105 (fd 8 104),oN 106 (fd 2 105),oN 107 (lF 1 106),oW 108 1,oN 109 (cl 57 [107,108]),oW 1 109]))))))))))))))))) (rg [oW 10 5,oN 11 (bc .add 10 1),oW 5 11])))))) (sr [oW 110 1,oW 4 110] .ret)))⟩
structure Gw (T:Tb):Prop where
 hT:T 118=some wY
 mG:vC T
def R.ct(x:R):Nat:=1+x.mag.length+x.den.length
def R.mk3(k:Int)(x:R):R:=⟨decide ((k).tmod 3=0),cnt x.mag.length (k+1),cnt x.den.length (k+1+x.mag.length)⟩
def Pt.ct(x:Pt):Nat:=1+x.x.mag.length+x.x.den.length+1+x.y.mag.length+x.y.den.length
def Pt.mk3(k:Int)(x:Pt):Pt:=⟨⟨decide ((k).tmod 3=0),cnt x.x.mag.length (k+1),cnt x.x.den.length (k+1+x.x.mag.length)⟩,⟨decide ((k+1+x.x.mag.length+x.x.den.length).tmod 3=0),cnt x.y.mag.length (k+1+x.x.mag.length+x.x.den.length+1),cnt x.y.den.length (k+1+x.x.mag.length+x.x.den.length+1+x.y.mag.length)⟩⟩
theorem aar{T:Tb}(h:EO T){l:List Pt}{k:Int}(hl:Dy Pt.sz l≤1000000000:=by exact lX)(hk:0≤k∧k+EC Pt.ct l l.length≤1000000000000:=by exact lX) :
  Mk T 334 (D5 l) k (D5 (TR Pt.mk3 Pt.ct k l)) (k+EC Pt.ct l l.length):=by
 refine mk_iff fun σ v os ho hn=>?_;have hll:l.length≤1000000000:=by unfold Dy at hl;omega
 rcases ho.agO with ⟨e,rfl,rfl⟩|⟨o,R0,os',rfl,_,_,hos,_⟩
 ·have el:l=[]:=by simpa using e
  subst el;have:∃r σ',Run T (.fn 334 [.sl 6 [],iv k] σ) (.fn r σ')∧(r=iv k∧σ'=σ):=by
   refine run_end nR h.hT ?_;simp only [vS,Lz,St.enter,aj,au,aN];refine ew ?_;refine kG (fun _ _=>false) (α:=Nat) (fun i=>⟨kX [.sl 6 [],iv k,.any,.any,.any,iv 0],σ,σ.length,0,[],[]⟩) (fun i=>i=0) (fun i=>i) rfl 0 ?_ ?_ ?_
   ·rfl
   ·(refine jW ?_;exact qw)
   rintro i rfl;refine ew ?_;refine kD (fun hc=>absurd hc (by omega)) fun hc=>?_
   (refine ew ?_;try with_reducible exact True.intro)
  obtain⟨r,σ',h2,rfl,rfl⟩:=this;exact⟨σ',by simpa [EC]using h2,ho,Fr.refl _ _⟩
 rw [aV]at ho ⊢;have:∃r σ',Run T (.fn 334 [.kP o 0 l.length,iv k] σ) (.fn r σ')∧(r=iv (k+EC Pt.ct l l.length)∧lM σ' (.kP o 0 l.length) (D5 (S9 Pt.mk3 Pt.ct k l l.length)) os∧Fr os σ σ'):=by
  refine run_end (fun x d=>x == 57) h.hT ?_;simp only [vS,Lz,St.enter,aj,au,aN];refine ew ?_;refine kG (fun x d=>x == 57) (α:=Nat×Store) (fun q=>⟨kX [.kP o 0 l.length,iv (k+EC Pt.ct l q.1),.any,.any,.any,iv (q.1:Nat)],q.2,σ.length,0,[],[]⟩) (fun q=>q.1≤l.length∧lM q.2 (.kP o 0 l.length) (D5 (S9 Pt.mk3 Pt.ct k l q.1)) os∧Fr os σ q.2) (fun q=>l.length-q.1) rfl (0,σ) ?_ ?_ ?_
  ·exact⟨by omega,by rw [amC];exact ho,Fr.refl _ _⟩
  ·(refine jW ?_)<;>(try (refine qj @aeK ?_;try with_reducible exact True.intro))<;>(repeat' (first|refine⟨?_,?_⟩|exact vH (by omega)|exact xH (by simp)|exact vI _))
  rintro⟨i,s⟩ ⟨hi,h2,h3⟩;dsimp only at hi h2 h3;have hls:=h3.len;obtain⟨A,hob,hM⟩:=h2.obj;refine qj @hob ?_;refine kD (fun hc=>?_) fun hc=>?_
  ·have hil:i<l.length:=by omega
   obtain⟨o',M',cs,oc,hv,amQ,hM',hRi,hcs,hoc,hoo,hno,hre⟩:=h2.aip hn (i:=i) (mg? (by rw [Uw _ _ _ _ hi];exact hil));rw [aV,Uw _ _ _ _ hi]at hv
   cases hv
   rw [hob]at amQ
   cases amQ
   rw [aiq _ _ _ _ hil]at hcs;obtain⟨x,hx⟩:∃x,l.getD i default=x:=⟨_,rfl⟩;rw [hx]at hcs;have hcn:=amB Pt.ct l hil;have hcl:=acs Pt.ct l (i:=i+1) hil;have hms:=aeM Pt.mk3 Pt.ct k l hil;rw [hx]at hcn hms;rw [hcn]at hcl;obtain⟨kk,hkk⟩:∃kk,k+(EC Pt.ct l i:Int)=kk:=⟨_,rfl⟩;obtain⟨c0,c1,c2,c3,c4,c5,rfl⟩:∃c0 c1 c2 c3 c4 c5,cs=[c0,c1,c2,c3,c4,c5]:=by
    have:=hcs.ow.len
    match cs,this with
    | [a0,a1,a2,a3,a4,a5],_=>exact⟨a0,a1,a2,a3,a4,a5,rfl⟩
   have hlo:=kK hob;have rs:∀r,(A.set i r)[i]? = some r:=fun r=>by rw [List.getElem?_set_self (by omega)]
   have hct:Pt.ct x=1+x.x.mag.length+x.x.den.length+1+x.y.mag.length+x.y.den.length:=rfl;have hxs:Pt.sz x≤1000000000:=by
    have:=agP Pt.sz hil;rw [hx]at this;omega
   simp only [Pt.sz,R.sz]at hxs;have F0:Fr (o::oc) s s:=Fr.refl _ _;have hcs:=hcs.sca 0 (.bool (decide ((kk).tmod 3=0))) rfl;refine ew7 @hkk @hc @hob @hRi @hlo @rs @List.set_set.{0} ?_;have hcs:=hcs.set (x:=some ⟨6,A.set i [.bool (decide ((kk).tmod 3=0)),c1,c2,c3,c4,c5]⟩) hno;have G0:=F0.trans (VQ (σ:=s) (o:=o) (x:=some ⟨6,A.set i [.bool (decide ((kk).tmod 3=0)),c1,c2,c3,c4,c5]⟩) (by simp));obtain⟨s1,hr,hcs,hf1⟩:=hcs.call 1 (qO h.mG (l:=x.x.mag) (k:=kk+1) (by omega) (by omega)) rfl rfl;refine uj hr rfl hf1.len (by simp) ?_;have hb1:=(hf1.old o (by simpa using hlo) hno).trans (kT hlo);have hl1:=kK hb1;have F1:=G0.trans (hf1.mono (by simp +contextual));refine DF @hb1 @rs @hl1 @List.set_set.{0} ?_;have G1:=F1;obtain⟨s2,hr,hcs,hf2⟩:=hcs.call 2 (qO h.mG (l:=x.x.den) (k:=kk+1+x.x.mag.length) (by omega) (by omega)) rfl rfl;refine uj hr rfl hf2.len (by simp) ?_;have hb2:=(hf2.old o hl1 hno).trans hb1;have hl2:=kK hb2;have F2:=G1.trans (hf2.mono (by simp +contextual));have hcs:=hcs.sca 3 (.bool (decide ((kk+1+x.x.mag.length+x.x.den.length).tmod 3=0))) rfl;refine DF @hb2 @rs @hl2 @List.set_set.{0} ?_;have hcs:=hcs.set (x:=some ⟨6,A.set i [.bool (decide ((kk).tmod 3=0)),c1,c2,.bool (decide ((kk+1+x.x.mag.length+x.x.den.length).tmod 3=0)),c4,c5]⟩) hno;have G2:=F2.trans (VQ (σ:=s2) (o:=o) (x:=some ⟨6,A.set i [.bool (decide ((kk).tmod 3=0)),c1,c2,.bool (decide ((kk+1+x.x.mag.length+x.x.den.length).tmod 3=0)),c4,c5]⟩) (by simp))
   obtain⟨s3,hr,hcs,hf3⟩:=hcs.call 4 (qO h.mG (l:=x.y.mag) (k:=kk+1+x.x.mag.length+x.x.den.length+1) (by omega) (by omega)) rfl rfl;refine uj hr rfl hf3.len (by simp) ?_;have hb3:=(hf3.old o (by simpa using hl2) hno).trans (kT hl2);have hl3:=kK hb3;have F3:=G2.trans (hf3.mono (by simp +contextual));refine DF @hb3 @rs @hl3 @List.set_set.{0} ?_;have G3:=F3;obtain⟨s4,hr,hcs,hf4⟩:=hcs.call 5 (qO h.mG (l:=x.y.den) (k:=kk+1+x.x.mag.length+x.x.den.length+1+x.y.mag.length) (by omega) (by omega)) rfl rfl;refine uj hr rfl hf4.len (by simp) ?_;have hb4:=(hf4.old o hl3 hno).trans hb3;have hl4:=kK hb4;have F4:=G3.trans (hf4.mono (by simp +contextual));refine DF @hb4 @rs @hl4 @List.set_set.{0} ?_;refine⟨(i+1,s4),by dsimp only;omega,⟨by dsimp only;omega,?_,?_⟩,by (refine jW ?_;exact qw)⟩
   ·dsimp only;rw [←hms,hkk];show lM _ _ (.sl 6 (List.map Pt.cells _)) _;rw [kC];exact hre _ _ _ hcs hb4 F4
   exact h3.trans (F4.mono (by simpa using ⟨hoo,hoc⟩))
  have:i=l.length:=by omega
  subst this;refine qj @hc ?_;exact⟨h2,h3⟩
 obtain⟨r,σ',h2,rfl,h3,h4⟩:=this;rw [aeL]at h3;exact⟨σ',h2,h3,h4⟩
def Lk.ct(x:Lk):Nat:=1+1+1+x.w.mag.length+x.w.den.length+1+x.dx.mag.length+x.dx.den.length+1+x.dy.mag.length+x.dy.den.length
def Lk.mk3(k:Int)(x:Lk):Lk:=⟨k,k+1,⟨decide ((k+1+1).tmod 3=0),cnt x.w.mag.length (k+1+1+1),cnt x.w.den.length (k+1+1+1+x.w.mag.length)⟩,⟨decide ((k+1+1+1+x.w.mag.length+x.w.den.length).tmod 3=0),cnt x.dx.mag.length (k+1+1+1+x.w.mag.length+x.w.den.length+1),cnt x.dx.den.length (k+1+1+1+x.w.mag.length+x.w.den.length+1+x.dx.mag.length)⟩,⟨decide ((k+1+1+1+x.w.mag.length+x.w.den.length+1+x.dx.mag.length+x.dx.den.length).tmod 3=0),cnt x.dy.mag.length (k+1+1+1+x.w.mag.length+x.w.den.length+1+x.dx.mag.length+x.dx.den.length+1),cnt x.dy.den.length (k+1+1+1+x.w.mag.length+x.w.den.length+1+x.dx.mag.length+x.dx.den.length+1+x.dy.mag.length)⟩⟩
theorem acB{T:Tb}(h:Gw T){l:List Lk}{k:Int}(hl:Dy Lk.sz l≤1000000000:=by exact lX)(hk:0≤k∧k+EC Lk.ct l l.length≤1000000000000:=by exact lX) :
  Mk T 118 (kY l) k (kY (TR Lk.mk3 Lk.ct k l)) (k+EC Lk.ct l l.length):=by
 refine mk_iff fun σ v os ho hn=>?_;have hll:l.length≤1000000000:=by unfold Dy at hl;omega
 rcases ho.agO with ⟨e,rfl,rfl⟩|⟨o,R0,os',rfl,_,_,hos,_⟩
 ·have el:l=[]:=by simpa using e
  subst el;have:∃r σ',Run T (.fn 118 [.sl 11 [],iv k] σ) (.fn r σ')∧(r=iv k∧σ'=σ):=by
   refine run_end nR h.hT ?_;simp only [wY,Lz,St.enter,aj,au,aN];refine ew ?_;refine kG (fun _ _=>false) (α:=Nat) (fun i=>⟨kX [.sl 11 [],iv k,.any,.any,.any,iv 0],σ,σ.length,0,[],[]⟩) (fun i=>i=0) (fun i=>i) rfl 0 ?_ ?_ ?_
   ·rfl
   ·(refine jW ?_;exact qw)
   rintro i rfl;refine ew ?_;refine kD (fun hc=>absurd hc (by omega)) fun hc=>?_
   (refine ew ?_;try with_reducible exact True.intro)
  obtain⟨r,σ',h2,rfl,rfl⟩:=this;exact⟨σ',by simpa [EC]using h2,ho,Fr.refl _ _⟩
 rw [aV]at ho ⊢;have:∃r σ',Run T (.fn 118 [.kP o 0 l.length,iv k] σ) (.fn r σ')∧(r=iv (k+EC Lk.ct l l.length)∧lM σ' (.kP o 0 l.length) (kY (S9 Lk.mk3 Lk.ct k l l.length)) os∧Fr os σ σ'):=by
  refine run_end (fun x d=>x == 57) h.hT ?_;simp only [wY,Lz,St.enter,aj,au,aN];refine ew ?_;refine kG (fun x d=>x == 57) (α:=Nat×Store) (fun q=>⟨kX [.kP o 0 l.length,iv (k+EC Lk.ct l q.1),.any,.any,.any,iv (q.1:Nat)],q.2,σ.length,0,[],[]⟩) (fun q=>q.1≤l.length∧lM q.2 (.kP o 0 l.length) (kY (S9 Lk.mk3 Lk.ct k l q.1)) os∧Fr os σ q.2) (fun q=>l.length-q.1) rfl (0,σ) ?_ ?_ ?_
  ·exact⟨by omega,by rw [amC];exact ho,Fr.refl _ _⟩
  ·(refine jW ?_)<;>(try (refine qj @aeK ?_;try with_reducible exact True.intro))<;>(repeat' (first|refine⟨?_,?_⟩|exact vH (by omega)|exact xH (by simp)|exact vI _))
  rintro⟨i,s⟩ ⟨hi,h2,h3⟩;dsimp only at hi h2 h3;have hls:=h3.len;obtain⟨A,hob,hM⟩:=h2.obj;refine qj @hob ?_;refine kD (fun hc=>?_) fun hc=>?_
  ·have hil:i<l.length:=by omega
   obtain⟨o',M',cs,oc,hv,amQ,hM',hRi,hcs,hoc,hoo,hno,hre⟩:=h2.aip hn (i:=i) (mg? (by rw [Uw _ _ _ _ hi];exact hil));rw [aV,Uw _ _ _ _ hi]at hv
   cases hv
   rw [hob]at amQ
   cases amQ
   rw [aiq _ _ _ _ hil]at hcs;obtain⟨x,hx⟩:∃x,l.getD i default=x:=⟨_,rfl⟩;rw [hx]at hcs;have hcn:=amB Lk.ct l hil;have hcl:=acs Lk.ct l (i:=i+1) hil;have hms:=aeM Lk.mk3 Lk.ct k l hil;rw [hx]at hcn hms;rw [hcn]at hcl;obtain⟨kk,hkk⟩:∃kk,k+(EC Lk.ct l i:Int)=kk:=⟨_,rfl⟩;obtain⟨c0,c1,c2,c3,c4,c5,c6,c7,c8,c9,c10,rfl⟩:∃c0 c1 c2 c3 c4 c5 c6 c7 c8 c9 c10,cs=[c0,c1,c2,c3,c4,c5,c6,c7,c8,c9,c10]:=by
    have:=hcs.ow.len
    match cs,this with
    | [a0,a1,a2,a3,a4,a5,a6,a7,a8,a9,a10],_=>exact⟨a0,a1,a2,a3,a4,a5,a6,a7,a8,a9,a10,rfl⟩
   have hlo:=kK hob;have rs:∀r,(A.set i r)[i]? = some r:=fun r=>by rw [List.getElem?_set_self (by omega)]
   have hct:Lk.ct x=1+1+1+x.w.mag.length+x.w.den.length+1+x.dx.mag.length+x.dx.den.length+1+x.dy.mag.length+x.dy.den.length:=rfl;have hxs:Lk.sz x≤1000000000:=by
    have:=agP Lk.sz hil;rw [hx]at this;omega
   simp only [Lk.sz,R.sz]at hxs;have F0:Fr (o::oc) s s:=Fr.refl _ _;have hcs:=hcs.sca 0 (.int .i64 (kk)) rfl;have hcs:=hcs.sca 1 (.int .i64 (kk+1)) rfl;have hcs:=hcs.sca 2 (.bool (decide ((kk+1+1).tmod 3=0))) rfl;refine ew7 @hkk @hc @hob @hRi @hlo @rs @List.set_set.{0} ?_;have hcs:=hcs.set (x:=some ⟨11,A.set i [.int .i64 (kk),.int .i64 (kk+1),.bool (decide ((kk+1+1).tmod 3=0)),c3,c4,c5,c6,c7,c8,c9,c10]⟩) hno;have G0:=F0.trans (VQ (σ:=s) (o:=o) (x:=some ⟨11,A.set i [.int .i64 (kk),.int .i64 (kk+1),.bool (decide ((kk+1+1).tmod 3=0)),c3,c4,c5,c6,c7,c8,c9,c10]⟩) (by simp));obtain⟨s1,hr,hcs,hf1⟩:=hcs.call 3 (qO h.mG (l:=x.w.mag) (k:=kk+1+1+1) (by omega) (by omega)) rfl rfl;refine uj hr rfl hf1.len (by simp) ?_;have hb1:=(hf1.old o (by simpa using hlo) hno).trans (kT hlo);have hl1:=kK hb1;have F1:=G0.trans (hf1.mono (by simp +contextual));refine DF @hb1 @rs @hl1 @List.set_set.{0} ?_;have G1:=F1;obtain⟨s2,hr,hcs,hf2⟩:=hcs.call 4 (qO h.mG (l:=x.w.den) (k:=kk+1+1+1+x.w.mag.length) (by omega) (by omega)) rfl rfl;refine uj hr rfl hf2.len (by simp) ?_;have hb2:=(hf2.old o hl1 hno).trans hb1;have hl2:=kK hb2;have F2:=G1.trans (hf2.mono (by simp +contextual));have hcs:=hcs.sca 5 (.bool (decide ((kk+1+1+1+x.w.mag.length+x.w.den.length).tmod 3=0))) rfl;refine DF @hb2 @rs @hl2 @List.set_set.{0} ?_
   have hcs:=hcs.set (x:=some ⟨11,A.set i [.int .i64 (kk),.int .i64 (kk+1),.bool (decide ((kk+1+1).tmod 3=0)),c3,c4,.bool (decide ((kk+1+1+1+x.w.mag.length+x.w.den.length).tmod 3=0)),c6,c7,c8,c9,c10]⟩) hno;have G2:=F2.trans (VQ (σ:=s2) (o:=o) (x:=some ⟨11,A.set i [.int .i64 (kk),.int .i64 (kk+1),.bool (decide ((kk+1+1).tmod 3=0)),c3,c4,.bool (decide ((kk+1+1+1+x.w.mag.length+x.w.den.length).tmod 3=0)),c6,c7,c8,c9,c10]⟩) (by simp));obtain⟨s3,hr,hcs,hf3⟩:=hcs.call 6 (qO h.mG (l:=x.dx.mag) (k:=kk+1+1+1+x.w.mag.length+x.w.den.length+1) (by omega) (by omega)) rfl rfl;refine uj hr rfl hf3.len (by simp) ?_;have hb3:=(hf3.old o (by simpa using hl2) hno).trans (kT hl2);have hl3:=kK hb3;have F3:=G2.trans (hf3.mono (by simp +contextual));refine DF @hb3 @rs @hl3 @List.set_set.{0} ?_;have G3:=F3;obtain⟨s4,hr,hcs,hf4⟩:=hcs.call 7 (qO h.mG (l:=x.dx.den) (k:=kk+1+1+1+x.w.mag.length+x.w.den.length+1+x.dx.mag.length) (by omega) (by omega)) rfl rfl;refine uj hr rfl hf4.len (by simp) ?_;have hb4:=(hf4.old o hl3 hno).trans hb3;have hl4:=kK hb4;have F4:=G3.trans (hf4.mono (by simp +contextual));have hcs:=hcs.sca 8 (.bool (decide ((kk+1+1+1+x.w.mag.length+x.w.den.length+1+x.dx.mag.length+x.dx.den.length).tmod 3=0))) rfl;refine DF @hb4 @rs @hl4 @List.set_set.{0} ?_
   have hcs:=hcs.set (x:=some ⟨11,A.set i [.int .i64 (kk),.int .i64 (kk+1),.bool (decide ((kk+1+1).tmod 3=0)),c3,c4,.bool (decide ((kk+1+1+1+x.w.mag.length+x.w.den.length).tmod 3=0)),c6,c7,.bool (decide ((kk+1+1+1+x.w.mag.length+x.w.den.length+1+x.dx.mag.length+x.dx.den.length).tmod 3=0)),c9,c10]⟩) hno;have G4:=F4.trans (VQ (σ:=s4) (o:=o) (x:=some ⟨11,A.set i [.int .i64 (kk),.int .i64 (kk+1),.bool (decide ((kk+1+1).tmod 3=0)),c3,c4,.bool (decide ((kk+1+1+1+x.w.mag.length+x.w.den.length).tmod 3=0)),c6,c7,.bool (decide ((kk+1+1+1+x.w.mag.length+x.w.den.length+1+x.dx.mag.length+x.dx.den.length).tmod 3=0)),c9,c10]⟩) (by simp));obtain⟨s5,hr,hcs,hf5⟩:=hcs.call 9 (qO h.mG (l:=x.dy.mag) (k:=kk+1+1+1+x.w.mag.length+x.w.den.length+1+x.dx.mag.length+x.dx.den.length+1) (by omega) (by omega)) rfl rfl;refine uj hr rfl hf5.len (by simp) ?_;have hb5:=(hf5.old o (by simpa using hl4) hno).trans (kT hl4);have hl5:=kK hb5;have F5:=G4.trans (hf5.mono (by simp +contextual));refine DF @hb5 @rs @hl5 @List.set_set.{0} ?_;have G5:=F5;obtain⟨s6,hr,hcs,hf6⟩:=hcs.call 10 (qO h.mG (l:=x.dy.den) (k:=kk+1+1+1+x.w.mag.length+x.w.den.length+1+x.dx.mag.length+x.dx.den.length+1+x.dy.mag.length) (by omega) (by omega)) rfl rfl;refine uj hr rfl hf6.len (by simp) ?_;have hb6:=(hf6.old o hl5 hno).trans hb5;have hl6:=kK hb6;have F6:=G5.trans (hf6.mono (by simp +contextual));refine DF @hb6 @rs @hl6 @List.set_set.{0} ?_
   refine⟨(i+1,s6),by dsimp only;omega,⟨by dsimp only;omega,?_,?_⟩,by (refine jW ?_;exact qw)⟩
   ·dsimp only;rw [←hms,hkk];show lM _ _ (.sl 11 (List.map Lk.cells _)) _;rw [kC];exact hre _ _ _ hcs hb6 F6
   exact h3.trans (F6.mono (by simpa using ⟨hoo,hoc⟩))
  have:i=l.length:=by omega
  subst this;refine qj @hc ?_;exact⟨h2,h3⟩
 obtain⟨r,σ',h2,rfl,h3,h4⟩:=this;rw [aeL]at h3;exact⟨σ',h2,h3,h4⟩
def Pa.ct(x:Pa):Nat:=1+1+x.share.mag.length+x.share.den.length+1+x.dx.mag.length+x.dx.den.length+1+x.dy.mag.length+x.dy.den.length
def Pa.mk3(k:Int)(x:Pa):Pa:=⟨k,⟨decide ((k+1).tmod 3=0),cnt x.share.mag.length (k+1+1),cnt x.share.den.length (k+1+1+x.share.mag.length)⟩,⟨decide ((k+1+1+x.share.mag.length+x.share.den.length).tmod 3=0),cnt x.dx.mag.length (k+1+1+x.share.mag.length+x.share.den.length+1),cnt x.dx.den.length (k+1+1+x.share.mag.length+x.share.den.length+1+x.dx.mag.length)⟩,⟨decide ((k+1+1+x.share.mag.length+x.share.den.length+1+x.dx.mag.length+x.dx.den.length).tmod 3=0),cnt x.dy.mag.length (k+1+1+x.share.mag.length+x.share.den.length+1+x.dx.mag.length+x.dx.den.length+1),cnt x.dy.den.length (k+1+1+x.share.mag.length+x.share.den.length+1+x.dx.mag.length+x.dx.den.length+1+x.dy.mag.length)⟩⟩
def Cd.ct(x:Cd):Nat:=1+1+x.total.mag.length+x.total.den.length+EC Pa.ct x.ps x.ps.length
def Cd.mk3(k:Int)(x:Cd):Cd:=⟨k,⟨decide ((k+1).tmod 3=0),cnt x.total.mag.length (k+1+1),cnt x.total.den.length (k+1+1+x.total.mag.length)⟩,TR Pa.mk3 Pa.ct (k+1+1+x.total.mag.length+x.total.den.length) x.ps⟩
def Tn.ct(x:Tn):Nat:=1+1+EC Lk.ct x.own x.own.length+1+1+x.cond.total.mag.length+x.cond.total.den.length+EC Pa.ct x.cond.ps x.cond.ps.length+EC Lk.ct x.msgs x.msgs.length+1+x.Jm.mag.length+x.Jm.den.length
def Tn.mk3(k:Int)(x:Tn):Tn:=⟨k,k+1,TR Lk.mk3 Lk.ct (k+1+1) x.own,⟨k+1+1+EC Lk.ct x.own x.own.length,⟨decide ((k+1+1+EC Lk.ct x.own x.own.length+1).tmod 3=0),cnt x.cond.total.mag.length (k+1+1+EC Lk.ct x.own x.own.length+1+1),cnt x.cond.total.den.length (k+1+1+EC Lk.ct x.own x.own.length+1+1+x.cond.total.mag.length)⟩,TR Pa.mk3 Pa.ct (k+1+1+EC Lk.ct x.own x.own.length+1+1+x.cond.total.mag.length+x.cond.total.den.length) x.cond.ps⟩,TR Lk.mk3 Lk.ct (k+1+1+EC Lk.ct x.own x.own.length+1+1+x.cond.total.mag.length+x.cond.total.den.length+EC Pa.ct x.cond.ps x.cond.ps.length) x.msgs,⟨decide ((k+1+1+EC Lk.ct x.own x.own.length+1+1+x.cond.total.mag.length+x.cond.total.den.length+EC Pa.ct x.cond.ps x.cond.ps.length+EC Lk.ct x.msgs x.msgs.length).tmod 3=0),cnt x.Jm.mag.length (k+1+1+EC Lk.ct x.own x.own.length+1+1+x.cond.total.mag.length+x.cond.total.den.length+EC Pa.ct x.cond.ps x.cond.ps.length+EC Lk.ct x.msgs x.msgs.length+1),cnt x.Jm.den.length (k+1+1+EC Lk.ct x.own x.own.length+1+1+x.cond.total.mag.length+x.cond.total.den.length+EC Pa.ct x.cond.ps x.cond.ps.length+EC Lk.ct x.msgs x.msgs.length+1+x.Jm.mag.length)⟩⟩
def yZ:Fn:=⟨2,10,[.tmp 4],(.seq (rf 1 [oN 2 (.box (.t 0)),oK 4 1 (.mM (cI 0))]) (sr [oN 5 (fd 1 2),oN 6 (lF 1 5),oW 7 1,oN 8 (cl 57 [6,7]),oW 1 8] (sr [oW 9 1,oW 4 9] .ret)))⟩
structure EP (T:Tb):Prop where
 hT:T 56=some yZ
 mG:vC T
def ER:Fn:=⟨2,14,[.tmp 4],(.seq (rf 1 [oN 2 (.box (.t 0)),oK 4 1 (.mM (cI 0))]) (sr [oN 5 (fd 0 2),oN 6 (lT 2 5),oW 7 1,oN 8 (cl 56 [6,7]),oW 1 8] (sr [oN 9 (fd 2 2),oN 10 (lF 1 9),oW 11 1,oN 12 (cl 57 [10,11]),oW 1 12] (sr [oW 13 1,oW 4 13] .ret))))⟩
structure KX (T:Tb):Prop where
 hT:T 41=some ER
 UC:EP T
 mG:vC T
theorem ivc{a b:Int}(h:a=b):iv a=iv b:=by rw [h]
def V.els:V→List V
 |.agg l=>l
 |_=>[]
def Bi.vV(x:Bi):Nat:=x.mag.length
def Bi.mk2(k:Int)(x:Bi):Bi:=⟨x.neg,cnt x.mag.length k⟩
theorem aas{T:Tb}(h:EP T){x:Bi}{k:Int}(hl:x.mag.length≤1000000000:=by exact lX)(hk:0≤k∧k+Bi.vV x≤1000000000000:=by exact lX) :
  Mk T 56 (Oo x) k (Oo (Bi.mk2 k x)) (k+Bi.vV x):=by
 refine mk_iff fun σ v os ho hn=>?_;have hk':=hk;simp only [Bi.vV]at hk';obtain⟨cs,rfl,hcs⟩:=ho.kV
 replace hcs:Cs _ _ _ _:=⟨hcs,hn⟩
 obtain⟨c0,c1,rfl⟩:∃c0 c1,cs=[c0,c1]:=by
  have:=hcs.ow.len
  match cs,this with
  | [a0,a1],_=>exact⟨a0,a1,rfl⟩
 have hlf:=hcs.ow.leaf rfl;have hce:=rF hlf;have PY:c0.leaf=true∧c1.leaf=true:=by simpa using hlf
 have key:∃r σ',Run T (.fn 56 [.agg [c0,c1],iv k] σ) (.fn r σ')∧(r=iv (k+Bi.vV x)∧Cs σ' [c0,c1] ((Oo (Bi.mk2 k x):V).els) os∧Fr os σ σ'):=by
  refine run_end (fun x d=>x == 57) h.hT ?_;simp only [yZ,Lz,St.enter,aj,au,aN];refine ew ?_;have F0:Fr os σ (σ++[some ⟨2,[[c0,c1]]⟩]):=aik
  replace hcs:=hcs.snoc (x:=some ⟨2,[[c0,c1]]⟩)
  have hno:σ.length∉os:=fun hm=>absurd (ho.lt _ hm) (by omega);refine uh @hce @PY ?_;obtain⟨s1,hr,hcs,hf1⟩:=hcs.call 1 (qO h.mG (l:=x.mag) (k:=k) (by first|omega|(simp only [Bi.vV,R.vV,Bi.vV];omega)) (by first|omega|(simp only [Bi.vV,R.vV,Bi.vV];omega))) rfl rfl;refine uj hr rfl hf1.len (by simp) ?_;have hb1:=(hf1.old σ.length (by simp) hno).trans (tu _ _);have F1:=F0.trans hf1;have aDm:=kK hb1;refine uh @hb1 @PY ?_;exact⟨ivc (by simp only [Bi.vV];first|done|omega),hcs,F1⟩
 obtain⟨r,σ',h2,rfl,h3,h4⟩:=key;exact⟨σ',h2,nN h3.ow,h4⟩
def R.vV(x:R):Nat:=Bi.vV x.num+x.den.length
def R.mk2(k:Int)(x:R):R:=⟨x.neg,cnt x.mag.length k,cnt x.den.length (k+x.mag.length)⟩
theorem ag0{T:Tb}(h:KX T){x:R}{k:Int}(hl:x.sz≤1000000000:=by exact lX)(hk:0≤k∧k+R.vV x≤1000000000000:=by exact lX) :
  Mk T 41 (kN x) k (kN (R.mk2 k x)) (k+R.vV x):=by
 refine mk_iff fun σ v os ho hn=>?_;have hl':=hl;simp only [R.sz]at hl';have hk':=hk;simp only [R.vV,Bi.vV]at hk';obtain⟨cs,rfl,hcs⟩:=ho.kV
 replace hcs:Cs _ _ _ _:=⟨hcs,hn⟩
 obtain⟨c0,c1,c2,rfl⟩:∃c0 c1 c2,cs=[c0,c1,c2]:=by
  have:=hcs.ow.len
  match cs,this with
  | [a0,a1,a2],_=>exact⟨a0,a1,a2,rfl⟩
 have hlf:=hcs.ow.leaf rfl;have hce:=rF hlf;have PY:c0.leaf=true∧c1.leaf=true∧c2.leaf=true:=by simpa using hlf
 have key:∃r σ',Run T (.fn 41 [.agg [c0,c1,c2],iv k] σ) (.fn r σ')∧(r=iv (k+R.vV x)∧Cs σ' [c0,c1,c2] ((kN (R.mk2 k x):V).els) os∧Fr os σ σ'):=by
  refine run_end (fun x d=>x == 56||x == 57) h.hT ?_;simp only [ER,Lz,St.enter,aj,au,aN];refine ew ?_;have F0:Fr os σ (σ++[some ⟨3,[[c0,c1,c2]]⟩]):=aik
  replace hcs:=hcs.snoc (x:=some ⟨3,[[c0,c1,c2]]⟩)
  have hno:σ.length∉os:=fun hm=>absurd (ho.lt _ hm) (by omega);refine uh @hce @PY ?_;obtain⟨s1,hr,hcs,hf1⟩:=hcs.part 0 2 (aas h.UC (x:=x.num) (k:=k) (by first|omega|(simp only [R.sz,R.vV,Bi.vV];omega)) (by first|omega|(simp only [R.sz,R.vV,Bi.vV];omega))) rfl (by simp);refine uj hr rfl hf1.len (by simp) ?_;have hb1:=(hf1.old σ.length (by simp) hno).trans (tu _ _);have F1:=F0.trans hf1;have aDm:=kK hb1;refine uh @hb1 @PY ?_;obtain⟨s2,hr,hcs,hf2⟩:=hcs.call 2 (qO h.mG (l:=x.den) (k:=k+Bi.vV x.num) (by first|omega|(simp only [R.sz,R.vV,Bi.vV];omega)) (by first|omega|(simp only [R.sz,R.vV,Bi.vV];omega))) rfl rfl;refine uj hr rfl hf2.len (by simp) ?_;have hb2:=(hf2.old σ.length (kK hb1) hno).trans (hb1);have F2:=F1.trans hf2;have aGw:=kK hb2;refine uh @hb2 @PY ?_;exact⟨ivc (by simp only [R.vV,Bi.vV];first|done|omega),hcs,F2⟩
 obtain⟨r,σ',h2,rfl,h3,h4⟩:=key;exact⟨σ',h2,nN h3.ow,h4⟩
def Pt.vV(x:Pt):Nat:=x.x.vV+x.y.vV
def Pt.mk2(k:Int)(x:Pt):Pt:=⟨R.mk2 (k) x.x,R.mk2 (k+x.x.vV) x.y⟩
def Lk.vV(x:Lk):Nat:=x.w.vV+x.dx.vV+x.dy.vV
def Lk.mk2(k:Int)(x:Lk):Lk:=⟨x.a,x.b,R.mk2 (k) x.w,R.mk2 (k+x.w.vV) x.dx,R.mk2 (k+x.w.vV+x.dx.vV) x.dy⟩
def Cd.vV(x:Cd):Nat:=x.total.vV+EC Pa.ct x.ps x.ps.length
def Cd.mk2(k:Int)(x:Cd):Cd:=⟨x.node,R.mk2 (k) x.total,TR Pa.mk3 Pa.ct (k+x.total.vV) x.ps⟩
theorem KY{α:Type}{f:α→Nat}{l:List α}{x:α}{n:Nat}(h:Dy f l≤n)(hx:x∈l):f x≤n:=by
 have:∀l:List α,x∈l→f x≤(l.map f).sum:=by
  intro l
  induction l with
  |nil=>intro h;simp at h
  |
   cons y l ih =>
   intro h;rw [bC,jU];rcases aH.1 h with rfl|h
   ·omega
   have:=ih h;omega
 have:=this l hx;unfold Dy at h;omega
theorem akg{T:Tb}(h:IQ T){x:Lk}(hl:x.sz≤1048576:=by exact lX):PO T 44 [QV x] (QV x):=by
 simp only [Lk.sz,R.sz]at hl;refine kW (fun x d=>x == 48) h.hT ?_;simp only [BN,Lz,St.enter,aj,au,aN];refine ew ?_;have O:=fun s:Store=>@agN 3 s
 replace O:=fun s=>(O s).int .i64 x.a
 replace O:=fun s=>(O s).int .i64 x.b
 refine kU (Y7 h.Ap (r:=x.w) (by first|omega|(simp only [Lk.sz,R.sz];omega))) (by (refine ew ?_;try with_reducible exact True.intro)) ?_;intro r σ1 os g;have lq:3≤σ1.length:=g.len;have B0:=g.at 0 (by simp) rfl;have B1:=g.at 1 (by simp) rfl;have B2:=g.at 2 (by simp) rfl
 replace O:=(O _).got g (by simp)
 obtain⟨a0,d0,_,_,rfl,_,k1,k2⟩:=g.ow.J4
 replace O:=O.flat rfl
 have la:=k1.leaf rfl;have ld:=k2.leaf rfl;have PY:=ah la ld;have fc:=fun q=>rF (cs:=[.bool x.w.neg,a0,d0]) (by simp [la,ld,show ∀b,V.leaf (.bool b)=true from fun _=>rfl]) q;clear g;refine zK @B0 @B1 @B2 @lq @PY @fc ?_;refine kU (Y7 h.Ap (r:=x.dx) (by first|omega|(simp only [Lk.sz,R.sz];omega))) (by (refine zK @B0 @B1 @B2 @lq @PY @fc ?_;try with_reducible exact True.intro)) ?_;intro r σ2 os g;have lp:=lq
 replace lq:3≤σ2.length:=by have:=g.len;simp at this;omega
 replace B0:=(g.old 0 (by simp;omega)).trans ((jV (by decide)).trans B0)
 replace B1:=(g.old 1 (by simp;omega)).trans ((jV (by decide)).trans B1)
 replace B2:=(g.old 2 (by simp;omega)).trans (kT (by omega))
 replace O:=(O.set (by decide)).got g (by simp;omega)
 obtain⟨a1,d1,_,_,rfl,_,k1,k2⟩:=g.ow.J4
 replace O:=O.flat rfl
 have la:=k1.leaf rfl;have ld:=k2.leaf rfl
 replace PY:=ah PY (ah la ld)
 replace fc:=fun q=>rF (cs:=[.bool x.dx.neg,a1,d1]) (by simp [la,ld,show ∀b,V.leaf (.bool b)=true from fun _=>rfl]) q
 clear g;refine zK @B0 @B1 @B2 @lq @PY @fc ?_;refine kU (Y7 h.Ap (r:=x.dy) (by first|omega|(simp only [Lk.sz,R.sz];omega))) (by (refine zK @B0 @B1 @B2 @lq @PY @fc ?_;try with_reducible exact True.intro)) ?_;intro r σ3 os g;have lp:=lq
 replace lq:3≤σ3.length:=by have:=g.len;simp at this;omega
 replace B0:=(g.old 0 (by simp;omega)).trans ((jV (by decide)).trans B0)
 replace B1:=(g.old 1 (by simp;omega)).trans ((jV (by decide)).trans B1)
 replace B2:=(g.old 2 (by simp;omega)).trans (kT (by omega))
 replace O:=(O.set (by decide)).got g (by simp;omega)
 obtain⟨a2,d2,_,_,rfl,_,k1,k2⟩:=g.ow.J4
 replace O:=O.flat rfl
 have la:=k1.leaf rfl;have ld:=k2.leaf rfl
 replace PY:=ah PY (ah la ld)
 replace fc:=fun q=>rF (cs:=[.bool x.dy.neg,a2,d2]) (by simp [la,ld,show ∀b,V.leaf (.bool b)=true from fun _=>rfl]) q
 clear g;refine zK @B0 @B1 @B2 @lq @PY @fc ?_;exact((O.set (by decide)).set (by decide)).fin
theorem ag1{T:Tb}(h:EM T){l:List Lk}(hl:Dy Lk.sz l≤1048576:=by exact lX):PO T 21 [kY l] (kY l):=by
 have hll:l.length≤1048576:=by unfold Dy at hl;omega
 exact aui (cl:=Lk.cells) (z:=[iv 0,iv 0,.bool false,.jL,.jL,.bool false,.jL,.jL,.bool false,.jL,.jL]) (h.hT.trans rfl) (by decide) hll (fun x hx=>⟨rfl,DV l _ (bM.2 ⟨x,hx,rfl⟩),rfl⟩) fun x hx=>akg h.RN (x:=x) (KY (f:=Lk.sz) hl hx)
def ES:Fn:=⟨1,15,[.cell 2 3 true],(.seq (rf 2 [oN 1 (.box (.t 0)),oK 2 1 (.alloc qL)]) (.seq (rt 0 [oN 3 (fd 0 1),oA 4 0 (fd 0 3) [0],oA 5 0 (lF 1 4) [1],oN 6 (fd 0 1),oA 7 0 (fd 1 6) [3],oA 8 0 (lF 1 7) [4],oA 9 0 (cl 139 [8]) [5],oA 10 0 (.build Z4 [(0,1,(.t 5)),(1,1,(.t 9))]) [2,6],oN 11 (fd 2 1),oA 12 0 (lF 1 11) [8],oA 13 0 (cl 139 [12]) [9,6],oA 14 0 (.build qL [(0,2,(.t 10)),(2,1,(.t 13))]) [7,10],⟨none,none,0,.store 3 (.t 2) (.t 14),[11,10,0,1,2,3,4,5,6,7,8,9,10,11]⟩]) .ret))⟩
structure ET (T:Tb):Prop where
 hT:T 145=some ES
 sV:vk T
def Dn:Fn:=⟨1,17,[.cell 2 11 true],(.seq (rf 2 [oN 1 (.box (.t 0)),oK 2 1 (.alloc D6)]) (.seq (rt 0 [oN 3 (fd 0 1),oA 4 0 (lF 1 3) [0],oN 5 (fd 1 1),oA 6 0 (lF 1 5) [2],oN 7 (fd 2 1),oA 8 0 (lT 3 7) [4],oA 9 0 (cl 145 [8]) [5],oN 10 (fd 5 1),oA 11 0 (lT 3 10) [7],oA 12 0 (cl 145 [11]) [8,6],oN 13 (fd 8 1),oA 14 0 (lT 3 13) [10],oA 15 0 (cl 145 [14]) [11,9],oA 16 0 (.build D6 [(0,1,(.t 4)),(1,1,(.t 6)),(2,3,(.t 9)),(5,3,(.t 12)),(8,3,(.t 15))]) [1,3,6,9,12],⟨none,none,0,.store 11 (.t 2) (.t 16),[13,12,0,1,2,3,4,5,6,7,8,9,10,11,12,13]⟩]) .ret))⟩
structure JC (T:Tb):Prop where
 hT:T 133=some Dn
 sH:ET T
def Aq:Fn:=⟨1,20,[.tmp 2],(sr [oN 2 mN] (.seq (rf 1 [oN 6 (.ny 11 D6 0 []),oK 3 1 (oV 6)]) (.seq (sr [oW 7 0,oN 8 (ln 7),oN 9 (.mM (cI 0))] (.block 0 (.loop (sr [oN 10 (bt .lss 9 8)] (.seq (cd 10 .skip (.exit 0)) (.seq (.block 1 (.seq (rf 1 [oK 11 1 (ix 11 7 9),oK 12 1 (lT 11 11),oN 5 (.alloc D6),⟨none,none,1,.store 11 (.t 5) (.t 12),[]⟩]) (rf 2 [oK 13 2 (oV 3),oK 14 2 (lT 11 5),oK 15 2 (cl 133 [14]),oN 16 (.ny 11 D6 1 [(0,(.t 15))]),oK 17 1 (.app 11 184 (.t 13) (.t 16)),oK 3 2 (oV 17)]))) (rg [oN 18 (bc .add 9 1),oW 9 18]))))))) (sr [oW 19 3,oW 2 19] .ret))))⟩
structure Gx (T:Tb):Prop where
 hT:T 110=some Aq
 PG:JC T
def um:Fn:=⟨1,40,[.cell 2 5 true],(.seq (rf 2 [oN 1 (.box (.t 0)),oK 2 1 (.alloc QW)]) (.seq (rt 1 [oK 7 1 (fd 0 1),oA 8 1 (lF 1 7) [0],oK 9 1 (fd 1 1),oA 10 1 (lT 3 9) [2],oA 11 1 (cl 145 [10]) [3],oA 12 1 (.build QW [(0,1,(.t 8)),(1,3,(.t 11))]) [1,4],oN 3 (.alloc QW),⟨none,none,1,.store 5 (.t 3) (.t 12),[6,5,4,0,1,2,3,4,5,6]⟩]) (.seq (sr [oN 13 (fd 4 1),oN 14 (lF 1 13),oN 15 (ln 14),oN 16 (.mM (cI 0))] (.block 0 (.loop (sr [oN 17 (bt .lss 16 15)] (.seq (cd 17 .skip (.exit 0)) (.seq (.block 1 (.seq (rf 1 [oK 18 1 (ix 10 14 16),oK 19 1 (lT 10 18),oN 5 (.alloc VG),⟨none,none,1,.store 10 (.t 5) (.t 19),[]⟩]) (.seq (rt 1 [oK 20 1 (fd 0 5),oA 21 1 (lF 1 20) [0],oK 22 1 (fd 1 5),oA 23 1 (lT 3 22) [2],oA 24 1 (cl 145 [23]) [3],oK 25 1 (fd 4 5),oA 26 1 (lT 3 25) [5],oA 27 1 (cl 145 [26]) [6,4],oK 28 1 (fd 7 5),oA 29 1 (lT 3 28) [8],oA 30 1 (cl 145 [29]) [9,7],oA 31 1 (.build VG [(0,1,(.t 21)),(1,3,(.t 24)),(4,3,(.t 27)),(7,3,(.t 30))]) [1,4,7,10],oN 6 (.alloc VG),⟨none,none,1,.store 10 (.t 6) (.t 31),[12,11,10,0,1,2,3,4,5,6,7,8,9,10,11,12]⟩]) (rf 2 [oK 32 2 (fd 4 3),oK 33 2 (lF 1 32),oK 34 2 (lT 10 6),oN 35 (.ny 10 VG 1 [(0,(.t 34))]),oK 36 1 (.app 10 176 (.t 33) (.t 35)),oK 37 2 (fd 4 3),⟨none,none,2,.store 1 (.t 37) (.t 36),[]⟩])))) (rg [oN 38 (bc .add 16 1),oW 16 38]))))))) (sr [oN 39 (lT 5 3),oS (.store 5 (.t 2) (.t 39))] .ret))))⟩
structure xR (T:Tb):Prop where
 hT:T 183=some um
 sH:ET T
theorem DI{T:Tb}(h:ET T){r:R}(hl:r.sz≤1048576:=by exact lX):PO T 145 [kN r] (kN r):=by
 simp only [R.sz]at hl;refine kW (fun x d=>x == 139) h.hT ?_;simp only [ES,Lz,St.enter,aj,au,aN];refine ew ?_;have O:=fun s:Store=>(@agN 2 s).bool r.neg;refine qx (WU h.sV (l:=r.mag) (by omega)) (by (refine ew ?_;try with_reducible exact True.intro)) (by (refine ew ?_;try with_reducible exact True.intro)) ?_;intro v1 σ1 o1 g;have B1:=g.at 1 (by simp) rfl;have B0:=g.at 0 (by simp) rfl;have lq:2≤σ1.length:=g.len;have lf:=g.lf rfl;have lb:=g.lfb rfl
 replace O:=(O _).got g (by simp)
 refine Df @B0 @B1 @lq @lf @lb ?_;refine qx (WU h.sV (l:=r.den) (by omega)) (by (refine ew ?_;try with_reducible exact True.intro)) (by (refine ew ?_;try with_reducible exact True.intro)) ?_;intro v2 σ2 o2 g2
 replace B1:=(g2.old 1 (by omega)).trans B1
 have lq2:2≤σ2.length:=by have:=g2.len;omega
 have lf2:=g2.lf rfl;have lb2:=g2.lfb rfl
 replace O:=O.got g2 (by omega)
 refine zK @B1 @lq2 @lf2 @lb2 @lf @lb ?_;refine⟨by unfold pz;decide +kernel,?_⟩;refine qj @lq2 ?_;exact(O.set (by decide)).fin
theorem WV{T:Tb}(h:JC T){x:Lk}(hl:x.sz≤1048576:=by exact lX):PO T 133 [QV x] (QV x):=by
 simp only [Lk.sz,R.sz]at hl;refine kW (fun x d=>x == 145) h.hT ?_;simp only [Dn,Lz,St.enter,aj,au,aN];refine ew ?_;have O:=fun s:Store=>@agN 2 s
 replace O:=fun s=>(O s).int .i64 x.a
 replace O:=fun s=>(O s).int .i64 x.b
 refine qx (DI h.sH (r:=x.w) (by simp only [R.sz];omega)) (by (refine ew ?_;try with_reducible exact True.intro)) (by (refine ew ?_;try with_reducible exact True.intro)) ?_;intro r σ1 os g;have lq:2≤σ1.length:=g.len;have B0:=g.at 0 (by simp) rfl;have B1:=g.at 1 (by simp) rfl
 replace O:=(O _).got g (by simp)
 obtain⟨a0,d0,_,_,rfl,_,k1,k2⟩:=g.ow.J4
 replace O:=O.flat rfl
 have la:=k1.leaf rfl;have ld:=k2.leaf rfl;have PY:=ah la ld;have fc:=(fun q=>rF (cs:=[.bool x.w.neg,a0,d0]) (by simp [la,ld,show ∀b,V.leaf (.bool b)=true from fun _=>rfl]) q);clear g;refine Df @B0 @B1 @lq @PY @fc ?_;refine qx (DI h.sH (r:=x.dx) (by simp only [R.sz];omega)) (by (refine Df @B0 @B1 @lq @PY @fc ?_;try with_reducible exact True.intro)) (by (refine Df @B0 @B1 @lq @PY @fc ?_;try with_reducible exact True.intro)) ?_;intro r σ2 os g
 replace B0:=(g.old 0 (by omega)).trans B0
 replace B1:=(g.old 1 (by omega)).trans B1
 replace O:=O.got g (by omega)
 replace lq:2≤σ2.length:=by have:=g.len;omega
 obtain⟨a1,d1,_,_,rfl,_,k1,k2⟩:=g.ow.J4
 replace O:=O.flat rfl
 have la:=k1.leaf rfl;have ld:=k2.leaf rfl
 replace PY:=ah PY (ah la ld)
 replace fc:=ah fc (fun q=>rF (cs:=[.bool x.dx.neg,a1,d1]) (by simp [la,ld,show ∀b,V.leaf (.bool b)=true from fun _=>rfl]) q)
 clear g;refine Df @B0 @B1 @lq @PY @fc ?_;refine qx (DI h.sH (r:=x.dy) (by simp only [R.sz];omega)) (by (refine Df @B0 @B1 @lq @PY @fc ?_;try with_reducible exact True.intro)) (by (refine Df @B0 @B1 @lq @PY @fc ?_;try with_reducible exact True.intro)) ?_;intro r σ3 os g
 replace B0:=(g.old 0 (by omega)).trans B0
 replace B1:=(g.old 1 (by omega)).trans B1
 replace O:=O.got g (by omega)
 replace lq:2≤σ3.length:=by have:=g.len;omega
 obtain⟨a2,d2,_,_,rfl,_,k1,k2⟩:=g.ow.J4
 replace O:=O.flat rfl
 have la:=k1.leaf rfl;have ld:=k2.leaf rfl
 replace PY:=ah PY (ah la ld)
 replace fc:=ah fc (fun q=>rF (cs:=[.bool x.dy.neg,a2,d2]) (by simp [la,ld,show ∀b,V.leaf (.bool b)=true from fun _=>rfl]) q)
 clear g;refine Df @B0 @B1 @lq @PY @fc ?_;refine⟨by unfold pz;decide +kernel,?_⟩;refine qj @lq ?_;exact(O.set (by decide)).fin
theorem acC{T:Tb}(h:Gx T){l:List Lk}(hl:Dy Lk.sz l≤1048576:=by exact lX):PO T 110 [kY l] (kY l):=by
 have hll:l.length≤1048576:=by unfold Dy at hl;omega
 refine kW (fun x d=>x == 133) h.hT ?_;simp only [Aq,Lz,St.enter,aj,au,aN];refine ew ?_;refine kG (fun x d=>x == 133) (α:=Nat×Store×V×List (List V)) (fun q=>⟨kX [.any,.any,.jL,q.2.2.1,.any,.any,.any,kY l,iv (l.length:Nat),iv (q.1:Nat)],q.2.1,0,0,[],[]⟩) (fun q=>q.1≤l.length∧Grow q.2.1 q.2.2.1 11 q.2.2.2 ((l.take q.1).map Lk.cells)) (fun q=>l.length-q.1) rfl (0,[none],.jL,[]) ?_ ?_ ?_
 ·exact⟨by omega,amE⟩
 ·(refine jW ?_;exact qw)
 rintro⟨i,s,v,A⟩ ⟨hi,hG⟩;dsimp only at hi hG;by_cases hc:(i:Int)<(l.length:Nat)
 ·have hil:i<l.length:=by omega
  have hAl:A.length=i:=by have:=hG.len;simp at this;omega
  obtain⟨x,hx⟩:∃x,l.getD i default=x:=⟨_,rfl⟩;have hts:=RJ Lk.cells l hil;have hxs:x.sz≤1048576:=by have:=KY (f:=Lk.sz) hl (getD_mem hil);rw [hx]at this;exact this
  rw [hx]at hts;have e4:∀σ:Store,resolve σ FD (QV x)=some (QV x):=fun σ=>BM (DV [x] _ (by simp));rcases hG.cases with ⟨rfl,h1,rfl⟩|⟨o,rfl,ho,hlt⟩
  ·refine vW @hc @mg @hx ?_;refine kU (WV h.PG hxs) (by (refine qj @e4 ?_;try with_reducible exact True.intro)) ?_;intro r σ2 os g;obtain⟨cs,rfl,k1⟩:=g.ow.kV;have gl:s.length+3≤σ2.length:=by have:=g.len;simp at this;omega
   have lf:=rF (k1.leaf rfl);have cl1:cs.length=11:=k1.len;refine vW @lf @cl1 @gl ?_;refine⟨by omega,(i+1,(σ2.set (s.length+1) (some ⟨11,[cs]⟩)).set (s.length+1+1) (some ⟨11,[cs]⟩),.kP (s.length+1+1) 0 1,[cs]),by dsimp only;omega,⟨by dsimp only;omega,?_⟩,by (refine jW ?_;exact qw)⟩;dsimp only;rw [hts];exact hG.aDe (fun q hq=>by simp only [bJ];exact lQ hq) (by simp) g (by omega) (by simp) (by omega) (by simp) (by omega)
  refine Df @hc @mg @hx @ho @hlt ?_;refine kU (WV h.PG hxs) (by (refine qj @e4 ?_;try with_reducible exact True.intro)) ?_;intro r σ2 os g;obtain⟨cs,rfl,k1⟩:=g.ow.kV;have gl:s.length+3≤σ2.length:=by have:=g.len;simp at this;omega
  have lf:=rF (k1.leaf rfl);have cl1:cs.length=11:=k1.len;have ho2:=(g.old o (by simp;omega)).trans ((by simp only [bJ];exact lQ hlt:_=jH s o).trans ho);refine Df @lf @cl1 @gl @ho2 @hlt ?_;refine⟨by omega,(i+1,((σ2.set (s.length+1) (some ⟨11,[cs]⟩)).set o none).set (s.length+1+1) (some ⟨11,A++[cs]⟩),.kP (s.length+1+1) 0 (A.length+1),A++[cs]),by dsimp only;omega,⟨by dsimp only;omega,?_⟩,by (refine jW ?_;exact qw)⟩;dsimp only;rw [hts];exact hG.aDf (fun q hq=>by simp only [bJ];exact lQ hq) (by simp) g (by omega) (by simp) (by omega) (by simp) (by omega)
 have ei:i=l.length:=by omega
 subst ei;rw [bQ]at hG;rcases hG.cases with ⟨rfl,h1,rfl⟩|⟨o,rfl,ho,hlt⟩
 ·refine qj @hc ?_;exact hG.fin
 refine qj @hc ?_;exact hG.fin
def y7:Fn:=⟨2,12,[.cell 4 3 true],(.seq (rf 3 [oN 2 (.box (.t 0)),oK 3 1 (.box (.t 1)),oK 4 2 (.alloc qL)]) (.seq (rt 0 [oN 5 (lT 3 2),oN 6 (lT 3 2),oA 7 0 (cl 201 [5,6]) [0,1],oN 8 (lT 3 3),oN 9 (lT 3 3),oA 10 0 (cl 201 [8,9]) [3,4,2],oA 11 0 (cl 189 [7,10]) [2,5,5],⟨none,none,0,.store 3 (.t 4) (.t 11),[6,6,0,1,2,3,4,5,6]⟩]) .ret))⟩
structure EW (T:Tb):Prop where
 hT:T 202=some y7
 lJ:pY T
 nV:yH T
def wG:Fn:=⟨2,12,[.cell 4 3 true],(.seq (rf 3 [oN 2 (.box (.t 0)),oK 3 1 (.box (.t 1)),oK 4 2 (.alloc qL)]) (.seq (rt 0 [oN 5 (lT 3 2),oN 6 (lT 3 2),oA 7 0 (cl 157 [5,6]) [0,1],oN 8 (lT 3 3),oN 9 (lT 3 3),oA 10 0 (cl 157 [8,9]) [3,4,2],oA 11 0 (cl 131 [7,10]) [2,5,5],⟨none,none,0,.store 3 (.t 4) (.t 11),[6,6,0,1,2,3,4,5,6]⟩]) .ret))⟩
structure AX (T:Tb):Prop where
 hT:T 158=some wG
 lC:nJ T
 nX:rM T
def sqR(x y:R):R:=pI (mulR x x) (mulR y y)
theorem amR(x y:R):(sqR x y).cn:=vK _ _
theorem Za{T:Tb}(h:AX T){x y:R}(hx:x.cn:=by exact Ut)(hy:y.cn:=by exact Ut):PF T 158 [kN x,kN y] (kN (sqR x y)):=by
 refine kH nR h.hT ?_;simp only [wG,Lz];refine ev ?_;refine jy (yK h.nX hx hx) ?_;refine ev ?_;refine jy (yK h.nX hy hy) ?_;refine ev ?_;refine jy (DX h.lC) ?_;refine ev ?_;refine⟨by unfold pz;decide +kernel,?_⟩;exact kE _
theorem wfA{r:R}(h:r.wf:=by
 first|with_reducible assumption|exact mP Ut):r.wf:=h
theorem acD{T:Tb}(h:EW T){x y:R}(hx:x.wf:=by exact wfA)(hy:y.wf:=by exact wfA):PF T 202 [kN x,kN y] (kN (sqR x y)):=by
 refine kH nR h.hT ?_;simp only [y7,Lz];refine ev ?_;refine jy (wV h.nV hx hx) ?_;refine ev ?_;refine jy (wV h.nV hy hy) ?_;refine ev ?_;refine jy (vw h.lJ wfA wfA) ?_;refine ev ?_;refine⟨by unfold pz;decide +kernel,?_⟩;exact kE _
theorem UD{l:Lk}(h:qm l=true):l.w.ok=true∧l.dx.ok=true∧l.dy.ok=true∧0<BH l.w:=by
 unfold qm at h;simp only [aG,decide_eq_true_eq]at h;exact⟨XJ h.1.1.2,h.1.2,h.2,h.1.1.2⟩
theorem OV{l:Lk}(h:qm l=true):l.w.cn∧l.dx.cn∧l.dy.cn:=by
 obtain⟨a,b,c,_⟩:=UD h;exact⟨zH a,zH b,zH c⟩
def Jf:List Int→Int→List Int
 | [],n=>[n]
 |x::l,n=>if x<n then x::Jf l n else if x=n then x::l else n::x::l
theorem aiu{l:List Int}{n:Int}{k:Nat}(hk:k≤l.length)(h:∀j,j<k→l.getD j 0<n)(h2:k<l.length→¬l.getD k 0<n) :
  Jf l n=if k<l.length∧l.getD k 0=n then l else l.take k++n::l.drop k:=by
 induction l generalizing k with
 |nil=>simp [Jf]
 |
  cons x l ih =>
  cases k with
  |
   zero =>
   have h3:=h2 (by simp);simp only [List.getD_cons_zero]at h3;unfold Jf;rw [if_neg h3];by_cases e:x=n
   ·simp [e]
   simp [e]
  |
   succ k =>
   have h3:=h 0 (by omega);simp only [List.getD_cons_zero]at h3;unfold Jf;rw [if_pos h3,ih (k:=k) (by simpa using hk) (fun j hj=>by have:=h (j+1) (by omega);simpa using this) (fun hj=>by have:=h2 (by simpa using hj);simpa using this)];simp only [aj,jO,jm,List.drop_succ_cons,bP,Nat.add_lt_add_iff_right];split<;>rfl
def Asc(l:List Int):Prop:=l.Pairwise (· < ·)
theorem KZ{l:List Int}{n a:Int}:a∈Jf l n↔a=n∨a∈l:=by
 induction l with
 |nil=>simp [Jf]
 |
  cons x l ih =>
  unfold Jf;split
  ·rw [aH,ih,aH];constructor
   ·rintro(h|h|h)<;>simp [h]
   rintro(h|h|h)<;>simp [h]
  split
  ·rename_i e;subst e;constructor
   ·intro h;exact .inr h
   rintro(h|h)
   ·rw [h];simp
   exact h
  simp
theorem N9{l:List Int}{n:Int}(h:Asc l):Asc (Jf l n):=by
 unfold Asc at *
 induction l with
 |nil=>simp [Jf]
 |
  cons x l ih =>
  rw [dW]at h;unfold Jf;split
  ·rename_i hx;rw [dW];refine⟨fun a ha=>?_,ih h.2⟩;rcases KZ.1 ha with rfl|ha
   ·exact hx
   exact h.1 a ha
  split
  ·rw [dW];exact h
  rename_i h1 h2;have:n<x:=by omega
  rw [dW,dW];refine⟨fun a ha=>?_,h⟩;rcases aH.1 ha with rfl|ha
  ·exact this
  have:=h.1 a ha;omega
theorem Qx(l:List Int)(n:Int):(Jf l n).length≤l.length+1:=by
 induction l with
 |nil=>simp [Jf]
 |
  cons x l ih =>
  unfold Jf;split
  ·simp;omega
  split<;>simp
theorem XQ:∀{l m:List Int},Asc l→Asc m→(∀a,a∈l↔a∈m)→l=m
 | [],[],_,_,_=>rfl
 | [],y::m,_,_,h=>absurd ((h y).2 (by simp)) (by simp)
 |x::l,[],_,_,h=>absurd ((h x).1 (by simp)) (by simp)
 |
  x::l,y::m,hl,hm,h=>by
  unfold Asc at hl hm;rw [dW]at hl hm;have e:x=y:=by
   rcases aH.1 ((h x).1 (by simp))with h1|h1
   ·exact h1
   rcases aH.1 ((h y).2 (by simp))with h2|h2
   ·exact h2.symm
   have:=hl.1 y h2;have:=hm.1 x h1;omega
  subst e
  congr 1
  refine XQ hl.2 hm.2 fun a=>?_;constructor
  ·intro ha;rcases aH.1 ((h a).1 (by simp [ha]))with h1|h1
   ·have:=hl.1 a ha;omega
   exact h1
  intro ha;rcases aH.1 ((h a).2 (by simp [ha]))with h1|h1
  ·have:=hm.1 a ha;omega
  exact h1
theorem Oa:∀{a b:List Int},a.Nodup→(∀x∈a,x∈b)→a.length≤b.length
 | [],b,_,_=>by simp
 |
  x::a,b,hn,h=>by
  rw [fC]at hn;have hx:=h x (by simp);have:=Oa (a:=a) (b:=b.erase x) hn.2 fun y hy=>by
   have hyx:y≠x:=fun e=>hn.1 (e▸hy);exact(List.mem_erase_of_ne hyx).2 (h y (by simp [hy]))
  rw [List.length_erase_of_mem hx]at this;have:=List.length_pos_of_mem hx;simp only [aj];omega
theorem VX{a b:List Int}(hn:a.Nodup)(h:∀x∈a,x∈b)(hl:b.length≤a.length):∀x∈b,x∈a:=by
 intro x hx;refine Classical.byContradiction fun hxa=>?_;have:=Oa (a:=x::a) (b:=b) (fC.2 ⟨hxa,hn⟩) fun y hy=>by
  rcases aH.1 hy with rfl|hy
  ·exact hx
  exact h y hy
 simp at this;omega
theorem aeZ:∀{a b:List Int},a.Nodup→(∀x∈a,x∈b)→b.length≤a.length→b.Nodup
 |a,[],_,_,_=>List.nodup_nil
 |
  a,y::b,hn,h,hl=>by
  have hya:y∈a:=VX hn h hl y (by simp);have h2:=aeZ (a:=a.erase y) (b:=b) (hn.erase y) (fun x hx=>by
   have hxy:x≠y:=fun e=>by rw [e]at hx;exact(List.Nodup.not_mem_erase hn) hx
   have:=h x (List.mem_of_mem_erase hx);rcases aH.1 this with e|k
   ·exact absurd e hxy
   exact k) (by rw [List.length_erase_of_mem hya];simp only [aj]at hl;omega)
  refine fC.2 ⟨fun hyb=>?_,h2⟩;have:=Oa (a:=a) (b:=b) hn fun x hx=>by
   rcases aH.1 (h x hx)with e|k
   ·rw [e];exact hyb
   exact k
  simp only [aj]at hl;omega
theorem Kv{l:List Int}(h:Asc l):l.Nodup:=by
 unfold Asc at h;exact h.imp fun h e=>by omega
def IV:Fn:=⟨2,48,[.tmp 4],(sr [oN 4 mN] (sr [oN 5 (.mM (cI 0))] (.seq (.block 0 (.loop (.seq (sr [oW 7 5,oW 8 0,oN 9 (ln 8),oN 10 (bt .lss 7 9),oW 11 10,oG 11 true 12 (oV 0),oG 11 true 13 (oV 5),oG 11 true 14 (ix 1 12 13),oG 11 true 15 (lF 1 14),oG 11 true 16 (oV 1),oG 11 true 17 (bt .lss 15 16),oN 18 (.pick (.t 11) (.t 17) (.c (.bool false)))] (cd 18 .skip (.exit 0))) (.block 1 (rg [oW 19 5,oN 20 (bc .add 19 1),oW 5 20]))))) (.seq (sr [oW 21 5,oW 22 0,oN 23 (ln 22),oN 24 (bt .lss 21 23),oW 25 24,oG 25 true 26 (oV 0),oG 25 true 27 (oV 5),oG 25 true 28 (ix 1 26 27),oG 25 true 29 (lF 1 28),oG 25 true 30 (oV 1),oG 25 true 31 (bt .eql 29 30),oN 32 (.pick (.t 25) (.t 31) (.c (.bool false)))] (cd 32 (sr [oW 33 0,oW 4 33] .ret) .skip)) (.seq (rf 2 [oN 34 (.ny 1 F8 0 []),oK 35 2 (oV 0),oK 36 2 (oV 5),oK 37 2 (.slice 1 (.t 35) none (some (.t 36))),oK 38 1 (.app 1 8 (.t 34) (.t 37)),oK 6 2 (oV 38)]) (.seq (rf 2 [oK 39 2 (oV 6),oK 40 2 (oV 1),oN 41 (.ny 1 F8 1 [(0,(.t 40))]),oK 42 1 (.app 1 8 (.t 39) (.t 41)),oK 6 2 (oV 42)]) (.seq (rf 1 [oK 43 1 (oV 6),oK 44 1 (oV 0),oK 45 1 (oV 5),oK 46 1 (.slice 1 (.t 44) (some (.t 45)) none),oN 47 (.app 1 8 (.t 43) (.t 46)),oK 4 1 (oV 47)]) .ret)))))))⟩
structure IW (T:Tb):Prop where
 hT:T 237=some IV
def zN:Fn:=⟨1,29,[.tmp 2],(sr [oN 2 mN] (.seq (rf 1 [oN 6 (.ny 1 F8 0 []),oK 3 1 (oV 6)]) (.seq (sr [oW 7 0,oN 8 (cl 193 [7]),oN 9 (nt 8)] (cd 9 (sr [oN 2 mN] .ret) .skip)) (.seq (sr [oW 10 0,oN 11 (ln 10),oN 12 (.mM (cI 0))] (.block 0 (.loop (sr [oN 13 (bt .lss 12 11)] (.seq (cd 13 .skip (.exit 0)) (.seq (.block 1 (.seq (rf 1 [oK 14 1 (ix 11 10 12),oK 15 1 (lT 11 14),oN 5 (.alloc D6),⟨none,none,1,.store 11 (.t 5) (.t 15),[]⟩]) (.seq (sr [oN 16 (fd 0 5),oN 17 (lF 1 16),oN 18 (bc .gtr 17 0)] (cd 18 (rg [oW 19 3,oN 20 (fd 0 5),oN 21 (lF 1 20),oN 22 (cl 237 [19,21]),oW 3 22]) .skip)) (rg [oW 23 3,oN 24 (fd 1 5),oN 25 (lF 1 24),oN 26 (cl 237 [23,25]),oW 3 26])))) (rg [oN 27 (bc .add 12 1),oW 12 27]))))))) (sr [oW 28 3,oW 2 28] .ret)))))⟩
structure zO (T:Tb):Prop where
 hT:T 222=some zN
 lZ:o8 T
 BO:IW T
def EX:Fn:=⟨1,34,[.tmp 2],(sr [oN 2 mN] (.seq (rf 1 [oN 7 (.ny 1 F8 0 []),oK 3 1 (oV 7)]) (.seq (sr [oN 4 (.mM (cI 1))] (.block 0 (.loop (.seq (sr [oW 8 4,oN 9 (bc .lss 8 10)] (cd 9 .skip (.exit 0))) (.seq (.block 1 (sr [oW 12 0,oN 13 (ln 12),oN 14 (.mM (cI 0))] (.block 2 (.loop (sr [oN 15 (bt .lss 14 13)] (.seq (cd 15 .skip (.exit 2)) (.seq (.block 3 (.seq (rf 1 [oK 16 1 (ix 11 12 14),oK 17 1 (lT 11 16),oN 6 (.alloc D6),⟨none,none,1,.store 11 (.t 6) (.t 17),[]⟩]) (sr [oN 18 (fd 0 6),oN 19 (lF 1 18),oW 20 4,oN 21 (bt .eql 19 20),oW 22 21,oG 22 false 23 (fd 1 6),oG 22 false 24 (lF 1 23),oG 22 false 25 (oV 4),oG 22 false 26 (bt .eql 24 25),oN 27 (.pick (.t 22) (.c (.bool true)) (.t 26))] (cd 27 (.seq (rf 2 [oK 28 2 (oV 3),oK 29 2 (oV 4),oN 30 (.ny 1 F8 1 [(0,(.t 29))]),oK 31 1 (.app 1 8 (.t 28) (.t 30)),oK 3 2 (oV 31)]) (.exit 2)) .skip)))) (rg [oN 32 (bc .add 14 1),oW 14 32])))))))) (rg [oW 10 4,oN 11 (bc .add 10 1),oW 4 11])))))) (sr [oW 33 3,oW 2 33] .ret))))⟩
structure EY (T:Tb):Prop where
 hT:T 180=some EX
theorem UE{T:Tb}(h:IW T){l:List Int}{n:Int}(hl:l.length≤100000000:=by exact lX):PF T 237 [ints l,iv n] (ints (Jf l n)):=by
 refine kH nR h.hT ?_;simp only [IV,Lz];refine ev ?_;refine kG (fun _ _=>false) (α:=Nat) (fun i=>⟨kX [ints l,iv n,.any,.any,.jL,iv (i:Nat)],[],0,0,[],[]⟩) (fun i=>i≤l.length∧∀j,j<i→l.getD j 0<n) (fun i=>l.length-i) rfl 0 ?_ ?_ ?_
 ·exact⟨by omega,by intro j hj;omega⟩
 ·(refine jW ?_;exact zX)
 rintro i ⟨hi,hj⟩;refine ev ?_;by_cases hc:(i:Int)<(l.length:Nat)
 ·by_cases hx:l.getD i 0<n
  ·refine qW @hc @hx ?_;refine⟨i+1,by omega,⟨by omega,fun j hj'=>?_⟩,by (refine jW ?_;exact zX)⟩;by_cases e:j=i
   ·subst e;exact hx
   exact hj j (by omega)
  rw [aiu hi hj fun _=>hx];by_cases he:l.getD i 0=n
  ·refine ev4 @hc @hx @he @Int.lt_irrefl ?_;rw [if_pos (by omega)];exact kE _
  rw [if_neg fun k=>he k.2];have hd:¬l.drop i=[]:=by
   intro e;have:=congrArg List.length e;simp at this;omega
  have ld:(l.drop i).length=l.length-i:=by simp
  have lt:(l.take i).length=i:=by simp;omega
  obtain⟨d,hde⟩:∃d,l.drop i=d:=⟨_,rfl⟩;obtain⟨t,hte⟩:∃t,l.take i=t:=⟨_,rfl⟩;refine zl @hc @hx @he ?_;rw [hde]at hd ld ⊢;rw [hte]at lt ⊢;simp only [OE];refine⟨fun e=>?_,fun e=>?_⟩
  ·subst e;refine⟨by omega,fun k=>absurd k hd,fun _=>⟨by omega,?_⟩⟩;simp only [EVi];refine ev1 @EVi ?_;exact kE _
  refine⟨by omega,by omega,?_⟩;simp only [EVi];refine ev1 @EVi ?_;refine⟨fun k=>absurd (OE.1 k) hd,fun _=>⟨by simp;omega,?_⟩⟩;rw [bJ];exact kE _
 have ei:i=l.length:=by omega
 subst ei;rw [aiu (aP _) hj fun h=>absurd h (jZ _),if_neg fun h=>jZ _ h.1];simp only [bQ,fO];refine qW @hc @List.drop_length.{0} ?_;simp only [OE];refine⟨fun e=>?_,fun e=>⟨by omega,by omega,?_⟩⟩
 ·subst e;refine⟨by omega,?_⟩;simp only [EVi];refine ev1 @EVi ?_;exact kE _
 simp only [EVi];refine ev1 @EVi ?_;exact⟨fun _=>kE _,fun k=>absurd (by simp [kF]) k⟩
def Ti(out:List Int)(l:Lk):List Int:=Jf (if 0<l.a then Jf out l.a else out) l.b
def zQ(l:List Lk)(i:Nat):List Int:=(l.take i).foldl Ti []
theorem UF(l:List Lk):zQ l 0=[]:=by simp [zQ]
theorem UG(l:List Lk){i:Nat}(h:i<l.length):zQ l (i+1)=Ti (zQ l i) (l.getD i default):=by
 unfold zQ;rw [dD,aB h,ak,aB h];simp only [Option.toList,Option.getD,iP,dX,iE]
theorem ag2(out:List Int)(l:Lk):(Ti out l).length≤out.length+2:=by
 unfold Ti;have h1:=Qx (if 0<l.a then Jf out l.a else out) l.b;have h2:=Qx out l.a;split at h1<;>(split<;>omega)
theorem ag3(l:List Lk){i:Nat}(h:i≤l.length):(zQ l i).length≤2*i:=by
 induction i with
 |zero=>simp [UF]
 |
  succ i ih =>
  rw [UG l h];have:=ih (by omega);have:=ag2 (zQ l i) (l.getD i default);omega
def Tj(l:List Lk):List Int:=if lH l=true then zQ l l.length else []
theorem ag4{T:Tb}(h:zO T){l:List Lk}(hw:Bg Lk.wf l:=by exact lX)(hl:l.length≤1048576:=by exact lX):PF T 222 [kY l] (ints (Tj l)):=by
 have ci:=vO h.lZ hw
 cases hb:lH l
 ·rw [hb]at ci;rw [show Tj l=[]from by unfold Tj;rw [hb];rfl];refine kH nR h.hT ?_;simp only [zN,Lz];refine ev ?_;refine jy ci ?_;refine ev ?_;exact of_eq_true (mX 1)
 rw [hb]at ci;rw [show Tj l=zQ l l.length from by unfold Tj;rw [hb];rfl];refine kH nR h.hT ?_;simp only [zN,Lz];refine ev ?_;refine jy ci ?_;refine ev ?_;refine kG (fun _ _=>false) (α:=Nat) (fun i=>⟨kX [.any,.any,.jL,ints (zQ l i),.any,.any,.any,.any,.any,.any,kY l,iv (l.length:Nat),iv (i:Nat)],[],0,0,[],[]⟩) (fun i=>i≤l.length) (fun i=>l.length-i) rfl 0 ?_ ?_ ?_
 ·omega
 ·rw [UF,show ints []=.sl 1 []from rfl];exact PV
 intro i hi;have hnl:=ag3 l hi;refine ev ?_;refine kD (fun hc=>?_) fun hc=>?_<;>(refine qW @hc @mg ?_;try with_reducible exact True.intro)
 ·have hil:i<l.length:=by omega
  have es:=UG l hil;unfold Ti at es;have c1:=UE h.BO (l:=zQ l i) (n:=(l.getD i default).a) (by omega);have c2:=UE h.BO (l:=if 0<(l.getD i default).a then Jf (zQ l i) (l.getD i default).a else zQ l i) (n:=(l.getD i default).b) (by
   have:=Qx (zQ l i) (l.getD i default).a;split<;>omega)
  rw [←es]at c2;by_cases ha:0<(l.getD i default).a
  ·rw [if_pos ha]at c2;refine ev1 @ha ?_;refine jy c1 ?_;refine ev ?_;refine jy c2 ?_;refine ev ?_;exact⟨i+1,by omega,by omega,by exact PV⟩
  rw [if_neg ha]at c2;refine ev1 @ha ?_;refine jy c2 ?_;refine ev ?_;exact⟨i+1,by omega,by omega,by exact PV⟩
 have:i=l.length:=by omega
 subst this;exact kE _
def ends(l:List Lk)(v:Int):Bool:=l.any fun x=>decide (x.a=v)||decide (x.b=v)
def AY(l:List Lk)(v:Nat):List Int:=((List.range v).filter fun (u:Nat)=>decide (1≤u)&&ends l u).map fun u=>((u:Nat):Int)
theorem amS(l:List Lk):AY l 1=[]:=by simp [AY]
theorem amT(l:List Lk){v:Nat}(h:1≤v):AY l (v+1)=AY l v++(if ends l v=true then [((v:Nat):Int)]else []):=by
 unfold AY;rw [iZ,jf,bK]
 congr 1
 simp only [ig,List.filter_nil,decide_eq_true h,bU];split<;>rfl
theorem Zb(l:List Lk)(v:Nat):(AY l v).length≤v:=by
 unfold AY;rw [aV];have:=jg (fun (u:Nat)=>decide (1≤u)&&ends l u) (List.range v);rw [jF]at this;exact this
theorem Zc{l:List Lk}{v:Int}{k:Nat}(hk:k<l.length)(h:(l.getD k default).a=v∨(l.getD k default).b=v):ends l v=true:=by
 unfold ends;rw [List.any_eq_true];exact⟨_,getD_mem hk,by simpa using h⟩
theorem ag5{l:List Lk}{v:Int}(h:∀k,k<l.length→(l.getD k default).a≠v∧(l.getD k default).b≠v):ends l v=false:=by
 unfold ends;rw [List.any_eq_false];intro x hx;obtain⟨k,hk⟩:=bF.1 hx;have hlt:=(aK.1 hk).1;have:=h k hlt;rw [ak,hk]at this;simpa using this
theorem arP{a b:St}(h:Fg a b:=by
 (simp only [←sO];refine JQ (k:=3) (Je _ _) rfl ?_;(try (refine ev ?_;try with_reducible exact True.intro));(repeat' (first|exact True.intro|omega|exact Ac (by simp) (by simp) (by simp)|refine⟨?_,?_⟩|exact lY rfl (by simp))))):Fg a b:=h
theorem Zd{T:Tb}(h:EY T){l:List Lk}(hw:Bg Lk.wf l:=by exact lX):PF T 180 [kY l] (ints (AY l 10)):=by
 have hlen:=hw.1;refine kH nR h.hT ?_;simp only [EX,Lz];refine ev ?_;refine kG (fun _ _=>false) (α:=Nat×List Int) (fun q=>⟨kX [kY l,.any,.jL,slV q.2.length,iv (q.1:Nat)],VH 1 (kF q.2),0,0,[],[]⟩) (fun q=>1≤q.1∧q.1≤10∧q.2=AY l q.1) (fun q=>10-q.1) rfl (1,[]) ?_ ?_ ?_
 ·exact⟨by omega,by omega,(amS l).symm⟩
 ·exact PV
 rintro⟨v,xs⟩ ⟨h1,h2,hx0⟩;dsimp only at h1 h2 hx0;have hx:xs.length≤10:=by rw [hx0];have:=Zb l v;omega
 have es:=amT l h1;rw [←hx0]at es
 (rcases xs with _|⟨x,xs⟩<;>simp only [au,aj,qX,qH,mO,lI]at hx ⊢)
 ·refine ev ?_;refine kD (fun hc=>?_) fun hc=>?_<;>(refine ev1 @hc ?_;try with_reducible exact True.intro)
  ·refine kG (fun _ _=>false) (α:=Nat) (fun k=>⟨kX [kY l,.any,.jL,.jL,iv (v:Nat),.any,.any,.any,.any,.any,.any,.any,kY l,iv (l.length:Nat),iv (k:Nat)],[],0,0,[],[]⟩) (fun k=>k≤l.length∧∀r,r<k→(l.getD r default).a≠(v:Nat)∧(l.getD r default).b≠(v:Nat)) (fun k=>l.length-k) rfl 0 ?_ ?_ ?_
   ·exact⟨by omega,by intro j hj;omega⟩
   ·(refine jW ?_;exact zX)
   rintro k ⟨hk,hr⟩;refine ev ?_;refine kD (fun hd=>?_) fun hd=>?_<;>(refine qW @hd @mg ?_;try with_reducible exact True.intro)
   ·have hkl:k<l.length:=by omega
    by_cases ha:(l.getD k default).a=(v:Nat)
    ·rw [Zc hkl (.inl ha)]at es;refine ev1 @ha ?_;exact⟨by omega,(v+1,([])++[((v:Nat):Int)]),by dsimp only;omega,⟨by dsimp only;omega,by dsimp only;omega,es.symm⟩,by exact JV⟩
    by_cases hb:(l.getD k default).b=(v:Nat)
    ·rw [Zc hkl (.inr hb)]at es;refine qW @ha @hb ?_;exact⟨by omega,(v+1,([])++[((v:Nat):Int)]),by dsimp only;omega,⟨by dsimp only;omega,by dsimp only;omega,es.symm⟩,by exact JV⟩
    refine qW @ha @hb ?_;refine⟨k+1,by omega,⟨by omega,fun r hr'=>?_⟩,by exact PV⟩;by_cases e:r=k
    ·subst e;exact⟨ha,hb⟩
    exact hr r (by omega)
   rw [ag5 fun r hr'=>hr r (by omega),if_neg (by simp),aQ]at es;exact⟨(v+1,[]),by dsimp only;omega,⟨by dsimp only;omega,by dsimp only;omega,es.symm⟩,by exact PV⟩
  have ev:v=10:=by omega
  subst ev;rw [←hx0];exact of_eq_true (mX 1)
 refine ev ?_;refine kD (fun hc=>?_) fun hc=>?_<;>(refine ev1 @hc ?_;try with_reducible exact True.intro)
 ·refine kG (fun _ _=>false) (α:=Nat) (fun k=>⟨kX [kY l,.any,.jL,.kP 0 0 (x::xs).length,iv (v:Nat),.any,.any,.any,.any,.any,.any,.any,kY l,iv (l.length:Nat),iv (k:Nat)],[some ⟨1,kF (x::xs)⟩],0,0,[],[]⟩) (fun k=>k≤l.length∧∀r,r<k→(l.getD r default).a≠(v:Nat)∧(l.getD r default).b≠(v:Nat)) (fun k=>l.length-k) rfl 0 ?_ ?_ ?_
  ·exact⟨by omega,by intro j hj;omega⟩
  ·(refine jW ?_;exact zX)
  rintro k ⟨hk,hr⟩;refine ev ?_;refine kD (fun hd=>?_) fun hd=>?_<;>(refine qW @hd @mg ?_;try with_reducible exact True.intro)
  ·have hkl:k<l.length:=by omega
   by_cases ha:(l.getD k default).a=(v:Nat)
   ·rw [Zc hkl (.inl ha)]at es;refine ev1 @ha ?_;exact⟨by omega,(v+1,(x::xs)++[((v:Nat):Int)]),by dsimp only;omega,⟨by dsimp only;omega,by dsimp only;omega,es.symm⟩,by exact arP⟩
   by_cases hb:(l.getD k default).b=(v:Nat)
   ·rw [Zc hkl (.inr hb)]at es;refine qW @ha @hb ?_;exact⟨by omega,(v+1,(x::xs)++[((v:Nat):Int)]),by dsimp only;omega,⟨by dsimp only;omega,by dsimp only;omega,es.symm⟩,by exact arP⟩
   refine qW @ha @hb ?_;refine⟨k+1,by omega,⟨by omega,fun r hr'=>?_⟩,by exact VI⟩;by_cases e:r=k
   ·subst e;exact⟨ha,hb⟩
   exact hr r (by omega)
  rw [ag5 fun r hr'=>hr r (by omega),if_neg (by simp),aQ]at es;exact⟨(v+1,x::xs),by dsimp only;omega,⟨by dsimp only;omega,by dsimp only;omega,es.symm⟩,by exact VI⟩
 have ev:v=10:=by omega
 subst ev;rw [←hx0];exact kE _
def Ze(l:List Cd)(i:Nat):Prop :=
 rD (l.getD i default)=true∧(∀k,k<(l.getD i default).ps.length→((l.getD i default).ps.getD k default).node=0∨∃j,i<j∧j<l.length∧(l.getD j default).node=((l.getD i default).ps.getD k default).node) ∧
  ∀j,i<j→j<l.length→(l.getD j default).node≠(l.getD i default).node
theorem abo{l:List Cd}{i:Nat}{c:Cd}(h:l.getD i default=c):Ze l i↔(rD c=true ∧
  (∀k,k<c.ps.length→(c.ps.getD k default).node=0∨∃j,i<j∧j<l.length∧(l.getD j default).node=(c.ps.getD k default).node) ∧
  ∀j,i<j→j<l.length→(l.getD j default).node≠c.node):=by subst h;rfl
noncomputable instance (l:List Cd):Decidable (∀i,i<l.length→Ze l i):=Classical.propDecidable _
noncomputable def JL(l:List Cd):Bool:=decide (∀i,i<l.length→Ze l i)
theorem Q9{l:List Cd}{i:Nat}(hi:i<l.length)(h:¬Ze l i):JL l=false:=decide_eq_false fun k=>h (k i hi)
theorem aiv{l:List Cd}(h:∀i,i<l.length→Ze l i):JL l=true:=decide_eq_true h
def Gy(l:List Cd)(k:Nat):List Int:=0::((l.drop k).map (·.node)).reverse
theorem amU(l:List Cd):Gy l l.length=[0]:=by simp [Gy]
theorem amV(l:List Cd){k:Nat}(h:k<l.length):Gy l (k+1)++[(l.getD k default).node]=Gy l k:=by
 unfold Gy;rw [bT h,ak,aB h];simp only [bC,List.reverse_cons,bP,Option.getD]
theorem ag6(l:List Cd)(k:Nat)(a:Int):a∈Gy l k↔a=0∨∃j,k≤j∧j<l.length∧(l.getD j default).node=a:=by
 unfold Gy;rw [aH,List.mem_reverse,bM];constructor
 ·rintro(h|⟨c,hc,rfl⟩)
  ·exact .inl h
  right;obtain⟨n,hn⟩:=bF.1 hc;rw [dA]at hn;have hlt:=(aK.1 hn).1;exact⟨k+n,by omega,hlt,by rw [ak,hn];rfl⟩
 rintro(h|⟨j,h1,h2,rfl⟩)
 ·exact .inl h
 refine .inr ⟨l.getD j default,?_,rfl⟩;refine bF.2 ⟨j-k,?_⟩;rw [dA,show k+(j-k)=j by omega,ak,aB h2];rfl
theorem ag7(l:List Cd){k:Nat}(_:k≤l.length):(Gy l k).length=l.length-k+1:=by simp [Gy]
theorem akh{c:Cd}(h:rD c=true):1≤c.node∧c.node≤9:=by
 unfold rD inB at h;simp only [aG,decide_eq_true_eq]at h;exact h.1.1.1.2
def IX:Fn:=⟨2,17,[.tmp 4],(sr [oN 4 mF] (.seq (sr [oW 7 0,oN 8 (ln 7),oN 9 (.mM (cI 0))] (.block 0 (.loop (sr [oN 10 (bt .lss 9 8)] (.seq (cd 10 .skip (.exit 0)) (.seq (.block 1 (sr [oN 11 (ix 1 7 9),oN 12 (lF 1 11),oW 6 12] (sr [oW 13 6,oW 14 1,oN 15 (bt .eql 13 14)] (cd 15 (sr [oN 4 mT] .ret) .skip)))) (rg [oN 16 (bc .add 9 1),oW 9 16]))))))) (sr [oN 4 mF] .ret)))⟩
structure BP (T:Tb):Prop where
 hT:T 236=some IX
def J8:Fn:=⟨1,54,[.tmp 2],(sr [oN 2 mF] (.seq (rf 1 [oN 7 (.ny 1 F8 1 [(0,(cI 0))]),oK 3 1 (oV 7)]) (.seq (sr [oW 8 0,oN 9 (ln 8),oN 10 (bc .sub 9 1),oW 4 10] (.block 0 (.loop (.seq (sr [oW 11 4,oN 12 (bc .geq 11 0)] (cd 12 .skip (.exit 0))) (.seq (.block 1 (.seq (sr [oW 15 0,oW 16 4,oN 17 (ix 5 15 16),oN 18 (lT 5 17),oN 19 (cl 185 [18]),oN 20 (nt 19),oW 21 20,oG 21 false 22 (oV 3),oG 21 false 23 (oV 0),oG 21 false 24 (oV 4),oG 21 false 25 (ix 5 23 24),oG 21 false 26 (fd 0 25),oG 21 false 27 (lF 1 26),oG 21 false 28 (cl 236 [22,27]),oN 29 (.pick (.t 21) (.c (.bool true)) (.t 28))] (cd 29 (sr [oN 2 mF] .ret) .skip)) (.seq (sr [oW 30 0,oW 31 4,oN 32 (ix 5 30 31),oN 33 (fd 4 32),oN 34 (lF 1 33),oN 35 (ln 34),oN 36 (.mM (cI 0))] (.block 2 (.loop (sr [oN 37 (bt .lss 36 35)] (.seq (cd 37 .skip (.exit 2)) (.seq (.block 3 (.seq (rf 1 [oK 38 1 (ix 10 34 36),oK 39 1 (lT 10 38),oN 6 (.alloc VG),⟨none,none,1,.store 10 (.t 6) (.t 39),[]⟩]) (sr [oW 40 3,oN 41 (fd 0 6),oN 42 (lF 1 41),oN 43 (cl 236 [40,42]),oN 44 (nt 43)] (cd 44 (sr [oN 2 mF] .ret) .skip)))) (rg [oN 45 (bc .add 36 1),oW 36 45]))))))) (rf 2 [oK 46 2 (oV 3),oK 47 2 (oV 0),oK 48 2 (oV 4),oK 49 2 (ix 5 47 48),oK 50 2 (fd 0 49),oK 51 2 (lF 1 50),oN 52 (.ny 1 F8 1 [(0,(.t 51))]),oK 53 1 (.app 1 8 (.t 46) (.t 52)),oK 3 2 (oV 53)])))) (rg [oW 13 4,oN 14 (bc .sub 13 1),oW 4 14])))))) (sr [oN 2 mT] .ret))))⟩
structure OW (T:Tb):Prop where
 hT:T 273=some J8
 og:pJ T
 wC:BP T
def J9:Fn:=⟨1,69,[.tmp 2],(sr [oN 2 mF] (.seq (sr [oW 12 0,oN 13 (ln 12),oN 14 (.mM (cI 0))] (.block 0 (.loop (sr [oN 15 (bt .lss 14 13)] (.seq (cd 15 .skip (.exit 0)) (.seq (.block 1 (.seq (rf 1 [oK 16 1 (oV 14),oK 17 1 (ix 5 12 14),oK 18 1 (lT 5 17),oN 4 (.alloc QW),oK 3 1 (oV 16),⟨none,none,1,.store 5 (.t 4) (.t 18),[]⟩]) (.seq (sr [oN 19 (lT 5 4),oN 20 (cl 294 [19]),oN 21 (nt 20)] (cd 21 (sr [oN 2 mF] .ret) .skip)) (.seq (sr [oN 22 (fd 4 4),oN 23 (lF 1 22),oN 24 (ln 23),oN 25 (.mM (cI 0))] (.block 2 (.loop (sr [oN 26 (bt .lss 25 24)] (.seq (cd 26 .skip (.exit 2)) (.seq (.block 3 (.seq (rf 1 [oK 27 1 (ix 10 23 25),oK 28 1 (lT 10 27),oN 6 (.alloc VG),⟨none,none,1,.store 10 (.t 6) (.t 28),[]⟩]) (sr [oN 29 (fd 0 6),oN 30 (lF 1 29),oN 31 (bc .eql 30 0),oW 7 31] (.seq (sr [oW 32 0,oW 33 3,oN 34 (bc .add 33 1),oN 35 (.slice 5 (.t 32) (some (.t 34)) none),oN 36 (ln 35),oN 37 (.mM (cI 0))] (.block 4 (.loop (sr [oN 38 (bt .lss 37 36)] (.seq (cd 38 .skip (.exit 4)) (.seq (.block 5 (.seq (rf 1 [oK 39 1 (ix 5 35 37),oK 40 1 (lT 5 39),oN 9 (.alloc QW),⟨none,none,1,.store 5 (.t 9) (.t 40),[]⟩]) (rg [oW 41 7,oW 42 41,oG 42 false 43 (fd 0 9),oG 42 false 44 (lF 1 43),oG 42 false 45 (fd 0 6),oG 42 false 46 (lF 1 45),oG 42 false 47 (bt .eql 44 46),oN 48 (.pick (.t 42) (.c (.bool true)) (.t 47)),oW 7 48]))) (rg [oN 49 (bc .add 37 1),oW 37 49]))))))) (sr [oW 50 7,oN 51 (nt 50)] (cd 51 (sr [oN 2 mF] .ret) .skip)))))) (rg [oN 52 (bc .add 25 1),oW 25 52]))))))) (sr [oW 53 0,oW 54 3,oN 55 (bc .add 54 1),oN 56 (.slice 5 (.t 53) (some (.t 55)) none),oN 57 (ln 56),oN 58 (.mM (cI 0))] (.block 6 (.loop (sr [oN 59 (bt .lss 58 57)] (.seq (cd 59 .skip (.exit 6)) (.seq (.block 7 (.seq (rf 1 [oK 60 1 (ix 5 56 58),oK 61 1 (lT 5 60),oN 11 (.alloc QW),⟨none,none,1,.store 5 (.t 11) (.t 61),[]⟩]) (sr [oN 62 (fd 0 11),oN 63 (lF 1 62),oN 64 (fd 0 4),oN 65 (lF 1 64),oN 66 (bt .eql 63 65)] (cd 66 (sr [oN 2 mF] .ret) .skip)))) (rg [oN 67 (bc .add 58 1),oW 58 67]))))))))))) (rg [oN 68 (bc .add 14 1),oW 14 68]))))))) (sr [oN 2 mT] .ret)))⟩
structure OX (T:Tb):Prop where
 hT:T 305=some J9
 pO:pK T
def IY:Fn:=⟨2,17,[.tmp 4],(sr [oN 4 mF] (.seq (sr [oW 7 0,oN 8 (ln 7),oN 9 (.mM (cI 0))] (.block 0 (.loop (sr [oN 10 (bt .lss 9 8)] (.seq (cd 10 .skip (.exit 0)) (.seq (.block 1 (sr [oN 11 (ix 1 7 9),oN 12 (lF 1 11),oW 6 12] (sr [oW 13 6,oW 14 1,oN 15 (bt .eql 13 14)] (cd 15 (sr [oN 4 mT] .ret) .skip)))) (rg [oN 16 (bc .add 9 1),oW 9 16]))))))) (sr [oN 4 mF] .ret)))⟩
structure IZ (T:Tb):Prop where
 hT:T 235=some IY
theorem Qy{T:Tb}(h:BP T){l:List Int}{n:Int}(hl:l.length≤9223372036854775807:=by exact lX):PF T 236 [ints l,iv n] (.bool (decide (n∈l))):=by
 refine kQ nR h.hT ?_;simp only [IX,Lz];refine ev ?_;refine kG (fun _ _=>false) (α:=Nat) (fun i=>⟨kX [ints l,iv n,.any,.any,.bool false,.any,.any,ints l,iv (l.length:Nat),iv (i:Nat)],[],0,0,[],[]⟩) (fun i=>i≤l.length∧∀j,j<i→l.getD j 0≠n) (fun i=>l.length-i) rfl 0 ?_ ?_ ?_
 ·exact⟨by omega,by intro j hj;omega⟩
 ·exact LQ
 rintro i ⟨hi,hj⟩;refine ev ?_;refine kD (fun hc=>?_) fun hc=>?_<;>(refine ev1 @hc ?_;try with_reducible exact True.intro)
 ·have hil:i<l.length:=by omega
  by_cases he:l.getD i 0=n
  ·refine ev1 @he ?_;have:n∈l:=by rw [←he,ak,aB hil];exact dP hil
   rw [decide_eq_true this]
  refine ev1 @he ?_;refine⟨i+1,by omega,⟨by omega,fun j hj'=>?_⟩,by exact LQ⟩;by_cases e:j=i
  ·subst e;exact he
  exact hj j (by omega)
 have:n∉l:=by
  intro hm;obtain⟨j,hj'⟩:=bF.1 hm;have hlt:=(aK.1 hj').1;refine hj j (by omega) ?_;rw [ak,hj'];rfl
 rw [decide_eq_false this]
theorem Jg{T:Tb}(h:IZ T){l:List Int}{n:Int}(hl:l.length≤9223372036854775807:=by exact lX):PF T 235 [ints l,iv n] (.bool (decide (n∈l))):=by
 refine kQ nR h.hT ?_;simp only [IY,Lz];refine ev ?_;refine kG (fun _ _=>false) (α:=Nat) (fun i=>⟨kX [ints l,iv n,.any,.any,.bool false,.any,.any,ints l,iv (l.length:Nat),iv (i:Nat)],[],0,0,[],[]⟩) (fun i=>i≤l.length∧∀j,j<i→l.getD j 0≠n) (fun i=>l.length-i) rfl 0 ?_ ?_ ?_
 ·exact⟨by omega,by intro j hj;omega⟩
 ·exact LQ
 rintro i ⟨hi,hj⟩;refine ev ?_;refine kD (fun hc=>?_) fun hc=>?_<;>(refine ev1 @hc ?_;try with_reducible exact True.intro)
 ·have hil:i<l.length:=by omega
  by_cases he:l.getD i 0=n
  ·refine ev1 @he ?_;have:n∈l:=by rw [←he,ak,aB hil];exact dP hil
   rw [decide_eq_true this]
  refine ev1 @he ?_;refine⟨i+1,by omega,⟨by omega,fun j hj'=>?_⟩,by exact LQ⟩;by_cases e:j=i
  ·subst e;exact he
  exact hj j (by omega)
 have:n∉l:=by
  intro hm;obtain⟨j,hj'⟩:=bF.1 hm;have hlt:=(aK.1 hj').1;refine hj j (by omega) ?_;rw [ak,hj'];rfl
 rw [decide_eq_false this]
theorem amW{T:Tb}(h:OW T){l:List Cd}(hw:Bg Cd.wf l:=by exact lX)(hl:l.length≤1048576:=by exact lX):PF T 273 [Dx l] (.bool (JL l)):=by
 refine kQ nR h.hT ?_;simp only [J8,Lz];refine ev ?_;refine kG (fun _ _=>false) (α:=Nat) (fun k=>⟨kX [Dx l,.any,.bool false,.kP 0 0 (Gy l k).length,iv ((k:Nat)-1)],[some ⟨1,kF (Gy l k)⟩],0,0,[],[]⟩) (fun k=>k≤l.length∧∀i,k≤i→i<l.length→Ze l i) (fun k=>k) rfl l.length ?_ ?_ ?_
 ·exact⟨by omega,by intro i h1 h2;omega⟩
 ·rw [amU]
  (refine jW ?_;exact zX)
 rintro k ⟨hk,hj⟩;have hnl:=ag7 l hk;refine ev ?_;refine kD (fun hc=>?_) fun hc=>?_<;>(refine ev1 @hc ?_;try with_reducible exact True.intro)
 ·obtain⟨m,rfl⟩:∃m,k=m+1:=⟨k-1,by omega⟩;have e0:((m+1:Nat):Int)-1=(m:Nat):=by omega
  have hil:m<l.length:=by omega
  have es:=amV l hil;have hmem:=ag6 l (m+1);have hwc:=hw.at_ hil;obtain⟨c,hcd⟩:∃c,l.getD m default=c:=⟨_,rfl⟩;have hat:=abo hcd;rw [hcd]at hwc es;obtain⟨nl,hnd⟩:∃nl,Gy l (m+1)=nl:=⟨_,rfl⟩;rw [hnd]at hnl es hmem ⊢;have hps:=hwc.2.1;have cv:=uV h.og hwc;have ch:=Qy h.wC (l:=nl) (n:=c.node) (by omega);refine zl @e0 @mg @hcd ?_;refine jy cv ?_
  cases hv:rD c
  ·refine ev ?_;rw [Q9 hil (by rw [hat,hv];simp)]
  refine zl @e0 @mg @hcd ?_;refine jy ch ?_;by_cases hm:c.node∈nl
  ·rw [decide_eq_true hm];refine ev ?_;have hb:=akh hv;rw [Q9 hil (by
    rw [hat];rintro⟨_,_,h3⟩;rcases(hmem c.node).1 hm with h|⟨j,h1,h2,h4⟩
    ·omega
    exact h3 j (by omega) h2 h4)]
  rw [decide_eq_false hm];refine zl @e0 @mg @hcd ?_;refine kG (fun _ _=>false) (α:=Nat) (fun q=>⟨kX [Dx l,.any,.bool false,.kP 0 0 nl.length,iv (m:Nat),.any,.any,.any,.any,.any,.any,.any,.any,.any,.any,.any,.any,.any,.any,.any,.any,.any,.any,.any,.any,.any,.any,.any,.any,.any,.any,.any,.any,.any,xJ c.ps,iv (c.ps.length:Nat),iv (q:Nat)],[some ⟨1,kF nl⟩],0,0,[],[]⟩) (fun q=>q≤c.ps.length∧∀r,r<q→(c.ps.getD r default).node∈nl) (fun q=>c.ps.length-q) rfl 0 ?_ ?_ ?_
  ·exact⟨by omega,by intro j hj;omega⟩
  ·(refine jW ?_;exact zX)
  rintro q ⟨hq,hr⟩;refine ev ?_;refine kD (fun hd=>?_) fun hd=>?_<;>(refine qW @hd @mg ?_;try with_reducible exact True.intro)
  ·have hql:q<c.ps.length:=by omega
   have ch:=Qy h.wC (l:=nl) (n:=(c.ps.getD q default).node) (by omega);refine jy ch ?_;by_cases hm2:(c.ps.getD q default).node∈nl
   ·rw [decide_eq_true hm2];refine ev ?_;refine⟨q+1,by omega,⟨by omega,fun r hr'=>?_⟩,by exact VI⟩;by_cases e:r=q
    ·subst e;exact hm2
    exact hr r (by omega)
   rw [decide_eq_false hm2];refine ev ?_;rw [Q9 hil (by
    rw [hat];rintro⟨_,h3,_⟩;refine hm2 ((hmem _).2 ?_);rcases h3 q hql with h|⟨j,h1,h2,h4⟩
    ·exact .inl h
    exact .inr ⟨j,by omega,h2,h4⟩)]
  refine zl @e0 @mg @hcd ?_;simp only [sO,es];refine⟨by omega,m,by omega,⟨by omega,fun i h1 h2=>?_⟩,?_⟩
  ·by_cases e:i=m
   ·subst e;rw [hat];refine⟨hv,fun k hk=>?_,fun j h1 h2 h3=>hm ((hmem _).2 (.inr ⟨j,by omega,h2,h3⟩))⟩;rcases(hmem _).1 (hr k (by omega))with h|⟨j,h1,h2,h3⟩
    ·exact .inl h
    exact .inr ⟨j,by omega,h2,h3⟩
   exact hj i (by omega) h2
  have:(Gy l m).length=nl.length+1:=by rw [←es];simp
  rw [this]
  (refine KH [(2,_)] (by simp) (by intro p hp;simp only [aH,bV,or_false]at hp;rcases hp with rfl<;>refine⟨rfl,?_⟩<;>first|exact pF _|simp [l7,V.still]) rfl ?_)<;>(try (refine ev ?_;try with_reducible exact True.intro))<;>(repeat' (first|exact True.intro|omega|exact nP rfl (by simp)|refine⟨?_,?_⟩|exact of_eq_true (tH _ _ _)|exact lY rfl (by simp;done)|exact lY rfl rfl|(refine mW rfl ?_ rfl;simp [kF];done)|(refine mW rfl ?_ rfl;simp [kF];omega)|(refine tJ ?_ ?_;(focus ((refine ev ?_;try with_reducible exact True.intro);done));(intro q hq k s0 l0;simp;done))))
 have:JL l=true:=aiv fun i hi=>hj i (by omega) hi;rw [this]
theorem amX{α:Type} [Inhabited α] (l:List α) (n j:Nat):(l.drop n).getD j default=l.getD (n+j) default:=by
 simp [ak,dA]
theorem amY{T:Tb}(h:OX T){l:List Cd}(hw:Bg Cd.wf l:=by exact lX)(hl:l.length≤1048576:=by exact lX):PF T 305 [Dx l] (.bool (JL l)):=by
 refine kQ nR h.hT ?_;simp only [J9,Lz];refine ev ?_;refine kG (fun _ _=>false) (α:=Nat) (fun i=>⟨kX [Dx l,.any,.bool false,.any,.any,.any,.any,.any,.any,.any,.any,.any,Dx l,iv (l.length:Nat),iv (i:Nat)],[],0,0,[],[]⟩) (fun i=>i≤l.length∧∀j,j<i→Ze l j) (fun i=>l.length-i) rfl 0 ?_ ?_ ?_
 ·exact⟨by omega,by intro j hj;omega⟩
 ·exact LQ
 rintro i ⟨hi,hj⟩;refine ev ?_;refine kD (fun hc=>?_) fun hc=>?_<;>(refine qW @hc @mg ?_;try with_reducible exact True.intro)
 ·have hil:i<l.length:=by omega
  have hwc:=hw.at_ hil;obtain⟨c,hcd⟩:∃c,l.getD i default=c:=⟨_,rfl⟩;have hat:=abo hcd;rw [hcd]at hwc ⊢;have hps:=hwc.2.1;have cv:=yS h.pO hwc;have e1:((i:Int)+1).toNat=i+1:=by omega
  obtain⟨d,hd⟩:∃d,l.drop (i+1)=d:=⟨_,rfl⟩;have hdl:d.length=l.length-(i+1):=by rw [←hd];simp
  have hdg:∀j,d.getD j default=l.getD (i+1+j) default:=fun j=>by rw [←hd];exact amX l (i+1) j
  refine jy cv ?_
  cases hv:rD c
  ·refine ev ?_;rw [Q9 hil (by rw [hat,hv];simp)]
  refine ev ?_;refine kG (fun _ _=>false) (α:=Nat) (fun k=>⟨kX [Dx l,.any,.bool false,iv (i:Nat),.ptr 0 0 0,.any,.any,.any,.any,.any,.any,.any,Dx l,iv (l.length:Nat),iv (i:Nat),.any,.any,.any,.any,.any,.any,.any,.any,xJ c.ps,iv (c.ps.length:Nat),iv (k:Nat)],[some ⟨5,[c.cells]⟩],0,0,[],[]⟩) (fun k=>k≤c.ps.length∧∀r,r<k→(c.ps.getD r default).node=0∨∃j,j<d.length∧(d.getD j default).node=(c.ps.getD r default).node) (fun k=>c.ps.length-k) rfl 0 ?_ ?_ ?_
  ·exact⟨by omega,by intro j hj;omega⟩
  ·(refine jW ?_;exact zX)
  rintro k ⟨hk,hr⟩;refine ev ?_;refine kD (fun hk2=>?_) fun hk2=>?_<;>simp (disch:=first|omega|assumption|(simp;done)|(simp;omega)) only [↓EVp,EVq,splice,Nat.reduceAdd,Nat.reduceEqDiff,Nat.reduceMul,Nat.reduceLT,Nat.reduceLeDiff,reduceIte,V.leaf,MS,NQ,PN,bU,dG,dR,dJ,eu,reduceCtorEq,hk2,mg,e1,←jr,hd]
  ·have hkl:k<c.ps.length:=by omega
   obtain⟨p,hp⟩:∃p,c.ps.getD k default=p:=⟨_,rfl⟩;rw [hp];refine kG (fun _ _=>false) (α:=Nat×Bool) (fun q=>⟨kX [Dx l,.any,.bool false,iv (i:Nat),.ptr 0 0 0,.any,.ptr 1 0 0,.bool q.2,.any,.any,.any,.any,Dx l,iv (l.length:Nat),iv (i:Nat),.any,.any,.any,.any,.any,.any,.any,.any,xJ c.ps,iv (c.ps.length:Nat),iv (k:Nat),.any,.any,.any,.any,.any,.any,.any,.any,.any,Dx d,iv (d.length:Nat),iv (q.1:Nat)],[some ⟨5,[c.cells]⟩,some ⟨10,[p.cells]⟩],0,0,[],[]⟩) (fun q=>q.1≤d.length∧(q.2=true↔(p.node=0∨∃r,r<q.1∧(d.getD r default).node=p.node))) (fun q=>d.length-q.1) rfl (0,decide (p.node=0)) ?_ ?_ ?_
   ·exact⟨by omega,by simp⟩
   ·(refine jW ?_;exact zX)
   rintro⟨j,b⟩ ⟨hjl,hb⟩;dsimp only at hjl hb;refine ev ?_;refine kD (fun hj2=>?_) fun hj2=>?_<;>(refine qW @hj2 @mg ?_;try with_reducible exact True.intro)
   ·cases b
    ·refine ev1 @mg ?_;refine⟨(j+1,decide ((d.getD j default).node=p.node)),by dsimp only;omega,⟨by dsimp only;omega,?_⟩,by exact agK⟩;dsimp only;rw [decide_eq_true_iff];constructor
     ·intro h;exact .inr ⟨j,by omega,h⟩
     rintro(h|⟨r,h1,h2⟩)
     ·exact absurd (hb.2 (.inl h)) (by simp)
     by_cases e:r=j
     ·subst e;exact h2
     exact absurd (hb.2 (.inr ⟨r,by omega,h2⟩)) (by simp)
    refine ev ?_;refine⟨(j+1,true),by dsimp only;omega,⟨by dsimp only;omega,?_⟩,by exact agK⟩;dsimp only;simp only [true_iff];rcases hb.1 rfl with h|⟨r,h1,h2⟩
    ·exact .inl h
    exact .inr ⟨r,by omega,h2⟩
   have ej:j=d.length:=by omega
   subst ej
   cases b
   ·refine ev ?_;rw [Q9 hil (by
     rw [hat];rintro⟨_,h3,_⟩;have:=h3 k hkl;rw [hp]at this;refine absurd (hb.2 ?_) (by simp);rcases this with h|⟨j,h1,h2,h4⟩
     ·exact .inl h
     exact .inr ⟨j-(i+1),by omega,by rw [hdg,show i+1+(j-(i+1))=j by omega];exact h4⟩)]
   refine ev ?_;refine⟨k+1,by omega,⟨by omega,fun r hr'=>?_⟩,by exact VI⟩;by_cases e:r=k
   ·subst e;rw [hp];exact hb.1 rfl
   exact hr r (by omega)
  refine kG (fun _ _=>false) (α:=Nat) (fun j=>⟨kX [Dx l,.any,.bool false,.any,.ptr 0 0 0,.any,.any,.any,.any,.any,.any,.any,Dx l,iv (l.length:Nat),iv (i:Nat),.any,.any,.any,.any,.any,.any,.any,.any,.any,.any,.any,.any,.any,.any,.any,.any,.any,.any,.any,.any,.any,.any,.any,.any,.any,.any,.any,.any,.any,.any,.any,.any,.any,.any,.any,.any,.any,.any,.any,.any,.any,Dx d,iv (d.length:Nat),iv (j:Nat)],[some ⟨5,[c.cells]⟩],0,0,[],[]⟩) (fun j=>j≤d.length∧∀r,r<j→(d.getD r default).node≠c.node) (fun j=>d.length-j) rfl 0 ?_ ?_ ?_
  ·exact⟨by omega,by intro j hj;omega⟩
  ·(refine jW ?_;exact zX)
  rintro j ⟨hjl,hne⟩;refine ev ?_;refine kD (fun hj2=>?_) fun hj2=>?_<;>(refine qW @hj2 @mg ?_;try with_reducible exact True.intro)
  ·by_cases he:(d.getD j default).node=c.node
   ·refine ev1 @he ?_;rw [Q9 hil (by
     rw [hat];rintro⟨_,_,h3⟩;refine h3 (i+1+j) (by omega) (by omega) ?_;rw [←hdg];exact he)]
   refine ev1 @he ?_;refine⟨j+1,by omega,⟨by omega,fun r hr'=>?_⟩,by exact VI⟩;by_cases e:r=j
   ·subst e;exact he
   exact hne r (by omega)
  refine⟨i+1,by omega,⟨by omega,fun r hr'=>?_⟩,by exact PV⟩;by_cases e:r=i
  ·subst e;rw [hat];refine⟨hv,fun q hq=>?_,fun j h1 h2 h3=>?_⟩
   ·rcases hr q (by omega)with h|⟨j,h1,h2⟩
    ·exact .inl h
    exact .inr ⟨r+1+j,by omega,by omega,by rw [←hdg];exact h2⟩
   refine hne (j-(r+1)) (by omega) ?_;rw [hdg,show r+1+(j-(r+1))=j by omega];exact h3
  exact hj r (by omega)
 have:JL l=true:=aiv fun j hj'=>hj j (by omega);rw [this]
def EZ:Fn:=⟨2,41,[.tmp 4],(sr [oN 4 mF] (sr [oW 9 0,oN 10 (cl 222 [9]),oW 5 10] (.seq (rf 1 [oN 11 (.ny 1 F8 0 []),oK 6 1 (oV 11)]) (.seq (sr [oW 12 1,oN 13 (ln 12),oN 14 (.mM (cI 0))] (.block 0 (.loop (sr [oN 15 (bt .lss 14 13)] (.seq (cd 15 .skip (.exit 0)) (.seq (.block 1 (sr [oN 16 (ix 1 12 14),oN 17 (lF 1 16),oW 8 17] (.seq (sr [oW 18 5,oW 19 8,oN 20 (cl 235 [18,19]),oN 21 (nt 20),oW 22 21,oG 22 false 23 (oV 6),oG 22 false 24 (oV 8),oG 22 false 25 (cl 235 [23,24]),oN 26 (.pick (.t 22) (.c (.bool true)) (.t 25))] (cd 26 (sr [oN 4 mF] .ret) .skip)) (rf 2 [oK 27 2 (oV 6),oK 28 2 (oV 8),oN 29 (.ny 1 F8 1 [(0,(.t 28))]),oK 30 1 (.app 1 8 (.t 27) (.t 29)),oK 6 2 (oV 30)])))) (rg [oN 31 (bc .add 14 1),oW 14 31]))))))) (sr [oW 32 0,oN 33 (cl 193 [32]),oW 34 33,oG 34 true 35 (oV 1),oG 34 true 36 (ln 35),oG 34 true 37 (oV 5),oG 34 true 38 (ln 37),oG 34 true 39 (bt .eql 36 38),oN 40 (.pick (.t 34) (.t 39) (.c (.bool false))),oW 4 40] .ret)))))⟩
structure La (T:Tb):Prop where
 hT:T 220=some EZ
 lZ:o8 T
 Lc:zO T
 rW:IZ T
def zS:Fn:=⟨2,29,[.tmp 4],(sr [oN 4 mF] (.seq (sr [oW 8 0,oN 9 (cl 89 [8]),oN 10 (nt 9)] (cd 10 (sr [oN 4 mF] .ret) .skip)) (sr [oW 11 0,oN 12 (cl 180 [11]),oW 5 12] (.seq (sr [oW 13 5,oN 14 (ln 13),oN 15 (.mM (cI 0))] (.block 0 (.loop (sr [oN 16 (bt .lss 15 14)] (.seq (cd 16 .skip (.exit 0)) (.seq (.block 1 (sr [oN 17 (ix 1 13 15),oN 18 (lF 1 17),oW 7 18] (sr [oW 19 1,oW 20 7,oN 21 (cl 236 [19,20]),oN 22 (nt 21)] (cd 22 (sr [oN 4 mF] .ret) .skip)))) (rg [oN 23 (bc .add 15 1),oW 15 23]))))))) (sr [oW 24 1,oN 25 (ln 24),oW 26 5,oN 27 (ln 26),oN 28 (bt .eql 25 27),oW 4 28] .ret)))))⟩
structure Ld (T:Tb):Prop where
 hT:T 221=some zS
 Gz:Ai T
 Le:EY T
 wC:BP T
theorem uY{l:Lk}(h:qm l=true):0≤l.a∧l.a<l.b∧l.b≤9:=by
 unfold qm nd at h;simp only [aG,decide_eq_true_eq]at h;omega
theorem tK{l:List Lk}(h:lH l=true){k:Nat}(hk:k<l.length):qm (l.getD k default)=true:=by
 have:=aeF.1 h k hk;unfold MG at this;simp only [aG]at this;exact this.1
theorem Tm(l:List Lk):∀i,i≤l.length→Asc (zQ l i)
 |0,_=>by rw [UF];exact List.Pairwise.nil
 |
  i+1,h=>by
  rw [UG l h];unfold Ti;refine N9 ?_;split
  ·exact N9 (Tm l i (by omega))
  exact Tm l i (by omega)
theorem Zf(l:List Lk)(a:Int):∀i,i≤l.length→(a∈zQ l i↔∃k,k<i∧((0<(l.getD k default).a∧a=(l.getD k default).a)∨a=(l.getD k default).b))
 |0,_=>by rw [UF];simp
 |
  i+1,h=>by
  rw [UG l h];unfold Ti;rw [KZ];have ih:=Zf l a i (by omega);constructor
  ·rintro(h1|h1)
   ·exact⟨i,by omega,.inr h1⟩
   split at h1
   ·rename_i hp;rcases KZ.1 h1 with h1|h1
    ·exact⟨i,by omega,.inl ⟨hp,h1⟩⟩
    obtain⟨k,h2,h3⟩:=ih.1 h1;exact⟨k,by omega,h3⟩
   obtain⟨k,h2,h3⟩:=ih.1 h1;exact⟨k,by omega,h3⟩
  rintro⟨k,h2,h3⟩;by_cases e:k=i
  ·subst e;rcases h3 with ⟨h4,h5⟩|h5
   ·right;rw [if_pos h4,KZ];exact .inl h5
   exact .inl h5
  right;have:=ih.2 ⟨k,by omega,h3⟩;split
  ·exact KZ.2 (.inr this)
  exact this
theorem amZ{l:List Lk}{v:Int}:ends l v=true↔∃k,k<l.length∧((l.getD k default).a=v∨(l.getD k default).b=v):=by
 constructor
 ·intro h;refine Classical.byContradiction fun k=>?_;rw [ag5 fun j hj=>⟨fun e=>k ⟨j,hj,.inl e⟩,fun e=>k ⟨j,hj,.inr e⟩⟩]at h
  cases h
 rintro⟨k,hk,h⟩;exact Zc hk h
theorem Zg(l:List Lk)(v:Nat)(a:Int):a∈AY l v↔1≤a∧a<v∧ends l a=true:=by
 unfold AY;rw [bM];constructor
 ·rintro⟨u,hu,rfl⟩;rw [iT,eF,aG,decide_eq_true_eq]at hu;exact⟨by omega,by omega,hu.2.2⟩
 rintro⟨h1,h2,h3⟩;refine⟨a.toNat,?_,by omega⟩;rw [iT,eF,aG,decide_eq_true_eq,show ((a.toNat:Nat):Int)=a by omega];exact⟨by omega,by omega,h3⟩
theorem Zh(l:List Lk)(v:Nat):Asc (AY l v):=by
 unfold AY Asc;rw [iR];refine List.Pairwise.imp ?_ (List.Pairwise.filter _ List.pairwise_lt_range);intro a b h;omega
theorem am0{l:List Lk}(h:lH l=true):zQ l l.length=AY l 10:=by
 refine XQ (Tm l _ (aP _)) (Zh l 10) fun a=>?_;rw [Zf l a _ (aP _),Zg,amZ];constructor
 ·rintro⟨k,hk,h1⟩;have:=uY (tK h hk);rcases h1 with ⟨h1,rfl⟩|rfl
  ·exact⟨by omega,by omega,k,hk,.inl rfl⟩
  exact⟨by omega,by omega,k,hk,.inr rfl⟩
 rintro⟨h1,h2,k,hk,h3⟩;have:=uY (tK h hk);rcases h3 with rfl|rfl
 ·exact⟨k,hk,.inl ⟨by omega,rfl⟩⟩
 exact⟨k,hk,.inr rfl⟩
def wZ(l:List Lk):List Int:=if lH l=true then AY l 10 else []
theorem aki(l:List Lk):Tj l=wZ l:=by
 unfold Tj wZ;split
 ·rename_i h;exact am0 h
 rfl
theorem ae0{l:List Lk}(h:lH l=true):wZ l=AY l 10:=if_pos h
theorem GH(l:List Lk):(wZ l).length≤10:=by
 unfold wZ;split
 ·exact Zb l 10
 simp
theorem OY(l:List Lk):Asc (wZ l):=by
 unfold wZ;split
 ·exact Zh l 10
 exact List.Pairwise.nil
theorem Zi{l:List Lk}{a:Int}(h:a∈wZ l):1≤a∧a≤9:=by
 unfold wZ at h;split at h
 ·have:=(Zg l 10 a).1 h;omega
 cases h
theorem WW{T:Tb}(h:zO T){l:List Lk}(hw:Bg Lk.wf l:=by exact lX)(hl:l.length≤1048576:=by exact lX):PF T 222 [kY l] (ints (wZ l)):=by
 rw [←aki];exact ag4 h hw hl
def Xk(l:List Lk)(o:List Int):Prop:=lH l=true∧o.length=(wZ l).length∧∀x∈wZ l,x∈o
instance (l:List Lk) (o:List Int):Decidable (Xk l o):=inferInstanceAs (Decidable (_∧_∧_))
def RP(l:List Lk)(o:List Int):Bool:=decide (Xk l o)
theorem ag8{T:Tb}(h:Ld T){l:List Lk}{o:List Int}(hw:Bg Lk.wf l:=by exact lX)(ho:o.length≤1048576:=by exact lX):PF T 221 [kY l,ints o] (.bool (RP l o)):=by
 have ci:=Uu h.Gz hw;have cn:=Zd h.Le hw
 cases hb:lH l
 ·rw [hb]at ci;rw [show RP l o=false from decide_eq_false fun k=>by have:=k.1;rw [hb]at this;cases this];refine kQ nR h.hT ?_;simp only [zS,Lz];refine ev ?_;refine jy ci ?_
  (refine ev ?_;try with_reducible exact True.intro)
 rw [hb]at ci;rw [←ae0 hb]at cn;have hnl:=GH l;refine kQ nR h.hT ?_;simp only [zS,Lz];refine ev ?_;refine jy ci ?_;refine ev ?_;refine jy cn ?_;refine ev ?_;obtain⟨nd,hnd⟩:∃nd,wZ l=nd:=⟨_,rfl⟩;have hord:Xk l o↔o.length=nd.length∧∀x∈nd,x∈o:=by
  unfold Xk;rw [hnd];exact⟨fun h=>h.2,fun h=>⟨hb,h⟩⟩
 unfold RP;rw [hnd]at hnl ⊢;refine kG (fun _ _=>false) (α:=Nat) (fun i=>⟨kX [.any,ints o,.any,.any,.bool false,ints nd,.any,.any,.any,.any,.any,.any,.any,ints nd,iv (nd.length:Nat),iv (i:Nat)],[],0,0,[],[]⟩) (fun i=>i≤nd.length∧∀j,j<i→nd.getD j 0∈o) (fun i=>nd.length-i) rfl 0 ?_ ?_ ?_
 ·exact⟨by omega,by intro j hj;omega⟩
 ·exact LQ
 rintro i ⟨hi,hj⟩;refine ev ?_;refine kD (fun hc=>?_) fun hc=>?_<;>(refine ev1 @hc ?_;try with_reducible exact True.intro)
 ·have hil:i<nd.length:=by omega
  have ch:=Qy h.wC (l:=o) (n:=nd.getD i 0) (by omega);refine jy ch ?_;by_cases hm:nd.getD i 0∈o
  ·rw [decide_eq_true hm];refine ev ?_;refine⟨i+1,by omega,⟨by omega,fun j hj'=>?_⟩,by exact LQ⟩;by_cases e:j=i
   ·subst e;exact hm
   exact hj j (by omega)
  rw [decide_eq_false hm];refine ev ?_;rw [decide_eq_false];rw [hord];rintro⟨_,h2⟩;refine hm (h2 _ ?_);rw [ak,aB hil];exact dP hil
 have hall:∀x∈nd,x∈o:=by
  intro x hx;obtain⟨j,hj'⟩:=bF.1 hx;have hlt:=(aK.1 hj').1;have:=hj j (by omega);rw [ak,hj']at this;exact this
 by_cases e:o.length=nd.length
 ·rw [decide_eq_true (hord.2 ⟨e,hall⟩)];simp [e]
 rw [decide_eq_false fun k=>e (hord.1 k).1];simp;omega
theorem am1{l:List Lk}{o:List Int}:Xk l o↔(lH l=true∧o.length=(wZ l).length)∧(∀x∈o,x∈wZ l)∧o.Nodup:=by
 have hn:=Kv (OY l);constructor
 ·rintro⟨h1,h2,h3⟩;have h4:=aeZ hn h3 (by omega);exact⟨⟨h1,h2⟩,VX hn h3 (by omega),h4⟩
 rintro⟨⟨h1,h2⟩,h3,h4⟩;exact⟨h1,h2,VX h4 h3 (by omega)⟩
theorem ae1{o:List Int}{i:Nat}{x:Int}:x∈o.take i↔∃j,j<i∧j<o.length∧o.getD j 0=x:=by
 constructor
 ·intro h;obtain⟨j,hj⟩:=bF.1 h;rw [List.getElem?_take]at hj;split at hj
  ·have hlt:=(aK.1 hj).1;exact⟨j,by omega,hlt,by rw [ak,hj];rfl⟩
  cases hj
 rintro⟨j,h1,h2,rfl⟩;refine bF.2 ⟨j,?_⟩;rw [List.getElem?_take,if_pos h1,ak,aB h2];rfl
theorem am2{o:List Int}:(∀j,j<o.length→o.getD j 0∉o.take j)→o.Nodup:=by
 intro h;rw [List.nodup_iff_pairwise_ne,gV];intro i j hi hj hij e;refine h j hj (ae1.2 ⟨i,hij,hi,?_⟩);simp [ak,hi,hj,e]
theorem ag9{T:Tb}(h:La T){l:List Lk}{o:List Int}(hw:Bg Lk.wf l:=by exact lX)(hl:l.length≤1048576:=by exact lX)(ho:o.length≤1048576:=by exact lX):PF T 220 [kY l,ints o] (.bool (RP l o)):=by
 have ci:=vO h.lZ hw;have cn:=WW h.Lc hw;have hnl:=GH l;obtain⟨nd,hnd⟩:∃nd,wZ l=nd:=⟨_,rfl⟩;have hord:Xk l o↔(lH l=true∧o.length=nd.length)∧(∀x∈o,x∈nd)∧o.Nodup:=by rw [←hnd];exact am1
 unfold RP;rw [hnd]at hnl cn;refine kQ nR h.hT ?_;simp only [EZ,Lz];refine ev ?_;refine jy cn ?_;refine ev ?_;refine kG (fun _ _=>false) (α:=Nat×List Int) (fun q=>⟨kX [kY l,ints o,.any,.any,.bool false,ints nd,slV q.2.length,.any,.any,.any,.any,.any,ints o,iv (o.length:Nat),iv (q.1:Nat)],VH 1 (kF q.2),0,0,[],[]⟩) (fun q=>q.1≤o.length∧q.2=o.take q.1∧∀j,j<q.1→o.getD j 0∈nd∧o.getD j 0∉o.take j) (fun q=>o.length-q.1) rfl (0,[]) ?_ ?_ ?_
 ·exact⟨by omega,by simp,by intro j hj;omega⟩
 ·exact PV
 rintro⟨i,xs⟩ ⟨hi,hx0,hj⟩;dsimp only at hi hx0 hj;have hx:xs.length≤1048576:=by rw [hx0];simp;omega
 have hi0:xs.length=i:=by rw [hx0];simp;omega
 have ch1:=Jg h.rW (l:=nd) (n:=o.getD i 0) (by omega);have ch2:=Jg h.rW (l:=xs) (n:=o.getD i 0) (by omega);have step:i<o.length→o.getD i 0∈nd→o.getD i 0∉xs→(xs++[o.getD i 0]=o.take (i+1))∧∀j,j<i+1→o.getD j 0∈nd∧o.getD j 0∉o.take j:=by
  intro h1 h2 h3;refine⟨?_,fun j hj'=>?_⟩
  ·rw [hx0,dD,aB h1,ak,aB h1];rfl
  by_cases e:j=i
  ·subst e;rw [←hx0];exact⟨h2,h3⟩
  exact hj j (by omega)
 have ayj:i<o.length→o.getD i 0∉nd→¬Xk l o:=by
  intro h1 h2 h3;refine h2 ((hord.1 h3).2.1 _ ?_);rw [ak,aB h1];exact dP h1
 have aDn:i<o.length→o.getD i 0∈xs→¬Xk l o:=by
  intro h1 h2 h3;have h4:=(hord.1 h3).2.2;rw [hx0]at h2;obtain⟨j,k1,k2,k3⟩:=ae1.1 h2;rw [List.nodup_iff_pairwise_ne,gV]at h4;refine h4 j i k2 h1 k1 ?_;simpa [ak,k2,h1]using k3
 have fin:¬i<o.length→decide (Xk l o)=(lH l&&decide (o.length=nd.length)):=by
  intro h1;have ei:i=o.length:=by omega
  subst ei;have h2:o.Nodup:=am2 fun j hj'=>(hj j hj').2;have h3:∀x∈o,x∈nd:=by
   intro x hx;obtain⟨j,hj'⟩:=bF.1 hx;have hlt:=(aK.1 hj').1;have:=(hj j hlt).1;rw [ak,hj']at this;exact this
  have:Xk l o↔lH l=true∧o.length=nd.length:=by rw [hord];exact⟨fun h=>h.1,fun h=>⟨h,h3,h2⟩⟩
  rw [jk];simp [this]
 clear hx0 hj hord hw hnd
 (rcases xs with _|⟨x,xs⟩<;>simp only [au,aj,qX,qH,mO,lI]at hx ⊢)
 ·refine ev ?_;refine kD (fun hc=>?_) fun hc=>?_<;>(refine ev1 @hc ?_;try with_reducible exact True.intro)
  ·have hil:i<o.length:=by omega
   refine jy ch1 ?_;by_cases h1:o.getD i 0∈nd
   ·rw [decide_eq_true h1];refine ev ?_;refine Uh ch2 (by simp [uG,lW,kF]) ?_;rw [decide_eq_false (by simp)];refine ev ?_;obtain⟨s1,s2⟩:=step hil h1 (by simp);exact⟨by omega,(i+1,[]++[o.getD i 0]),by dsimp only;omega,⟨by dsimp only;omega,s1,s2⟩,by exact LU⟩
   rw [decide_eq_false h1];refine ev ?_;rw [decide_eq_false (ayj hil h1)]
  rw [fin (by omega)];refine jy ci ?_
  cases lH l
  ·(refine ev ?_;try with_reducible exact True.intro)
  refine ev ?_;simp only [V.bool.injEq,decide_eq_decide];omega
 refine ev ?_;refine kD (fun hc=>?_) fun hc=>?_<;>(refine ev1 @hc ?_;try with_reducible exact True.intro)
 ·have hil:i<o.length:=by omega
  refine jy ch1 ?_;by_cases h1:o.getD i 0∈nd
  ·rw [decide_eq_true h1];refine ev ?_;refine jy ch2 ?_;by_cases h2:o.getD i 0∈x::xs
   ·rw [decide_eq_true h2];refine ev ?_;rw [decide_eq_false (aDn hil h2)]
   rw [decide_eq_false h2];refine ev ?_;obtain⟨s1,s2⟩:=step hil h1 h2;exact⟨by omega,(i+1,(x::xs)++[o.getD i 0]),by dsimp only;omega,⟨by dsimp only;omega,s1,s2⟩,by exact JV⟩
  rw [decide_eq_false h1];refine ev ?_;rw [decide_eq_false (ayj hil h1)]
 rw [fin (by omega)];refine jy ci ?_
 cases lH l
 ·(refine ev ?_;try with_reducible exact True.intro)
 refine ev ?_;simp only [V.bool.injEq,decide_eq_decide];omega
def E8:Fn:=⟨2,33,[.tmp 4],(sr [oN 4 mN] (.seq (rf 1 [oN 8 (.ny 1 F8 0 []),oK 5 1 (oV 8)]) (.seq (sr [oW 9 0,oN 10 (ln 9),oN 11 (.mM (cI 0))] (.block 0 (.loop (sr [oN 12 (bt .lss 11 10)] (.seq (cd 12 .skip (.exit 0)) (.seq (.block 1 (.seq (rf 1 [oK 13 1 (ix 11 9 11),oK 14 1 (lT 11 13),oN 7 (.alloc D6),⟨none,none,1,.store 11 (.t 7) (.t 14),[]⟩]) (.seq (sr [oN 15 (fd 0 7),oN 16 (lF 1 15),oW 17 1,oN 18 (bt .eql 16 17)] (cd 18 (rg [oW 19 5,oN 20 (fd 1 7),oN 21 (lF 1 20),oN 22 (cl 237 [19,21]),oW 5 22]) .skip)) (sr [oN 23 (fd 1 7),oN 24 (lF 1 23),oW 25 1,oN 26 (bt .eql 24 25)] (cd 26 (rg [oW 27 5,oN 28 (fd 0 7),oN 29 (lF 1 28),oN 30 (cl 237 [27,29]),oW 5 30]) .skip))))) (rg [oN 31 (bc .add 11 1),oW 11 31]))))))) (sr [oW 32 5,oW 4 32] .ret))))⟩
structure Lh (T:Tb):Prop where
 hT:T 238=some E8
 BO:IW T
theorem GI{k l:Lk}:l9 k l=true↔k.a<l.a∨(k.a=l.a∧k.b<l.b):=by simp [l9]
theorem OZ{k l m:Lk}(h:l9 k l=true)(h2:l9 l m=true):l9 k m=true:=by
 rw [GI]at *;omega
theorem abq{l:List Lk}(h:lH l=true){i:Nat}(hi:i+1<l.length):l9 (l.getD i default) (l.getD (i+1) default)=true:=by
 have:=aeF.1 h (i+1) hi;unfold MG at this;simp only [aG,fA,decide_eq_true_eq]at this;rcases this.2 with h|h
 ·omega
 exact h
theorem ae2{l:List Lk}(h:lH l=true):∀(j i:Nat),i<j→j<l.length→l9 (l.getD i default) (l.getD j default)=true
 |0,i,hi,_=>by omega
 |
  j+1,i,hi,hj=>by
  have ha:=abq h hj;by_cases e:i=j
  ·subst e;exact ha
  exact OZ (ae2 h j i (by omega) (by omega)) ha
theorem Qz{α:Type} [Inhabited α] {l:List α} {i:Nat} (h:i<l.length):l.getD i default=l[i]:=by
 rw [ak,aB h];rfl
theorem ae3{l:List Lk}(h:lH l=true):l.Pairwise fun k l=>l9 k l=true∧0≤k.a∧k.a<k.b∧0≤l.a∧l.a<l.b:=by
 rw [gV];intro i j hi hj hij;have h1:=ae2 h j i hij hj;have h2:=uY (tK h hi);have h3:=uY (tK h hj);rw [Qz hi,Qz hj]at h1;rw [Qz hi]at h2;rw [Qz hj]at h3;exact⟨h1,h2.1,h2.2.1,h3.1,h3.2.1⟩
theorem Ar{l:List Lk}(h:lH l=true){x:Lk}(hx:x∈l):qm x=true:=by
 obtain⟨i,hi⟩:=bF.1 hx;have hlt:=(aK.1 hi).1;have:=tK h hlt
 rwa [ak,hi]at this
def aha(v:Int)(x:Lk):Option Int:=if x.a=v then some x.b else if x.b=v then some x.a else none
def Lj(v:Int)(out:List Int)(x:Lk):List Int:=if x.b=v then Jf (if x.a=v then Jf out x.b else out) x.a else(if x.a=v then Jf out x.b else out)
def nbS(l:List Lk)(v:Int)(i:Nat):List Int:=(l.take i).foldl (Lj v) []
def nbI(l:List Lk)(v:Int)(i:Nat):List Int:=(l.take i).filterMap (aha v)
theorem arQ(l:List Lk)(v:Int):nbS l v 0=[]:=by simp [nbS]
theorem take_snoc{α:Type} [Inhabited α] {l:List α} {i:Nat} (h:i<l.length):l.take (i+1)=l.take i++[l.getD i default]:=by
 rw [dD,aB h,ak,aB h];rfl
theorem arR(l:List Lk)(v:Int){i:Nat}(h:i<l.length):nbS l v (i+1)=Lj v (nbS l v i) (l.getD i default):=by
 unfold nbS;rw [take_snoc h,iP];rfl
theorem ahb(v:Int)(out:List Int)(x:Lk):(Lj v out x).length≤out.length+2:=by
 have h1:=Qx (if x.a=v then Jf out x.b else out) x.a;have h2:=Qx out x.b;unfold Lj;split at h1<;>(split<;>(try split)<;>omega)
theorem aqv(l:List Lk)(v:Int){i:Nat}(h:i≤l.length):(nbS l v i).length≤2*i:=by
 induction i with
 |zero=>simp [arQ]
 |
  succ i ih =>
  rw [arR l v h];have:=ih (by omega);have:=ahb v (nbS l v i) (l.getD i default);omega
theorem ahc{v:Int}{out:List Int}{x:Lk}{a:Int}:a∈Lj v out x↔a∈out∨(x.a=v∧a=x.b)∨(x.b=v∧a=x.a):=by
 unfold Lj;split<;>split<;>simp_all [KZ]<;>(constructor<;>rintro(h|h)<;>simp_all)
theorem aiw{v:Int}:∀(l:List Lk) (out:List Int) (a:Int),a∈l.foldl (Lj v) out↔a∈out∨∃x∈l,(x.a=v∧a=x.b)∨(x.b=v∧a=x.a)
 | [],out,a=>by simp
 |
  x::l,out,a=>by
  rw [dX,aiw l,ahc];simp only [aH,exists_eq_or_imp,or_assoc]
theorem ahd{v:Int}{out:List Int}{x:Lk}(h:Asc out):Asc (Lj v out x):=by
 unfold Lj;split<;>split<;>first|exact N9 (N9 h)|exact N9 h|exact h
theorem aix{v:Int}:∀(l:List Lk) (out:List Int),Asc out→Asc (l.foldl (Lj v) out)
 | [],out,h=>h
 |x::l,out,h=>aix l _ (ahd h)
theorem ayk{l:List Lk}(h:lH l=true)(v:Int):nbS l v l.length=nbI l v l.length:=by
 unfold nbS nbI;rw [bQ];refine XQ (aix _ _ .nil) ?_ fun a=>?_
 ·refine List.Pairwise.filterMap _ ?_ (ae3 h);rintro k m ⟨h1,h2,h3,h4,h5⟩ b hb b' hb';rw [GI]at h1;unfold aha at hb hb';split at hb<;>split at hb'<;>(try split at hb)<;>(try split at hb')<;>simp_all<;>omega
 rw [aiw,List.mem_filterMap];simp only [bV,false_or];constructor
 ·rintro⟨x,hx,h1⟩;refine⟨x,hx,?_⟩;have:=uY (Ar h hx);unfold aha;rcases h1 with ⟨h1,rfl⟩|⟨h1,rfl⟩
  ·rw [if_pos h1]
  rw [if_neg (by omega),if_pos h1]
 rintro⟨x,hx,h1⟩;refine⟨x,hx,?_⟩;unfold aha at h1;split at h1
 ·simp_all
 split at h1<;>simp_all
theorem akj{T:Tb}(h:Lh T){l:List Lk}{v:Int}(hw:Bg Lk.wf l:=by exact lX)(hl:l.length≤1048576:=by exact lX)(hok:lH l=true:=by assumption):PF T 238 [kY l,iv v] (ints (nbI l v l.length)):=by
 rw [←ayk hok];refine kH nR h.hT ?_;simp only [E8,Lz];refine ev ?_;refine kG (fun _ _=>false) (α:=Nat) (fun i=>⟨kX [.any,iv v,.any,.any,.jL,ints (nbS l v i),.any,.any,.any,kY l,iv (l.length:Nat),iv (i:Nat)],[],0,0,[],[]⟩) (fun i=>i≤l.length) (fun i=>l.length-i) rfl 0 ?_ ?_ ?_
 ·omega
 ·rw [arQ,show ints []=.sl 1 []from rfl];exact PV
 intro i hi;have hnl:=aqv l v hi;refine ev ?_;refine kD (fun hc=>?_) fun hc=>?_<;>(refine qW @hc @mg ?_;try with_reducible exact True.intro)
 ·have hil:i<l.length:=by omega
  have es:=arR l v hil;unfold Lj at es;by_cases ha:(l.getD i default).a=v
  ·have c1:=UE h.BO (l:=nbS l v i) (n:=(l.getD i default).b) (by omega);simp only [if_pos ha]at es;by_cases hb:(l.getD i default).b=v
   ·have:=uY (tK hok hil);omega
   rw [if_neg hb]at es;refine ev1 @ha ?_;refine jy c1 ?_;refine ev1 @hb ?_;rw [←es];exact⟨i+1,by omega,by omega,by exact PV⟩
  have c1:=UE h.BO (l:=nbS l v i) (n:=(l.getD i default).a) (by omega);simp only [if_neg ha]at es;by_cases hb:(l.getD i default).b=v
  ·rw [if_pos hb]at es;refine qW @ha @hb ?_;refine jy c1 ?_;refine ev ?_;rw [←es];exact⟨i+1,by omega,by omega,by exact PV⟩
  rw [if_neg hb]at es;refine qW @ha @hb ?_;rw [←es];exact⟨i+1,by omega,by omega,by exact PV⟩
 have:i=l.length:=by omega
 subst this;exact kE _
def Fa:Fn:=⟨1,17,[.cell 2 3 true],(.seq (rf 2 [oN 1 (.box (.t 0)),oK 2 1 (.alloc qL)]) (.seq (rt 4 [oK 3 4 (fd 0 1),oA 4 4 (fd 0 3) [0],oA 5 4 (lF 1 4) [1],oN 6 (.ny 1 F8 0 []),oK 7 4 (fd 0 1),oA 8 4 (fd 1 7) [4],oA 9 4 (lF 1 8) [5],oA 10 1 (.app 1 8 (.t 6) (.t 9)) [3,6],oA 11 4 (.build Z4 [(0,1,(.t 5)),(1,1,(.t 10))]) [2,7],oK 12 2 (.ny 1 F8 0 []),oK 13 4 (fd 2 1),oA 14 4 (lF 1 13) [10],oA 15 3 (.app 1 8 (.t 12) (.t 14)) [9,11,7],oA 16 4 (.build qL [(0,2,(.t 11)),(2,1,(.t 15))]) [8,12],⟨none,none,4,.store 3 (.t 2) (.t 16),[13,12,0,1,2,3,4,5,6,7,8,9,10,11,12,13]⟩]) .ret))⟩
structure Fb (T:Tb):Prop where
 hT:T 204=some Fa
def Fe:Fn:=⟨1,17,[.cell 2 11 true],(.seq (rf 2 [oN 1 (.box (.t 0)),oK 2 1 (.alloc D6)]) (.seq (rt 0 [oN 3 (fd 0 1),oA 4 0 (lF 1 3) [0],oN 5 (fd 1 1),oA 6 0 (lF 1 5) [2],oN 7 (fd 2 1),oA 8 0 (lT 3 7) [4],oA 9 0 (cl 204 [8]) [5],oN 10 (fd 5 1),oA 11 0 (lT 3 10) [7],oA 12 0 (cl 204 [11]) [8,6],oN 13 (fd 8 1),oA 14 0 (lT 3 13) [10],oA 15 0 (cl 204 [14]) [11,9],oA 16 0 (.build D6 [(0,1,(.t 4)),(1,1,(.t 6)),(2,3,(.t 9)),(5,3,(.t 12)),(8,3,(.t 15))]) [1,3,6,9,12],⟨none,none,0,.store 11 (.t 2) (.t 16),[13,12,0,1,2,3,4,5,6,7,8,9,10,11,12,13]⟩]) .ret))⟩
structure xg (T:Tb):Prop where
 hT:T 197=some Fe
 xk:Fb T
def xU:Fn:=⟨2,35,[.tmp 4],(sr [oN 4 mN] (.seq (rf 1 [oN 8 (.ny 11 D6 0 []),oK 5 1 (oV 8)]) (.seq (sr [oW 9 0,oN 10 (cl 193 [9]),oN 11 (nt 10)] (cd 11 (sr [oN 4 mN] .ret) .skip)) (.seq (sr [oW 12 0,oN 13 (ln 12),oN 14 (.mM (cI 0))] (.block 0 (.loop (sr [oN 15 (bt .lss 14 13)] (.seq (cd 15 .skip (.exit 0)) (.seq (.block 1 (.seq (rf 1 [oK 16 1 (ix 11 12 14),oK 17 1 (lT 11 16),oN 7 (.alloc D6),⟨none,none,1,.store 11 (.t 7) (.t 17),[]⟩]) (sr [oN 18 (fd 0 7),oN 19 (lF 1 18),oW 20 1,oN 21 (bt .neq 19 20),oW 22 21,oG 22 true 23 (fd 1 7),oG 22 true 24 (lF 1 23),oG 22 true 25 (oV 1),oG 22 true 26 (bt .neq 24 25),oN 27 (.pick (.t 22) (.t 26) (.c (.bool false)))] (cd 27 (rf 2 [oK 28 2 (oV 5),oK 29 2 (lT 11 7),oK 30 2 (cl 197 [29]),oN 31 (.ny 11 D6 1 [(0,(.t 30))]),oK 32 1 (.app 11 184 (.t 28) (.t 31)),oK 5 2 (oV 32)]) .skip)))) (rg [oN 33 (bc .add 14 1),oW 14 33]))))))) (sr [oW 34 5,oW 4 34] .ret)))))⟩
structure DJ (T:Tb):Prop where
 hT:T 227=some xU
 lZ:o8 T
 qJ:xg T
def xW:Fn:=⟨2,31,[.tmp 4],(sr [oN 4 mN] (.seq (rf 1 [oN 8 (.ny 11 D6 0 []),oK 5 1 (oV 8)]) (.seq (sr [oW 9 0,oN 10 (ln 9),oN 11 (.mM (cI 0))] (.block 0 (.loop (sr [oN 12 (bt .lss 11 10)] (.seq (cd 12 .skip (.exit 0)) (.seq (.block 1 (.seq (rf 1 [oK 13 1 (ix 11 9 11),oK 14 1 (lT 11 13),oN 7 (.alloc D6),⟨none,none,1,.store 11 (.t 7) (.t 14),[]⟩]) (sr [oN 15 (fd 0 7),oN 16 (lF 1 15),oW 17 1,oN 18 (bt .neq 16 17),oW 19 18,oG 19 true 20 (fd 1 7),oG 19 true 21 (lF 1 20),oG 19 true 22 (oV 1),oG 19 true 23 (bt .neq 21 22),oN 24 (.pick (.t 19) (.t 23) (.c (.bool false)))] (cd 24 (rf 2 [oK 25 2 (oV 5),oK 26 2 (lT 11 7),oN 27 (.ny 11 D6 1 [(0,(.t 26))]),oK 28 1 (.app 11 184 (.t 25) (.t 27)),oK 5 2 (oV 28)]) .skip)))) (rg [oN 29 (bc .add 11 1),oW 11 29]))))))) (sr [oW 30 5,oW 4 30] .ret))))⟩
structure DK (T:Tb):Prop where
 hT:T 241=some xW
def BQ:Fn:=⟨3,46,[.cell 6 11 true,.tmp 7],(.seq (rf 1 [oN 6 (.alloc D6),oK 7 1 mF]) (.seq (sr [oW 10 0,oN 11 (cl 193 [10]),oN 12 (nt 11)] (cd 12 (sr [oN 13 (.build D6 []),oS (.store 11 (.t 6) (.t 13)),oN 7 mF] .ret) .skip)) (.seq (sr [oW 14 0,oN 15 (ln 14),oN 16 (.mM (cI 0))] (.block 0 (.loop (sr [oN 17 (bt .lss 16 15)] (.seq (cd 17 .skip (.exit 0)) (.seq (.block 1 (.seq (rf 1 [oK 18 1 (ix 11 14 16),oK 19 1 (lT 11 18),oN 9 (.alloc D6),⟨none,none,1,.store 11 (.t 9) (.t 19),[]⟩]) (sr [oN 20 (fd 0 9),oN 21 (lF 1 20),oW 22 1,oN 23 (bt .eql 21 22),oW 24 23,oG 24 true 25 (fd 1 9),oG 24 true 26 (lF 1 25),oG 24 true 27 (oV 2),oG 24 true 28 (bt .eql 26 27),oN 29 (.pick (.t 24) (.t 28) (.c (.bool false))),oW 30 29,oG 30 false 31 (fd 0 9),oG 30 false 32 (lF 1 31),oG 30 false 33 (oV 2),oG 30 false 34 (bt .eql 32 33),oG 30 false 35 (oV 34),oG 35 true 36 (fd 1 9),oG 35 true 37 (lF 1 36),oG 35 true 38 (oV 1),oG 35 true 39 (bt .eql 37 38),oG 30 false 40 (.pick (.t 35) (.t 39) (.c (.bool false))),oN 41 (.pick (.t 30) (.c (.bool true)) (.t 40))] (cd 41 (sr [oN 42 (lT 11 9),oN 43 (cl 197 [42]),oS (.store 11 (.t 6) (.t 43)),oN 7 mT] .ret) .skip)))) (rg [oN 44 (bc .add 16 1),oW 16 44]))))))) (sr [oN 45 (.build D6 []),oS (.store 11 (.t 6) (.t 45)),oN 7 mF] .ret))))⟩
structure Nv (T:Tb):Prop where
 hT:T 225=some BQ
 lZ:o8 T
 qJ:xg T
theorem XR{r:R}{a b:V}(h1:lW (ints r.mag) a)(h2:lW (ints r.den) b):lW (kN r) (.agg [.bool r.neg,a,b]):=by
 simp only [NW,SK,SI,Ku,true_and,and_true];exact⟨h1,h2⟩
theorem Rh{l:List Int}(h:kF l=[]):lW (ints l) .jL:=by
 show lW (.sl 1 (kF l)) .jL;rw [h];exact of_eq_true (mX 1)
theorem Ob{T:Tb}(h:Fb T){r:R}(hl:r.sz≤1048576:=by exact lX):PF T 204 [kN r] (kN r):=by
 simp only [R.sz]at hl;refine kH nR h.hT ?_;simp only [Fa,Lz];refine ev ?_;refine⟨fun e1=>⟨fun e2=>?_,fun e2=>⟨by omega,?_⟩⟩,fun e1=>⟨by omega,fun e2=>?_,fun e2=>⟨by omega,?_⟩⟩⟩
 ·refine⟨by unfold pz;decide +kernel,?_⟩;exact XR (Rh e1) (Rh e2)
 ·refine⟨by unfold pz;decide +kernel,?_⟩;exact XR (Rh e1) (kE _)
 ·refine⟨by unfold pz;decide +kernel,?_⟩;exact XR (kE _) (Rh e2)
 refine⟨by unfold pz;decide +kernel,?_⟩;exact XR (kE _) (kE _)
theorem Kw{T:Tb}(h:xg T){x:Lk}(hl:x.sz≤1048576:=by exact lX):PF T 197 [QV x] (QV x):=by
 simp only [Lk.sz,R.sz]at hl;refine kH nR h.hT ?_;simp only [Fe,Lz];refine ev ?_;refine jy (Ob h.xk (r:=x.w) (by simp only [R.sz];omega)) ?_;refine ev ?_;refine jy (Ob h.xk (r:=x.dx) (by simp only [R.sz];omega)) ?_;refine ev ?_;refine jy (Ob h.xk (r:=x.dy) (by simp only [R.sz];omega)) ?_;refine ev ?_;refine⟨by unfold pz;decide +kernel,?_⟩;refine ev ?_;exact kE _
def woP(v:Int)(x:Lk):Bool:=decide (x.a≠v)&&decide (x.b≠v)
def wo(l:List Lk)(v:Int)(i:Nat):List Lk:=(l.take i).filter (woP v)
theorem ayl(l:List Lk)(v:Int):wo l v 0=[]:=by simp [wo]
theorem am3(l:List Lk)(v:Int):wo l v l.length=l.filter (woP v):=by simp [wo]
theorem aym(l:List Lk)(v:Int){i:Nat}(h:i<l.length):wo l v (i+1)=wo l v i++(if woP v (l.getD i default)=true then [l.getD i default]else []):=by
 unfold wo;rw [take_snoc h,jf,ig];split<;>simp
theorem am4(l:List Lk)(v:Int)(i:Nat):(wo l v i).length≤i:=by
 unfold wo;exact cZ (jg _ _) (by simp;omega)
theorem ahe{α:Type}(f:α→Nat)(p:α→Bool)(l:List α):Dy f (l.filter p)≤Dy f l:=by
 unfold Dy
 induction l with
 |nil=>simp
 |
  cons x l ih =>
  rw [ig];split<;>simp only [aj,bC,jU]<;>omega
abbrev Lk0:Lk:=⟨0,0,R0,R0,R0⟩
theorem VY:lW (QV Lk0) (.agg [iv 0,iv 0,.bool false,.jL,.jL,.bool false,.jL,.jL,.bool false,.jL,.jL]):=by
 show lW (.agg [iv 0,iv 0,.bool false,.sl 1 [],.sl 1 [],.bool false,.sl 1 [],.sl 1 [],.bool false,.sl 1 [],.sl 1 []]) _;simp only [NW,SK,SI,Ku,ame,mX,and_true]
theorem ae4{v w:V}{b:Bool}(h:lW v w):lW (.nK [v,.bool b]) (.nK [w,.bool b]):=by
 simp only [lW,uG];exact⟨_,rfl,_,_,rfl,h,_,_,rfl,rfl,rfl⟩
def lkP(a b:Int)(x:Lk):Bool:=(decide (x.a=a)&&decide (x.b=b))||(decide (x.a=b)&&decide (x.b=a))
def aat(l:List Lk)(a b:Int):Option Lk:=l.find? (lkP a b)
theorem auk{l:List Lk}{a b:Int}{i:Nat}(hi:i<l.length)(hj:∀j,j<i→lkP a b (l.getD j default)=false)(h:lkP a b (l.getD i default)=true):aat l a b=some (l.getD i default):=by
 unfold aat
 have:l=l.take i++l.getD i default::l.drop (i+1):=by
  conv=>lhs;rw [←fH i l,bT hi]
  rw [Qz hi]
 rw [this,List.find?_append,List.find?_cons,←this,h];have:(l.take i).find? (lkP a b)=none:=by
  rw [List.find?_eq_none];intro x hx;obtain⟨j,hj'⟩:=bF.1 hx;have hlt:=(aK.1 hj').1;rw [dS]at hlt;have hlt':j<i:=by omega
  have:=hj j hlt';rw [iy hlt']at hj';rw [ak,hj']at this;simpa using this
 rw [this];rfl
theorem aul{l:List Lk}{a b:Int}(hj:∀j,j<l.length→lkP a b (l.getD j default)=false):aat l a b=none:=by
 unfold aat
 rw [List.find?_eq_none];intro x hx;obtain⟨j,hj'⟩:=bF.1 hx;have hlt:=(aK.1 hj').1;have:=hj j hlt;rw [ak,hj']at this;simpa using this
theorem ae5{l:List Lk}{a b:Int}{x:Lk}(h:aat l a b=some x):x∈l:=List.mem_of_find?_eq_some h
def pU:Fn:=⟨2,104,[.cell 4 11 true,.cell 5 3 true,.tmp 6],(.seq (rf 4 [oN 2 (.box (.t 0)),oK 3 1 (.box (.t 1)),oK 4 2 (.alloc D6),oK 5 3 (.alloc qL),oK 6 4 mF]) (.seq (sr [oN 10 (lT 11 2),oN 11 (cl 83 [10]),oN 12 (nt 11),oW 13 12,oG 13 false 14 (lT 11 3),oG 13 false 15 (cl 83 [14]),oG 13 false 16 (nt 15),oN 17 (.pick (.t 13) (.c (.bool true)) (.t 16)),oW 18 17,oG 18 false 19 (fd 0 2),oG 18 false 20 (lF 1 19),oG 18 false 21 (fd 0 3),oG 18 false 22 (lF 1 21),oG 18 false 23 (bt .neq 20 22),oN 24 (.pick (.t 18) (.c (.bool true)) (.t 23)),oW 25 24,oG 25 false 26 (fd 1 2),oG 25 false 27 (lF 1 26),oG 25 false 28 (fd 1 3),oG 25 false 29 (lF 1 28),oG 25 false 30 (bt .neq 27 29),oN 31 (.pick (.t 25) (.c (.bool true)) (.t 30))] (cd 31 (sr [oN 32 (.build D6 []),oN 33 (.build qL []),oS (.store 11 (.t 4) (.t 32)),oS (.store 3 (.t 5) (.t 33)),oN 6 mF] .ret) .skip)) (.seq (rf 1 [oK 34 1 (fd 2 2),oK 35 1 (lT 3 34),oK 36 1 (fd 2 3),oK 37 1 (lT 3 36),oK 38 1 (cl 189 [35,37]),oN 7 (.alloc qL),⟨none,none,1,.store 3 (.t 7) (.t 38),[]⟩]) (.seq (rf 1 [oK 39 1 (fd 0 2),oK 40 1 (lF 1 39),oK 41 1 (fd 1 2),oK 42 1 (lF 1 41),oK 43 1 (lT 3 7),oK 44 1 (.build D6 [(0,1,(.t 40)),(1,1,(.t 42)),(2,3,(.t 43))]),oN 8 (.alloc D6),⟨none,none,1,.store 11 (.t 8) (.t 44),[]⟩]) (.seq (rt 0 [oN 45 (fd 2 2),oA 46 0 (lT 3 45) [0],oN 47 (fd 5 2),oA 48 0 (lT 3 47) [2],oA 49 0 (cl 201 [46,48]) [1,3],oN 50 (fd 2 3),oA 51 0 (lT 3 50) [5],oN 52 (fd 5 3),oA 53 0 (lT 3 52) [7],oA 54 0 (cl 201 [51,53]) [6,8,4],oA 55 0 (cl 189 [49,54]) [4,9,9],oN 56 (lT 3 7),oA 57 0 (cl 200 [55,56]) [10,11,10],oA 58 0 (fd 5 8) [0,1,2,3,4,5,6,7,8,9,10,11,12],⟨none,none,0,.store 3 (.t 58) (.t 57),[13,12,12,0,1,2,3,4,5,6,7,8,9,10,11,12]⟩]) (.seq (rt 0 [oN 59 (fd 2 2),oA 60 0 (lT 3 59) [0],oN 61 (fd 8 2),oA 62 0 (lT 3 61) [2],oA 63 0 (cl 201 [60,62]) [1,3],oN 64 (fd 2 3),oA 65 0 (lT 3 64) [5],oN 66 (fd 8 3),oA 67 0 (lT 3 66) [7],oA 68 0 (cl 201 [65,67]) [6,8,4],oA 69 0 (cl 189 [63,68]) [4,9,9],oN 70 (lT 3 7),oA 71 0 (cl 200 [69,70]) [10,11,10],oA 72 0 (fd 8 8) [0,1,2,3,4,5,6,7,8,9,10,11,12],⟨none,none,0,.store 3 (.t 72) (.t 71),[13,12,12,0,1,2,3,4,5,6,7,8,9,10,11,12]⟩]) (.seq (rt 1 [oK 73 1 (fd 2 2),oA 74 1 (lT 3 73) [0],oK 75 1 (fd 2 3),oA 76 1 (lT 3 75) [2],oA 77 1 (cl 201 [74,76]) [1,3],oK 78 1 (lT 3 7),oA 79 1 (cl 200 [77,78]) [4,5,4],oK 80 1 (fd 5 2),oA 81 1 (lT 3 80) [7],oK 82 1 (fd 5 3),oA 83 1 (lT 3 82) [9],oA 84 1 (cl 203 [81,83]) [8,10,6],oK 85 1 (fd 8 2),oA 86 1 (lT 3 85) [12],oK 87 1 (fd 8 3),oA 88 1 (lT 3 87) [14],oA 89 1 (cl 203 [86,88]) [13,15,11],oA 90 1 (cl 202 [84,89]) [11,16,16],oA 91 1 (cl 201 [79,90]) [6,17,17],oN 9 (.alloc qL),⟨none,none,1,.store 3 (.t 9) (.t 91),[19,18,18,0,1,2,3,4,5,6,7,8,9,10,11,12,13,14,15,16,17,18,19]⟩]) (.seq (sr [oN 92 (lT 11 8),oN 93 (cl 83 [92]),oN 94 (nt 93),oW 95 94,oG 95 false 96 (lT 3 9),oG 95 false 97 (cl 100 [96]),oG 95 false 98 (nt 97),oN 99 (.pick (.t 95) (.c (.bool true)) (.t 98))] (cd 99 (sr [oN 100 (.build D6 []),oN 101 (.build qL []),oS (.store 11 (.t 4) (.t 100)),oS (.store 3 (.t 5) (.t 101)),oN 6 mF] .ret) .skip)) (.seq (rt 0 [oN 102 (lT 11 8),oN 103 (lT 3 9),⟨none,none,0,.store 11 (.t 4) (.t 102),[0,0]⟩,⟨none,none,0,.store 3 (.t 5) (.t 103),[1,2,0,1,2]⟩,oA 6 0 mT [3,0,1,2,3]]) .ret)))))))))⟩
structure Fh (T:Tb):Prop where
 hT:T 196=some pU
 qo:uO T
 kS:oz T
 lJ:pY T
 yL:Iy T
 nV:yH T
 UH:EW T
 BR:Iw T
def y8:Fn:=⟨2,91,[.cell 4 11 true,.cell 5 3 true,.tmp 6],(.seq (rf 4 [oN 2 (.box (.t 0)),oK 3 1 (.box (.t 1)),oK 4 2 (.alloc D6),oK 5 3 (.alloc qL),oK 6 4 mF]) (.seq (rt 2 [oK 12 2 (fd 2 2),oA 13 2 (lT 3 12) [0],oK 14 2 (fd 2 3),oA 15 2 (lT 3 14) [2],oN 7 (.alloc qL),oK 8 1 (.alloc qL),⟨none,none,2,.store 3 (.t 7) (.t 13),[4,1,0,1,4,5]⟩,⟨none,none,2,.store 3 (.t 8) (.t 15),[5,3,6,0,1,2,3,4,5,6]⟩]) (.seq (rf 1 [oK 16 1 (lT 3 7),oK 17 1 (lT 3 8),oK 18 1 (cl 131 [16,17]),oN 9 (.alloc qL),⟨none,none,1,.store 3 (.t 9) (.t 18),[]⟩]) (.seq (rf 1 [oK 19 1 (fd 0 2),oK 20 1 (lF 1 19),oK 21 1 (fd 1 2),oK 22 1 (lF 1 21),oK 23 1 (lT 3 9),oK 24 1 (.build D6 [(0,1,(.t 20)),(1,1,(.t 22)),(2,3,(.t 23))]),oN 10 (.alloc D6),⟨none,none,1,.store 11 (.t 10) (.t 24),[]⟩]) (.seq (rt 0 [oN 25 (lT 3 7),oN 26 (fd 5 2),oA 27 0 (lT 3 26) [1],oA 28 0 (cl 157 [25,27]) [0,2],oN 29 (lT 3 8),oN 30 (fd 5 3),oA 31 0 (lT 3 30) [5],oA 32 0 (cl 157 [29,31]) [4,6,3],oA 33 0 (cl 131 [28,32]) [3,7,7],oN 34 (lT 3 9),oA 35 0 (cl 156 [33,34]) [8,9,8],oA 36 0 (fd 5 10) [0,1,2,3,4,5,6,7,8,9,10],⟨none,none,0,.store 3 (.t 36) (.t 35),[11,10,10,0,1,2,3,4,5,6,7,8,9,10]⟩]) (.seq (rt 0 [oN 37 (lT 3 7),oN 38 (fd 8 2),oA 39 0 (lT 3 38) [1],oA 40 0 (cl 157 [37,39]) [0,2],oN 41 (lT 3 8),oN 42 (fd 8 3),oA 43 0 (lT 3 42) [5],oA 44 0 (cl 157 [41,43]) [4,6,3],oA 45 0 (cl 131 [40,44]) [3,7,7],oN 46 (lT 3 9),oA 47 0 (cl 156 [45,46]) [8,9,8],oA 48 0 (fd 8 10) [0,1,2,3,4,5,6,7,8,9,10],⟨none,none,0,.store 3 (.t 48) (.t 47),[11,10,10,0,1,2,3,4,5,6,7,8,9,10]⟩]) (.seq (rt 1 [oK 49 1 (lT 3 7),oK 50 1 (lT 3 8),oA 51 1 (cl 157 [49,50]) [0,1],oK 52 1 (lT 3 9),oA 53 1 (cl 156 [51,52]) [2,3,2],oK 54 1 (fd 5 2),oA 55 1 (lT 3 54) [5],oK 56 1 (fd 5 3),oA 57 1 (lT 3 56) [7],oA 58 1 (cl 159 [55,57]) [6,8,4],oK 59 1 (fd 8 2),oA 60 1 (lT 3 59) [10],oK 61 1 (fd 8 3),oA 62 1 (lT 3 61) [12],oA 63 1 (cl 159 [60,62]) [11,13,9],oA 64 1 (cl 158 [58,63]) [9,14,14],oA 65 1 (cl 157 [53,64]) [4,15,15],oN 11 (.alloc qL),⟨none,none,1,.store 3 (.t 11) (.t 65),[17,16,16,0,1,2,3,4,5,6,7,8,9,10,11,12,13,14,15,16,17]⟩]) (.seq (sr [oN 66 (fd 2 10),oN 67 (lT 3 66),oN 68 (cl 132 [67]),oN 69 (nt 68),oW 70 69,oG 70 false 71 (fd 5 10),oG 70 false 72 (lT 3 71),oG 70 false 73 (cl 132 [72]),oG 70 false 74 (nt 73),oN 75 (.pick (.t 70) (.c (.bool true)) (.t 74)),oW 76 75,oG 76 false 77 (fd 8 10),oG 76 false 78 (lT 3 77),oG 76 false 79 (cl 132 [78]),oG 76 false 80 (nt 79),oN 81 (.pick (.t 76) (.c (.bool true)) (.t 80)),oW 82 81,oG 82 false 83 (lT 3 11),oG 82 false 84 (cl 132 [83]),oG 82 false 85 (nt 84),oN 86 (.pick (.t 82) (.c (.bool true)) (.t 85))] (cd 86 (sr [oN 87 (.build D6 []),oN 88 (.build qL []),oS (.store 11 (.t 4) (.t 87)),oS (.store 3 (.t 5) (.t 88)),oN 6 mF] .ret) .skip)) (.seq (rt 0 [oN 89 (lT 11 10),oN 90 (lT 3 11),⟨none,none,0,.store 11 (.t 4) (.t 89),[0,0]⟩,⟨none,none,0,.store 3 (.t 5) (.t 90),[1,2,0,1,2]⟩,oA 6 0 mT [3,0,1,2,3]]) .ret)))))))))⟩
structure Fj (T:Tb):Prop where
 hT:T 140=some y8
 lC:nJ T
 kL:oJ T
 yM:wB T
 nX:rM T
 Rq:AX T
 BU:BF T
theorem UJ{v w x y:V}{b:Bool}(h:lW v w)(h2:lW x y):lW (.nK [v,x,.bool b]) (.nK [w,y,.bool b]):=by
 simp only [lW,uG];exact⟨_,rfl,_,_,rfl,h,_,_,rfl,h2,_,_,rfl,rfl,rfl⟩
def ru(k l:Lk):R:=pI k.w l.w
def Ll(k l:Lk):R:=DC (pI (mulR k.w k.dx) (mulR l.w l.dx)) (ru k l)
def QA(k l:Lk):R:=DC (pI (mulR k.w k.dy) (mulR l.w l.dy)) (ru k l)
def UK(k l:Lk):R:=mulR (DC (mulR k.w l.w) (ru k l)) (sqR (NZ k.dx l.dx) (NZ k.dy l.dy))
theorem VZ(k l:Lk):(ru k l).cn:=vK _ _
theorem ahg(k l:Lk):(Ll k l).cn:=MC _ _
theorem ahh(k l:Lk):(QA k l).cn:=MC _ _
theorem ahi(k l:Lk):(UK k l).cn:=Un _ _
def mgL(k l:Lk):Lk:=⟨k.a,k.b,ru k l,Ll k l,QA k l⟩
def UL(k l:Lk):Bool:=(ru k l).ok&&(Ll k l).ok&&(QA k l).ok&&(UK k l).ok
def mgP(k l:Lk):Bool:=qm k&&qm l&&decide (k.a=l.a)&&decide (k.b=l.b)
def Zj(k l:Lk):Bool:=mgP k l&&UL k l
def ahj(k l:Lk):Lk:=if Zj k l=true then mgL k l else Lk0
def ahk(k l:Lk):R:=if Zj k l=true then UK k l else R0
theorem am5{r s:R}(hr:0<BH r)(hs:0<BH s)(ho:(pI r s).ok=true):0<BH (pI r s):=by
 unfold BH at *;rw [amn]at ho;rw [amm]at ho ⊢
 cases h1:r.q with
 |none=>rw [h1]at hr;simp [wP]at hr
 |
  some a =>
  cases h2:s.q with
  |none=>rw [h2]at hs;simp [wP]at hs
  |
   some b =>
   simp only [h1,h2]at ho hr hs ⊢;simp only [PU]at ho ⊢;have hf:fits (a+b)=true:=by
    cases hf:fits (a+b)with
    |true=>rfl
    |false=>rw [aa6 hf]at ho;exact absurd rfl ho
   rw [aa5 hf];simp only [wP]at hr hs ⊢;have pos:∀q:Rat,0<sgn q.num↔0<q:=by
    intro q;rw [Rat.lt_iff,show (0:Rat).num=0 from rfl,show (0:Rat).den=1 from rfl,Int.zero_mul,Int.natCast_one,Int.mul_one];unfold sgn;split
    ·constructor<;>intro h<;>omega
    split
    ·constructor<;>intro h<;>omega
    constructor<;>intro h<;>omega
   rw [pos]at hr hs ⊢;have h3:a+0<a+b:=Rat.add_lt_add_left.2 hs;rw [Rat.add_zero]at h3;exact Std.lt_trans hr h3
theorem ae6{k l:Lk}(h:mgP k l=true):qm (mgL k l)=((ru k l).ok&&(Ll k l).ok&&(QA k l).ok):=by
 unfold mgP at h;simp only [aG,decide_eq_true_eq]at h;obtain⟨⟨⟨h1,h2⟩,_⟩,_⟩:=h;have p1:=(UD h1).2.2.2;have p2:=(UD h2).2.2.2;have h1':=h1;unfold qm at h1';simp only [aG]at h1';unfold qm mgL;rw [h1'.1.1.1.1.1,h1'.1.1.1.1.2,h1'.1.1.1.2]
 cases hw:(ru k l).ok with
 |
  false =>
  have:¬0<wP (ru k l).q:=by rw [wE.1 hw];simp [wP]
  simp [this]
 |
  true =>
  have:0<wP (ru k l).q:=am5 p1 p2 hw;simp [this]
theorem aau{T:Tb}(h:Fh T){k l:Lk}(hk:k.wf:=by exact wfA)(hl:l.wf:=by exact wfA):PF T 196 [QV k,QV l] (.nK [QV (ahj k l),kN (ahk k l),.bool (Zj k l)]):=by
 have ck:=zJ h.qo hk;have cl:=zJ h.qo hl;have bad:mgP k l=false→lW (.nK [QV (ahj k l),kN (ahk k l),.bool (Zj k l)]) (.nK [.agg [iv 0,iv 0,.bool false,.jL,.jL,.bool false,.jL,.jL,.bool false,.jL,.jL],.agg [.bool false,.jL,.jL],.bool false]):=by
  intro hp;unfold ahj ahk Zj;rw [hp];exact UJ VY qN
 cases h1:qm k
 ·have hp:=bad (by unfold mgP;rw [h1];rfl);rw [h1]at ck;clear bad;refine kH nR h.hT ?_;simp only [pU,Lz];refine ev ?_;refine jy ck ?_;refine ev ?_;exact hp
 rw [h1]at ck
 cases h2:qm l
 ·have hp:=bad (by unfold mgP;rw [h1,h2];rfl);rw [h2]at cl;clear bad;refine kH nR h.hT ?_;simp only [pU,Lz];refine ev ?_;refine jy ck ?_;refine ev ?_;refine jy cl ?_;refine ev ?_;exact hp
 rw [h2]at cl;by_cases h3:k.a=l.a
 case neg =>
  have hp:=bad (by unfold mgP;rw [h1,h2,decide_eq_false h3];rfl);clear bad;refine kH nR h.hT ?_;simp only [pU,Lz];refine ev ?_;refine jy ck ?_;refine ev ?_;refine jy cl ?_;refine ev1 @h3 ?_;exact hp
 by_cases h4:k.b=l.b
 case neg =>
  have hp:=bad (by unfold mgP;rw [h1,h2,decide_eq_true h3,decide_eq_false h4];rfl);have h3':(k.a=l.a)=True:=eq_true h3;clear bad;refine kH nR h.hT ?_;simp only [pU,Lz];refine ev ?_;refine jy ck ?_;refine ev ?_;refine jy cl ?_;refine qW @h3' @h4 ?_;exact hp
 have hp:mgP k l=true:=by unfold mgP;rw [h1,h2,decide_eq_true h3,decide_eq_true h4];rfl
 have hv:=ae6 hp;have h3':(k.a=l.a)=True:=eq_true h3;have h4':(k.b=l.b)=True:=eq_true h4;clear bad;obtain⟨k1,k2,k3⟩:=hk;obtain⟨l1,l2,l3⟩:=hl;have e1:ahj k l=if UL k l=true then mgL k l else Lk0:=by unfold ahj Zj;rw [hp,bU]
 have e2:ahk k l=if UL k l=true then UK k l else R0:=by unfold ahk Zj;rw [hp,bU]
 have e3:Zj k l=UL k l:=by unfold Zj;rw [hp,bU]
 rw [e1,e2,e3];clear e1 e2 e3;have cv:=zJ h.qo (l:=mgL k l) ⟨mP (VZ _ _),mP (ahg _ _),mP (ahh _ _)⟩;have co:=pG h.kS (r:=UK k l) (mP (ahi _ _));rw [hv]at cv;refine kH nR h.hT ?_;simp only [pU,Lz];refine ev ?_;refine jy ck ?_;refine ev ?_;refine jy cl ?_;refine qW @h3' @h4' ?_;refine jy (vw h.lJ k1 l1) ?_;refine ev ?_;refine jy (wV h.nV k1 k2) ?_;refine ev ?_;refine jy (wV h.nV l1 l2) ?_;refine ev ?_;refine jy (vw h.lJ wfA wfA) ?_;refine ev ?_;refine jy (N7 h.yL wfA wfA) ?_;refine ev ?_;refine⟨by unfold pz;decide +kernel,?_⟩;refine ev ?_;refine jy (wV h.nV k1 k3) ?_;refine ev ?_;refine jy (wV h.nV l1 l3) ?_;refine ev ?_;refine jy (vw h.lJ wfA wfA) ?_;refine ev ?_;refine jy (N7 h.yL wfA wfA) ?_;refine ev ?_;refine⟨by unfold pz;decide +kernel,?_⟩;refine ev ?_;refine jy (wV h.nV k1 l1) ?_;refine ev ?_;refine jy (N7 h.yL wfA wfA) ?_;refine ev ?_;refine jy (QZ h.BR k2 l2) ?_;refine ev ?_;refine jy (QZ h.BR k3 l3) ?_;refine ev ?_;refine jy (acD h.UH wfA wfA) ?_;refine ev ?_;refine jy (wV h.nV wfA (mP (amR _ _))) ?_;refine ev ?_;refine⟨by unfold pz;decide +kernel,?_⟩;refine ev ?_;have hG:UL k l=(((ru k l).ok&&(Ll k l).ok&&(QA k l).ok)&&(UK k l).ok):=rfl;rw [hG];clear hG
 cases hg:((ru k l).ok&&(Ll k l).ok&&(QA k l).ok)
 ·rw [hg]at cv;refine jy cv ?_;refine ev ?_;exact UJ VY qN
 rw [hg]at cv;refine jy cv ?_;refine ev ?_
 cases hE:(UK k l).ok
 ·rw [hE]at co;refine jy co ?_;refine ev ?_;exact UJ VY qN
 rw [hE]at co;refine jy co ?_;refine ev ?_;refine⟨by unfold pz;decide +kernel,?_⟩;refine ev ?_;exact kE _
theorem aum{σ:Store}{c9 d3 e3 t9 u3 v3:List V}{os:List Nat}{n m:Int}{b:Bool}(h:nI σ (c9++(d3++e3)) (t9++(u3++v3)) os)(hl:c9.length=t9.length)(hl2:d3.length=u3.length)(hn:os.Nodup) :
  Fin σ (.nK [.agg (.int .i64 n::.int .i64 m::c9),.agg e3,.bool b]) (.nK [.agg (.int .i64 n::.int .i64 m::t9),.agg v3,.bool b]):=by
 obtain⟨a1,a2,o1,o2,e,rfl,h1,h2⟩:=pq h;obtain⟨rfl,rfl⟩:=dZ e (by rw [hl];exact h1.len.symm);obtain⟨a3,a4,o3,o4,e,rfl,h3,h4⟩:=pq h2;obtain⟨rfl,rfl⟩:=dZ e (by rw [hl2];exact h3.len.symm);refine rE (os:=o1++o4) (IE (oC (nN (MI (MI h1))) ?_)) ?_
 ·have:=oC (nN h4) (nS (b:=b) (σ:=σ) nM)
  rwa [aQ]at this
 refine hn.sublist ?_;exact List.Sublist.append (List.Sublist.refl _) (List.sublist_append_right _ _)
theorem Got.aiA{σ σ2:Store}{r:V}{x:Lk}{y:R}{b:Bool}{os:List Nat}(g:Got σ σ2 r (.nK [QV x,kN y,.bool b]) os):∃c3 c4 c6 c7 c9 c10 e1 e2,r=.nK [.agg [iv x.a,iv x.b,.bool x.w.neg,c3,c4,.bool x.dx.neg,c6,c7,.bool x.dy.neg,c9,c10],.agg [.bool y.neg,e1,e2],.bool b] ∧
  nI σ2 [iv x.a,iv x.b,.bool x.w.neg,c3,c4,.bool x.dx.neg,c6,c7,.bool x.dy.neg,c9,c10,.bool y.neg,e1,e2] (x.cells++y.cells) os:=by
 obtain⟨v,w,rfl,g2⟩:=g.aDd;obtain⟨cs,e,h⟩:=g2.ow.kV
 cases e
 obtain⟨v1,vs,o1,o2,e1,rfl,h1,h2⟩:=h.inv
 cases e1
 obtain⟨w1,vs2,o3,o4,e1,rfl,h3,h4⟩:=h2.inv
 cases e1
 obtain⟨_,rfl⟩:=h4.C9;obtain⟨c,rfl,h5⟩:=h1.kV;obtain⟨e,rfl,h6⟩:=h3.kV;obtain⟨c3,c4,c6,c7,c9,c10,rfl⟩:=h5.lk;obtain⟨e1,e2,rfl⟩:=h6.rat
 refine⟨c3,c4,c6,c7,c9,c10,e1,e2,rfl,?_⟩;rw [aQ];exact mD h5 h6
theorem XT{σ:Store}:Fin σ (.nK [.agg [iv 0,iv 0,.bool false,.jL,.jL,.bool false,.jL,.jL,.bool false,.jL,.jL],.agg [.bool false,.jL,.jL],.bool false]) (.nK [QV Lk0,kN R0,.bool false]) :=
 ⟨.nK [QV Lk0,kN R0,.bool false],[],UJ VY qN,IE (oC (o1:=[]) (nN (MI (MI (nS (oC (o1:=[]) mQ (oC (o1:=[]) mQ (nS (oC (o1:=[]) mQ (oC (o1:=[]) mQ (nS (oC (o1:=[]) mQ (oC (o1:=[]) mQ nM))))))))))))
  (oC (o1:=[]) (nN (nS (oC (o1:=[]) mQ (oC (o1:=[]) mQ nM)))) (nS nM))),.nil⟩
theorem RQ{T:Tb}(h:Fj T){k l:Lk}(hk:k.w.cn∧k.dx.cn∧k.dy.cn)(hl:l.w.cn∧l.dx.cn∧l.dy.cn):PO T 140 [QV k,QV l] (.nK [QV (if UL k l=true then mgL k l else Lk0),kN (if UL k l=true then UK k l else R0),.bool (UL k l)]):=by
 obtain⟨k1,k2,k3⟩:=hk;obtain⟨l1,l2,l3⟩:=hl;refine kW (fun x d=>(x == 131&&d == 18)||(x == 156&&d == 35)||(x == 156&&d == 47)||(x == 156&&d == 53)||(x == 157&&d == 65)) h.hT ?_;simp only [y8,Lz,St.enter,aj,au,aN];refine ew ?_;refine⟨by unfold pz;decide +kernel,?_⟩;refine ew ?_;refine kU (show PO T 131 [kN k.w,kN l.w] (kN (ru k l))from Gv h.lC k1 l1) (by (refine ew ?_;try with_reducible exact True.intro)) ?_;intro r q1 o1 G;have hO:=G.ow;have gn:=G.nd;have gf:=G.fresh;have go:=G.old;have gl:=G.len;clear G;obtain⟨_,rfl,Zk⟩:=hO.kV;obtain⟨x1,x2,rfl⟩:=Zk.rat
 have E:Ep [some ⟨11,[[iv k.a,iv k.b,.bool k.w.neg,ints k.w.mag,ints k.w.den,.bool k.dx.neg,ints k.dx.mag,ints k.dx.den,.bool k.dy.neg,ints k.dy.mag,ints k.dy.den]]⟩,some ⟨11,[[iv l.a,iv l.b,.bool l.w.neg,ints l.w.mag,ints l.w.den,.bool l.dx.neg,ints l.dx.mag,ints l.dx.den,.bool l.dy.neg,ints l.dy.mag,ints l.dy.den]]⟩,some ⟨11,[[iv 0,iv 0,.bool false,.jL,.jL,.bool false,.jL,.jL,.bool false,.jL,.jL]]⟩,some ⟨3,[[.bool false,.jL,.jL]]⟩,some ⟨3,[[.bool k.w.neg,ints k.w.mag,ints k.w.den]]⟩,some ⟨3,[[.bool l.w.neg,ints l.w.mag,ints l.w.den]]⟩] [] [] [] [(0,⟨11,[[iv k.a,iv k.b,.bool k.w.neg,ints k.w.mag,ints k.w.den,.bool k.dx.neg,ints k.dx.mag,ints k.dx.den,.bool k.dy.neg,ints k.dy.mag,ints k.dy.den]]⟩),(1,⟨11,[[iv l.a,iv l.b,.bool l.w.neg,ints l.w.mag,ints l.w.den,.bool l.dx.neg,ints l.dx.mag,ints l.dx.den,.bool l.dy.neg,ints l.dy.mag,ints l.dy.den]]⟩),(2,⟨11,[[iv 0,iv 0,.bool false,.jL,.jL,.bool false,.jL,.jL,.bool false,.jL,.jL]]⟩),(3,⟨3,[[.bool false,.jL,.jL]]⟩),(4,⟨3,[[.bool k.w.neg,ints k.w.mag,ints k.w.den]]⟩),(5,⟨3,[[.bool l.w.neg,ints l.w.mag,ints l.w.den]]⟩)]:=⟨Np,by simp [jH]⟩
 have E2:=E.got (s1:=[some ⟨11,[[iv k.a,iv k.b,.bool k.w.neg,ints k.w.mag,ints k.w.den,.bool k.dx.neg,ints k.dx.mag,ints k.dx.den,.bool k.dy.neg,ints k.dy.mag,ints k.dy.den]]⟩,some ⟨11,[[iv l.a,iv l.b,.bool l.w.neg,ints l.w.mag,ints l.w.den,.bool l.dx.neg,ints l.dx.mag,ints l.dx.den,.bool l.dy.neg,ints l.dy.mag,ints l.dy.den]]⟩,some ⟨11,[[iv 0,iv 0,.bool false,.jL,.jL,.bool false,.jL,.jL,.bool false,.jL,.jL]]⟩,some ⟨3,[[.bool false,.jL,.jL]]⟩,some ⟨3,[[.bool k.w.neg,ints k.w.mag,ints k.w.den]]⟩,some ⟨3,[[.bool l.w.neg,ints l.w.mag,ints l.w.den]]⟩]++[none]) (fun q hq=>by first|exact lQ hq|(simp only [bJ];exact lQ hq)) (by simp) (Zk) (by simpa using gn) (by simpa using gf) (by simpa using go);have F0:=E.free (s1:=[some ⟨11,[[iv k.a,iv k.b,.bool k.w.neg,ints k.w.mag,ints k.w.den,.bool k.dx.neg,ints k.dx.mag,ints k.dx.den,.bool k.dy.neg,ints k.dy.mag,ints k.dy.den]]⟩,some ⟨11,[[iv l.a,iv l.b,.bool l.w.neg,ints l.w.mag,ints l.w.den,.bool l.dx.neg,ints l.dx.mag,ints l.dx.den,.bool l.dy.neg,ints l.dy.mag,ints l.dy.den]]⟩,some ⟨11,[[iv 0,iv 0,.bool false,.jL,.jL,.bool false,.jL,.jL,.bool false,.jL,.jL]]⟩,some ⟨3,[[.bool false,.jL,.jL]]⟩,some ⟨3,[[.bool k.w.neg,ints k.w.mag,ints k.w.den]]⟩,some ⟨3,[[.bool l.w.neg,ints l.w.mag,ints l.w.den]]⟩]++[none]) (p:=6) (by simpa using gf) (by simp) (by simp);have hq:7≤q1.length:=by simpa using gl
 clear E gn gf go gl;have E:Ep q1 [.bool (ru k l).neg,x1,x2] [.bool (ru k l).neg,ints (ru k l).mag,ints (ru k l).den] _ [(0,⟨11,[[iv k.a,iv k.b,.bool k.w.neg,ints k.w.mag,ints k.w.den,.bool k.dx.neg,ints k.dx.mag,ints k.dx.den,.bool k.dy.neg,ints k.dy.mag,ints k.dy.den]]⟩),(1,⟨11,[[iv l.a,iv l.b,.bool l.w.neg,ints l.w.mag,ints l.w.den,.bool l.dx.neg,ints l.dx.mag,ints l.dx.den,.bool l.dy.neg,ints l.dy.mag,ints l.dy.den]]⟩),(2,⟨11,[[iv 0,iv 0,.bool false,.jL,.jL,.bool false,.jL,.jL,.bool false,.jL,.jL]]⟩),(3,⟨3,[[.bool false,.jL,.jL]]⟩),(4,⟨3,[[.bool k.w.neg,ints k.w.mag,ints k.w.den]]⟩),(5,⟨3,[[.bool l.w.neg,ints l.w.mag,ints l.w.den]]⟩)]:=E2;clear E2
 replace E:=E.EF (p:=6) (ob:=⟨3,[[.bool (ru k l).neg,x1,x2]]⟩) (L':=[(0,⟨11,[[iv k.a,iv k.b,.bool k.w.neg,ints k.w.mag,ints k.w.den,.bool k.dx.neg,ints k.dx.mag,ints k.dx.den,.bool k.dy.neg,ints k.dy.mag,ints k.dy.den]]⟩),(1,⟨11,[[iv l.a,iv l.b,.bool l.w.neg,ints l.w.mag,ints l.w.den,.bool l.dx.neg,ints l.dx.mag,ints l.dx.den,.bool l.dy.neg,ints l.dy.mag,ints l.dy.den]]⟩),(2,⟨11,[[iv 0,iv 0,.bool false,.jL,.jL,.bool false,.jL,.jL,.bool false,.jL,.jL]]⟩),(3,⟨3,[[.bool false,.jL,.jL]]⟩),(4,⟨3,[[.bool k.w.neg,ints k.w.mag,ints k.w.den]]⟩),(5,⟨3,[[.bool l.w.neg,ints l.w.mag,ints l.w.den]]⟩),(6,⟨3,[[.bool (ru k l).neg,x1,x2]]⟩)]) F0 (by omega) (by simp)
 have R:=ah (E.res1 1 rfl rfl (jS _ _)) (ah (fun x=>(E.snoc (x:=x)).res1 1 rfl rfl (jS _ _)) (ah (E.res1 2 rfl rfl (jS _ _)) (fun x=>(E.snoc (x:=x)).res1 2 rfl rfl (jS _ _))));have LF:=ah (E.leaf 1 rfl rfl) (E.leaf 2 rfl rfl);have LO:=ah (E.at0 (p:=0) (ob:=⟨11,[[iv k.a,iv k.b,.bool k.w.neg,ints k.w.mag,ints k.w.den,.bool k.dx.neg,ints k.dx.mag,ints k.dx.den,.bool k.dy.neg,ints k.dy.mag,ints k.dy.den]]⟩) (by simp)) (ah (E.at0 (p:=1) (ob:=⟨11,[[iv l.a,iv l.b,.bool l.w.neg,ints l.w.mag,ints l.w.den,.bool l.dx.neg,ints l.dx.mag,ints l.dx.den,.bool l.dy.neg,ints l.dy.mag,ints l.dy.den]]⟩) (by simp)) (ah (E.at0 (p:=2) (ob:=⟨11,[[iv 0,iv 0,.bool false,.jL,.jL,.bool false,.jL,.jL,.bool false,.jL,.jL]]⟩) (by simp)) (ah (E.at0 (p:=3) (ob:=⟨3,[[.bool false,.jL,.jL]]⟩) (by simp)) (ah (E.at0 (p:=4) (ob:=⟨3,[[.bool k.w.neg,ints k.w.mag,ints k.w.den]]⟩) (by simp)) (ah (E.at0 (p:=5) (ob:=⟨3,[[.bool l.w.neg,ints l.w.mag,ints l.w.den]]⟩) (by simp)) (E.at0 (p:=6) (ob:=⟨3,[[.bool (ru k l).neg,x1,x2]]⟩) (by simp)))))));refine zK @R @LF @LO @jT @kM @List.set_set.{0} ?_;obtain⟨s1,hs⟩:∃s,(q1.set 6 (some ⟨3,[[.bool (ru k l).neg,x1,x2]]⟩))=s:=⟨_,rfl⟩;have hls:q1.length=s1.length:=by rw [←hs];simp
 simp only [hs]at *;clear hs;simp only [hls]at *;clear hls R LF LO;have R:=ah (E.res1 1 rfl rfl (jS _ _)) (ah (fun x=>(E.snoc (x:=x)).res1 1 rfl rfl (jS _ _)) (ah (E.res1 2 rfl rfl (jS _ _)) (fun x=>(E.snoc (x:=x)).res1 2 rfl rfl (jS _ _))));have LF:=ah (E.leaf 1 rfl rfl) (E.leaf 2 rfl rfl);have LO:=ah (E.at0 (p:=0) (ob:=⟨11,[[iv k.a,iv k.b,.bool k.w.neg,ints k.w.mag,ints k.w.den,.bool k.dx.neg,ints k.dx.mag,ints k.dx.den,.bool k.dy.neg,ints k.dy.mag,ints k.dy.den]]⟩) (by simp)) (ah (E.at0 (p:=1) (ob:=⟨11,[[iv l.a,iv l.b,.bool l.w.neg,ints l.w.mag,ints l.w.den,.bool l.dx.neg,ints l.dx.mag,ints l.dx.den,.bool l.dy.neg,ints l.dy.mag,ints l.dy.den]]⟩) (by simp)) (ah (E.at0 (p:=2) (ob:=⟨11,[[iv 0,iv 0,.bool false,.jL,.jL,.bool false,.jL,.jL,.bool false,.jL,.jL]]⟩) (by simp)) (ah (E.at0 (p:=3) (ob:=⟨3,[[.bool false,.jL,.jL]]⟩) (by simp)) (ah (E.at0 (p:=4) (ob:=⟨3,[[.bool k.w.neg,ints k.w.mag,ints k.w.den]]⟩) (by simp)) (ah (E.at0 (p:=5) (ob:=⟨3,[[.bool l.w.neg,ints l.w.mag,ints l.w.den]]⟩) (by simp)) (E.at0 (p:=6) (ob:=⟨3,[[.bool (ru k l).neg,x1,x2]]⟩) (by simp)))))));refine zK @R @LF @LO @jT @kM @List.set_set.{0} ?_;have E2:=E.push (ob:=⟨11,[[.int .i64 k.a,.int .i64 k.b,.bool (ru k l).neg,x1,x2,.bool false,.jL,.jL,.bool false,.jL,.jL]]⟩);clear E
 have E:Ep ((s1++[none]).set s1.length (some ⟨11,[[.int .i64 k.a,.int .i64 k.b,.bool (ru k l).neg,x1,x2,.bool false,.jL,.jL,.bool false,.jL,.jL]]⟩)) [.bool (ru k l).neg,x1,x2] [.bool (ru k l).neg,ints (ru k l).mag,ints (ru k l).den] ([]++o1) [(0,⟨11,[[iv k.a,iv k.b,.bool k.w.neg,ints k.w.mag,ints k.w.den,.bool k.dx.neg,ints k.dx.mag,ints k.dx.den,.bool k.dy.neg,ints k.dy.mag,ints k.dy.den]]⟩),(1,⟨11,[[iv l.a,iv l.b,.bool l.w.neg,ints l.w.mag,ints l.w.den,.bool l.dx.neg,ints l.dx.mag,ints l.dx.den,.bool l.dy.neg,ints l.dy.mag,ints l.dy.den]]⟩),(2,⟨11,[[iv 0,iv 0,.bool false,.jL,.jL,.bool false,.jL,.jL,.bool false,.jL,.jL]]⟩),(3,⟨3,[[.bool false,.jL,.jL]]⟩),(4,⟨3,[[.bool k.w.neg,ints k.w.mag,ints k.w.den]]⟩),(5,⟨3,[[.bool l.w.neg,ints l.w.mag,ints l.w.den]]⟩),(6,⟨3,[[.bool (ru k l).neg,x1,x2]]⟩),(s1.length,⟨11,[[.int .i64 k.a,.int .i64 k.b,.bool (ru k l).neg,x1,x2,.bool false,.jL,.jL,.bool false,.jL,.jL]]⟩)]:=by rw [aeI];exact E2
 clear E2 R LF LO;obtain⟨p10,hp⟩:∃p,s1.length=p:=⟨_,rfl⟩;obtain⟨s2,hs⟩:∃s,((s1++[none]).set s1.length (some ⟨11,[[.int .i64 k.a,.int .i64 k.b,.bool (ru k l).neg,x1,x2,.bool false,.jL,.jL,.bool false,.jL,.jL]]⟩))=s:=⟨_,rfl⟩;have hls:s2.length=p10+1:=by rw [←hs,←hp];simp
 simp only [hs]at *;clear hs;simp only [hp]at *;clear hp;have R:=ah (E.res1 1 rfl rfl (jS _ _)) (ah (fun x=>(E.snoc (x:=x)).res1 1 rfl rfl (jS _ _)) (ah (E.res1 2 rfl rfl (jS _ _)) (fun x=>(E.snoc (x:=x)).res1 2 rfl rfl (jS _ _))));have LF:=ah (E.leaf 1 rfl rfl) (E.leaf 2 rfl rfl);have LO:=ah (E.at0 (p:=0) (ob:=⟨11,[[iv k.a,iv k.b,.bool k.w.neg,ints k.w.mag,ints k.w.den,.bool k.dx.neg,ints k.dx.mag,ints k.dx.den,.bool k.dy.neg,ints k.dy.mag,ints k.dy.den]]⟩) (by simp)) (ah (E.at0 (p:=1) (ob:=⟨11,[[iv l.a,iv l.b,.bool l.w.neg,ints l.w.mag,ints l.w.den,.bool l.dx.neg,ints l.dx.mag,ints l.dx.den,.bool l.dy.neg,ints l.dy.mag,ints l.dy.den]]⟩) (by simp)) (ah (E.at0 (p:=2) (ob:=⟨11,[[iv 0,iv 0,.bool false,.jL,.jL,.bool false,.jL,.jL,.bool false,.jL,.jL]]⟩) (by simp)) (ah (E.at0 (p:=3) (ob:=⟨3,[[.bool false,.jL,.jL]]⟩) (by simp)) (ah (E.at0 (p:=4) (ob:=⟨3,[[.bool k.w.neg,ints k.w.mag,ints k.w.den]]⟩) (by simp)) (ah (E.at0 (p:=5) (ob:=⟨3,[[.bool l.w.neg,ints l.w.mag,ints l.w.den]]⟩) (by simp)) (ah (E.at0 (p:=6) (ob:=⟨3,[[.bool (ru k l).neg,x1,x2]]⟩) (by simp)) (E.at0 (p:=p10) (ob:=⟨11,[[.int .i64 k.a,.int .i64 k.b,.bool (ru k l).neg,x1,x2,.bool false,.jL,.jL,.bool false,.jL,.jL]]⟩) (by simp))))))));refine jy (yK h.nX k1 k2) ?_;refine zK @R @LF @LO @jT @kM @List.set_set.{0} ?_;refine jy (yK h.nX l1 l2) ?_;refine zK @R @LF @LO @jT @kM @List.set_set.{0} ?_;refine jy (DX h.lC Ut Ut) ?_;refine zK @R @LF @LO @jT @kM @List.set_set.{0} ?_
 refine DY (fun o=>o∈([]++o1)) (show PO T 156 [kN (pI (mulR k.w k.dx) (mulR l.w l.dx)),kN (ru k l)] (kN (Ll k l))from Td h.yM Ut (VZ k l)) (by (refine zK @R @LF @LO @jT @kM @List.set_set.{0} ?_;try with_reducible exact True.intro)) ?_ ?_
 ·intro o ho;have ho:o∈reach s2 FD (kN (pI (mulR k.w k.dx) (mulR l.w l.dx)))++(reach s2 (11+1) (.agg [.bool (ru k l).neg,x1,x2])++[]):=ho;rw [show reach s2 FD (kN (pI (mulR k.w k.dx) (mulR l.w l.dx)))=[]from by (refine ew ?_;try with_reducible exact True.intro),dL,aQ]at ho;obtain⟨c,hc,ho⟩:=Am.1 ho;rcases aH.1 hc with e|hc
  ·rw [e]at ho;simp [reach]at ho
  rcases aH.1 hc with e|hc
  ·rw [e]at ho;exact E.reach 1 rfl rfl _ o ho
  rw [aT.1 hc]at ho;exact E.reach 2 rfl rfl _ o ho
 intro Rr r q3 o3 hRr G;have hO:=G.ow;have gn:=G.nd;have gf:=G.fresh;have go:=G.old;have gl:=G.len;clear G;obtain⟨_,rfl,hQ3⟩:=hO.kV;obtain⟨x3,x4,rfl⟩:=hQ3.rat
 have E2:=E.got (s1:=s2) (fun q hq=>rfl) (aP _) hQ3 gn gf go;have F:p10∉([]++o1)++o3:=by
  intro hm;rcases aO.1 hm with hm|hm
  ·exact(E.l (p10,⟨11,[[.int .i64 k.a,.int .i64 k.b,.bool (ru k l).neg,x1,x2,.bool false,.jL,.jL,.bool false,.jL,.jL]]⟩) (by simp)).2 hm
  have:=gf _ hm;omega
 have hq3:p10+1≤q3.length:=by omega
 have hRn:∀o∈Rr,o≠p10:=fun o ho e=>(E.l (p10,⟨11,[[.int .i64 k.a,.int .i64 k.b,.bool (ru k l).neg,x1,x2,.bool false,.jL,.jL,.bool false,.jL,.jL]]⟩) (by simp)).2 (e▸hRr o ho);clear E gn gf go gl hO R LF LO hRr;have E:Ep q3 [.bool (ru k l).neg,x1,x2,.bool (Ll k l).neg,x3,x4] [.bool (ru k l).neg,ints (ru k l).mag,ints (ru k l).den,.bool (Ll k l).neg,ints (Ll k l).mag,ints (Ll k l).den] (([]++o1)++o3) [(0,⟨11,[[iv k.a,iv k.b,.bool k.w.neg,ints k.w.mag,ints k.w.den,.bool k.dx.neg,ints k.dx.mag,ints k.dx.den,.bool k.dy.neg,ints k.dy.mag,ints k.dy.den]]⟩),(1,⟨11,[[iv l.a,iv l.b,.bool l.w.neg,ints l.w.mag,ints l.w.den,.bool l.dx.neg,ints l.dx.mag,ints l.dx.den,.bool l.dy.neg,ints l.dy.mag,ints l.dy.den]]⟩),(2,⟨11,[[iv 0,iv 0,.bool false,.jL,.jL,.bool false,.jL,.jL,.bool false,.jL,.jL]]⟩),(3,⟨3,[[.bool false,.jL,.jL]]⟩),(4,⟨3,[[.bool k.w.neg,ints k.w.mag,ints k.w.den]]⟩),(5,⟨3,[[.bool l.w.neg,ints l.w.mag,ints l.w.den]]⟩),(6,⟨3,[[.bool (ru k l).neg,x1,x2]]⟩),(p10,⟨11,[[.int .i64 k.a,.int .i64 k.b,.bool (ru k l).neg,x1,x2,.bool false,.jL,.jL,.bool false,.jL,.jL]]⟩)]:=E2;clear E2;have R:=ah (E.res1 1 rfl rfl (jS _ _)) (ah (fun x=>(E.snoc (x:=x)).res1 1 rfl rfl (jS _ _)) (ah (E.res1 2 rfl rfl (jS _ _)) (ah (fun x=>(E.snoc (x:=x)).res1 2 rfl rfl (jS _ _)) (ah (E.res1 4 rfl rfl (jS _ _)) (ah (fun x=>(E.snoc (x:=x)).res1 4 rfl rfl (jS _ _)) (ah (E.res1 5 rfl rfl (jS _ _)) (fun x=>(E.snoc (x:=x)).res1 5 rfl rfl (jS _ _))))))))
 have LF:=ah (E.leaf 1 rfl rfl) (ah (E.leaf 2 rfl rfl) (ah (E.leaf 4 rfl rfl) (E.leaf 5 rfl rfl)));have LO:=ah (E.at0 (p:=0) (ob:=⟨11,[[iv k.a,iv k.b,.bool k.w.neg,ints k.w.mag,ints k.w.den,.bool k.dx.neg,ints k.dx.mag,ints k.dx.den,.bool k.dy.neg,ints k.dy.mag,ints k.dy.den]]⟩) (by simp)) (ah (E.at0 (p:=1) (ob:=⟨11,[[iv l.a,iv l.b,.bool l.w.neg,ints l.w.mag,ints l.w.den,.bool l.dx.neg,ints l.dx.mag,ints l.dx.den,.bool l.dy.neg,ints l.dy.mag,ints l.dy.den]]⟩) (by simp)) (ah (E.at0 (p:=2) (ob:=⟨11,[[iv 0,iv 0,.bool false,.jL,.jL,.bool false,.jL,.jL,.bool false,.jL,.jL]]⟩) (by simp)) (ah (E.at0 (p:=3) (ob:=⟨3,[[.bool false,.jL,.jL]]⟩) (by simp)) (ah (E.at0 (p:=4) (ob:=⟨3,[[.bool k.w.neg,ints k.w.mag,ints k.w.den]]⟩) (by simp)) (ah (E.at0 (p:=5) (ob:=⟨3,[[.bool l.w.neg,ints l.w.mag,ints l.w.den]]⟩) (by simp)) (ah (E.at0 (p:=6) (ob:=⟨3,[[.bool (ru k l).neg,x1,x2]]⟩) (by simp)) (E.at0 (p:=p10) (ob:=⟨11,[[.int .i64 k.a,.int .i64 k.b,.bool (ru k l).neg,x1,x2,.bool false,.jL,.jL,.bool false,.jL,.jL]]⟩) (by simp))))))));refine zK @R @LF @LO @jT @kM @List.set_set.{0} ?_;refine⟨?_,?_⟩
 ·revert Rr
  refine Q7 _ (fun R=>∀o∈R,o≠p10) 2 10 rfl (fun _=>rfl) ?_ ?_
  ·intro R hR b hb w hw hm;simp only [aH,bV,or_false]at hb;rcases hb with rfl|rfl|rfl|rfl|rfl|rfl|rfl|rfl|rfl|rfl|rfl|rfl|rfl
   all_goals first|(cases hw;done)|(rw [aT.1 hw]at hm;exact hR _ hm rfl)
  have hn0:7≤p10:=hq;generalize p10=m at hn0 ⊢
  revert m
  refine zM _ _ 7 (fun n hn=>?_) (fun n hn=>?_) ?_
  ·simp only [sh];split<;>omega
  ·simp [Z5,sh];try omega
  unfold pz;decide +kernel
 clear hRn Rr
 replace E:=E.EF (p:=p10) (ob:=⟨11,[[.int .i64 k.a,.int .i64 k.b,.bool (ru k l).neg,x1,x2,.bool (Ll k l).neg,x3,x4,.bool false,.jL,.jL]]⟩) (L':=[(0,⟨11,[[iv k.a,iv k.b,.bool k.w.neg,ints k.w.mag,ints k.w.den,.bool k.dx.neg,ints k.dx.mag,ints k.dx.den,.bool k.dy.neg,ints k.dy.mag,ints k.dy.den]]⟩),(1,⟨11,[[iv l.a,iv l.b,.bool l.w.neg,ints l.w.mag,ints l.w.den,.bool l.dx.neg,ints l.dx.mag,ints l.dx.den,.bool l.dy.neg,ints l.dy.mag,ints l.dy.den]]⟩),(2,⟨11,[[iv 0,iv 0,.bool false,.jL,.jL,.bool false,.jL,.jL,.bool false,.jL,.jL]]⟩),(3,⟨3,[[.bool false,.jL,.jL]]⟩),(4,⟨3,[[.bool k.w.neg,ints k.w.mag,ints k.w.den]]⟩),(5,⟨3,[[.bool l.w.neg,ints l.w.mag,ints l.w.den]]⟩),(6,⟨3,[[.bool (ru k l).neg,x1,x2]]⟩),(p10,⟨11,[[.int .i64 k.a,.int .i64 k.b,.bool (ru k l).neg,x1,x2,.bool (Ll k l).neg,x3,x4,.bool false,.jL,.jL]]⟩)]) F (by omega) (by simp;try omega)
 clear R LF LO F;obtain⟨s3,hs⟩:∃s,(q3.set p10 (some ⟨11,[[.int .i64 k.a,.int .i64 k.b,.bool (ru k l).neg,x1,x2,.bool (Ll k l).neg,x3,x4,.bool false,.jL,.jL]]⟩))=s:=⟨_,rfl⟩;have hls:q3.length=s3.length:=by rw [←hs];simp
 simp only [hs]at *;clear hs;simp only [hls]at *;clear hls;have R:=ah (E.res1 1 rfl rfl (jS _ _)) (ah (fun x=>(E.snoc (x:=x)).res1 1 rfl rfl (jS _ _)) (ah (E.res1 2 rfl rfl (jS _ _)) (ah (fun x=>(E.snoc (x:=x)).res1 2 rfl rfl (jS _ _)) (ah (E.res1 4 rfl rfl (jS _ _)) (ah (fun x=>(E.snoc (x:=x)).res1 4 rfl rfl (jS _ _)) (ah (E.res1 5 rfl rfl (jS _ _)) (fun x=>(E.snoc (x:=x)).res1 5 rfl rfl (jS _ _))))))));have LF:=ah (E.leaf 1 rfl rfl) (ah (E.leaf 2 rfl rfl) (ah (E.leaf 4 rfl rfl) (E.leaf 5 rfl rfl)));have LO:=ah (E.at0 (p:=0) (ob:=⟨11,[[iv k.a,iv k.b,.bool k.w.neg,ints k.w.mag,ints k.w.den,.bool k.dx.neg,ints k.dx.mag,ints k.dx.den,.bool k.dy.neg,ints k.dy.mag,ints k.dy.den]]⟩) (by simp)) (ah (E.at0 (p:=1) (ob:=⟨11,[[iv l.a,iv l.b,.bool l.w.neg,ints l.w.mag,ints l.w.den,.bool l.dx.neg,ints l.dx.mag,ints l.dx.den,.bool l.dy.neg,ints l.dy.mag,ints l.dy.den]]⟩) (by simp)) (ah (E.at0 (p:=2) (ob:=⟨11,[[iv 0,iv 0,.bool false,.jL,.jL,.bool false,.jL,.jL,.bool false,.jL,.jL]]⟩) (by simp)) (ah (E.at0 (p:=3) (ob:=⟨3,[[.bool false,.jL,.jL]]⟩) (by simp)) (ah (E.at0 (p:=4) (ob:=⟨3,[[.bool k.w.neg,ints k.w.mag,ints k.w.den]]⟩) (by simp)) (ah (E.at0 (p:=5) (ob:=⟨3,[[.bool l.w.neg,ints l.w.mag,ints l.w.den]]⟩) (by simp)) (ah (E.at0 (p:=6) (ob:=⟨3,[[.bool (ru k l).neg,x1,x2]]⟩) (by simp)) (E.at0 (p:=p10) (ob:=⟨11,[[.int .i64 k.a,.int .i64 k.b,.bool (ru k l).neg,x1,x2,.bool (Ll k l).neg,x3,x4,.bool false,.jL,.jL]]⟩) (by simp))))))))
 have aGy:p10+1≤s3.length:=by omega
 refine jy (yK h.nX k1 k3) ?_;refine zK @R @LF @LO @jT @kM @List.set_set.{0} ?_;refine jy (yK h.nX l1 l3) ?_;refine zK @R @LF @LO @jT @kM @List.set_set.{0} ?_;refine jy (DX h.lC Ut Ut) ?_;refine zK @R @LF @LO @jT @kM @List.set_set.{0} ?_;refine DY (fun o=>o∈(([]++o1)++o3)) (show PO T 156 [kN (pI (mulR k.w k.dy) (mulR l.w l.dy)),kN (ru k l)] (kN (QA k l))from Td h.yM Ut (VZ k l)) (by (refine zK @R @LF @LO @jT @kM @List.set_set.{0} ?_;try with_reducible exact True.intro)) ?_ ?_
 ·intro o ho;have ho:o∈reach s3 FD (kN (pI (mulR k.w k.dy) (mulR l.w l.dy)))++(reach s3 (11+1) (.agg [.bool (ru k l).neg,x1,x2])++[]):=ho;rw [show reach s3 FD (kN (pI (mulR k.w k.dy) (mulR l.w l.dy)))=[]from by (refine ew ?_;try with_reducible exact True.intro),dL,aQ]at ho;obtain⟨c,hc,ho⟩:=Am.1 ho;rcases aH.1 hc with e|hc
  ·rw [e]at ho;simp [reach]at ho
  rcases aH.1 hc with e|hc
  ·rw [e]at ho;exact E.reach 1 rfl rfl _ o ho
  rw [aT.1 hc]at ho;exact E.reach 2 rfl rfl _ o ho
 intro Rr r q5 o5 hRr G;have hO:=G.ow;have gn:=G.nd;have gf:=G.fresh;have go:=G.old;have gl:=G.len;clear G;obtain⟨_,rfl,hQ5⟩:=hO.kV;obtain⟨x5,x6,rfl⟩:=hQ5.rat
 have E2:=E.got (s1:=s3) (fun q hq=>rfl) (aP _) hQ5 gn gf go;have F:p10∉(([]++o1)++o3)++o5:=by
  intro hm;rcases aO.1 hm with hm|hm
  ·exact(E.l (p10,⟨11,[[.int .i64 k.a,.int .i64 k.b,.bool (ru k l).neg,x1,x2,.bool (Ll k l).neg,x3,x4,.bool false,.jL,.jL]]⟩) (by simp)).2 hm
  have:=gf _ hm;omega
 have hq5:p10+1≤q5.length:=by omega
 have hRn:∀o∈Rr,o≠p10:=fun o ho e=>(E.l (p10,⟨11,[[.int .i64 k.a,.int .i64 k.b,.bool (ru k l).neg,x1,x2,.bool (Ll k l).neg,x3,x4,.bool false,.jL,.jL]]⟩) (by simp)).2 (e▸hRr o ho);clear E gn gf go gl hO R LF LO hRr;have E:Ep q5 [.bool (ru k l).neg,x1,x2,.bool (Ll k l).neg,x3,x4,.bool (QA k l).neg,x5,x6] [.bool (ru k l).neg,ints (ru k l).mag,ints (ru k l).den,.bool (Ll k l).neg,ints (Ll k l).mag,ints (Ll k l).den,.bool (QA k l).neg,ints (QA k l).mag,ints (QA k l).den] ((([]++o1)++o3)++o5) [(0,⟨11,[[iv k.a,iv k.b,.bool k.w.neg,ints k.w.mag,ints k.w.den,.bool k.dx.neg,ints k.dx.mag,ints k.dx.den,.bool k.dy.neg,ints k.dy.mag,ints k.dy.den]]⟩),(1,⟨11,[[iv l.a,iv l.b,.bool l.w.neg,ints l.w.mag,ints l.w.den,.bool l.dx.neg,ints l.dx.mag,ints l.dx.den,.bool l.dy.neg,ints l.dy.mag,ints l.dy.den]]⟩),(2,⟨11,[[iv 0,iv 0,.bool false,.jL,.jL,.bool false,.jL,.jL,.bool false,.jL,.jL]]⟩),(3,⟨3,[[.bool false,.jL,.jL]]⟩),(4,⟨3,[[.bool k.w.neg,ints k.w.mag,ints k.w.den]]⟩),(5,⟨3,[[.bool l.w.neg,ints l.w.mag,ints l.w.den]]⟩),(6,⟨3,[[.bool (ru k l).neg,x1,x2]]⟩),(p10,⟨11,[[.int .i64 k.a,.int .i64 k.b,.bool (ru k l).neg,x1,x2,.bool (Ll k l).neg,x3,x4,.bool false,.jL,.jL]]⟩)]:=E2;clear E2
 have R:=ah (E.res1 1 rfl rfl (jS _ _)) (ah (fun x=>(E.snoc (x:=x)).res1 1 rfl rfl (jS _ _)) (ah (E.res1 2 rfl rfl (jS _ _)) (ah (fun x=>(E.snoc (x:=x)).res1 2 rfl rfl (jS _ _)) (ah (E.res1 4 rfl rfl (jS _ _)) (ah (fun x=>(E.snoc (x:=x)).res1 4 rfl rfl (jS _ _)) (ah (E.res1 5 rfl rfl (jS _ _)) (ah (fun x=>(E.snoc (x:=x)).res1 5 rfl rfl (jS _ _)) (ah (E.res1 7 rfl rfl (jS _ _)) (ah (fun x=>(E.snoc (x:=x)).res1 7 rfl rfl (jS _ _)) (ah (E.res1 8 rfl rfl (jS _ _)) (fun x=>(E.snoc (x:=x)).res1 8 rfl rfl (jS _ _))))))))))));have LF:=ah (E.leaf 1 rfl rfl) (ah (E.leaf 2 rfl rfl) (ah (E.leaf 4 rfl rfl) (ah (E.leaf 5 rfl rfl) (ah (E.leaf 7 rfl rfl) (E.leaf 8 rfl rfl)))))
 have LO:=ah (E.at0 (p:=0) (ob:=⟨11,[[iv k.a,iv k.b,.bool k.w.neg,ints k.w.mag,ints k.w.den,.bool k.dx.neg,ints k.dx.mag,ints k.dx.den,.bool k.dy.neg,ints k.dy.mag,ints k.dy.den]]⟩) (by simp)) (ah (E.at0 (p:=1) (ob:=⟨11,[[iv l.a,iv l.b,.bool l.w.neg,ints l.w.mag,ints l.w.den,.bool l.dx.neg,ints l.dx.mag,ints l.dx.den,.bool l.dy.neg,ints l.dy.mag,ints l.dy.den]]⟩) (by simp)) (ah (E.at0 (p:=2) (ob:=⟨11,[[iv 0,iv 0,.bool false,.jL,.jL,.bool false,.jL,.jL,.bool false,.jL,.jL]]⟩) (by simp)) (ah (E.at0 (p:=3) (ob:=⟨3,[[.bool false,.jL,.jL]]⟩) (by simp)) (ah (E.at0 (p:=4) (ob:=⟨3,[[.bool k.w.neg,ints k.w.mag,ints k.w.den]]⟩) (by simp)) (ah (E.at0 (p:=5) (ob:=⟨3,[[.bool l.w.neg,ints l.w.mag,ints l.w.den]]⟩) (by simp)) (ah (E.at0 (p:=6) (ob:=⟨3,[[.bool (ru k l).neg,x1,x2]]⟩) (by simp)) (E.at0 (p:=p10) (ob:=⟨11,[[.int .i64 k.a,.int .i64 k.b,.bool (ru k l).neg,x1,x2,.bool (Ll k l).neg,x3,x4,.bool false,.jL,.jL]]⟩) (by simp))))))));refine zK @R @LF @LO @jT @kM @List.set_set.{0} ?_;refine⟨?_,?_⟩
 ·revert Rr
  refine Q7 _ (fun R=>∀o∈R,o≠p10) 2 10 rfl (fun _=>rfl) ?_ ?_
  ·intro R hR b hb w hw hm;simp only [aH,bV,or_false]at hb;rcases hb with rfl|rfl|rfl|rfl|rfl|rfl|rfl|rfl|rfl|rfl|rfl|rfl|rfl
   all_goals first|(cases hw;done)|(rw [aT.1 hw]at hm;exact hR _ hm rfl)
  refine uS (L':=p10+1) (by omega) ?_;have hn0:7≤p10:=hq;generalize p10=m at hn0 ⊢
  revert m
  refine zM _ _ 7 (fun n hn=>?_) (fun n hn=>?_) ?_
  ·simp only [sh];split<;>omega
  ·simp [Z5,sh];try omega
  unfold pz;decide +kernel
 clear hRn Rr
 replace E:=E.EF (p:=p10) (ob:=⟨11,[[.int .i64 k.a,.int .i64 k.b,.bool (ru k l).neg,x1,x2,.bool (Ll k l).neg,x3,x4,.bool (QA k l).neg,x5,x6]]⟩) (L':=[(0,⟨11,[[iv k.a,iv k.b,.bool k.w.neg,ints k.w.mag,ints k.w.den,.bool k.dx.neg,ints k.dx.mag,ints k.dx.den,.bool k.dy.neg,ints k.dy.mag,ints k.dy.den]]⟩),(1,⟨11,[[iv l.a,iv l.b,.bool l.w.neg,ints l.w.mag,ints l.w.den,.bool l.dx.neg,ints l.dx.mag,ints l.dx.den,.bool l.dy.neg,ints l.dy.mag,ints l.dy.den]]⟩),(2,⟨11,[[iv 0,iv 0,.bool false,.jL,.jL,.bool false,.jL,.jL,.bool false,.jL,.jL]]⟩),(3,⟨3,[[.bool false,.jL,.jL]]⟩),(4,⟨3,[[.bool k.w.neg,ints k.w.mag,ints k.w.den]]⟩),(5,⟨3,[[.bool l.w.neg,ints l.w.mag,ints l.w.den]]⟩),(6,⟨3,[[.bool (ru k l).neg,x1,x2]]⟩),(p10,⟨11,[[.int .i64 k.a,.int .i64 k.b,.bool (ru k l).neg,x1,x2,.bool (Ll k l).neg,x3,x4,.bool (QA k l).neg,x5,x6]]⟩)]) F (by omega) (by simp;try omega)
 clear R LF LO F;obtain⟨s5,hs⟩:∃s,(q5.set p10 (some ⟨11,[[.int .i64 k.a,.int .i64 k.b,.bool (ru k l).neg,x1,x2,.bool (Ll k l).neg,x3,x4,.bool (QA k l).neg,x5,x6]]⟩))=s:=⟨_,rfl⟩;have hls:q5.length=s5.length:=by rw [←hs];simp
 simp only [hs]at *;clear hs;simp only [hls]at *;clear hls;have R:=ah (E.res1 1 rfl rfl (jS _ _)) (ah (fun x=>(E.snoc (x:=x)).res1 1 rfl rfl (jS _ _)) (ah (E.res1 2 rfl rfl (jS _ _)) (ah (fun x=>(E.snoc (x:=x)).res1 2 rfl rfl (jS _ _)) (ah (E.res1 4 rfl rfl (jS _ _)) (ah (fun x=>(E.snoc (x:=x)).res1 4 rfl rfl (jS _ _)) (ah (E.res1 5 rfl rfl (jS _ _)) (ah (fun x=>(E.snoc (x:=x)).res1 5 rfl rfl (jS _ _)) (ah (E.res1 7 rfl rfl (jS _ _)) (ah (fun x=>(E.snoc (x:=x)).res1 7 rfl rfl (jS _ _)) (ah (E.res1 8 rfl rfl (jS _ _)) (fun x=>(E.snoc (x:=x)).res1 8 rfl rfl (jS _ _))))))))))));have LF:=ah (E.leaf 1 rfl rfl) (ah (E.leaf 2 rfl rfl) (ah (E.leaf 4 rfl rfl) (ah (E.leaf 5 rfl rfl) (ah (E.leaf 7 rfl rfl) (E.leaf 8 rfl rfl)))))
 have LO:=ah (E.at0 (p:=0) (ob:=⟨11,[[iv k.a,iv k.b,.bool k.w.neg,ints k.w.mag,ints k.w.den,.bool k.dx.neg,ints k.dx.mag,ints k.dx.den,.bool k.dy.neg,ints k.dy.mag,ints k.dy.den]]⟩) (by simp)) (ah (E.at0 (p:=1) (ob:=⟨11,[[iv l.a,iv l.b,.bool l.w.neg,ints l.w.mag,ints l.w.den,.bool l.dx.neg,ints l.dx.mag,ints l.dx.den,.bool l.dy.neg,ints l.dy.mag,ints l.dy.den]]⟩) (by simp)) (ah (E.at0 (p:=2) (ob:=⟨11,[[iv 0,iv 0,.bool false,.jL,.jL,.bool false,.jL,.jL,.bool false,.jL,.jL]]⟩) (by simp)) (ah (E.at0 (p:=3) (ob:=⟨3,[[.bool false,.jL,.jL]]⟩) (by simp)) (ah (E.at0 (p:=4) (ob:=⟨3,[[.bool k.w.neg,ints k.w.mag,ints k.w.den]]⟩) (by simp)) (ah (E.at0 (p:=5) (ob:=⟨3,[[.bool l.w.neg,ints l.w.mag,ints l.w.den]]⟩) (by simp)) (ah (E.at0 (p:=6) (ob:=⟨3,[[.bool (ru k l).neg,x1,x2]]⟩) (by simp)) (E.at0 (p:=p10) (ob:=⟨11,[[.int .i64 k.a,.int .i64 k.b,.bool (ru k l).neg,x1,x2,.bool (Ll k l).neg,x3,x4,.bool (QA k l).neg,x5,x6]]⟩) (by simp))))))));have aGz:p10+1≤s5.length:=by omega
 refine jy (yK h.nX k1 l1) ?_;refine zK @R @LF @LO @jT @kM @List.set_set.{0} ?_;refine DY (fun o=>o∈((([]++o1)++o3)++o5)) (show PO T 156 [kN (mulR k.w l.w),kN (ru k l)] (kN (DC (mulR k.w l.w) (ru k l)))from Td h.yM Ut (VZ k l)) (by (refine zK @R @LF @LO @jT @kM @List.set_set.{0} ?_;try with_reducible exact True.intro)) ?_ ?_
 ·intro o ho;have ho:o∈reach (s5++[none]) FD (kN (mulR k.w l.w))++(reach (s5++[none]) (11+1) (.agg [.bool (ru k l).neg,x1,x2])++[]):=ho;rw [show reach (s5++[none]) FD (kN (mulR k.w l.w))=[]from by (refine ew ?_;try with_reducible exact True.intro),dL,aQ]at ho;obtain⟨c,hc,ho⟩:=Am.1 ho;rcases aH.1 hc with e|hc
  ·rw [e]at ho;simp [reach]at ho
  rcases aH.1 hc with e|hc
  ·rw [e]at ho;exact E.snoc.reach 1 rfl rfl _ o ho
  rw [aT.1 hc]at ho;exact E.snoc.reach 2 rfl rfl _ o ho
 intro Ra r q7 o7 hRa G;have hO:=G.ow;have gn:=G.nd;have gf:=G.fresh;have go:=G.old;have gl:=G.len;clear G;obtain⟨_,rfl,hQ7⟩:=hO.kV;obtain⟨x7,x8,rfl⟩:=hQ7.rat
 have E2:=E.got (s1:=s5++[none]) (fun q hq=>lQ hq) (by simp) hQ7 gn gf go;have F:s5.length∉((([]++o1)++o3)++o5)++o7:=by
  intro hm;rcases aO.1 hm with hm|hm
  ·exact absurd (E.c.lt _ hm) (jZ _)
  have:=gf _ hm;simp at this;omega
 have hq7:s5.length+1≤q7.length:=by simpa using gl
 have aDo:∀o∈Ra,o≠s5.length:=fun o ho e=>absurd (E.c.lt _ (e▸hRa o ho)) (jZ _);have EL:=E.lt;clear E gn gf go gl hO R LF LO hRa;have E:Ep q7 [.bool (ru k l).neg,x1,x2,.bool (Ll k l).neg,x3,x4,.bool (QA k l).neg,x5,x6,.bool (DC (mulR k.w l.w) (ru k l)).neg,x7,x8] [.bool (ru k l).neg,ints (ru k l).mag,ints (ru k l).den,.bool (Ll k l).neg,ints (Ll k l).mag,ints (Ll k l).den,.bool (QA k l).neg,ints (QA k l).mag,ints (QA k l).den,.bool (DC (mulR k.w l.w) (ru k l)).neg,ints (DC (mulR k.w l.w) (ru k l)).mag,ints (DC (mulR k.w l.w) (ru k l)).den] (((([]++o1)++o3)++o5)++o7) [(0,⟨11,[[iv k.a,iv k.b,.bool k.w.neg,ints k.w.mag,ints k.w.den,.bool k.dx.neg,ints k.dx.mag,ints k.dx.den,.bool k.dy.neg,ints k.dy.mag,ints k.dy.den]]⟩),(1,⟨11,[[iv l.a,iv l.b,.bool l.w.neg,ints l.w.mag,ints l.w.den,.bool l.dx.neg,ints l.dx.mag,ints l.dx.den,.bool l.dy.neg,ints l.dy.mag,ints l.dy.den]]⟩),(2,⟨11,[[iv 0,iv 0,.bool false,.jL,.jL,.bool false,.jL,.jL,.bool false,.jL,.jL]]⟩),(3,⟨3,[[.bool false,.jL,.jL]]⟩),(4,⟨3,[[.bool k.w.neg,ints k.w.mag,ints k.w.den]]⟩),(5,⟨3,[[.bool l.w.neg,ints l.w.mag,ints l.w.den]]⟩),(6,⟨3,[[.bool (ru k l).neg,x1,x2]]⟩),(p10,⟨11,[[.int .i64 k.a,.int .i64 k.b,.bool (ru k l).neg,x1,x2,.bool (Ll k l).neg,x3,x4,.bool (QA k l).neg,x5,x6]]⟩)]:=E2;clear E2
 have R:=ah (E.res1 1 rfl rfl (jS _ _)) (ah (fun x=>(E.snoc (x:=x)).res1 1 rfl rfl (jS _ _)) (ah (E.res1 2 rfl rfl (jS _ _)) (ah (fun x=>(E.snoc (x:=x)).res1 2 rfl rfl (jS _ _)) (ah (E.res1 4 rfl rfl (jS _ _)) (ah (fun x=>(E.snoc (x:=x)).res1 4 rfl rfl (jS _ _)) (ah (E.res1 5 rfl rfl (jS _ _)) (ah (fun x=>(E.snoc (x:=x)).res1 5 rfl rfl (jS _ _)) (ah (E.res1 7 rfl rfl (jS _ _)) (ah (fun x=>(E.snoc (x:=x)).res1 7 rfl rfl (jS _ _)) (ah (E.res1 8 rfl rfl (jS _ _)) (ah (fun x=>(E.snoc (x:=x)).res1 8 rfl rfl (jS _ _)) (ah (E.res1 10 rfl rfl (jS _ _)) (ah (fun x=>(E.snoc (x:=x)).res1 10 rfl rfl (jS _ _)) (ah (E.res1 11 rfl rfl (jS _ _)) (fun x=>(E.snoc (x:=x)).res1 11 rfl rfl (jS _ _))))))))))))))));have LF:=ah (E.leaf 1 rfl rfl) (ah (E.leaf 2 rfl rfl) (ah (E.leaf 4 rfl rfl) (ah (E.leaf 5 rfl rfl) (ah (E.leaf 7 rfl rfl) (ah (E.leaf 8 rfl rfl) (ah (E.leaf 10 rfl rfl) (E.leaf 11 rfl rfl)))))))
 have LO:=ah (E.at0 (p:=0) (ob:=⟨11,[[iv k.a,iv k.b,.bool k.w.neg,ints k.w.mag,ints k.w.den,.bool k.dx.neg,ints k.dx.mag,ints k.dx.den,.bool k.dy.neg,ints k.dy.mag,ints k.dy.den]]⟩) (by simp)) (ah (E.at0 (p:=1) (ob:=⟨11,[[iv l.a,iv l.b,.bool l.w.neg,ints l.w.mag,ints l.w.den,.bool l.dx.neg,ints l.dx.mag,ints l.dx.den,.bool l.dy.neg,ints l.dy.mag,ints l.dy.den]]⟩) (by simp)) (ah (E.at0 (p:=2) (ob:=⟨11,[[iv 0,iv 0,.bool false,.jL,.jL,.bool false,.jL,.jL,.bool false,.jL,.jL]]⟩) (by simp)) (ah (E.at0 (p:=3) (ob:=⟨3,[[.bool false,.jL,.jL]]⟩) (by simp)) (ah (E.at0 (p:=4) (ob:=⟨3,[[.bool k.w.neg,ints k.w.mag,ints k.w.den]]⟩) (by simp)) (ah (E.at0 (p:=5) (ob:=⟨3,[[.bool l.w.neg,ints l.w.mag,ints l.w.den]]⟩) (by simp)) (ah (E.at0 (p:=6) (ob:=⟨3,[[.bool (ru k l).neg,x1,x2]]⟩) (by simp)) (E.at0 (p:=p10) (ob:=⟨11,[[.int .i64 k.a,.int .i64 k.b,.bool (ru k l).neg,x1,x2,.bool (Ll k l).neg,x3,x4,.bool (QA k l).neg,x5,x6]]⟩) (by simp))))))));refine zK @R @LF @LO @jT @kM @List.set_set.{0} ?_;refine jy (Q5 h.BU k2 l2) ?_;refine zK @R @LF @LO @jT @kM @List.set_set.{0} ?_;refine jy (Q5 h.BU k3 l3) ?_;refine zK @R @LF @LO @jT @kM @List.set_set.{0} ?_;refine jy (Za h.Rq Ut Ut) ?_;refine zK @R @LF @LO @jT @kM @List.set_set.{0} ?_
 refine DY (fun o=>o∈(((([]++o1)++o3)++o5)++o7)) (show PO T 157 [kN (DC (mulR k.w l.w) (ru k l)),kN (sqR (NZ k.dx l.dx) (NZ k.dy l.dy))] (kN (UK k l))from agZ h.nX Ut (amR _ _)) (by (refine zK @R @LF @LO @jT @kM @List.set_set.{0} ?_;try with_reducible exact True.intro)) ?_ ?_
 ·intro o ho;have ho:o∈reach q7 (11+1) (.agg [.bool (DC (mulR k.w l.w) (ru k l)).neg,x7,x8])++(reach q7 FD (kN (sqR (NZ k.dx l.dx) (NZ k.dy l.dy)))++[]):=ho;rw [show reach q7 FD (kN (sqR (NZ k.dx l.dx) (NZ k.dy l.dy)))=[]from by (refine ew ?_;try with_reducible exact True.intro),aQ,aQ]at ho;obtain⟨c,hc,ho⟩:=Am.1 ho;rcases aH.1 hc with e|hc
  ·rw [e]at ho;simp [reach]at ho
  rcases aH.1 hc with e|hc
  ·rw [e]at ho;exact E.reach 10 rfl rfl _ o ho
  rw [aT.1 hc]at ho;exact E.reach 11 rfl rfl _ o ho
 intro Rb r q9 o9 hRb G;have hO:=G.ow;have gn:=G.nd;have gf:=G.fresh;have go:=G.old;have gl:=G.len;clear G;obtain⟨_,rfl,hQ9⟩:=hO.kV;obtain⟨x9,x10,rfl⟩:=hQ9.rat
 have E2:=E.got (s1:=q7) (fun q hq=>rfl) (aP _) hQ9 gn gf go;have F9:s5.length∉(((([]++o1)++o3)++o5)++o7)++o9:=by
  intro hm;rcases aO.1 hm with hm|hm
  ·exact F hm
  have:=gf _ hm;omega
 have hq9:s5.length+1≤q9.length:=by omega
 have aDp:∀o∈Rb,o≠s5.length:=fun o ho e=>F (e▸hRb o ho);clear E F gn gf go gl hO R LF LO hRb;have E:Ep q9 [.bool (ru k l).neg,x1,x2,.bool (Ll k l).neg,x3,x4,.bool (QA k l).neg,x5,x6,.bool (DC (mulR k.w l.w) (ru k l)).neg,x7,x8,.bool (UK k l).neg,x9,x10] [.bool (ru k l).neg,ints (ru k l).mag,ints (ru k l).den,.bool (Ll k l).neg,ints (Ll k l).mag,ints (Ll k l).den,.bool (QA k l).neg,ints (QA k l).mag,ints (QA k l).den,.bool (DC (mulR k.w l.w) (ru k l)).neg,ints (DC (mulR k.w l.w) (ru k l)).mag,ints (DC (mulR k.w l.w) (ru k l)).den,.bool (UK k l).neg,ints (UK k l).mag,ints (UK k l).den] ((((([]++o1)++o3)++o5)++o7)++o9) [(0,⟨11,[[iv k.a,iv k.b,.bool k.w.neg,ints k.w.mag,ints k.w.den,.bool k.dx.neg,ints k.dx.mag,ints k.dx.den,.bool k.dy.neg,ints k.dy.mag,ints k.dy.den]]⟩),(1,⟨11,[[iv l.a,iv l.b,.bool l.w.neg,ints l.w.mag,ints l.w.den,.bool l.dx.neg,ints l.dx.mag,ints l.dx.den,.bool l.dy.neg,ints l.dy.mag,ints l.dy.den]]⟩),(2,⟨11,[[iv 0,iv 0,.bool false,.jL,.jL,.bool false,.jL,.jL,.bool false,.jL,.jL]]⟩),(3,⟨3,[[.bool false,.jL,.jL]]⟩),(4,⟨3,[[.bool k.w.neg,ints k.w.mag,ints k.w.den]]⟩),(5,⟨3,[[.bool l.w.neg,ints l.w.mag,ints l.w.den]]⟩),(6,⟨3,[[.bool (ru k l).neg,x1,x2]]⟩),(p10,⟨11,[[.int .i64 k.a,.int .i64 k.b,.bool (ru k l).neg,x1,x2,.bool (Ll k l).neg,x3,x4,.bool (QA k l).neg,x5,x6]]⟩)]:=E2;clear E2
 have R:=ah (E.res1 1 rfl rfl (jS _ _)) (ah (fun x=>(E.snoc (x:=x)).res1 1 rfl rfl (jS _ _)) (ah (E.res1 2 rfl rfl (jS _ _)) (ah (fun x=>(E.snoc (x:=x)).res1 2 rfl rfl (jS _ _)) (ah (E.res1 4 rfl rfl (jS _ _)) (ah (fun x=>(E.snoc (x:=x)).res1 4 rfl rfl (jS _ _)) (ah (E.res1 5 rfl rfl (jS _ _)) (ah (fun x=>(E.snoc (x:=x)).res1 5 rfl rfl (jS _ _)) (ah (E.res1 7 rfl rfl (jS _ _)) (ah (fun x=>(E.snoc (x:=x)).res1 7 rfl rfl (jS _ _)) (ah (E.res1 8 rfl rfl (jS _ _)) (ah (fun x=>(E.snoc (x:=x)).res1 8 rfl rfl (jS _ _)) (ah (E.res1 10 rfl rfl (jS _ _)) (ah (fun x=>(E.snoc (x:=x)).res1 10 rfl rfl (jS _ _)) (ah (E.res1 11 rfl rfl (jS _ _)) (ah (fun x=>(E.snoc (x:=x)).res1 11 rfl rfl (jS _ _)) (ah (E.res1 13 rfl rfl (jS _ _)) (ah (fun x=>(E.snoc (x:=x)).res1 13 rfl rfl (jS _ _)) (ah (E.res1 14 rfl rfl (jS _ _)) (fun x=>(E.snoc (x:=x)).res1 14 rfl rfl (jS _ _))))))))))))))))))));have LF:=ah (E.leaf 1 rfl rfl) (ah (E.leaf 2 rfl rfl) (ah (E.leaf 4 rfl rfl) (ah (E.leaf 5 rfl rfl) (ah (E.leaf 7 rfl rfl) (ah (E.leaf 8 rfl rfl) (ah (E.leaf 10 rfl rfl) (ah (E.leaf 11 rfl rfl) (ah (E.leaf 13 rfl rfl) (E.leaf 14 rfl rfl)))))))))
 have LO:=ah (E.at0 (p:=0) (ob:=⟨11,[[iv k.a,iv k.b,.bool k.w.neg,ints k.w.mag,ints k.w.den,.bool k.dx.neg,ints k.dx.mag,ints k.dx.den,.bool k.dy.neg,ints k.dy.mag,ints k.dy.den]]⟩) (by simp)) (ah (E.at0 (p:=1) (ob:=⟨11,[[iv l.a,iv l.b,.bool l.w.neg,ints l.w.mag,ints l.w.den,.bool l.dx.neg,ints l.dx.mag,ints l.dx.den,.bool l.dy.neg,ints l.dy.mag,ints l.dy.den]]⟩) (by simp)) (ah (E.at0 (p:=2) (ob:=⟨11,[[iv 0,iv 0,.bool false,.jL,.jL,.bool false,.jL,.jL,.bool false,.jL,.jL]]⟩) (by simp)) (ah (E.at0 (p:=3) (ob:=⟨3,[[.bool false,.jL,.jL]]⟩) (by simp)) (ah (E.at0 (p:=4) (ob:=⟨3,[[.bool k.w.neg,ints k.w.mag,ints k.w.den]]⟩) (by simp)) (ah (E.at0 (p:=5) (ob:=⟨3,[[.bool l.w.neg,ints l.w.mag,ints l.w.den]]⟩) (by simp)) (ah (E.at0 (p:=6) (ob:=⟨3,[[.bool (ru k l).neg,x1,x2]]⟩) (by simp)) (E.at0 (p:=p10) (ob:=⟨11,[[.int .i64 k.a,.int .i64 k.b,.bool (ru k l).neg,x1,x2,.bool (Ll k l).neg,x3,x4,.bool (QA k l).neg,x5,x6]]⟩) (by simp))))))));refine zK @R @LF @LO @jT @kM @List.set_set.{0} ?_;refine⟨?_,?_⟩
 ·revert Rb
  refine Q7 _ (fun R=>∀o∈R,o≠s5.length) 2 16 rfl (fun _=>rfl) ?_ ?_
  ·intro R hR b hb w hw hm;simp only [aH,bV,or_false]at hb;rcases hb with rfl|rfl|rfl|rfl|rfl|rfl|rfl|rfl|rfl|rfl|rfl|rfl|rfl|rfl|rfl|rfl|rfl|rfl|rfl
   all_goals first|(cases hw;done)|(rw [aT.1 hw]at hm;exact hR _ hm rfl)
  revert Ra
  refine Q7 _ (fun R=>∀o∈R,o≠s5.length) 14 4 rfl (fun _=>rfl) ?_ ?_
  ·intro R hR b hb w hw hm;simp only [aH,bV,or_false]at hb;rcases hb with rfl|rfl|rfl|rfl|rfl|rfl|rfl|rfl|rfl|rfl|rfl|rfl|rfl|rfl|rfl|rfl|rfl|rfl|rfl
   all_goals first|(cases hw;done)|(rw [aT.1 hw]at hm;exact hR _ hm rfl)
  have hn0:7≤s5.length:=by omega
  clear EL E hls;generalize s5.length=m at hn0 ⊢
  revert m
  refine zM _ _ 7 (fun n hn=>?_) (fun n hn=>?_) ?_
  ·simp only [sh];split<;>omega
  ·simp [Z5,sh];try omega
  unfold pz;decide +kernel
 clear aDo aDp Ra Rb
 replace E:=E.EF (p:=s5.length) (ob:=⟨3,[[.bool (UK k l).neg,x9,x10]]⟩) (L':=[(0,⟨11,[[iv k.a,iv k.b,.bool k.w.neg,ints k.w.mag,ints k.w.den,.bool k.dx.neg,ints k.dx.mag,ints k.dx.den,.bool k.dy.neg,ints k.dy.mag,ints k.dy.den]]⟩),(1,⟨11,[[iv l.a,iv l.b,.bool l.w.neg,ints l.w.mag,ints l.w.den,.bool l.dx.neg,ints l.dx.mag,ints l.dx.den,.bool l.dy.neg,ints l.dy.mag,ints l.dy.den]]⟩),(2,⟨11,[[iv 0,iv 0,.bool false,.jL,.jL,.bool false,.jL,.jL,.bool false,.jL,.jL]]⟩),(3,⟨3,[[.bool false,.jL,.jL]]⟩),(4,⟨3,[[.bool k.w.neg,ints k.w.mag,ints k.w.den]]⟩),(5,⟨3,[[.bool l.w.neg,ints l.w.mag,ints l.w.den]]⟩),(6,⟨3,[[.bool (ru k l).neg,x1,x2]]⟩),(p10,⟨11,[[.int .i64 k.a,.int .i64 k.b,.bool (ru k l).neg,x1,x2,.bool (Ll k l).neg,x3,x4,.bool (QA k l).neg,x5,x6]]⟩),(s5.length,⟨3,[[.bool (UK k l).neg,x9,x10]]⟩)]) F9 (by omega) (by simp;try omega)
 clear R LF LO F9 EL;obtain⟨p11,ayn⟩:∃p,s5.length=p:=⟨_,rfl⟩;simp only [ayn]at *;clear ayn;obtain⟨s11,hs⟩:∃s,(q9.set p11 (some ⟨3,[[.bool (UK k l).neg,x9,x10]]⟩))=s:=⟨_,rfl⟩;have hls:q9.length=s11.length:=by rw [←hs];simp
 simp only [hs]at *;clear hs;simp only [hls]at *;clear hls;have R:=ah (E.res1 1 rfl rfl (jS _ _)) (ah (fun x=>(E.snoc (x:=x)).res1 1 rfl rfl (jS _ _)) (ah (E.res1 2 rfl rfl (jS _ _)) (ah (fun x=>(E.snoc (x:=x)).res1 2 rfl rfl (jS _ _)) (ah (E.res1 4 rfl rfl (jS _ _)) (ah (fun x=>(E.snoc (x:=x)).res1 4 rfl rfl (jS _ _)) (ah (E.res1 5 rfl rfl (jS _ _)) (ah (fun x=>(E.snoc (x:=x)).res1 5 rfl rfl (jS _ _)) (ah (E.res1 7 rfl rfl (jS _ _)) (ah (fun x=>(E.snoc (x:=x)).res1 7 rfl rfl (jS _ _)) (ah (E.res1 8 rfl rfl (jS _ _)) (ah (fun x=>(E.snoc (x:=x)).res1 8 rfl rfl (jS _ _)) (ah (E.res1 10 rfl rfl (jS _ _)) (ah (fun x=>(E.snoc (x:=x)).res1 10 rfl rfl (jS _ _)) (ah (E.res1 11 rfl rfl (jS _ _)) (ah (fun x=>(E.snoc (x:=x)).res1 11 rfl rfl (jS _ _)) (ah (E.res1 13 rfl rfl (jS _ _)) (ah (fun x=>(E.snoc (x:=x)).res1 13 rfl rfl (jS _ _)) (ah (E.res1 14 rfl rfl (jS _ _)) (fun x=>(E.snoc (x:=x)).res1 14 rfl rfl (jS _ _))))))))))))))))))));have LF:=ah (E.leaf 1 rfl rfl) (ah (E.leaf 2 rfl rfl) (ah (E.leaf 4 rfl rfl) (ah (E.leaf 5 rfl rfl) (ah (E.leaf 7 rfl rfl) (ah (E.leaf 8 rfl rfl) (ah (E.leaf 10 rfl rfl) (ah (E.leaf 11 rfl rfl) (ah (E.leaf 13 rfl rfl) (E.leaf 14 rfl rfl)))))))))
 have LO:=ah (E.at0 (p:=0) (ob:=⟨11,[[iv k.a,iv k.b,.bool k.w.neg,ints k.w.mag,ints k.w.den,.bool k.dx.neg,ints k.dx.mag,ints k.dx.den,.bool k.dy.neg,ints k.dy.mag,ints k.dy.den]]⟩) (by simp)) (ah (E.at0 (p:=1) (ob:=⟨11,[[iv l.a,iv l.b,.bool l.w.neg,ints l.w.mag,ints l.w.den,.bool l.dx.neg,ints l.dx.mag,ints l.dx.den,.bool l.dy.neg,ints l.dy.mag,ints l.dy.den]]⟩) (by simp)) (ah (E.at0 (p:=2) (ob:=⟨11,[[iv 0,iv 0,.bool false,.jL,.jL,.bool false,.jL,.jL,.bool false,.jL,.jL]]⟩) (by simp)) (ah (E.at0 (p:=3) (ob:=⟨3,[[.bool false,.jL,.jL]]⟩) (by simp)) (ah (E.at0 (p:=4) (ob:=⟨3,[[.bool k.w.neg,ints k.w.mag,ints k.w.den]]⟩) (by simp)) (ah (E.at0 (p:=5) (ob:=⟨3,[[.bool l.w.neg,ints l.w.mag,ints l.w.den]]⟩) (by simp)) (ah (E.at0 (p:=6) (ob:=⟨3,[[.bool (ru k l).neg,x1,x2]]⟩) (by simp)) (ah (E.at0 (p:=p10) (ob:=⟨11,[[.int .i64 k.a,.int .i64 k.b,.bool (ru k l).neg,x1,x2,.bool (Ll k l).neg,x3,x4,.bool (QA k l).neg,x5,x6]]⟩) (by simp)) (E.at0 (p:=p11) (ob:=⟨3,[[.bool (UK k l).neg,x9,x10]]⟩) (by simp)))))))));have gW:=J3 h.kL (VZ k l)
 cases hbW:(ru k l).ok
 ·rw [hbW]at gW;refine zK @R @LF @LO @jT @kM @List.set_set.{0} ?_;refine jy gW ?_;refine zK @R @LF @LO @jT @kM @List.set_set.{0} ?_;have hG:UL k l=false:=by unfold UL;rw [hbW];simp
  rw [hG];exact XT
 rw [hbW]at gW;refine zK @R @LF @LO @jT @kM @List.set_set.{0} ?_;refine jy gW ?_;refine zK @R @LF @LO @jT @kM @List.set_set.{0} ?_;have gX:=J3 h.kL (ahg k l)
 cases hbX:(Ll k l).ok
 ·rw [hbX]at gX
  skip
  refine jy gX ?_;refine zK @R @LF @LO @jT @kM @List.set_set.{0} ?_;have hG:UL k l=false:=by unfold UL;rw [hbX];simp
  rw [hG];exact XT
 rw [hbX]at gX
 skip
 refine jy gX ?_;refine zK @R @LF @LO @jT @kM @List.set_set.{0} ?_;have gY:=J3 h.kL (ahh k l)
 cases hbY:(QA k l).ok
 ·rw [hbY]at gY
  skip
  refine jy gY ?_;refine zK @R @LF @LO @jT @kM @List.set_set.{0} ?_;have hG:UL k l=false:=by unfold UL;rw [hbY];simp
  rw [hG];exact XT
 rw [hbY]at gY
 skip
 refine jy gY ?_;refine zK @R @LF @LO @jT @kM @List.set_set.{0} ?_;have gE:=J3 h.kL (ahi k l)
 cases hbE:(UK k l).ok
 ·rw [hbE]at gE
  skip
  refine jy gE ?_;refine zK @R @LF @LO @jT @kM @List.set_set.{0} ?_;have hG:UL k l=false:=by unfold UL;rw [hbE];simp
  rw [hG];exact XT
 rw [hbE]at gE
 skip
 refine jy gE ?_;refine zK @R @LF @LO @jT @kM @List.set_set.{0} ?_;have hG:UL k l=true:=by unfold UL;rw [hbW,hbX,hbY,hbE];rfl
 rw [hG];refine⟨?_,?_⟩
 ·refine uS (L':=p11+1) (by omega) ?_;have hn0:7≤p10:=by omega
  have hn1:p10+1≤p11:=by omega
  clear E R LF LO;obtain⟨d,hd⟩:∃d,p11=p10+(d+1):=⟨p11-p10-1,by omega⟩;rw [hd];clear hd hn1;generalize p10=m at hn0 ⊢
  revert m
  refine zM _ _ 7 (fun n hn=>?_) (fun n hn=>?_) ?_
  ·simp only [sh];split<;>omega
  ·simp [Z5,sh];rw [if_neg (by omega)];omega
  have hn2:8≤7+(d+1):=by omega
  generalize 7+(d+1)=m at hn2 ⊢
  revert m
  refine zM _ _ 8 (fun n hn=>?_) (fun n hn=>?_) ?_
  ·simp only [sh];split<;>omega
  ·simp [Z5,sh];try omega
  unfold pz;decide +kernel
 rw [if_pos rfl,if_pos rfl];have n2:=(E.l (2,⟨11,[[iv 0,iv 0,.bool false,.jL,.jL,.bool false,.jL,.jL,.bool false,.jL,.jL]]⟩) (by simp)).2;have n3:=(E.l (3,⟨3,[[.bool false,.jL,.jL]]⟩) (by simp)).2;have E3:=(E.c.set (o:=2) (x:=some ⟨11,[[.int .i64 k.a,.int .i64 k.b,.bool (ru k l).neg,x1,x2,.bool (Ll k l).neg,x3,x4,.bool (QA k l).neg,x5,x6]]⟩) n2).set (o:=3) (x:=some ⟨3,[[.bool (UK k l).neg,x9,x10]]⟩) n3;exact aum (c9:=[.bool (ru k l).neg,x1,x2,.bool (Ll k l).neg,x3,x4,.bool (QA k l).neg,x5,x6]) (d3:=[.bool (DC (mulR k.w l.w) (ru k l)).neg,x7,x8]) (e3:=[.bool (UK k l).neg,x9,x10]) (t9:=[.bool (ru k l).neg,ints (ru k l).mag,ints (ru k l).den,.bool (Ll k l).neg,ints (Ll k l).mag,ints (Ll k l).den,.bool (QA k l).neg,ints (QA k l).mag,ints (QA k l).den]) (u3:=[.bool (DC (mulR k.w l.w) (ru k l)).neg,ints (DC (mulR k.w l.w) (ru k l)).mag,ints (DC (mulR k.w l.w) (ru k l)).den]) (v3:=[.bool (UK k l).neg,ints (UK k l).mag,ints (UK k l).den]) E3.ow rfl rfl E3.nd
abbrev Gd:=Nat→Nat→Bool
def DL(g:Gd)(i j:Nat)(b:Bool):Gd:=fun x y=>if x=i∧y=j then b else g x y
def gz:Gd:=fun _ _=>false
def lS(g:Gd):List V:=(List.range 100).map fun k=>.bool (g (k / 10) (k % 10))
theorem vF(g:Gd):(lS g).length=100:=by simp [lS]
theorem Tq(g:Gd):(lS g).all V.leaf=true:=by
 rw [aZ];intro x hx;obtain⟨k,_,rfl⟩:=bM.1 hx;rfl
theorem Zl{g:Gd}{i j:Nat}(hi:i<10)(hj:j<10):(lS g)[i*10+j]? = some (.bool (g i j)):=by
 rw [lS,bG,dw (by omega)];simp only [bY];rw [show (i*10+j) / 10=i by omega,show (i*10+j) % 10=j by omega]
theorem akk{g:Gd}{i j:Nat}{b:Bool}(hj:j<10):(lS g).set (i*10+j) (.bool b)=lS (DL g i j b):=by
 apply fF
 intro n;rw [eX];simp only [lS,bG,aV,jF];by_cases hn:n<100
 ·rw [dw hn];by_cases e:i*10+j=n
  ·rw [if_pos e,if_pos (by omega)];simp only [bY,DL];rw [if_pos (by omega)]
  rw [if_neg e];simp only [bY,DL];rw [if_neg (by omega)]
 rw [bn (by simp;omega)];split
 ·split
  ·omega
  rfl
 rfl
theorem akl{g:Gd}{i j:Nat}{b:Bool}(hi:i<10)(hj:j<10):List.take (i*10+j) (lS g)++.bool b::List.drop (i*10+j+1) (lS g)=lS (DL g i j b):=by
 rw [←akk hj,iI,if_pos (by rw [vF];omega)]
theorem Oc{g:Gd}{i j:Nat}{b:Bool}(hi:i<10)(hj:j<10):List.take (i*10+j*1) (lS g)++[.bool b]++List.drop (i*10+j*1+1) (lS g)=lS (DL g i j b):=by
 rw [Nat.mul_one,bJ,List.singleton_append];exact akl hi hj
theorem V3{g:Gd}{i j:Nat}(hi:i<10)(hj:j<10):(lS g)[i*10+j*1]? = some (.bool (g i j)):=by
 rw [Nat.mul_one];exact Zl hi hj
theorem ahl(g:Gd):List.take 100 (lS g)=lS g:=aY (by rw [vF];omega)
theorem ahm(g:Gd):List.drop 100 (lS g)=[]:=dB (by rw [vF];omega)
theorem acE:lS gz=List.replicate 100 (.bool false):=by
 unfold lS gz;rw [List.map_const',jF]
theorem sJ(g:Gd):l7 [lS g]:=by
 intro r hr v hv;rw [aT.1 hr]at hv;obtain⟨k,_,rfl⟩:=bM.1 hv;rfl
theorem WX{σ:Store}:∀{l:List V},(∀v∈l,v.still=true)→SB σ l=some l
 | [],_=>rfl
 |v::l,h=>by rw [alC,NR (n:=10) (h v (by simp)),WX fun w hw=>h w (by simp [hw])]
theorem ahn(g:Gd)(σ:Store):SB σ (lS g)=some (lS g):=WX (sJ g _ (by simp))
theorem acF(g:Gd)(σ:Store):SC σ (lS g)=[]:=by
 unfold SC;rw [jw];intro v hv;exact DU (sJ g _ (by simp) v hv)
theorem WY{σ:Store}{n:Nat}:∀{l:List V},(∀v∈l,v.still=true)→l.mapM (resolve σ (n+1))=some l
 | [],_=>rfl
 |
  v::l,h=>by
  rw [bD,NR (h v (by simp)),WY fun w hw=>h w (by simp [hw])];rfl
theorem akm(g:Gd)(σ:Store)(n:Nat):resolve σ (n+2) (.agg (lS g))=some (.agg (lS g)):=by
 rw [resolve,WY (sJ g _ (by simp))];rfl
theorem ae7(g:Gd)(σ:Store)(n:Nat):reach σ (n+2) (.agg (lS g))=[]:=by
 rw [reach,jw];intro v hv;exact DU (sJ g _ (by simp) v hv)
theorem MK(g:Gd):(List.take 100 (lS g)=lS g∧List.drop 100 (lS g)=[])∧((lS g).length=100∧(lS g).all V.leaf=true)∧((∀σ,SB σ (lS g)=some (lS g))∧∀σ,SC σ (lS g)=[])∧((∀σ,resolve σ 11 (.agg (lS g))=some (.agg (lS g)))∧∀σ,reach σ 11 (.agg (lS g))=[]) :=
 ⟨⟨ahl g,ahm g⟩,⟨vF g,Tq g⟩,⟨ahn g,acF g⟩,fun σ=>akm g σ 9,fun σ=>ae7 g σ 9⟩
def grow(g:Gd)(a:Nat):List (List V):=(List.range 10).map fun j=>[.bool (g a j)]
theorem Oe(g:Gd)(a:Nat):(grow g a).length=10:=by simp [grow]
theorem Lm{g:Gd}{a j:Nat}(hj:j<10):(grow g a)[j]? = some [.bool (g a j)]:=by
 rw [grow,bG,dw hj];rfl
theorem am6{g:Gd}{a j:Nat}{b:Bool}:(grow g a).set j [.bool b]=grow (DL g a j b) a:=by
 apply fF
 intro n;rw [eX];simp only [grow,bG,aV,jF];by_cases hn:n<10
 ·rw [dw hn];by_cases e:j=n
  ·rw [if_pos e,if_pos (by omega)];simp only [bY,DL];rw [if_pos (by simp [e])]
  rw [if_neg e];simp only [bY,DL];rw [if_neg (by omega)]
 rw [bn (by simp;omega)];split
 ·split
  ·omega
  rfl
 rfl
theorem acH{g:Gd}{a c j:Nat}{b:Bool}(h:c≠a):grow (DL g a j b) c=grow g c:=by
 unfold grow DL
 apply fE
 intro k _;rw [if_neg (by omega)]
theorem aho(g:Gd)(a:Nat):l7 (grow g a):=by
 intro r hr v hv;obtain⟨k,_,rfl⟩:=bM.1 hr;rw [aT.1 hv];rfl
end Go.Ml
end
