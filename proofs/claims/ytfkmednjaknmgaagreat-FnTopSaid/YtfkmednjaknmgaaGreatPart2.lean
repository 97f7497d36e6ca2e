/- Contracts of functions. -/
import Derived.Test.YtfkmednjaknmgaaGreatPart1
set_option linter.unusedSimpArgs false
set_option linter.unusedVariables false
set_option maxRecDepth 100000
set_option maxHeartbeats 16000000
section
namespace Go.Ml
theorem Ju(g:Nat->Option Nat)(l:List Int):rD g ⟨1,kU l⟩=⟨1,kU l⟩:=by
 unfold rD
 congr 1
 simp only [kU,fQ];rfl
theorem Vx{T:Tb}{f:Nat}{as:List Src}{dst:Option Nat}{env:Nat->V}{σ:Store}{kp bs:Nat}{rs ms:List Nat}{k:St->Prop}{ρ:List Nat}{as':List V}{r:V}{σ':Store}(hn:ρ.Nodup)
  (hρ:∀o,o∈ρ->∃l,jQ σ o=some ⟨1,kU l⟩) (ha:(as.map fun s=>lS (place ρ) (s.ev env))=as') (hr:Run T (.fn f as' (Ij ρ σ)) (.fn r σ'))
  (hold:∀q,q<ρ.length->jQ σ' q=jQ (Ij ρ σ) q) (hk:∀σ2:Store,(∀q,q<σ.length->jQ σ2 q=jQ σ q)->σ.length<=σ2.length->k ⟨oO env dst (lS (back ρ σ.length) r),σ2,kp,bs,rs,ms⟩) :
  QW T f as dst ⟨env,σ,kp,bs,rs,ms⟩ k:=by
 subst ha;refine⟨_,.ref ρ hn (fun o ho=>by obtain⟨l,h⟩:=hρ o ho;rw [h];rfl) hr,?_⟩;refine hk _ (fun q hq=>?_) (by simp [uO]);have e1:jQ (uO ρ σ σ') q=((σ.mapIdx fun o ob=>match place ρ o with
   |some j=>(jQ σ' j).map (rD (back ρ σ.length))
   |none=>ob)[q]?).getD none:=by
  show ((uO ρ σ σ')[q]?).getD none=_;unfold uO;rw [bK (by simpa using hq)];rfl
 show jQ (uO ρ σ σ') q=_;rw [e1,kD,ak hq];simp only [dh,jF]
 cases hp:place ρ q with
 |none=>simp [jQ,ak hq]
 |
  some j =>
  have hj:=sJ hp;have hlt:=(aP.1 hj).1;simp only [];rw [hold j hlt,MR,hj];obtain⟨l,hl⟩:=hρ q (bn hj);simp only [hl,dh,Ju]
end Go.Ml
namespace Go.Ml
theorem abW{L:Nat}{d e:qJ}{i:Nat}{R:List Nat}{b:Acc}(hw:∀w∈b.W,w∉R)(h:wX L d e ⟨i,[],[],true⟩ b=true):wX L d e ⟨i,R,[],true⟩ b=true:=by
 simp only [wX,aH]at h ⊢;obtain⟨⟨⟨⟨h1,h2⟩,h3⟩,h4⟩,h5⟩:=h;refine⟨⟨⟨⟨h1,h2⟩,?_⟩,h4⟩,?_⟩
 ·rw [bg];intro w hw';simpa using hw w hw'
 unfold BI at h5 ⊢;simpa using h5
theorem abX{L:Nat}{d e:qJ}{i:Nat}{R:List Nat}{b:Acc}(hw:∀w∈b.W,w∉R)(h:wX L d e b ⟨i,[],[],true⟩=true):wX L d e b ⟨i,R,[],true⟩=true:=by
 simp only [wX,aH]at h ⊢;obtain⟨⟨⟨⟨h1,h2⟩,h3⟩,h4⟩,h5⟩:=h;refine⟨⟨⟨⟨h1,?_⟩,h3⟩,?_⟩,h5⟩
 ·rw [bg];intro w hw';simpa using hw w hw'
 unfold BI at h4 ⊢;simpa using h4
theorem aec{L:Nat}{B:Nat->List Nat}{ops:List qJ}{i:Nat}{R:List Nat}:∀(pre post:List Acc),(∀b∈pre++post,∀w∈b.W,w∉R)->okA L B ops (pre++⟨i,[],[],true⟩::post)=true->okA L B ops (pre++⟨i,R,[],true⟩::post)=true
 |
  [],post,hw,h=>by
  simp only [iU,okA,aH,bg,dX]at h ⊢;refine⟨fun b hb=>?_,h.2⟩;rcases h.1 b hb with k|k
  ·exact .inl k
  exact .inr (abW (hw b (by simpa using hb)) k)
 |
  a::pre,post,hw,h=>by
  simp only [dI,okA,aH,bg,dX]at h ⊢;refine⟨fun b hb=>?_,aec pre post (fun b hb=>hw b (by simp only [dI,aI];exact .inr hb)) h.2⟩;rcases aK.1 hb with hb|hb
  ·exact h.1 b (eG _ hb)
  rcases aI.1 hb with rfl|hb
  ·rcases h.1 ⟨i,[],[],true⟩ (by simp)with k|k
   ·exact .inl k
   exact .inr (abX (hw a (by simp)) k)
  exact h.1 b (dL _ (gG _ hb))
theorem amu{L:Nat}{ops:List qJ}{i:Nat}{R:List Nat}(pre post:List Acc)(hw:∀b∈pre++post,∀w∈b.W,w∉R)(h:sF L ops (pre++⟨i,[],[],true⟩::post)):sF L ops (pre++⟨i,R,[],true⟩::post):=by
 unfold sF at h ⊢;simp only [List.reverse_append,List.reverse_cons,cO,List.singleton_append]at h ⊢;exact aec _ _ (fun b hb=>hw b (by rcases aK.1 hb with h|h<;>simp at h<;>simp [h])) h
theorem agt{σ:Store}{v:V}{l:List Int}{os:List Nat}(h:mP σ v (ints l) os):∀n,∀o∈reach σ n v,o∈os:=by
 intro n o ho;rcases h.yZ with ⟨_,rfl,_⟩|⟨q,rfl,h1,rfl⟩
 ·cases n<;>simp [reach]at ho
 cases n with
 |zero=>simp [reach]at ho
 |
  succ n =>
  simp only [reach,h1,aI,fZ]at ho;rcases ho with rfl|⟨r,hr,c,hc,ho⟩
  ·simp
  have hs:=uM l r hr c hc
  cases n with
  |zero=>simp [reach]at ho
  |succ n=>rw [KF hs]at ho;cases ho
theorem xR{σ:Store}{n:Nat}{cs:List V}{o:Nat}:o∈reach σ (n+1) (.agg cs)↔∃c∈cs,o∈reach σ n c:=by
 simp [reach,fZ]
theorem vk{T:Tb}{f:Nat}{as:List Src}{dst:Option Nat}{env:Nat->V}{σ:Store}{kp bs:Nat}{rs ms:List Nat}{k:List Nat->List Nat->Bool->St->Prop}{as':List V}{t:V}(P:Nat->Prop)(h:PO T f as' t)
  (ha:MS env σ as (· = as')) (hr:∀o∈nY env σ as,P o) (hk:∀R r σ2 os,(∀o∈R,P o)->Got σ σ2 r t os->k R [] true ⟨oO env dst r,σ2,kp,bs,rs,ms⟩):ZT T f as dst ⟨env,σ,kp,bs,rs,ms⟩ k :=
 ad3 h ha fun r σ2 os g=>hk _ r σ2 os hr g
end Go.Ml
namespace Go.Ml
theorem aed{L L':Nat}(hL:L'<=L){d e:qJ}{a b:Acc}(h:wX L' d e a b=true):wX L d e a b=true:=by
 have hb:∀a b:Acc,BI L' a b=true->BI L a b=true:=by
  intro a b h;unfold BI at h ⊢;simp only [dX,aH,iL,bg,aZ]at h ⊢;rcases h with h|⟨⟨h1,h2⟩,h3⟩
  ·exact .inl h
  exact .inr ⟨⟨h1,fun o ho=>bD (h2 o ho) hL⟩,fun o ho=>bD (h3 o ho) hL⟩
 simp only [wX,aH]at h ⊢;exact⟨⟨h.1.1,hb _ _ h.1.2⟩,hb _ _ h.2⟩
theorem aee{L L':Nat}(hL:L'<=L){B:Nat->List Nat}{ops:List qJ}:∀l:List Acc,okA L' B ops l=true->okA L B ops l=true
 | [],_=>rfl
 |
  a::l,h=>by
  simp only [okA,aH,bg,dX]at h ⊢;refine⟨fun b hb=>?_,aee hL l h.2⟩;rcases h.1 b hb with k|k
  ·exact .inl k
  exact .inr (aed hL k)
theorem Il{L L':Nat}{ops:List qJ}{l:List Acc}(hL:L'<=L)(h:sF L' ops l):sF L ops l:=aee hL _ h
theorem F6{L:Nat}{ops:List qJ}(aF:List Nat->List Acc)(Q:List Nat->Prop)(m i:Nat)(h1:(aF [])[m]? = some ⟨i,[],[],true⟩)(h2:∀R,aF R=(aF []).set m ⟨i,R,[],true⟩)
  (hw:∀R,Q R->∀b∈aF [],∀w∈b.W,w∉R) (h:sF L ops (aF [])):∀R,Q R->sF L ops (aF R):=by
 intro R hR;have hlt:=(aP.1 h1).1;have e:aF []=(aF []).take m++⟨i,[],[],true⟩::(aF []).drop (m+1):=by
  conv=>lhs;rw [<-gZ m (aF []),dK hlt]
  rw [(aP.1 h1).2]
 have e2:aF R=(aF []).take m++⟨i,R,[],true⟩::(aF []).drop (m+1):=by
  rw [h2,List.set_eq_take_append_cons_drop,aQ hlt]
 rw [e2];refine amu _ _ (fun b hb=>hw R hR b ?_) (e▸h);rcases aK.1 hb with h|h
 ·exact dH h
 exact fC h
theorem Ep.push{s:Store}{cs ts:List V}{os:List Nat}{L:List (Nat×Obj)}{ob:Obj}(E:Ep s cs ts os L):Ep (s++[some ob]) cs ts os (L++[(s.length,ob)]):=by
 refine⟨E.c.snoc,fun q hq=>?_⟩;rcases aK.1 hq with hq|hq
 ·exact E.snoc.l q hq
 simp only [aI,bY,or_false]at hq;subst hq;exact⟨rP _ _,fun hm=>absurd (E.c.lt _ hm) (jg _)⟩
theorem Ep.reach{s:Store}{cs ts:List V}{os:List Nat}{L:List (Nat×Obj)}(E:Ep s cs ts os L)(c:Nat){v:V}{l:List Int}(hv:cs[c]? = some v)(ht:ts[c]? = some (ints l))(n:Nat):∀o∈reach s n v,o∈os:=by
 intro o ho;obtain⟨vc,oc,j1,j2,_,j4,_⟩:=E.c.ow.focus c _ E.c.nd ht;rw [hv]at j1
 cases j1
 exact j4 o (agt j2 n o ho)
theorem avq{σ:Store}{c9 d3 e3 t9 u3 v3:List V}{os:List Nat}{n m:Int}{b:Bool}(h:nC σ (c9++(d3++e3)) (t9++(u3++v3)) os)(hl:c9.length=t9.length)(hl2:d3.length=u3.length)(hn:os.Nodup) :
  Fin σ (.oU [.agg (.int .i64 n::.int .i64 m::c9),.agg e3,.bool b]) (.oU [.agg (.int .i64 n::.int .i64 m::t9),.agg v3,.bool b]):=by
 obtain⟨a1,a2,o1,o2,e,rfl,h1,h2⟩:=pV h;obtain⟨rfl,rfl⟩:=fO e (by rw [hl];exact h1.len.symm);obtain⟨a3,a4,o3,o4,e,rfl,h3,h4⟩:=pV h2;obtain⟨rfl,rfl⟩:=fO e (by rw [hl2];exact h3.len.symm);refine xg (os:=o1++o4) (I7 (qQ (ru (KI (KI h1))) ?_)) ?_
 ·have:=qQ (ru h4) (qV (b:=b) (σ:=σ) qm)
  rwa [aU]at this
 refine hn.sublist ?_;exact List.Sublist.append (List.Sublist.refl _) (List.sublist_append_right _ _)
theorem Got.aic{σ σ2:Store}{r:V}{x:Lk}{y:R}{b:Bool}{os:List Nat}(g:Got σ σ2 r (.oU [Wu x,lD y,.bool b]) os):∃c3 c4 c6 c7 c9 c10 e1 e2,r=.oU [.agg [iv x.a,iv x.b,.bool x.w.neg,c3,c4,.bool x.dx.neg,c6,c7,.bool x.dy.neg,c9,c10],.agg [.bool y.neg,e1,e2],.bool b] /\
  nC σ2 [iv x.a,iv x.b,.bool x.w.neg,c3,c4,.bool x.dx.neg,c6,c7,.bool x.dy.neg,c9,c10,.bool y.neg,e1,e2] (x.cells++y.cells) os:=by
 obtain⟨v,w,rfl,g2⟩:=g.aEr;obtain⟨cs,e,h⟩:=g2.ow.lU
 cases e
 obtain⟨v1,vs,o1,o2,e1,rfl,h1,h2⟩:=h.inv
 cases e1
 obtain⟨w1,vs2,o3,o4,e1,rfl,h3,h4⟩:=h2.inv
 cases e1
 obtain⟨_,rfl⟩:=h4.Ec;obtain⟨c,rfl,h5⟩:=h1.lU;obtain⟨e,rfl,h6⟩:=h3.lU;obtain⟨c3,c4,c6,c7,c9,c10,rfl⟩:=h5.lk;obtain⟨e1,e2,rfl⟩:=h6.rat
 refine⟨c3,c4,c6,c7,c9,c10,e1,e2,rfl,?_⟩;rw [aU];exact nD h5 h6
abbrev Gd:=Nat->Nat->Bool
def Le(g:Gd)(i j:Nat)(b:Bool):Gd:=fun x y=>if x=i/\y=j then b else g x y
def gz:Gd:=fun _ _=>false
def grow(g:Gd)(a:Nat):List (List V):=(List.range 10).map fun j=>[.bool (g a j)]
theorem amv{g:Gd}{a j:Nat}{b:Bool}:(grow g a).set j [.bool b]=grow (Le g a j b) a:=by
 apply fV
 intro n;rw [fH];simp only [grow,bP,aV,jM];by_cases hn:n<10
 ·rw [dM hn];by_cases e:j=n
  ·rw [aQ e,aQ (by omega)];simp only [dh,Le];rw [aQ (by simp [e])]
  rw [aN e];simp only [dh,Le];rw [aN (by omega)]
 rw [bC (by simp;omega)];split
 ·split
  ·omega
  rfl
 rfl
theorem aqW{g:Gd}{a c j:Nat}{b:Bool}(h:c≠a):grow (Le g a j b) c=grow g c:=by
 unfold grow Le
 apply gu
 intro k _;rw [aN (by omega)]
def onR(b:Nat):List (List V):=(List.range 10).map fun i=>[.lQ (b+i) 0 10]
def gst(g:Gd):Store:=some ⟨1,[[.lQ 1 0 10]]⟩::some ⟨1,onR 2⟩::(List.range 10).map fun a=>some ⟨1,grow g a⟩
theorem aie(g:Gd):(gst g).length=12:=by simp [gst]
structure Lh (s:Store) (b:Nat) (g:Gd):Prop where
 p:jQ s b=some ⟨1,[[.lQ (b+1) 0 10]]⟩
 on:jQ s (b+1)=some ⟨1,onR (b+2)⟩
 row:∀a,a<10->jQ s (b+2+a)=some ⟨1,grow g a⟩
theorem aqX{g:Gd}{a:Nat}(ha:a<10):jQ (gst g) (2+a)=some ⟨1,grow g a⟩:=by
 rw [Nat.add_comm];show ((List.range 10).map fun a=>some (⟨1,grow g a⟩:Obj))[a]?.getD none=_;rw [bP,dM ha];rfl
theorem Lh.lt{s:Store}{b:Nat}{g:Gd}(h:Lh s b g):b+12<=s.length:=by
 have:=lH (h.row 9 (by omega));omega
theorem Lh.frame{s s2:Store}{b:Nat}{g:Gd}(h:Lh s b g)(hs:∀q,b<=q->q<b+12->jQ s2 q=jQ s q):Lh s2 b g :=
 ⟨(hs _ (by omega) (by omega)).trans h.p,(hs _ (by omega) (by omega)).trans h.on,fun a ha=>(hs _ (by omega) (by omega)).trans (h.row a ha)⟩
theorem Lh.set{s:Store}{b:Nat}{g:Gd}(h:Lh s b g){i j:Nat}{x:Bool}(hi:i<10)(hj:j<10):Lh (s.set (b+2+i) (some ⟨1,(grow g i).set j [.bool x]⟩)) b (Le g i j x):=by
 have hl:=h.lt;refine⟨(kN (by omega)).trans h.p,(kN (by omega)).trans h.on,fun a ha=>?_⟩;by_cases e:a=i
 ·subst e;rw [kY (by omega),amv]
 rw [kN (by omega),h.row a ha,aqW e]
theorem Yz{f:Nat->Option Nat}{v:V}(h:v.still=true):lS f v=v:=by
 cases v<;>simp_all [V.still,lS]
theorem aqY{ρ:Nat->Option Nat}{b b':Nat}(h:∀i,i<10->ρ (b+i)=some (b'+i)):rD ρ ⟨1,onR b⟩=⟨1,onR b'⟩:=by
 unfold rD onR
 congr 1
 rw [fQ]
 apply gu
 intro i hi;simp [lS,h i (fF.1 hi)]
theorem aj9(f:Nat->Option Nat)(g:Gd)(a:Nat):rD f ⟨1,grow g a⟩=⟨1,grow g a⟩:=by
 unfold rD
 congr 1
theorem Jv{T:Tb}{f:Nat}{as:List Src}{dst:Option Nat}{env:Nat->V}{σ:Store}{kp bs:Nat}{rs ms:List Nat}{k:St->Prop}{as':List V}{r:V}{σ':Store}
  (h:Run T (.fn f as' []) (.fn r σ')) (ha:MS env σ as (· = as')) (hr:nY env σ as=[]) (hk:k ⟨oO env dst (lS (mV σ.length) r),zW σ σ',kp,bs,rs,ms⟩):QW T f as dst ⟨env,σ,kp,bs,rs,ms⟩ k:=by
 obtain⟨as2,e,rfl⟩:=AY ha;exact⟨_,.own e h (R:=[]) (by split;rfl;exact hr.symm),hk⟩
theorem Wy{b j:Nat}:∀n,j<n->place ((List.range n).map (b + ·)) (b+j)=some j:=by
 intro n hj;have h1:((List.range n).map (b + ·))[j]? = some (b+j):=by rw [bP,dM hj];rfl
 have h2:((List.range n).map (b + ·)).Nodup:=by
  refine iM.2 (List.nodup_range.imp fun hne e=>hne (by omega))
 exact Qz h2 h1
def g12(b:Nat):List Nat:=(List.range 12).map (b + ·)
theorem akb(g:Gd):gst g=(List.range 12).map fun j=>jQ (gst g) j:=by
 apply fV
 intro n;rw [bP];by_cases h:n<12
 ·rw [dM h];simp only [dh,jQ];rw [ak (by rw [aie];exact h)];rfl
 rw [bC (by rw [aie];omega),bC (by simp;omega)];rfl
theorem amw{ρ:Nat->Option Nat}{o o':Nat}(h:ρ o=some o'){s l:Nat}:rD ρ ⟨1,[[.lQ o s l]]⟩=⟨1,[[.lQ o' s l]]⟩:=by
 simp [rD,lS,h]
theorem Lh.gc{s:Store}{b:Nat}{g:Gd}(h:Lh s b g):Ij (g12 b) s=gst g:=by
 rw [akb g];unfold Ij;rw [g12,fQ]
 apply gu
 intro j hj;have hj:=fF.1 hj;show (jQ s (b+j)).map (rD (place ((List.range 12).map (b + ·))))=jQ (gst g) j;by_cases h0:j=0
 ·subst h0;rw [iP,h.p];exact congrArg some (amw (Wy 12 (by omega:1<12)))
 by_cases h1:j=1
 ·subst h1;rw [h.on];refine congrArg some (aqY fun i hi=>?_);rw [show b+2+i=b+(2+i) by omega];exact Wy 12 (by omega)
 obtain⟨a,rfl⟩:∃a,j=2+a:=⟨j-2,by omega⟩;rw [<-jq,h.row a (by omega),aqX (by omega)];exact congrArg some (aj9 _ _ _)
theorem mapM_some{α β:Type}{f:α->Option β}{h:α->β}:∀{l:List α},(∀a∈l,f a=some (h a))->l.mapM f=some (l.map h)
 | [],_=>rfl
 |
  a::l,k=>by
  rw [bZ,k a (by simp),mapM_some fun x hx=>k x (by simp [hx])];rfl
theorem Ug{s:Store}{o n m:Nat}{rows:List (List V)}(h:jQ s o=some ⟨m,rows⟩)(hs:nU rows):resolve s (n+2) (.lQ o 0 rows.length)=some (.sl m rows):=by
 rw [resolve];simp only [h,aX,aJ,if_true,dA,bI];rw [yD hs];rfl
end Go.Ml
namespace Go.Ml
theorem akc{T:Tb}(rf:Nat->Nat->Bool){c:C}{Q:Ex->St->Prop}{st:St}(hk:c.okC=true)(h:wp T rf c (fun e st'=>abE e (Ws T c Q st') (Q e st')) st):Ws T c Q st:=by
 obtain⟨e,st1,h1,h2⟩:=BN hk h
 cases e with
 |
  normal =>
  obtain⟨e,st2,h4,h5⟩:=h2;exact⟨e,st2,.ak3 h1 h4,h5⟩
 |exit id=>exact⟨_,_,.adl (by simp) h1,h2⟩
 |ret=>exact⟨_,_,.adl (by simp) h1,h2⟩
def I9:Fn:=⟨1,33,[.tmp 2],(sr [oN 2 mF] (.seq (sr [oW 5 0,oN 6 (ln 5),oN 7 (bc .gtr 6 60)] (cd 7 (sr [oN 2 mF] .ret) .skip)) (.seq (sr [oW 8 0,oN 9 (ln 8),oN 10 (.qC (cI 0))] (.block 0 (.loop (sr [oN 11 (bt .lss 10 9)] (.seq (cd 11 .skip (.exit 0)) (.seq (.block 1 (sr [oN 12 (ix 1 8 10),oN 13 (lF 1 12),oW 4 13] (sr [oW 14 4,oN 15 (bc .lss 14 0),oW 16 15,oG 16 false 17 (oV 4),oG 16 false 18 (bc .geq 17 1000000000),oN 19 (.pick (.t 16) (.c (.bool true)) (.t 18))] (cd 19 (sr [oN 2 mF] .ret) .skip)))) (rg [oN 20 (bc .add 10 1),oW 10 20]))))))) (sr [oW 21 0,oN 22 (ln 21),oN 23 (bc .eql 22 0),oW 24 23,oG 24 false 25 (oV 0),oG 24 false 26 (oV 0),oG 24 false 27 (ln 26),oG 24 false 28 (bc .sub 27 1),oG 24 false 29 (ix 1 25 28),oG 24 false 30 (lF 1 29),oG 24 false 31 (bc .neq 30 0),oN 32 (.pick (.t 24) (.c (.bool true)) (.t 31)),oW 2 32] .ret))))⟩
structure Ja (T:Tb):Prop where
 hT:T 126=some I9
def xU:Fn:=⟨1,16,[.tmp 2],(sr [oN 2 mN] (.seq (rf 1 [oN 4 (.nO 1 Kt 0 []),oK 3 1 (oV 4)]) (.seq (.block 0 (.loop (.seq (sr [oW 5 0,oN 6 (.bin .gtr (.t 5) (.c (.int .u64 0)))] (cd 6 .skip (.exit 0))) (.block 1 (.seq (rf 2 [oK 7 2 (oV 3),oK 8 2 (oV 0),oK 9 2 (.bin .rem (.t 8) (.c (.int .u64 1000000000))),oK 10 2 (.conv .i64 (.t 9)),oN 11 (.nO 1 Kt 1 [(0,(.t 10))]),oK 12 1 (.app 1 8 (.t 7) (.t 11)),oK 3 2 (oV 12)]) (rg [oW 13 0,oN 14 (.bin .quo (.t 13) (.c (.int .u64 1000000000))),oW 0 14])))))) (sr [oW 15 3,oW 2 15] .ret))))⟩
structure vC (T:Tb):Prop where
 hT:T 69=some xU
def Gt:Fn:=⟨2,41,[.tmp 4],(sr [oN 4 (.qC (cI 0))] (.seq (sr [oW 6 0,oN 7 (ln 6),oW 8 1,oN 9 (ln 8),oN 10 (bt .lss 7 9)] (cd 10 (sr [oN 4 (.qC (cI (-1)))] .ret) .skip)) (.seq (sr [oW 11 0,oN 12 (ln 11),oW 13 1,oN 14 (ln 13),oN 15 (bt .gtr 12 14)] (cd 15 (sr [oN 4 (.qC (cI 1))] .ret) .skip)) (.seq (sr [oW 16 0,oN 17 (ln 16),oN 18 (bc .sub 17 1),oW 5 18] (.block 0 (.loop (.seq (sr [oW 19 5,oN 20 (bc .geq 19 0)] (cd 20 .skip (.exit 0))) (.seq (.block 1 (.seq (.seq (rt 0 [oW 23 0,oW 24 5,oA 25 0 (ix 1 23 24) [0,1],oA 26 0 (lF 1 25) [2],oW 27 1,oW 28 5,oA 29 0 (ix 1 27 28) [4,5],oA 30 0 (lF 1 29) [6],oA 31 0 (bt .lss 26 30) [3,7]]) (cd 31 (sr [oN 4 (.qC (cI (-1)))] .ret) .skip)) (.seq (rt 0 [oW 32 0,oW 33 5,oA 34 0 (ix 1 32 33) [0,1],oA 35 0 (lF 1 34) [2],oW 36 1,oW 37 5,oA 38 0 (ix 1 36 37) [4,5],oA 39 0 (lF 1 38) [6],oA 40 0 (bt .gtr 35 39) [3,7]]) (cd 40 (sr [oN 4 (.qC (cI 1))] .ret) .skip)))) (rg [oW 21 5,oN 22 (bc .sub 21 1),oW 5 22])))))) (sr [oN 4 (.qC (cI 0))] .ret)))))⟩
structure Gu (T:Tb):Prop where
 hT:T 152=some Gt
def Af:Fn:=⟨1,21,[.tmp 2],(sr [oN 2 mN] (sr [oW 4 0,oN 5 (ln 4),oW 3 5] (.seq (.block 0 (.loop (.seq (sr [oW 6 3,oN 7 (bc .gtr 6 0),oW 8 7,oG 8 true 9 (oV 0),oG 8 true 10 (oV 3),oG 8 true 11 (bc .sub 10 1),oG 8 true 12 (ix 1 9 11),oG 8 true 13 (lF 1 12),oG 8 true 14 (bc .eql 13 0),oN 15 (.pick (.t 8) (.t 14) (.c (.bool false)))] (cd 15 .skip (.exit 0))) (.block 1 (rg [oW 16 3,oN 17 (bc .sub 16 1),oW 3 17]))))) (sr [oW 18 0,oW 19 3,oN 20 (.slice 1 (.t 18) none (some (.t 19))),oW 2 20] .ret))))⟩
structure xW (T:Tb):Prop where
 hT:T 151=some Af
def Gv:Fn:=⟨2,53,[.tmp 4],(sr [oN 4 mN] (.seq (rf 1 [oN 8 (.nO 1 Kt 0 []),oK 5 1 (oV 8)]) (sr [oN 6 (.qC (cI 0))] (.seq (sr [oN 7 (.qC (cI 0))] (.block 0 (.loop (.seq (sr [oW 9 7,oW 10 0,oN 11 (ln 10),oN 12 (bt .lss 9 11),oW 13 12,oG 13 false 14 (oV 7),oG 13 false 15 (oV 1),oG 13 false 16 (ln 15),oG 13 false 17 (bt .lss 14 16),oN 18 (.pick (.t 13) (.c (.bool true)) (.t 17)),oW 19 18,oG 19 false 20 (oV 6),oG 19 false 21 (bc .gtr 20 0),oN 22 (.pick (.t 19) (.c (.bool true)) (.t 21))] (cd 22 .skip (.exit 0))) (.seq (.block 1 (.seq (sr [oW 25 7,oW 26 0,oN 27 (ln 26),oN 28 (bt .lss 25 27)] (cd 28 (rg [oW 29 6,oW 30 0,oW 31 7,oN 32 (ix 1 30 31),oN 33 (lF 1 32),oN 34 (bt .add 29 33),oW 6 34]) .skip)) (.seq (sr [oW 35 7,oW 36 1,oN 37 (ln 36),oN 38 (bt .lss 35 37)] (cd 38 (rg [oW 39 6,oW 40 1,oW 41 7,oN 42 (ix 1 40 41),oN 43 (lF 1 42),oN 44 (bt .add 39 43),oW 6 44]) .skip)) (.seq (rf 2 [oK 45 2 (oV 5),oK 46 2 (oV 6),oK 47 2 (bc .rem 46 1000000000),oN 48 (.nO 1 Kt 1 [(0,(.t 47))]),oK 49 1 (.app 1 8 (.t 45) (.t 48)),oK 5 2 (oV 49)]) (rg [oW 50 6,oN 51 (bc .quo 50 1000000000),oW 6 51]))))) (rg [oW 23 7,oN 24 (bc .add 23 1),oW 7 24])))))) (sr [oW 52 5,oW 4 52] .ret)))))⟩
structure Lj (T:Tb):Prop where
 hT:T 160=some Gv
def Gw:Fn:=⟨2,44,[.tmp 4],(sr [oN 4 mN] (.seq (rf 1 [oK 9 1 (oV 0),oK 10 1 (ln 9),oN 11 (.make Kt 8 (.t 10)),oK 5 1 (oV 11)]) (sr [oN 6 (.qC (cI 0))] (.seq (sr [oW 12 0,oN 13 (ln 12),oN 14 (.qC (cI 0))] (.block 0 (.loop (sr [oN 15 (bt .lss 14 13)] (.seq (cd 15 .skip (.exit 0)) (.seq (.block 1 (sr [oW 16 14,oW 7 16] (sr [oW 17 0,oW 18 7,oN 19 (ix 1 17 18),oN 20 (lF 1 19),oW 21 6,oN 22 (bt .sub 20 21),oW 8 22] (.seq (sr [oW 23 7,oW 24 1,oN 25 (ln 24),oN 26 (bt .lss 23 25)] (cd 26 (rg [oW 27 8,oW 28 1,oW 29 7,oN 30 (ix 1 28 29),oN 31 (lF 1 30),oN 32 (bt .sub 27 31),oW 8 32]) .skip)) (sr [oN 6 (.qC (cI 0))] (.seq (sr [oW 33 8,oN 34 (bc .lss 33 0)] (cd 34 (sr [oW 35 8,oN 36 (bc .add 35 1000000000),oW 8 36] (rg [oN 6 (.qC (cI 1))])) .skip)) (rg [oW 37 5,oW 38 7,oW 39 8,oN 40 (ix 1 37 38),oS (.store 1 (.t 40) (.t 39))]))))))) (rg [oN 41 (bc .add 14 1),oW 14 41]))))))) (sr [oW 42 5,oN 43 (cl 151 [42]),oW 4 43] .ret)))))⟩
structure Gy (T:Tb):Prop where
 hT:T 154=some Gw
 uf:xW T
def Gz:Fn:=⟨2,71,[.tmp 4],(sr [oN 4 mN] (.seq (sr [oW 9 0,oN 10 (ln 9),oN 11 (bc .eql 10 0),oW 12 11,oG 12 false 13 (oV 1),oG 12 false 14 (ln 13),oG 12 false 15 (bc .eql 14 0),oN 16 (.pick (.t 12) (.c (.bool true)) (.t 15))] (cd 16 (sr [oN 4 mN] .ret) .skip)) (.seq (rf 1 [oK 17 1 (oV 0),oK 18 1 (ln 17),oK 19 1 (oV 1),oK 20 1 (ln 19),oK 21 1 (bt .add 18 20),oN 22 (.make Kt 8 (.t 21)),oK 5 1 (oV 22)]) (.seq (sr [oW 23 0,oN 24 (ln 23),oN 25 (.qC (cI 0))] (.block 0 (.loop (sr [oN 26 (bt .lss 25 24)] (.seq (cd 26 .skip (.exit 0)) (.seq (.block 1 (sr [oW 27 25,oW 6 27] (sr [oN 7 (.qC (cI 0))] (.seq (sr [oW 28 1,oN 29 (ln 28),oN 30 (.qC (cI 0))] (.block 2 (.loop (sr [oN 31 (bt .lss 30 29)] (.seq (cd 31 .skip (.exit 2)) (.seq (.block 3 (sr [oW 32 30,oW 8 32] (.seq (rt 0 [oW 33 7,oW 34 5,oW 35 6,oW 36 8,oA 37 0 (bt .add 35 36) [2,3],oA 38 0 (ix 1 34 37) [1,4],oA 39 0 (lF 1 38) [5],oW 40 0,oW 41 6,oA 42 0 (ix 1 40 41) [7,8],oA 43 0 (lF 1 42) [9],oW 44 1,oW 45 8,oA 46 0 (ix 1 44 45) [11,12],oA 47 0 (lF 1 46) [13],oA 48 0 (bt .mul 43 47) [10,14],oA 49 0 (bt .add 39 48) [6,15],oA 50 0 (bt .add 33 49) [0,16],oA 7 0 (oV 50) [17,0,1,2,3,4,5,6,7,8,9,10,11,12,13,14,15,16,17]]) (sr [oW 51 5,oW 52 6,oW 53 8,oN 54 (bt .add 52 53),oW 55 7,oN 56 (bc .rem 55 1000000000),oN 57 (ix 1 51 54),oS (.store 1 (.t 57) (.t 56))] (rg [oW 58 7,oN 59 (bc .quo 58 1000000000),oW 7 59]))))) (rg [oN 60 (bc .add 30 1),oW 30 60]))))))) (rg [oW 61 5,oW 62 6,oW 63 1,oN 64 (ln 63),oN 65 (bt .add 62 64),oW 66 7,oN 67 (ix 1 61 65),oS (.store 1 (.t 67) (.t 66))]))))) (rg [oN 68 (bc .add 25 1),oW 25 68]))))))) (sr [oW 69 5,oN 70 (cl 151 [69]),oW 4 70] .ret)))))⟩
structure GH (T:Tb):Prop where
 hT:T 155=some Gz
 uf:xW T
def CU:Fn:=⟨1,20,[.tmp 2],(sr [oN 2 (.qC (cI 0))] (sr [oN 3 (.qC (cI 0))] (.seq (sr [oW 5 0,oN 6 (ln 5),oN 7 (bc .sub 6 1),oW 4 7] (.block 0 (.loop (.seq (sr [oW 8 4,oN 9 (bc .geq 8 0)] (cd 9 .skip (.exit 0))) (.seq (.block 1 (rg [oW 12 3,oN 13 (bc .mul 12 1000000000),oW 14 0,oW 15 4,oN 16 (ix 1 14 15),oN 17 (lF 1 16),oN 18 (bt .add 13 17),oW 3 18])) (rg [oW 10 4,oN 11 (bc .sub 10 1),oW 4 11])))))) (sr [oW 19 3,oW 2 19] .ret))))⟩
structure CV (T:Tb):Prop where
 hT:T 137=some CU
theorem rF{p:Prop}(h:p:=by
 first|omega|assumption|(simp;omega)):p:=h
theorem Nc{T:Tb}(h:xW T){l:List Int}(hl:l.length<=1048576:=by exact rF):PF T 151 [ints l] (ints (trim l)):=by
 refine lV nR h.hT ?_;simp only [Af,Lz];refine ev ?_;refine kZ (fun _ _=>false) (α:=Nat) (fun n=>⟨mJ [ints l,.any,.any,iv (n:Nat)],[],0,0,[],[]⟩) (fun n=>n<=l.length/\yE l l.length=yE l n) (fun n=>n) rfl l.length ?_ ?_ ?_
 ·exact⟨by omega,rfl⟩
 ·(refine kS ?_;exact Kr)
 rintro n ⟨hn,ht⟩;refine ev ?_;refine lG (fun hb=>?_) fun hb=>?_<;>(refine ev1 @hb ?_;try with_reducible exact aC)
 ·obtain⟨m,rfl⟩:∃m,n=m+1:=⟨n-1,by omega⟩;have e1:((m+1:Nat):Int)-1=(m:Nat):=by omega
  refine ev1 @e1 ?_;refine lG (fun hc=>?_) fun hc=>?_<;>(refine ev1 @hc ?_;try with_reducible exact aC)
  ·refine⟨m,by omega,⟨by omega,?_⟩,by (refine kS ?_;exact Kr)⟩;rw [ht];simp only [yE,hc,if_true]
  rw [trim,ht];simp only [yE,hc,if_false]
 have:n=0:=by omega
 subst this;rw [trim,ht];simp [yE,kU]
theorem abY{a b:St}(h:Fg a b:=by
 (refine Rh [] (by simp) (by intro p hp;cases hp) rfl ?_)<;>(try (refine ev ?_;try with_reducible exact aC))<;>(repeat' (first|exact aC|omega|exact Ac rfl (by simp)|refine⟨?_,?_⟩|exact gV (BO _ _ _)|exact pW rfl (by simp;done)|exact pW rfl rfl|(refine qK rfl ?_ rfl;simp [kU];done)|(refine qK rfl ?_ rfl;simp [kU];omega)|(refine D8 ?_ ?_;(focus ((refine ev ?_;try with_reducible exact aC);done));(intro q hq k s0 l0;simp;done))))):Fg a b:=h
theorem JH{a b:St}(h:Fg a b:=by
 first|((refine kS ?_;exact Kr);done)|((refine Rh [] (by simp) (by intro p hp;cases hp) rfl ?_)<;>(try (refine ev ?_;try with_reducible exact aC))<;>(repeat' (first|exact aC|omega|exact Ac rfl (by simp)|refine⟨?_,?_⟩|exact gV (BO _ _ _)|exact pW rfl (by simp;done)|exact pW rfl rfl|(refine qK rfl ?_ rfl;simp [kU];done)|(refine qK rfl ?_ rfl;simp [kU];omega)|(refine D8 ?_ ?_;(focus ((refine ev ?_;try with_reducible exact aC);done));(intro q hq k s0 l0;simp;done))));done)):Fg a b:=h
theorem Nh{a b:St}(h:Fg a b:=by
 (simp only [<-Ad];refine KH (k:=1) (DU _ _) rfl ?_;(try (refine ev ?_;try with_reducible exact aC));(repeat' (first|exact aC|omega|exact DT (by simp) (by simp) (by simp)|refine⟨?_,?_⟩|exact pW rfl (by simp))))):Fg a b:=h
theorem Kv{a b:St}(h:Fg a b:=by
 (simp only [<-Ad];refine KH (k:=2) (DU _ _) rfl ?_;(try (refine ev ?_;try with_reducible exact aC));(repeat' (first|exact aC|omega|exact DT (by simp) (by simp) (by simp)|refine⟨?_,?_⟩|exact pW rfl (by simp))))):Fg a b:=h
theorem Ag{T:Tb}(h:vC T){n:Int}(hn:0<=n/\n<18446744073709551616:=by exact rF):PF T 69 [.int .u64 n] (ints (mk n.toNat)):=by
 have hlen:(mk n.toNat).length<=3:=l9.2 (by omega);refine kX nR h.hT ?_;simp only [xU,Lz];refine ev ?_;refine kZ (fun _ _=>false) (α:=Nat×List Int) (fun q=>⟨mJ [.int .u64 (q.1:Nat),.any,.any,slV q.2.length],slS 1 (kU q.2),0,0,[],[]⟩) (fun q=>q.2++mk q.1=mk n.toNat/\q.1<=n.toNat) (fun q=>q.1) rfl (n.toNat,[]) ?_ ?_ ?_
 ·exact⟨rfl,aJ _⟩
 ·exact JH
 rintro⟨m,xs⟩ ⟨hm,hle⟩;dsimp only at hm hle;have hx:xs.length<=3:=by
  have:=congrArg List.length hm;simp at this;omega
 have e1:((m:Int).tmod 1000000000)=((m % 1000000000:Nat):Int):=by rw [Sm (by omega)];omega
 have e2:((m:Int).tdiv 1000000000)=((m / 1000000000:Nat):Int):=by rw [Sr (by omega)];omega
 have key:0<m->(xs++[((m % 1000000000:Nat):Int)])++mk (m / 1000000000)=mk n.toNat:=fun h=>by
  rw [<-hm,mk_pos (n:=m) (by omega)];simp
 (rcases xs with _|⟨x,xs⟩<;>simp only [aG,au,xG,wF,qE,oD]at hx ⊢)
 ·refine ev ?_;refine lG (fun hb=>?_) fun hb=>?_<;>(refine Dw @hb @e1 @e2 ?_;try with_reducible exact aC)
  ·exact⟨by omega,(m / 1000000000,[]++[((m % 1000000000:Nat):Int)]),by dsimp only;omega,⟨key (by omega),by dsimp only;omega⟩,by exact Nh⟩
  have e:mk n.toNat=[]:=by rw [<-hm,show m=0 by omega,mk_zero];rfl
  rw [e];exact(qg 1▸trivial)
 refine ev ?_;refine lG (fun hb=>?_) fun hb=>?_<;>(refine Dw @hb @e1 @e2 ?_;try with_reducible exact aC)
 ·refine⟨by omega,(m / 1000000000,(x::xs)++[((m % 1000000000:Nat):Int)]),by dsimp only;omega,⟨key (by omega),by dsimp only;omega⟩,by exact Kv⟩
 have e:x::xs=mk n.toNat:=by rw [<-hm,show m=0 by omega,mk_zero];simp
 rw [<-e];exact kR _
theorem aif{T:Tb}(h:Ja T){l:List Int}(hl:l.length<=9223372036854775807:=by exact rF):PF T 126 [ints l] (.bool (yY l)):=by
 refine lV nR h.hT ?_;simp only [I9,Lz];refine ev ?_;refine lG (fun h1=>?_) fun h1=>?_<;>(refine ev1 @h1 ?_;try with_reducible exact aC)
 ·simp [yY];intro h2;omega
 refine kZ (fun _ _=>false) (α:=Nat) (fun i=>⟨mJ [ints l,.any,.any,.any,.any,.any,.any,.any,ints l,iv (l.length:Nat),iv (i:Nat)],[],0,0,[],[]⟩) (fun i=>i<=l.length/\∀j,j<i->0<=l.getD j 0/\l.getD j 0<1000000000) (fun i=>l.length-i) rfl 0 ?_ ?_ ?_
 ·exact⟨by omega,by intro j hj;omega⟩
 ·(refine kS ?_;exact Kr)
 rintro i ⟨hi,hj⟩;refine ev ?_;refine lG (fun h2=>?_) fun h2=>?_<;>(refine ev1 @h2 ?_;try with_reducible exact aC)
 ·have bad:¬(0<=l.getD i 0/\l.getD i 0<1000000000)->yY l=false:=fun hn=>by
   have:¬yY l=true:=fun e=>by
    have hc:=(QB.1 e).2.1;exact hn (wE hc i)
   simpa using this
  repeat' (first|((refine lG (fun hb=>?_) fun hb=>?_)<;>(try (refine ev1 @hb ?_;try with_reducible exact aC))))
  all_goals first
   |(rw [bad (by omega)];done)
   |(
     refine⟨i+1,by omega,⟨by omega,fun j hj'=>?_⟩,by (refine kS ?_;exact Kr)⟩;by_cases e:j=i
     ·subst e;omega
     exact hj j (by omega))
 have hi2:i=l.length:=by omega
 subst hi2;have hall:l.all (fun d=>decide (0<=d)&&decide (d<1000000000))=true:=by
  rw [bg];intro d hd;obtain⟨j,hj1,rfl⟩:=List.mem_iff_getElem.1 hd;have:=hj j hj1;rw [aj,ak hj1]at this;simpa using this
 repeat' (first|((refine lG (fun hb=>?_) fun hb=>?_)<;>(try (refine ev1 @hb ?_;try with_reducible exact aC))))
 ·have:l=[]:=aY (by omega);subst this;rfl
 have e1:((l.length:Nat):Int)-1=((l.length-1:Nat):Int):=by omega
 have e2:((l.length:Int)-1).toNat=l.length-1:=by omega
 have e3:l.isEmpty=false:=by cases l<;>simp_all
 have e4:decide (l.length<=60)=true:=by simp;omega
 unfold yY;rw [hall,e3,e4,e2];simp
theorem YA{T:Tb}(h:Gu T){a b:List Int}(ha:Can a)(hb:Can b)(la:a.length<=1048576:=by exact rF)(lb:b.length<=1048576:=by exact rF):PF T 152 [ints a,ints b] (iv (MX (val a) (val b))):=by
 refine lV nR h.hT ?_;simp only [Gt,Lz];refine ev ?_;refine lG (fun h1=>?_) fun h1=>?_<;>(refine ev1 @h1 ?_;try with_reducible exact aC)
 ·have:=zl ha.1 hb (by omega);simp [MX,this]
 refine lG (fun h2=>?_) fun h2=>?_<;>(refine ev1 @h2 ?_;try with_reducible exact aC)
 ·have:=zl hb.1 ha (by omega);have h3:¬val a<val b:=by omega
  simp [MX,this,h3]
 have hl:a.length=b.length:=by omega
 refine kZ (fun _ _=>false) (α:=Nat) (fun n=>⟨mJ [ints a,ints b,.any,.any,.any,iv ((n:Int)-1)],[],0,0,[],[]⟩) (fun n=>n<=a.length/\a.drop n=b.drop n) (fun n=>n) rfl a.length ?_ ?_ ?_
 ·exact⟨by omega,by rw [eP (by omega),eP (by omega)]⟩
 ·(refine kS ?_;exact Kr)
 rintro n ⟨hn,hd⟩;refine ev ?_;refine lG (fun h3=>?_) fun h3=>?_<;>(refine ev1 @h3 ?_;try with_reducible exact aC)
 ·obtain⟨m,rfl⟩:∃m,n=m+1:=⟨n-1,by omega⟩;have e1:((m+1:Nat):Int)-1=(m:Nat):=by omega
  refine ev1 @e1 ?_;refine lG (fun h4=>?_) fun h4=>?_<;>(refine xP @h4 @e1 ?_;try with_reducible exact aC)
  ·have:=QA ha.1 hb.1 (i:=m) (by omega) (by omega) hd h4;simp [MX,this]
  refine lG (fun h5=>?_) fun h5=>?_<;>(refine xP @h5 @e1 ?_;try with_reducible exact aC)
  ·have:=QA hb.1 ha.1 (i:=m) (by omega) (by omega) hd.symm h5;have h6:¬val a<val b:=by omega
   simp [MX,this,h6]
  have e:a.getD m 0=b.getD m 0:=by omega
  refine⟨m,by omega,⟨by omega,?_⟩,by (refine kS ?_;exact Kr)⟩;rw [QC (by omega),QC (l:=b) (by omega),e,hd]
 have:n=0:=by omega
 subst this;simp only [dA]at hd;subst hd;simp [MX]
theorem F7{T:Tb}(h:CV T){n:Nat}(hn:n<1000000000000000000:=by exact rF):PF T 137 [ints (mk n)] (iv (n:Nat)):=by
 have hl:(mk n).length<=2:=l9.2 (by omega);have hv:=val_mk n;refine lV nR h.hT ?_;simp only [CU,Lz];refine ev ?_;refine kZ (fun _ _=>false) (α:=Nat) (fun k=>⟨mJ [ints (mk n),.any,.any,iv (val ((mk n).drop k):Nat),iv ((k:Int)-1)],[],0,0,[],[]⟩) (fun k=>k<=(mk n).length) (fun k=>k) rfl (mk n).length ?_ ?_ ?_
 ·omega
 ·have e:val ((mk n).drop (mk n).length)=0:=nK (aJ _);simp only [e]
  (refine kS ?_;exact Kr)
 intro k hk;refine ev ?_;refine lG (fun h3=>?_) fun h3=>?_<;>(refine ev1 @h3 ?_;try with_reducible exact aC)
 ·obtain⟨m,rfl⟩:∃m,k=m+1:=⟨k-1,by omega⟩;have e1:((m+1:Nat):Int)-1=(m:Nat):=by omega
  have e2:=qW (mk n) m;have e3:=Wx (l:=mk n) m;have e4:=wE (wC n) m;refine ev1 @e1 ?_;exact⟨m,by omega,by omega,by (refine kS ?_;exact Kr)⟩
 have:k=0:=by omega
 subst this;rw [dA,hv]
theorem amx{T:Tb}(h:Lj T){m n:Nat}(la:(mk m).length<=1000:=by exact rF)(lb:(mk n).length<=1000:=by exact rF):PF T 160 [ints (mk m),ints (mk n)] (ints (mk (m+n))):=by
 obtain⟨a,hA⟩:∃a,mk m=a:=⟨_,rfl⟩;obtain⟨b,hB⟩:∃b,mk n=b:=⟨_,rfl⟩;have hva:val a=m:=by rw [<-hA,val_mk]
 have hvb:val b=n:=by rw [<-hB,val_mk]
 have hba:Lb a:=hA▸wC m;have hbb:Lb b:=hB▸wC n;rw [hA]at la ⊢;rw [hB]at lb ⊢;refine kX nR h.hT ?_;simp only [Gv,Lz];refine ev ?_;refine kZ (fun _ _=>false) (α:=Nat×Int×List Int) (fun q=>⟨mJ [ints a,ints b,.any,.any,.any,slV q.2.2.length,iv q.2.1,iv (q.1:Nat)],slS 1 (kU q.2.2),0,0,[],[]⟩) (fun q=>q.2.2.length=q.1/\Lb q.2.2/\(0<=q.2.1/\q.2.1<=1)/\val q.2.2+1000000000 ^ q.1*(q.2.1.toNat+val (a.drop q.1)+val (b.drop q.1))=m+n/\(q.1<=max a.length b.length\/(q.1=max a.length b.length+1/\q.2.1=0/\q.2.2.getLast? ≠ some 0))) (fun q=>max a.length b.length+1-q.1) rfl (0,0,[]) ?_ ?_ ?_
 ·exact⟨rfl,aga,⟨by dsimp only;omega,by dsimp only;omega⟩,by simp [val,hva,hvb],by dsimp only;omega⟩
 ·exact JH
 rintro⟨i,c,xs⟩ ⟨hl,hlb,hc,hv,hi⟩;dsimp only at hl hlb hc hv hi;have hi':i<=max a.length b.length\/(i=max a.length b.length+1/\c=0):=hi.imp id fun h=>⟨h.1,h.2.1⟩;have hx:xs.length<=1001:=by omega
 have ea:=qW a i;have eb:=qW b i;have ga:=wE hba i;have gb:=wE hbb i;have step:=ad8 hl hc.1 ga.1 gb.1 hv ea eb;have za:a.length<=i->a.getD i 0=0:=NY;have zb:b.length<=i->b.getD i 0=0:=NY;have key:∀t:Int,t=c+a.getD i 0+b.getD i 0->((i:Int)<a.length\/(i:Int)<b.length\/0<c)->∃a':Nat×Int×List Int,a'=(i+1,t.tdiv 1000000000,xs++[t.tmod 1000000000]) /\
   max a.length b.length+1-a'.1<max a.length b.length+1-i/\(a'.2.2.length=a'.1/\Lb a'.2.2/\(0<=a'.2.1/\a'.2.1<=1)/\val a'.2.2+1000000000 ^ a'.1*(a'.2.1.toNat+val (a.drop a'.1)+val (b.drop a'.1))=m+n /\
    (a'.1<=max a.length b.length\/(a'.1=max a.length b.length+1/\a'.2.1=0/\a'.2.2.getLast? ≠ some 0))):=by
  intro t ht hor;have ht0:0<=t:=by omega
  refine⟨_,rfl,?_⟩;dsimp only;rw [Sm ht0,Sr ht0];refine⟨by omega,by simp [hl],abM (by omega) (by omega) hlb,⟨by omega,by omega⟩,by rw [ht];exact step,?_⟩;by_cases hlt:i<max a.length b.length
  ·left;omega
  right;have h1:=za (by omega);have h2:=zb (by omega);refine⟨by omega,by omega,?_⟩;intro hlast;rw [List.getLast?_concat]at hlast;have:=Option.some.inj hlast;omega
 have fin:¬((i:Int)<a.length\/(i:Int)<b.length\/0<c)->xs=mk (m+n):=by
  intro hno;have e1:val (a.drop i)=0:=nK (by omega);have e2:val (b.drop i)=0:=nK (by omega);rw [e1,e2,show c.toNat=0 by omega]at hv;simp only [iP,kL]at hv;refine(aib hv hlb ?_).symm;rw [hA,hB];rcases hi with k|k
  ·left;omega
  right;exact k.2.2
 by_cases ca:(i:Int)<(a.length:Nat)<;>by_cases cb:(i:Int)<(b.length:Nat)<;>by_cases cc:0<c
 ·obtain⟨_,rfl,k1,k2⟩:=key (c+a.getD i 0+b.getD i 0) (by omega) (by omega);clear key step fin ea eb hi hv hlb hba hbb za zb
  (rcases xs with _|⟨x,xs⟩<;>simp only [aG,au,xG,wF,qE,oD]at hx ⊢)
  ·refine Dw @ca @cb @cc ?_;exact⟨by omega,_,k1,k2,by exact Nh⟩
  refine Dw @ca @cb @cc ?_;exact⟨by omega,_,k1,k2,by exact Kv⟩
 ·obtain⟨_,rfl,k1,k2⟩:=key (c+a.getD i 0+b.getD i 0) (by omega) (by omega);clear key step fin ea eb hi hv hlb hba hbb za zb
  (rcases xs with _|⟨x,xs⟩<;>simp only [aG,au,xG,wF,qE,oD]at hx ⊢)
  ·refine Dw @ca @cb @cc ?_;exact⟨by omega,_,k1,k2,by exact Nh⟩
  refine Dw @ca @cb @cc ?_;exact⟨by omega,_,k1,k2,by exact Kv⟩
 ·obtain⟨_,rfl,k1,k2⟩:=key (c+a.getD i 0) (by omega) (by omega);clear key step fin ea eb hi hv hlb hba hbb za zb
  (rcases xs with _|⟨x,xs⟩<;>simp only [aG,au,xG,wF,qE,oD]at hx ⊢)
  ·refine Dw @ca @cb @cc ?_;exact⟨by omega,_,k1,k2,by exact Nh⟩
  refine Dw @ca @cb @cc ?_;exact⟨by omega,_,k1,k2,by exact Kv⟩
 ·obtain⟨_,rfl,k1,k2⟩:=key (c+a.getD i 0) (by omega) (by omega);clear key step fin ea eb hi hv hlb hba hbb za zb
  (rcases xs with _|⟨x,xs⟩<;>simp only [aG,au,xG,wF,qE,oD]at hx ⊢)
  ·refine Dw @ca @cb @cc ?_;exact⟨by omega,_,k1,k2,by exact Nh⟩
  refine Dw @ca @cb @cc ?_;exact⟨by omega,_,k1,k2,by exact Kv⟩
 ·obtain⟨_,rfl,k1,k2⟩:=key (c+b.getD i 0) (by omega) (by omega);clear key step fin ea eb hi hv hlb hba hbb za zb
  (rcases xs with _|⟨x,xs⟩<;>simp only [aG,au,xG,wF,qE,oD]at hx ⊢)
  ·refine Dw @ca @cb @cc ?_;exact⟨by omega,_,k1,k2,by exact Nh⟩
  refine Dw @ca @cb @cc ?_;exact⟨by omega,_,k1,k2,by exact Kv⟩
 ·obtain⟨_,rfl,k1,k2⟩:=key (c+b.getD i 0) (by omega) (by omega);clear key step fin ea eb hi hv hlb hba hbb za zb
  (rcases xs with _|⟨x,xs⟩<;>simp only [aG,au,xG,wF,qE,oD]at hx ⊢)
  ·refine Dw @ca @cb @cc ?_;exact⟨by omega,_,k1,k2,by exact Nh⟩
  refine Dw @ca @cb @cc ?_;exact⟨by omega,_,k1,k2,by exact Kv⟩
 ·obtain⟨_,rfl,k1,k2⟩:=key (c) (by omega) (by omega);clear key step fin ea eb hi hv hlb hba hbb za zb
  (rcases xs with _|⟨x,xs⟩<;>simp only [aG,au,xG,wF,qE,oD]at hx ⊢)
  ·refine Dw @ca @cb @cc ?_;exact⟨by omega,_,k1,k2,by exact Nh⟩
  refine Dw @ca @cb @cc ?_;exact⟨by omega,_,k1,k2,by exact Kv⟩
 have e:=fin (by omega);clear key step fin ea eb hi hv hlb hba hbb za zb
 (rcases xs with _|⟨x,xs⟩<;>simp only [aG,au,xG,wF,qE,oD]at hx ⊢)
 ·refine Dw @ca @cb @cc ?_;rw [<-e];exact(qg 1▸trivial)
 refine Dw @ca @cb @cc ?_;rw [<-e];exact kR _
theorem Uh{T:Tb}(h:Gy T){m n:Nat}(hle:n<=m)(la:(mk m).length<=1000:=by exact rF)(lb:(mk n).length<=1000:=by exact rF):PF T 154 [ints (mk m),ints (mk n)] (ints (mk (m-n))):=by
 obtain⟨a,hA⟩:∃a,mk m=a:=⟨_,rfl⟩;obtain⟨b,hB⟩:∃b,mk n=b:=⟨_,rfl⟩;have hva:val a=m:=by rw [<-hA,val_mk]
 have hvb:val b=n:=by rw [<-hB,val_mk]
 have hba:Lb a:=hA▸wC m;have hbb:Lb b:=hB▸wC n;have hlen:b.length<=a.length:=by
  rcases dW a.length b.length with k|k
  ·have:=zl hba (hB▸wY n) k;omega
  exact k
 rw [hA]at la ⊢;rw [hB]at lb ⊢;refine lV nR h.hT ?_;simp only [Gw,Lz];refine ev ?_;refine⟨by omega,?_⟩;rw [RY];refine kZ (fun _ _=>false) (α:=Nat×Int×List Int) (fun q=>⟨mJ [ints a,ints b,.any,.any,.any,.lQ 0 0 a.length,iv q.2.1,.any,.any,.any,.any,.any,ints a,iv (a.length:Nat),iv (q.1:Nat)],[some ⟨1,kU q.2.2⟩],0,0,[],[]⟩) (fun q=>q.1<=a.length/\q.2.2.length=a.length/\Lb q.2.2/\(q.2.1=0\/q.2.1=1)/\val (q.2.2.take q.1)+val (b.take q.1)=val (a.take q.1)+q.2.1.toNat*1000000000 ^ q.1) (fun q=>a.length-q.1) rfl (0,0,List.replicate a.length 0) ?_ ?_ ?_
 ·exact⟨by omega,by simp,RZ _,.inl rfl,by simp [val]⟩
 ·(refine kS ?_;exact Kr)
 rintro⟨i,bo,D⟩ ⟨hi,hD,Sv,hbo,hv⟩;dsimp only at hi hD Sv hbo hv;have ga:=wE hba i;have gb:=wE hbb i;have zb:b.length<=i->b.getD i 0=0:=NY;by_cases c1:(i:Int)<(a.length:Nat)
 ·have key:∀d bo':Int,d+b.getD i 0+bo=a.getD i 0+bo'*1000000000->0<=d->d<1000000000->(bo'=0\/bo'=1)->∃a':Nat×Int×List Int,a'=(i+1,bo',D.set i d) /\
    a.length-a'.1<a.length-i/\(a'.1<=a.length/\a'.2.2.length=a.length/\Lb a'.2.2/\(a'.2.1=0\/a'.2.1=1)/\val (a'.2.2.take a'.1)+val (b.take a'.1)=val (a.take a'.1)+a'.2.1.toNat*1000000000 ^ a'.1):=by
   intro d bo' hd d0 d1 hb';refine⟨_,rfl,by dsimp only;omega,by dsimp only;omega,by simp [hD],NQ d0 d1 Sv,hb',?_⟩;dsimp only;have e1:(D.take i).length=i:=by simp;omega
   have e2:(a.take i).length=i:=by simp;omega
   rw [ZU (by omega),yX,e1,pq (l:=a) (by omega),yX,e2];have e3:val (b.take (i+1))=val (b.take i)+1000000000 ^ i*(b.getD i 0).toNat:=by
    by_cases hb2:i<b.length
    ·rw [pq hb2,yX];congr 3;simp;omega
    rw [bG (by omega),bG (by omega),zb (by omega)];simp
   rw [e3,jk];exact ad9 hv (by omega)
  by_cases c2:(i:Int)<(b.length:Nat)
  ·by_cases c3:a.getD i 0-bo-b.getD i 0<0
   ·obtain⟨_,rfl,k1,k2⟩:=key (a.getD i 0-bo-b.getD i 0+1000000000) 1 (by omega) (by omega) (by omega) (.inr rfl);clear key hv zb hba hbb Sv;refine ev4 @c1 @c2 @c3 @hD ?_;exact⟨_,k1,k2,by (refine kS ?_;exact Kr)⟩
   obtain⟨_,rfl,k1,k2⟩:=key (a.getD i 0-bo-b.getD i 0) 0 (by omega) (by omega) (by omega) (.inl rfl);clear key hv zb hba hbb Sv;refine ev4 @c1 @c2 @c3 @hD ?_;exact⟨_,k1,k2,by (refine kS ?_;exact Kr)⟩
  have z:=zb (by omega);by_cases c3:a.getD i 0-bo<0
  ·obtain⟨_,rfl,k1,k2⟩:=key (a.getD i 0-bo+1000000000) 1 (by omega) (by omega) (by omega) (.inr rfl);clear key hv zb hba hbb Sv;refine ev4 @c1 @c2 @c3 @hD ?_;exact⟨_,k1,k2,by (refine kS ?_;exact Kr)⟩
  obtain⟨_,rfl,k1,k2⟩:=key (a.getD i 0-bo) 0 (by omega) (by omega) (by omega) (.inl rfl);clear key hv zb hba hbb Sv;refine ev4 @c1 @c2 @c3 @hD ?_;exact⟨_,k1,k2,by (refine kS ?_;exact Kr)⟩
 have hi2:i=a.length:=by omega
 subst hi2;rw [<-hD,bI,hD,bI,bG (by omega)]at hv;have hlt:=zL Sv;rw [hD]at hlt;have hz:bo=0:=by
  rcases hbo with h|h
  ·exact h
  rw [h]at hv;simp at hv;omega
 subst hz;refine xP @c1 @hD ?_;refine jK (Nc h.uf (l:=D) (by omega)) ?_;refine ev ?_;rw [CS Sv]
 congr 3
 simp at hv;omega
theorem amy{x y:Int}(hx:0<=x/\x<1000000000)(hy:0<=y/\y<1000000000):0<=x*y/\x*y<=999999998000000001:=by
 refine⟨Int.mul_nonneg hx.1 hy.1,?_⟩;have:x*y<=999999999*999999999:=Int.mul_le_mul (by omega) (by omega) hy.1 (by omega);omega
theorem YB{T:Tb}(h:GH T){m n:Nat}(la:(mk m).length<=1000:=by exact rF)(lb:(mk n).length<=1000:=by exact rF):PF T 155 [ints (mk m),ints (mk n)] (ints (mk (m*n))):=by
 obtain⟨a,hA⟩:∃a,mk m=a:=⟨_,rfl⟩;obtain⟨b,hB⟩:∃b,mk n=b:=⟨_,rfl⟩;have hva:val a=m:=by rw [<-hA,val_mk]
 have hvb:val b=n:=by rw [<-hB,val_mk]
 have hba:Lb a:=hA▸wC m;have hbb:Lb b:=hB▸wC n;rw [hA]at la ⊢;rw [hB]at lb ⊢;refine kX nR h.hT ?_;simp only [Gz,Lz];refine ev ?_;by_cases h1:a.length=0
 ·have:a=[]:=aY h1;have e:m=0:=by rw [<-hva,this];rfl
  have h1':((a.length:Nat):Int)=0:=by omega
  refine ev1 @h1' ?_;rw [e,kJ,mk_zero];exact(qg 1▸trivial)
 by_cases h2:b.length=0
 ·have:b=[]:=aY h2;have e:n=0:=by rw [<-hvb,this];rfl
  have h1':¬((a.length:Nat):Int)=0:=by omega
  have h2':((b.length:Nat):Int)=0:=by omega
  refine xP @h1' @h2' ?_;rw [e,kL,mk_zero];exact(qg 1▸trivial)
 have h1':¬((a.length:Nat):Int)=0:=by omega
 have h2':¬((b.length:Nat):Int)=0:=by omega
 refine xP @h1' @h2' ?_;refine⟨⟨by omega,by omega,by omega⟩,?_⟩;have eL:((a.length:Int)+(b.length:Int)).toNat=a.length+b.length:=by omega
 rw [eL,RY];refine kZ (fun _ _=>false) (α:=Nat×List Int) (fun q=>⟨mJ [ints a,ints b,.any,.any,.any,.lQ 0 0 (a.length+b.length),.any,.any,.any,.any,.any,.any,.any,.any,.any,.any,.any,.any,.any,.any,.any,.any,.any,ints a,iv (a.length:Nat),iv (q.1:Nat)],[some ⟨1,kU q.2⟩],0,0,[],[]⟩) (fun q=>q.1<=a.length/\q.2.length=a.length+b.length/\Lb q.2/\val q.2=val (a.take q.1)*n/\∀k,q.1+b.length<=k->q.2.getD k 0=0) (fun q=>a.length-q.1) rfl (0,List.replicate (a.length+b.length) 0) ?_ ?_ ?_
 ·exact⟨by omega,by simp,RZ _,by rw [ahZ];simp [val],by intro k _;simp [aj,jr];split<;>rfl⟩
 ·(refine kS ?_;exact Kr)
 rintro⟨i,P⟩ ⟨hi,hP,hPb,hv,hz⟩;dsimp only at hi hP hPb hv hz;refine ev ?_;refine lG (fun c1=>?_) fun c1=>?_<;>(refine ev1 @c1 ?_;try with_reducible exact aC)
 ·have ga:=wE hba i;have eA:val (a.take (i+1))=val (a.take i)+1000000000 ^ i*(a.getD i 0).toNat:=by
   rw [pq (by omega),yX];congr 3;simp;omega
  refine kZ (fun _ _=>false) (α:=Nat×Int×List Int) (fun q=>⟨mJ [ints a,ints b,.any,.any,.any,.lQ 0 0 (a.length+b.length),iv (i:Nat),iv q.2.1,.any,.any,.any,.any,.any,.any,.any,.any,.any,.any,.any,.any,.any,.any,.any,ints a,iv (a.length:Nat),iv (i:Nat),.any,.any,ints b,iv (b.length:Nat),iv (q.1:Nat)],[some ⟨1,kU q.2.2⟩],0,0,[],[]⟩) (fun q=>q.1<=b.length/\q.2.2.length=a.length+b.length/\Lb q.2.2/\(0<=q.2.1/\q.2.1<1000000000)/\val q.2.2+q.2.1.toNat*(1000000000 ^ i*1000000000 ^ q.1)=val P+(a.getD i 0).toNat*(1000000000 ^ i*val (b.take q.1))/\∀k,i+b.length<=k->q.2.2.getD k 0=0) (fun q=>b.length-q.1) rfl (0,0,P) ?_ ?_ ?_
  ·exact⟨by omega,hP,hPb,⟨by dsimp only;omega,by dsimp only;omega⟩,by simp [val],hz⟩
  ·(refine kS ?_;exact Kr)
  rintro⟨j,c,D⟩ ⟨hj,hD,Sv,hc,hw,hzD⟩;dsimp only at hj hD Sv hc hw hzD;have gb:=wE hbb j;have gd:=wE Sv (i+j);have hm:=amy ga gb;by_cases c2:(j:Int)<(b.length:Nat)
  ·have k2:(val (D.set (i+j) ((c+(D.getD (i+j) 0+a.getD i 0*b.getD j 0)) % 1000000000))+((c+(D.getD (i+j) 0+a.getD i 0*b.getD j 0)) / 1000000000).toNat*(1000000000 ^ i*1000000000 ^ (j+1)))=val P+(a.getD i 0).toNat*(1000000000 ^ i*val (b.take (j+1))):=by
    have e1:val (b.take (j+1))=val (b.take j)+1000000000 ^ j*(b.getD j 0).toNat:=by
     rw [pq (by omega),yX];congr 3;simp;omega
    have e2:=Xn (l:=D) (i:=i+j) (d:=(c+(D.getD (i+j) 0+a.getD i 0*b.getD j 0)) % 1000000000) (by omega);have e3:(a.getD i 0*b.getD j 0).toNat=(a.getD i 0).toNat*(b.getD j 0).toNat:=Int.toNat_mul ga.1 gb.1;have e4:(c+(D.getD (i+j) 0+a.getD i 0*b.getD j 0)).toNat=c.toNat+(D.getD (i+j) 0).toNat+(a.getD i 0).toNat*(b.getD j 0).toNat:=by
     rw [<-e3];omega
    rw [e1,jk];rw [Nat.pow_add]at e2;have e5:((c+(D.getD (i+j) 0+a.getD i 0*b.getD j 0)) % 1000000000).toNat=(c+(D.getD (i+j) 0+a.getD i 0*b.getD j 0)).toNat % 1000000000:=by omega
    have e6:((c+(D.getD (i+j) 0+a.getD i 0*b.getD j 0)) / 1000000000).toNat=(c+(D.getD (i+j) 0+a.getD i 0*b.getD j 0)).toNat / 1000000000:=by omega
    rw [e5]at e2;rw [e6];exact aeb hw e2 e4
   have k3:∀k,i+b.length<=k->(D.set (i+j) ((c+(D.getD (i+j) 0+a.getD i 0*b.getD j 0)) % 1000000000)).getD k 0=0:=by
    intro k hk;rw [sV,aN (by omega)];exact hzD k hk
   have k4:=NQ (l:=D) (i:=i+j) (d:=(c+(D.getD (i+j) 0+a.getD i 0*b.getD j 0)) % 1000000000) (by omega) (by omega) Sv;have t1:(c+(D.getD (i+j) 0+a.getD i 0*b.getD j 0)).tmod 1000000000=(c+(D.getD (i+j) 0+a.getD i 0*b.getD j 0)) % 1000000000:=Sm (by omega);have t2:(c+(D.getD (i+j) 0+a.getD i 0*b.getD j 0)).tdiv 1000000000=(c+(D.getD (i+j) 0+a.getD i 0*b.getD j 0)) / 1000000000:=Sr (by omega);have t3:((i:Int)+(j:Int)).toNat=i+j:=by omega
   clear hv hz hPb Sv eA hw hzD hba hbb;refine ev5 @c2 @hD @t1 @t2 @t3 ?_;refine⟨(j+1,(c+(D.getD (i+j) 0+a.getD i 0*b.getD j 0)) / 1000000000,D.set (i+j) ((c+(D.getD (i+j) 0+a.getD i 0*b.getD j 0)) % 1000000000)),by dsimp only;omega,⟨by dsimp only;omega,by simp [hD],k4,⟨by dsimp only;omega,by dsimp only;omega⟩,k2,k3⟩,by (refine kS ?_;exact Kr)⟩
  have hj2:j=b.length:=by omega
  subst hj2;rw [bI]at hw;have e2:=Xn (l:=D) (i:=i+b.length) (d:=c) (by omega);rw [hzD (i+b.length) (aJ _),Nat.pow_add]at e2;have k1:val (D.set (i+b.length) c)=val (a.take (i+1))*n:=by
   rw [eA,gJ,<-hv,<-hvb];have:1000000000 ^ i*(a.getD i 0).toNat*val b=(a.getD i 0).toNat*(1000000000 ^ i*val b):=by rw [dS (1000000000 ^ i),ig]
   rw [this];have:c.toNat*(1000000000 ^ i*1000000000 ^ b.length)=1000000000 ^ i*1000000000 ^ b.length*c.toNat:=dS _ _;simp only [Int.toNat_zero,kL,iP]at e2;omega
  have k2:∀k,(i+1)+b.length<=k->(D.set (i+b.length) c).getD k 0=0:=by
   intro k hk;rw [sV,aN (by omega)];exact hzD k (by omega)
  have k3:=NQ (l:=D) (i:=i+b.length) hc.1 hc.2 Sv;have t3:((i:Int)+(b.length:Int)).toNat=i+b.length:=by omega
  clear hv hz hPb Sv eA hw hzD hba hbb e2;refine Dw @c2 @hD @t3 ?_;exact⟨(i+1,D.set (i+b.length) c),by dsimp only;omega,⟨by dsimp only;omega,by simp [hD],k3,k1,k2⟩,by (refine kS ?_;exact Kr)⟩
 have hi2:i=a.length:=by omega
 subst hi2;rw [bI,hva]at hv;refine ev1 @hP ?_;refine jK (Nc h.uf (l:=P) (by omega)) ?_;refine ev ?_;rw [CS hPb,hv];exact kR _
def uG:Fn:=⟨2,44,[.tmp 4],(sr [oN 4 (.qC (cI 0))] (sr [oW 8 1,oN 9 (ln 8),oW 5 9] (sr [oW 10 0,oW 11 5,oN 12 (bc .sub 11 1),oN 13 (ix 1 10 12),oN 14 (lF 1 13),oW 6 14] (.seq (sr [oW 15 0,oN 16 (ln 15),oW 17 5,oN 18 (bt .gtr 16 17)] (cd 18 (rg [oW 19 6,oW 20 0,oW 21 5,oN 22 (ix 1 20 21),oN 23 (lF 1 22),oN 24 (bc .mul 23 1000000000),oN 25 (bt .add 19 24),oW 6 25]) .skip)) (.seq (sr [oW 26 5,oN 27 (bc .eql 26 1)] (cd 27 (sr [oW 28 6,oW 29 1,oN 30 (.idx 1 (.t 29) (cI 0)),oN 31 (lF 1 30),oN 32 (bt .quo 28 31),oW 4 32] .ret) .skip)) (sr [oW 33 6,oW 34 1,oW 35 5,oN 36 (bc .sub 35 1),oN 37 (ix 1 34 36),oN 38 (lF 1 37),oN 39 (bc .add 38 1),oN 40 (bt .quo 33 39),oW 7 40] (.seq (sr [oW 41 7,oN 42 (bc .eql 41 0)] (cd 42 (sr [oN 4 (.qC (cI 1))] .ret) .skip)) (sr [oW 43 7,oW 4 43] .ret))))))))⟩
structure Iu (T:Tb):Prop where
 hT:T 153=some uG
def BQ:Fn:=⟨2,76,[.tmp 4,.tmp 5],(sr [oN 4 mN,oN 5 mN] (.seq (sr [oW 12 0,oN 13 (ln 12),oN 14 (bc .leq 13 2),oW 15 14,oG 15 true 16 (oV 1),oG 15 true 17 (ln 16),oG 15 true 18 (bc .leq 17 2),oN 19 (.pick (.t 15) (.t 18) (.c (.bool false)))] (cd 19 (sr [oW 20 0,oN 21 (cl 137 [20]),oW 22 1,oN 23 (cl 137 [22]),oW 6 21,oW 7 23] (.seq (rt 0 [oW 24 6,oW 25 7,oA 26 0 (bt .quo 24 25) [0,1],oA 27 0 (.conv .u64 (.t 26)) [2],oA 28 0 (cl 69 [27]) [3],oW 29 6,oW 30 7,oA 31 0 (bt .rem 29 30) [5,6],oA 32 0 (.conv .u64 (.t 31)) [7],oA 33 0 (cl 69 [32]) [8,4],oA 4 0 (oV 28) [4,9,0,1,2,3,4],oA 5 0 (oV 33) [9,10,0,1,2,3,4,5,6,7,8,9,10]]) .ret)) .skip)) (.seq (rf 1 [oK 34 1 (oV 0),oK 35 1 (ln 34),oN 36 (.make Kt 8 (.t 35)),oK 8 1 (oV 36)]) (.seq (rf 1 [oN 37 (.nO 1 Kt 0 []),oK 9 1 (oV 37)]) (.seq (sr [oW 38 0,oN 39 (ln 38),oN 40 (bc .sub 39 1),oW 10 40] (.block 0 (.loop (.seq (sr [oW 41 10,oN 42 (bc .geq 41 0)] (cd 42 .skip (.exit 0))) (.seq (.block 1 (.seq (rf 2 [oK 45 2 (oV 0),oK 46 2 (oV 10),oK 47 2 (ix 1 45 46),oK 48 2 (lF 1 47),oN 49 (.nO 1 Kt 1 [(0,(.t 48))]),oK 50 2 (oV 9),oK 51 1 (.app 1 8 (.t 49) (.t 50)),oK 52 2 (cl 151 [51]),oK 9 2 (oV 52)]) (.block 2 (.loop (.seq (sr [oW 53 9,oW 54 1,oN 55 (cl 152 [53,54]),oN 56 (bc .geq 55 0)] (cd 56 .skip (.exit 2))) (.block 3 (sr [oW 57 9,oW 58 1,oN 59 (cl 153 [57,58]),oW 11 59] (.seq (rf 1 [oK 60 1 (oV 9),oK 61 1 (oV 1),oK 62 1 (oV 11),oN 63 (.nO 1 Kt 1 [(0,(.t 62))]),oK 64 1 (cl 155 [61,63]),oK 65 1 (cl 154 [60,64]),oK 9 1 (oV 65)]) (rg [oW 66 8,oW 67 10,oN 68 (ix 1 66 67),oN 69 (lF 1 68),oW 70 11,oN 71 (bt .add 69 70),oN 72 (ix 1 66 67),oS (.store 1 (.t 72) (.t 71))]))))))))) (rg [oW 43 10,oN 44 (bc .sub 43 1),oW 10 44])))))) (sr [oW 73 8,oN 74 (cl 151 [73]),oW 75 9,oW 4 74,oW 5 75] .ret))))))⟩
structure BR (T:Tb):Prop where
 hT:T 138=some BQ
 nS:vC T
 uH:CV T
 uf:xW T
 GI:Gu T
 OL:Iu T
 BU:Gy T
 GK:GH T
theorem YC{T:Tb}(h:Iu T){r b:Nat}(hb:0<b)(hle:b<=r)(hlt:r<b*1000000000)(lr:(mk r).length<=1000:=by exact rF)(lb:(mk b).length<=1000:=by exact rF) :
  ∃d:Nat,PF T 153 [ints (mk r),ints (mk b)] (iv (d:Nat))/\0<d/\d<1000000000/\d*b<=r:=by
 obtain⟨h1,h2,h3,h4,h5⟩:=amr hb hle hlt;obtain⟨A,hA⟩:∃A,mk r=A:=⟨_,rfl⟩;obtain⟨B,hB⟩:∃B,mk b=B:=⟨_,rfl⟩;have hbA:Lb A:=hA▸wC r;have hbB:Lb B:=hB▸wC b;rw [hA]at h1 h2 h4 h5 lr ⊢;rw [hB]at h1 h2 h3 h4 h5 lb ⊢;obtain⟨k,hk⟩:∃k,B.length=k+1:=⟨B.length-1,by omega⟩;have g1:=wE hbA k;have g2:=wE hbA (k+1);have g3:=wE hbB k;have g4:=wE hbB 0;have eT:(val (A.drop k):Int)=A.getD k 0+(if k+1<A.length then A.getD (k+1) 0*1000000000 else 0):=by
  rw [qW A k];split
  ·rw [qW A (k+1),nK (l:=A) (i:=k+1+1) (by omega)];omega
  rw [nK (l:=A) (i:=k+1) (by omega)];omega
 have e1:((B.length:Nat):Int)-1=(k:Nat):=by omega
 have ebk:B.length-1=k:=by omega
 rw [ebk]at h5;by_cases hk0:k=0
 ·subst hk0;obtain⟨d1,d2,d3,d4⟩:=h4 (by omega);refine⟨_,?_,d1,d2,d3⟩;have c0:((B.length:Nat):Int)=1:=by omega
  have e2:((val (A.drop 0) / (B.getD 0 0).toNat:Nat):Int)=(val (A.drop 0):Int).tdiv (B.getD 0 0):=by
   rw [gQ (by omega)];have:((B.getD 0 0).toNat:Int)=B.getD 0 0:=by omega
   rw [<-this];simp
  have d5:0<=(val (A.drop 0):Int).tdiv (B.getD 0 0)/\(val (A.drop 0):Int).tdiv (B.getD 0 0)<1000000000:=by rw [<-e2];omega
  rw [eT]at e2 d5;rw [e2];clear h4 h5 eT hbA hbB e2 d1 d2 d3 hlt hle hb hA hB h2;have c0':=iff_true_intro c0;have nb:¬B.getD 0 0=0:=by omega
  clear d4;have e3:((0:Nat):Int).toNat=0:=rfl;have e4:(((0:Nat):Int)+1).toNat=0+1:=rfl;by_cases c1:(1:Int)<(A.length:Nat)
  ·have c2:0+1<A.length:=by omega
   have c3:=iff_true_intro (show ((B.length:Nat):Int)<(A.length:Nat) by omega);rw [aQ c2]at d5 ⊢;refine lV nR h.hT ?_;simp only [uG,Lz];refine ev ?_;refine ev5 @c0' @c3 @e1 @e3 @nb ?_;rw [hk,w64 (n:=A.getD (0+1) 0*1000000000) (by omega),w64 (n:=A.getD 0 0+_) (by omega),w64 (by omega)]
  have c2:¬0+1<A.length:=by omega
  have c3:¬((B.length:Nat):Int)<(A.length:Nat):=by omega
  rw [aN c2]at d5 ⊢;refine lV nR h.hT ?_;simp only [uG,Lz];refine ev ?_;refine ev5 @c0' @c3 @e1 @e3 @nb ?_;simp only [Int.add_zero]at d5 ⊢
 have c0:¬((B.length:Nat):Int)=1:=by omega
 have e4:(((k:Nat):Int)+1).toNat=k+1:=by omega
 obtain⟨d2,d3⟩:=h5;have e2:((val (A.drop k) / ((B.getD k 0).toNat+1):Nat):Int)=(val (A.drop k):Int).tdiv (B.getD k 0+1):=by
  rw [gQ (by omega)];have:(((B.getD k 0).toNat+1:Nat):Int)=B.getD k 0+1:=by omega
  rw [<-this,Int.natCast_ediv]
 have d5:0<=(val (A.drop k):Int).tdiv (B.getD k 0+1)/\(val (A.drop k):Int).tdiv (B.getD k 0+1)<1000000000:=⟨by rw [<-e2];exact Int.natCast_nonneg _,by rw [<-e2];exact Int.ofNat_lt.mpr d2⟩;generalize hd:val (A.drop k) / ((B.getD k 0).toNat+1)=d at d2 d3 e2;rw [eT]at e2 d5;have fin:∀t:Int,t=(if k+1<A.length then A.getD (k+1) 0*1000000000 else 0)->∃d:Nat,(if (A.getD k 0+t).tdiv (B.getD k 0+1)=0 then iv 1 else iv ((A.getD k 0+t).tdiv (B.getD k 0+1)))=iv (d:Nat)/\0<d/\d<1000000000/\d*b<=r:=by
  intro t ht;rw [<-ht]at e2;rw [<-e2];by_cases z:d=0
  ·exact⟨1,by simp [z],by omega,by omega,by omega⟩
  exact⟨d,by rw [aN (by omega)],by omega,d2,d3⟩
 clear h4 eT hbA hbB e2 d2 d3 hlt hle hb hA hB hd h2;by_cases c1:((k:Nat):Int)+1<(A.length:Nat)
 ·have c2:k+1<A.length:=by omega
  have c3:((B.length:Nat):Int)<(A.length:Nat):=by omega
  rw [aQ c2]at d5 fin;obtain⟨u,f1,f2⟩:=fin _ rfl;refine⟨u,?_,f2⟩;clear f2 fin;rw [<-f1];have nb:¬B.getD k 0+1=0:=by omega
  refine lV nR h.hT ?_;simp only [uG,Lz];refine ev ?_;refine ev5 @c0 @c3 @e1 @e4 @nb ?_;rw [hk,w64 (n:=A.getD (k+1) 0*1000000000) (by omega),w64 (n:=A.getD k 0+_) (by omega),w64 (by omega)];refine lG (fun z=>?_) fun z=>?_<;>(refine ev1 @z ?_;try with_reducible exact aC)
 have c2:¬k+1<A.length:=by omega
 have c3:¬((B.length:Nat):Int)<(A.length:Nat):=by omega
 rw [aN c2]at d5 fin;obtain⟨u,f1,f2⟩:=fin _ rfl;refine⟨u,?_,f2⟩;clear f2 fin;rw [<-f1];have nb:¬B.getD k 0+1=0:=by omega
 refine lV nR h.hT ?_;simp only [uG,Lz];refine ev ?_;refine ev5 @c0 @c3 @e1 @e4 @nb ?_;simp only [Int.add_zero]at d5 ⊢;refine lG (fun z=>?_) fun z=>?_<;>(refine ev1 @z ?_;try with_reducible exact aC)
theorem abZ{a b:St}(h:Fg a b:=by
 (refine Rh [(0,_)] (by simp) (by intro p hp;simp only [aI,bY,or_false]at hp;rcases hp with rfl<;>refine⟨rfl,?_⟩<;>first|exact uM _|simp [nU,V.still]) rfl ?_)<;>(try (refine ev ?_;try with_reducible exact aC))<;>(repeat' (first|exact aC|omega|exact Ac rfl (by simp)|refine⟨?_,?_⟩|exact gV (BO _ _ _)|exact pW rfl (by simp;done)|exact pW rfl rfl|(refine qK rfl ?_ rfl;simp [kU];done)|(refine qK rfl ?_ rfl;simp [kU];omega)|(refine D8 ?_ ?_;(focus ((refine ev ?_;try with_reducible exact aC);done));(intro q hq k s0 l0;simp;done))))):Fg a b:=h
theorem YD{T:Tb}(h:BR T){m n:Nat}(hn:0<n)(la:(mk m).length<=900:=by exact rF)(lb:(mk n).length<=900:=by exact rF) :
  PF T 138 [ints (mk m),ints (mk n)] (.oU [ints (mk (m / n)),ints (mk (m % n))]):=by
 obtain⟨A,hA⟩:∃A,mk m=A:=⟨_,rfl⟩;obtain⟨B,hB⟩:∃B,mk n=B:=⟨_,rfl⟩;have hva:val A=m:=by rw [<-hA,val_mk]
 have hbA:Lb A:=hA▸wC m;have hbB:Lb B:=hB▸wC n;rw [hA]at la ⊢;rw [hB]at lb ⊢;refine kX nR h.hT ?_;simp only [BQ,Lz];refine ev ?_;have cas:(((A.length:Nat):Int)<=2/\((B.length:Nat):Int)<=2)\/((((A.length:Nat):Int)<=2/\¬((B.length:Nat):Int)<=2)\/¬((A.length:Nat):Int)<=2):=by omega
 rcases cas with ⟨c1,c2⟩|big
 ·have sm:m<1000000000000000000:=by
   have:=zL hbA;rw [hva]at this;exact bD this (dw (gI (by omega) (show A.length<=2 by omega)) (by omega))
  have sn:n<1000000000000000000:=by
   have:=zL hbB;rw [<-hB,val_mk]at this;exact bD this (dw (gI (by omega) (show (mk n).length<=2 by rw [hB];omega)) (by omega))
  have cs:=F7 h.uH sm;have ct:=F7 h.uH sn;rw [hA]at cs;rw [hB]at ct;have e1:((m:Nat):Int).tdiv (n:Nat)=((m / n:Nat):Int):=by rw [gQ (by omega),Int.natCast_ediv]
  have e2:((m:Nat):Int).tmod (n:Nat)=((m % n:Nat):Int):=by rw [iZ (by omega),kG]
  have d1:m / n<=m:=Nat.div_le_self ..;have d2:m % n<=m:=Nat.mod_le ..;have nz:¬((n:Nat):Int)=0:=by omega
  generalize m / n=q at *;generalize m % n=r at *;have c3:=Ag h.nS (n:=((q:Nat):Int)) (by omega);have c4:=Ag h.nS (n:=((r:Nat):Int)) (by omega);rw [gU]at c3 c4;refine xP @c1 @c2 ?_;refine jK cs ?_;refine ev ?_;refine jK ct ?_;refine Dw @nz @e1 @e2 ?_;refine jK c3 ?_;refine Dw @nz @e1 @e2 ?_;refine jK c4 ?_;refine ev ?_;exact kR _
 rcases big with ⟨c1,c2⟩|c1
 case' inl=>(refine xP @c1 @c2 ?_;try with_reducible exact aC)
 case' inr=>(refine ev1 @c1 ?_;try with_reducible exact aC)
 all_goals
  refine⟨by omega,?_⟩;rw [RY];refine kZ (fun _ _=>false) (α:=Nat×List Int×Nat) (fun q=>⟨mJ [ints A,ints B,.any,.any,.any,.any,.any,.any,.lQ 0 0 A.length,ints (mk q.2.2),iv ((q.1:Nat)-1)],[some ⟨1,kU q.2.1⟩],0,0,[],[]⟩) (fun q=>q.1<=A.length/\q.2.1.length=A.length/\Lb q.2.1/\(∀j,j<q.1->q.2.1.getD j 0=0)/\q.2.2<n/\val (A.drop q.1)=val (q.2.1.drop q.1)*n+q.2.2) (fun q=>q.1) rfl (A.length,List.replicate A.length 0,0) ?_ ?_ ?_
  ·exact⟨by omega,by simp,RZ _,by intro j _;simp [List.getD_eq_getElem?_getD,List.getElem?_replicate];split<;>rfl,hn,by dsimp only;rw [nK (Nat.le_refl _),nK (by simp)];simp⟩
  ·rw [mk_zero];exact abZ
  rintro⟨k,Q,x⟩ ⟨hk,hQ,hQb,hz,hx,hv⟩;dsimp only at hk hQ hQb hz hx hv;by_cases k0:k=0
  ·subst k0;rw [dA,dA,hva]at hv;obtain⟨q1,q2⟩:=NW hv hx;have e0:¬(0:Int)<=((0:Nat):Int)-1:=by omega
   refine ev1 @e0 ?_;refine jK (Nc h.uf (l:=Q) (by omega)) ?_;refine ev ?_;rw [CS hQb,<-q1,<-q2];exact kR _
  obtain⟨i,rfl⟩:∃i,k=i+1:=⟨k-1,by omega⟩;have e0:(((i+1:Nat):Int)-1)=(i:Nat):=by omega
  have e1:((i:Nat):Int)<(A.length:Nat):=by omega
  have e2:(0:Int)<=(i:Nat):=by omega
  rw [e0];have ga:=wE hbA i;have hvi:=qW A i;obtain⟨t,ht⟩:∃t,(A.getD i 0).toNat+1000000000*x=t:=⟨_,rfl⟩;have htn:t<n*1000000000:=by omega
  have lt':(A.getD i 0::mk x).length<=1048576:=by
   have:(mk x).length<=B.length:=by rw [l9];exact Nat.lt_trans hx (by have:=zL hbB;rw [<-hB,val_mk,hB]at this;exact this)
   simp only [au];omega
  have tr:trim (A.getD i 0::mk x)=mk t:=by
   rw [CS (by intro y hy;rcases aI.1 hy with rfl|hy;exact ga;exact wC x y hy),<-ht,val,val_mk]
  have ct:=Nc h.uf (l:=A.getD i 0::mk x) lt';rw [tr]at ct;have ely:∀y,y<=t->(mk y).length<=901:=by
   intro y hy;have:(mk y).length<=B.length+1:=by
    rw [l9,jk];have:=zL hbB;rw [<-hB,val_mk,hB]at this;exact bD (iG hy htn) (dG _ (Nat.le_of_lt this))
   omega
  have lx:=ely;refine xP @e2 @e1 ?_;refine⟨fun e3=>?_,fun e3=>?_⟩
  case' refine_1 =>
   have x0:mk x=[]:=by cases hm:mk x with|nil=>rfl|cons a l=>rw [hm]at e3;cases e3
   rw [x0]at ct;rw [show [[V.int IntKind.i64 (A.getD i 0)]]=kU [A.getD i 0]from rfl]
   (refine ev ?_;try with_reducible exact aC)
  case' refine_2 =>
   refine ev1 @e3 ?_;rw [show [V.int IntKind.i64 (A.getD i 0)]::kU (mk x)=kU (A.getD i 0::mk x)from rfl];refine ev ?_;have lm:=lt';simp only [au]at lm;refine⟨by omega,?_⟩
  all_goals
   clear lt';refine jK ct ?_;refine ev ?_;refine kZ (fun _ _=>false) (α:=List Int×Nat) (fun q=>⟨mJ [ints A,ints B,.any,.any,.any,.any,.any,.any,.lQ 0 0 A.length,ints (mk q.2),iv (i:Nat)],[some ⟨1,kU q.1⟩],0,0,[],[]⟩) (fun q=>q.1.length=A.length/\Lb q.1/\(∀j,j<i->q.1.getD j 0=0)/\q.1.drop (i+1)=Q.drop (i+1)/\q.2+(q.1.getD i 0).toNat*n=t) (fun q=>q.2) rfl (Q,t) ?_ ?_ ?_
   ·exact⟨hQ,hQb,fun j hj=>hz j (by omega),rfl,by dsimp only;rw [hz i (by omega)];simp⟩
   ·exact abZ
   rintro⟨P,y⟩ ⟨hP,hPb,hzP,hd,hy⟩;dsimp only at hP hPb hzP hd hy;have yt:y<=t:=by omega
   have ly:=ely y yt;have cc:=YA h.GI (wY y) (wY n) (by omega) (by rw [hB];omega);rw [val_mk,val_mk,hB]at cc;refine ev ?_;refine jK cc ?_;refine ev ?_;refine lG (fun c3=>?_) fun c3=>?_<;>(refine ev1 @c3 ?_;try with_reducible exact aC)
   ·have hny:n<=y:=yG.1 c3;obtain⟨d,pg,d0,d1,d2⟩:=YC h.OL hn hny (by omega) (by omega) (by rw [hB];omega);rw [hB]at pg;have pm:=YB h.GK (m:=n) (n:=d) (by rw [hB];omega) (by rw [mk_one d0 d1];simp);have dn:n*d<=y:=by rw [dS];exact d2
    have lnd:=ely (n*d) (by omega);have ps:=Uh h.BU dn (by omega) (by omega);rw [hB,mk_one d0 d1]at pm;have gp:=wE hPb i;have y2:y-n*d+((P.getD i 0).toNat+d)*n=t:=by rw [gJ,dS d n];omega
    have gp2:P.getD i 0+d<1000000000:=by
     have:((P.getD i 0).toNat+d)*n<1000000000*n:=by rw [dS 1000000000];omega
     have:=Nat.lt_of_mul_lt_mul_right this;omega
    have d0':0<n*d:=Nat.mul_pos hn d0;have k1:=NQ (l:=P) (i:=i) (d:=P.getD i 0+d) (by omega) gp2 hPb;have k2:∀j,j<i->(P.set i (P.getD i 0+d)).getD j 0=0:=by
     intro j hj;rw [sV,aN (by omega)];exact hzP j hj
    have k3:(P.set i (P.getD i 0+d)).drop (i+1)=Q.drop (i+1):=by rw [List.drop_set_of_lt (by omega),hd]
    have k4:((P.set i (P.getD i 0+d)).getD i 0)=P.getD i 0+d:=by rw [sV,aQ ⟨rfl,by omega⟩]
    have k5:y-n*d+((P.set i (P.getD i 0+d)).getD i 0).toNat*n=t:=by
     rw [k4,show (P.getD i 0+(d:Int)).toNat=(P.getD i 0).toNat+d by omega];exact y2
    have k6:y-n*d<y:=by omega
    clear y2 hy htn ht hvi k4 hzP hd d2 lx ely hv hz hx;refine jK pg ?_;refine ev ?_;rw [show [[V.int IntKind.i64 (d:Int)]]=kU [(d:Int)]from rfl];refine ev ?_;refine jK pm ?_;refine ev ?_;refine jK ps ?_;refine xP @e1 @hP ?_;exact⟨(P.set i (P.getD i 0+d),y-n*d),k6,⟨by simp [hP],k1,k2,k3,k5⟩,by exact abZ⟩
   have hny:y<n:=by
    have:=@yG y n;omega
   have k1:=qW P i;rw [hd]at k1;have k2:val (A.drop i)=val (P.drop i)*n+y:=by
    rw [hvi,hv,k1,gJ,jC,<-ig];omega
   exact⟨(i,P,y),by dsimp only;omega,⟨by dsimp only;omega,hP,hPb,hzP,hny,k2⟩,by (refine kS ?_;exact Kr)⟩
def y8:Fn:=⟨1,6,[.tmp 2],(sr [oN 2 mN] (.seq (rf 2 [oN 3 (.nO 1 Kt 0 []),oK 4 2 (oV 0),oK 5 1 (.app 1 8 (.t 3) (.t 4)),oK 2 2 (oV 5)]) .ret))⟩
structure wH (T:Tb):Prop where
 hT:T 139=some y8
def GL:Fn:=⟨2,43,[.tmp 4],(sr [oN 4 mN] (.seq (.block 0 (.loop (.seq (sr [oW 9 1,oN 10 (ln 9),oN 11 (bc .gtr 10 0)] (cd 11 .skip (.exit 0))) (.block 1 (.seq (sr [oW 12 0,oN 13 (ln 12),oN 14 (bc .leq 13 2),oW 15 14,oG 15 true 16 (oV 1),oG 15 true 17 (ln 16),oG 15 true 18 (bc .leq 17 2),oN 19 (.pick (.t 15) (.t 18) (.c (.bool false)))] (cd 19 (sr [oW 20 0,oN 21 (cl 137 [20]),oW 22 1,oN 23 (cl 137 [22]),oW 5 21,oW 6 23] (.seq (.block 2 (.loop (.seq (sr [oW 24 6,oN 25 (bc .gtr 24 0)] (cd 25 .skip (.exit 2))) (.block 3 (rt 0 [oW 26 6,oW 27 5,oW 28 6,oA 29 0 (bt .rem 27 28) [1,2],oA 5 0 (oV 26) [0,0,1],oA 6 0 (oV 29) [3,4,0,1,2,3,4]]))))) (sr [oW 30 5,oN 31 (.conv .u64 (.t 30)),oN 32 (cl 69 [31]),oW 4 32] .ret))) .skip)) (sr [oW 34 0,oW 35 1,oN 36 (cl 138 [34,35]),oW 33 36,oN 37 (ex 0 33),oN 38 (ex 1 33),oW 7 37,oW 8 38] (rg [oW 39 1,oW 40 8,oW 0 39,oW 1 40]))))))) (sr [oW 41 0,oN 42 (cl 139 [41]),oW 4 42] .ret)))⟩
structure GN (T:Tb):Prop where
 hT:T 127=some GL
 nS:vC T
 uH:CV T
 zo:BR T
 qO:wH T
theorem Sz{T:Tb}(h:wH T){l:List Int}(hl:l.length<=1048576:=by exact rF):PF T 139 [ints l] (ints l):=by
 refine kX nR h.hT ?_;simp only [y8,Lz];refine ev ?_;refine⟨fun e=>?_,fun e=>⟨by omega,kR _⟩⟩;show nG (.sl 1 (kU l)) .kC;rw [e];exact gV (qg 1)
theorem YE{T:Tb}(h:GN T){m n:Nat}(la:(mk m).length<=900:=by exact rF)(lb:(mk n).length<=900:=by exact rF) :
  PF T 127 [ints (mk m),ints (mk n)] (ints (mk (Nat.gcd m n))):=by
 refine kX nR h.hT ?_;simp only [GL,Lz];refine ev ?_;refine kZ (fun _ _=>false) (α:=Nat×Nat) (fun q=>⟨mJ [ints (mk q.1),ints (mk q.2)],[],0,0,[],[]⟩) (fun q=>Nat.gcd q.1 q.2=Nat.gcd m n/\(mk q.1).length<=900/\(mk q.2).length<=900) (fun q=>q.2) rfl (m,n) ?_ ?_ ?_
 ·exact⟨rfl,la,lb⟩
 ·exact JH
 rintro⟨x,y⟩ ⟨hg,lx,ly⟩;dsimp only at hg lx ly;rw [<-hg];clear hg la lb;refine ev ?_;refine lG (fun c1=>?_) fun c1=>?_<;>(refine ev1 @c1 ?_;try with_reducible exact aC)
 ·have hy:0<y:=by
   rcases iw y with rfl|h
   ·rw [mk_zero]at c1;simp at c1
   exact h
  have cas:((((mk x).length:Nat):Int)<=2/\(((mk y).length:Nat):Int)<=2)\/(((((mk x).length:Nat):Int)<=2/\¬(((mk y).length:Nat):Int)<=2)\/¬(((mk x).length:Nat):Int)<=2):=by omega
  rcases cas with ⟨c2,c3⟩|big
  ·have sx:x<1000000000000000000:=by have:=l9 (n:=x) (k:=2);omega
   have sy:y<1000000000000000000:=by have:=l9 (n:=y) (k:=2);omega
   refine xP @c2 @c3 ?_;refine jK (F7 h.uH sx) ?_;refine ev ?_;refine jK (F7 h.uH sy) ?_;refine ev ?_;refine kZ (fun _ _=>false) (α:=Nat×Nat) (fun q=>⟨mJ [.any,.any,.any,.any,.any,iv (q.1:Nat),iv (q.2:Nat)],[],0,0,[],[]⟩) (fun q=>Nat.gcd q.1 q.2=Nat.gcd x y/\q.1<1000000000000000000/\q.2<1000000000000000000) (fun q=>q.2) rfl (x,y) ?_ ?_ ?_
   ·exact⟨rfl,sx,sy⟩
   ·exact JH
   rintro⟨u,v⟩ ⟨hg,su,sv⟩;dsimp only at hg su sv;rw [<-hg];clear hg;refine ev ?_;refine lG (fun c4=>?_) fun c4=>?_<;>(refine ev1 @c4 ?_;try with_reducible exact aC)
   ·have v0:0<v:=by omega
    have er:((u:Nat):Int).tmod (v:Nat)=((u % v:Nat):Int):=by rw [iZ (by omega),kG]
    have lr:=kK u v0;have eg:Nat.gcd v (u % v)=Nat.gcd u v:=by rw [jX u v,Nat.gcd_rec v u,jX]
    exact⟨(v,u % v),lr,⟨eg,sv,by dsimp only;omega⟩,by (refine kS ?_)<;>(try (refine ev1 @er ?_;try with_reducible exact True.intro))<;>(repeat' (first|refine⟨?_,?_⟩|exact NK (by omega)|exact P5 (by simp)|exact KG _))⟩
   have v0:v=0:=by omega
   have cu:=Ag h.nS (n:=((u:Nat):Int)) (by omega);rw [gU]at cu;refine jK cu ?_;refine ev ?_;rw [v0,Nat.gcd_zero_right];exact kR _
  have lr:=kK x hy;have lr2:(mk (x % y)).length<=900:=dw (l9.2 (Nat.lt_trans lr (l9.1 (aJ _)))) ly;have eg:Nat.gcd y (x % y)=Nat.gcd x y:=by rw [jX x y,Nat.gcd_rec y x,jX]
  rcases big with ⟨c2,c3⟩|c2
  case' inl=>(refine xP @c2 @c3 ?_;try with_reducible exact aC)
  case' inr=>(refine ev1 @c2 ?_;try with_reducible exact aC)
  all_goals
   refine jK (YD h.zo hy lx ly) ?_;refine ev ?_;exact⟨(y,x % y),lr,⟨eg,ly,lr2⟩,by (refine kS ?_;exact Kr)⟩
 have y0:y=0:=by
  rcases iw y with h|h
  ·exact h
  have:=alW (n:=y) (by omega);omega
 refine jK (Sz h.qO (l:=mk x) (by omega)) ?_;refine ev ?_;rw [y0,Nat.gcd_zero_right];exact kR _
theorem KJ{T:Tb}(h:wH T){l:List Int}(hl:l.length<=1048576:=by exact rF):PO T 139 [ints l] (ints l):=by
 refine mM nR h.hT ?_;simp only [y8,Lz,St.enter,au,aG,aX];refine ew ?_;exact⟨fun e=>aj3 e,fun _=>⟨by omega,Yu rfl⟩⟩
def cnt(n:Nat)(k:Int):List Int:=(List.range n).map fun i=>k+((i:Nat):Int)
theorem GR{σ:Store}{cs:List V}(h:∀v∈cs,v.still=true):resolve σ FD (.agg cs)=some (.agg cs):=by
 show (cs.mapM (resolve σ 11)).map V.agg=_;rw [FY (n:=10) h];rfl
def CW:Fn:=⟨2,26,[.tmp 4],(sr [oN 4 mF] (.seq (sr [oW 7 0,oN 8 (ln 7),oW 9 1,oN 10 (ln 9),oN 11 (bt .neq 8 10)] (cd 11 (sr [oN 4 mF] .ret) .skip)) (.seq (sr [oW 12 0,oN 13 (ln 12),oN 14 (.qC (cI 0))] (.block 0 (.loop (sr [oN 15 (bt .lss 14 13)] (.seq (cd 15 .skip (.exit 0)) (.seq (.block 1 (sr [oW 16 14,oN 17 (ix 1 12 14),oN 18 (lF 1 17),oW 5 16,oW 6 18] (sr [oW 19 6,oW 20 1,oW 21 5,oN 22 (ix 1 20 21),oN 23 (lF 1 22),oN 24 (bt .neq 19 23)] (cd 24 (sr [oN 4 mF] .ret) .skip)))) (rg [oN 25 (bc .add 14 1),oW 14 25]))))))) (sr [oN 4 mT] .ret))))⟩
structure Iw (T:Tb):Prop where
 hT:T 52=some CW
def CX:Fn:=⟨2,28,[.tmp 4],(.seq (rf 2 [oN 2 (.box (.t 0)),oK 3 1 (.box (.t 1)),oK 4 2 mF]) (sr [oN 5 (fd 0 2),oN 6 (fd 0 5),oN 7 (lF 1 6),oN 8 (fd 0 3),oN 9 (fd 0 8),oN 10 (lF 1 9),oN 11 (.beq false (.t 7) (.t 10)),oW 12 11,oG 12 true 13 (fd 0 2),oG 12 true 14 (fd 1 13),oG 12 true 15 (lF 1 14),oG 12 true 16 (fd 0 3),oG 12 true 17 (fd 1 16),oG 12 true 18 (lF 1 17),oG 12 true 19 (cl 52 [15,18]),oN 20 (.pick (.t 12) (.t 19) (.c (.bool false))),oW 21 20,oG 21 true 22 (fd 2 2),oG 21 true 23 (lF 1 22),oG 21 true 24 (fd 2 3),oG 21 true 25 (lF 1 24),oG 21 true 26 (cl 52 [23,25]),oN 27 (.pick (.t 21) (.t 26) (.c (.bool false))),oW 4 27] .ret))⟩
structure CY (T:Tb):Prop where
 hT:T 32=some CX
 WT:Iw T
def zO:Fn:=⟨2,40,[.tmp 4],(sr [oN 4 mF] (.seq (sr [oW 7 0,oN 8 (ln 7),oW 9 1,oN 10 (ln 9),oN 11 (bt .neq 8 10)] (cd 11 (sr [oN 4 mF] .ret) .skip)) (.seq (sr [oW 12 0,oN 13 (ln 12),oN 14 (.qC (cI 0))] (.block 0 (.loop (sr [oN 15 (bt .lss 14 13)] (.seq (cd 15 .skip (.exit 0)) (.seq (.block 1 (.seq (rf 1 [oK 16 1 (oV 14),oK 17 1 (ix 6 12 14),oK 18 1 (lT 6 17),oN 6 (.alloc zz6),oK 5 1 (oV 16),⟨none,none,1,.store 6 (.t 6) (.t 18),[]⟩]) (.seq (rt 0 [oN 19 (fd 0 6),oA 20 0 (lT 3 19) [0],oW 21 1,oW 22 5,oA 23 0 (ix 6 21 22) [2,3],oA 24 0 (fd 0 23) [4],oA 25 0 (lT 3 24) [5],oA 26 0 (cl 32 [20,25]) [1,6],oA 27 0 (nt 26) [7],oA 28 0 (oV 27) [8,7],oH 28 false 29 0 (fd 3 6) [9],oH 28 false 30 0 (lT 3 29) [10,9],oH 28 false 31 0 (oV 1) [9],oH 28 false 32 0 (oV 5) [9],oH 28 false 33 0 (ix 6 31 32) [12,13,9],oH 28 false 34 0 (fd 3 33) [14,9],oH 28 false 35 0 (lT 3 34) [15,9],oH 28 false 36 0 (cl 32 [30,35]) [11,16,9,9],oH 28 false 37 0 (nt 36) [17,9],oA 38 0 (.pick (.t 28) (.c (.bool true)) (.t 37)) [9,18]]) (cd 38 (sr [oN 4 mF] .ret) .skip)))) (rg [oN 39 (bc .add 14 1),oW 14 39]))))))) (sr [oN 4 mT] .ret))))⟩
structure Ed (T:Tb):Prop where
 hT:T 12=some zO
 CZ:CY T
theorem agu{T:Tb}(h:Iw T){a b:List Int}(hl:a.length<=9223372036854775807:=by exact rF)(hb:b.length<=9223372036854775807:=by exact rF):PF T 52 [ints a,ints b] (.bool (decide (a=b))):=by
 refine lV nR h.hT ?_;simp only [CW,Lz];refine ev ?_;refine lG (fun h1=>?_) fun h1=>?_<;>(refine ev1 @h1 ?_;try with_reducible exact aC)
 ·have h1:a.length=b.length:=by omega
  refine kZ (fun _ _=>false) (α:=Nat) (fun i=>⟨mJ [ints a,ints b,.any,.any,.any,.any,.any,.any,.any,.any,.any,.any,ints a,iv (a.length:Nat),iv (i:Nat)],[],0,0,[],[]⟩) (fun i=>i<=a.length/\∀j,j<i->a.getD j 0=b.getD j 0) (fun i=>a.length-i) rfl 0 ?_ ?_ ?_
  ·exact⟨by omega,by intro j hj;omega⟩
  ·(refine kS ?_;exact Kr)
  rintro i ⟨hi,hj⟩;refine ev ?_;refine lG (fun h2=>?_) fun h2=>?_<;>(refine ev1 @h2 ?_;try with_reducible exact aC)
  ·refine lG (fun h3=>?_) fun h3=>?_<;>(refine ev1 @h3 ?_;try with_reducible exact aC)
   ·refine⟨i+1,by omega,⟨by omega,fun j hj'=>?_⟩,by (refine kS ?_;exact Kr)⟩;by_cases e:j=i
    ·subst e;exact h3
    exact hj j (by omega)
   have:¬a=b:=fun e=>h3 (by rw [e]);simp [this]
  have:a=b:=aaI h1 fun j h=>hj j (by omega);simp [this]
 have:¬a=b:=fun e=>h1 (by rw [e]);simp [this]
theorem JJ{T:Tb}(h:CY T){y z:R}(hy:y.wf:=by exact rF)(hz:z.wf:=by exact rF):PF T 32 [lD y,lD z] (.bool (decide (y=z))):=by
 obtain⟨w1,w2⟩:=hy;obtain⟨w3,w4⟩:=hz;refine lV nR h.hT ?_;simp only [CX,Lz];refine ev ?_
 repeat' (first|((refine lG (fun hb=>?_) fun hb=>?_)<;>(try (refine ev1 @hb ?_;try with_reducible exact aC)))|((refine jK (agu h.WT) ?_)<;>(try (refine ev ?_;try with_reducible exact aC))))
 all_goals (cases y;cases z;simp_all)
theorem Vy{T:Tb}(h:Ed T){a b:List Pt}(ha:DR Pt.wf a:=by exact rF)(hb:DR Pt.wf b:=by exact rF):PF T 12 [Ub a,Ub b] (.bool (decide (a=b))):=by
 have l1:=ha.1;have l2:=hb.1;refine lV nR h.hT ?_;simp only [zO,Lz];refine ev ?_;refine lG (fun h1=>?_) fun h1=>?_<;>(refine ev1 @h1 ?_;try with_reducible exact aC)
 ·have h1:a.length=b.length:=by omega
  refine kZ (fun _ _=>false) (α:=Nat) (fun i=>⟨mJ [Ub a,Ub b,.any,.any,.any,.any,.any,.any,.any,.any,.any,.any,Ub a,iv (a.length:Nat),iv (i:Nat)],[],0,0,[],[]⟩) (fun i=>i<=a.length/\∀j,j<i->a.getD j default=b.getD j default) (fun i=>a.length-i) rfl 0 ?_ ?_ ?_
  ·exact⟨by omega,by intro j hj;omega⟩
  ·(refine kS ?_;exact Kr)
  rintro i ⟨hi,hj⟩;refine ev ?_;refine lG (fun h2=>?_) fun h2=>?_<;>(refine xP @h2 @mg ?_;try with_reducible exact aC)
  ·have wa:=ha.at_ (i:=i) (by omega);have wb:=hb.at_ (i:=i) (by omega);obtain⟨p,hp⟩:∃p,a.getD i default=p:=⟨_,rfl⟩;obtain⟨q,hq⟩:∃q,b.getD i default=q:=⟨_,rfl⟩;rw [hp]at wa;rw [hq]at wb;simp only [hp,hq]
   repeat' (first|((refine lG (fun hb=>?_) fun hb=>?_)<;>(try (refine ev4 @hb @mg @hp @hq ?_;try with_reducible exact aC)))|((refine jK (JJ h.CZ (y:=p.x) (z:=q.x) wa.1 wb.1) ?_)<;>(try (refine Dw @mg @hp @hq ?_;try with_reducible exact aC)))|((refine jK (JJ h.CZ (y:=p.y) (z:=q.y) wa.2 wb.2) ?_)<;>(try (refine Dw @mg @hp @hq ?_;try with_reducible exact aC))))
   all_goals first
    |(exfalso;simp_all;done)
    |(
      refine⟨i+1,by omega,⟨by omega,fun j hj'=>?_⟩,by exact abY⟩;by_cases e:j=i
      ·subst e;rw [hp,hq];first|assumption|(exact Pt.ext' (by simp_all) (by simp_all))
      exact hj j (by omega))
    |(
      have hne:¬a=b:=fun e=>by subst e;rw [hp]at hq;subst hq;simp_all
      simp [hne])
  have:a=b:=aaI h1 fun j h=>hj j (by omega);simp [this]
 have:¬a=b:=fun e=>h1 (by rw [e]);simp [this]
def R.ct(x:R):Nat:=1+x.mag.length+x.den.length
def Pt.ct(x:Pt):Nat:=1+x.x.mag.length+x.x.den.length+1+x.y.mag.length+x.y.den.length
def Lk.ct(x:Lk):Nat:=1+1+1+x.w.mag.length+x.w.den.length+1+x.dx.mag.length+x.dx.den.length+1+x.dy.mag.length+x.dy.den.length
def Pa.ct(x:Pa):Nat:=1+1+x.share.mag.length+x.share.den.length+1+x.dx.mag.length+x.dx.den.length+1+x.dy.mag.length+x.dy.den.length
def Cd.ct(x:Cd):Nat:=1+1+x.total.mag.length+x.total.den.length+cnL Pa.ct x.ps x.ps.length
def Tn.ct(x:Tn):Nat:=1+1+cnL Lk.ct x.own x.own.length+1+1+x.cond.total.mag.length+x.cond.total.den.length+cnL Pa.ct x.cond.ps x.cond.ps.length+cnL Lk.ct x.msgs x.msgs.length+1+x.NR.mag.length+x.NR.den.length
def Bi.ct2(x:Bi):Nat:=x.mag.length
def R.ct2(x:R):Nat:=Bi.ct2 x.num+x.den.length
def Pt.ct2(x:Pt):Nat:=x.x.ct2+x.y.ct2
def Lk.ct2(x:Lk):Nat:=x.w.ct2+x.dx.ct2+x.dy.ct2
def Cd.ct2(x:Cd):Nat:=x.total.ct2+cnL Pa.ct x.ps x.ps.length
theorem Ui{α:Type}{f:α->Nat}{l:List α}{x:α}{n:Nat}(h:NS f l<=n)(hx:x∈l):f x<=n:=by
 have:∀l:List α,x∈l->f x<=(l.map f).sum:=by
  intro l
  induction l with
  |nil=>intro h;simp at h
  |
   cons y l ih =>
   intro h;rw [bT,List.sum_cons];rcases aI.1 h with rfl|h
   ·omega
   have:=ih h;omega
 have:=this l hx;unfold NS at h;omega
def Ee:Fn:=⟨1,15,[.cell 2 3 true],(.seq (rf 2 [oN 1 (.box (.t 0)),oK 2 1 (.alloc uJ)]) (.seq (rt 0 [oN 3 (fd 0 1),oA 4 0 (fd 0 3) [0],oA 5 0 (lF 1 4) [1],oN 6 (fd 0 1),oA 7 0 (fd 1 6) [3],oA 8 0 (lF 1 7) [4],oA 9 0 (cl 139 [8]) [5],oA 10 0 (.build zz3 [(0,1,(.t 5)),(1,1,(.t 9))]) [2,6],oN 11 (fd 2 1),oA 12 0 (lF 1 11) [8],oA 13 0 (cl 139 [12]) [9,6],oA 14 0 (.build uJ [(0,2,(.t 10)),(2,1,(.t 13))]) [7,10],⟨none,none,0,.store 3 (.t 2) (.t 14),[11,10,0,1,2,3,4,5,6,7,8,9,10,11]⟩]) .ret))⟩
structure JK (T:Tb):Prop where
 hT:T 145=some Ee
 qO:wH T
def uQ:Fn:=⟨1,40,[.cell 2 5 true],(.seq (rf 2 [oN 1 (.box (.t 0)),oK 2 1 (.alloc zz4)]) (.seq (rt 1 [oK 7 1 (fd 0 1),oA 8 1 (lF 1 7) [0],oK 9 1 (fd 1 1),oA 10 1 (lT 3 9) [2],oA 11 1 (cl 145 [10]) [3],oA 12 1 (.build zz4 [(0,1,(.t 8)),(1,3,(.t 11))]) [1,4],oN 3 (.alloc zz4),⟨none,none,1,.store 5 (.t 3) (.t 12),[6,5,4,0,1,2,3,4,5,6]⟩]) (.seq (sr [oN 13 (fd 4 1),oN 14 (lF 1 13),oN 15 (ln 14),oN 16 (.qC (cI 0))] (.block 0 (.loop (sr [oN 17 (bt .lss 16 15)] (.seq (cd 17 .skip (.exit 0)) (.seq (.block 1 (.seq (rf 1 [oK 18 1 (ix 10 14 16),oK 19 1 (lT 10 18),oN 5 (.alloc zz5),⟨none,none,1,.store 10 (.t 5) (.t 19),[]⟩]) (.seq (rt 1 [oK 20 1 (fd 0 5),oA 21 1 (lF 1 20) [0],oK 22 1 (fd 1 5),oA 23 1 (lT 3 22) [2],oA 24 1 (cl 145 [23]) [3],oK 25 1 (fd 4 5),oA 26 1 (lT 3 25) [5],oA 27 1 (cl 145 [26]) [6,4],oK 28 1 (fd 7 5),oA 29 1 (lT 3 28) [8],oA 30 1 (cl 145 [29]) [9,7],oA 31 1 (.build zz5 [(0,1,(.t 21)),(1,3,(.t 24)),(4,3,(.t 27)),(7,3,(.t 30))]) [1,4,7,10],oN 6 (.alloc zz5),⟨none,none,1,.store 10 (.t 6) (.t 31),[12,11,10,0,1,2,3,4,5,6,7,8,9,10,11,12]⟩]) (rf 2 [oK 32 2 (fd 4 3),oK 33 2 (lF 1 32),oK 34 2 (lT 10 6),oN 35 (.nO 10 zz5 1 [(0,(.t 34))]),oK 36 1 (.app 10 176 (.t 33) (.t 35)),oK 37 2 (fd 4 3),⟨none,none,2,.store 1 (.t 37) (.t 36),[]⟩])))) (rg [oN 38 (bc .add 16 1),oW 16 38]))))))) (sr [oN 39 (lT 5 3),oS (.store 5 (.t 2) (.t 39))] .ret))))⟩
structure yI (T:Tb):Prop where
 hT:T 183=some uQ
 Ef:JK T
theorem NZ{T:Tb}(h:JK T){r:R}(hl:r.sz<=1048576:=by exact rF):PO T 145 [lD r] (lD r):=by
 simp only [R.sz]at hl;refine mM (fun x d=>x == 139) h.hT ?_;simp only [Ee,Lz,St.enter,au,aG,aX];refine ew ?_;have O:=fun s:Store=>(@avn 2 s).bool r.neg;refine sK (KJ h.qO (l:=r.mag) (by omega)) (by (refine ew ?_;try with_reducible exact aC)) (by (refine ew ?_;try with_reducible exact aC)) ?_;intro v1 σ1 o1 g;have B1:=g.at 1 (by simp) rfl;have B0:=g.at 0 (by simp) rfl;have lq:2<=σ1.length:=g.len;have lf:=g.lf rfl;have lb:=g.lfb rfl
 replace O:=(O _).got g (by simp)
 refine Ku @B0 @B1 @lq @lf @lb ?_;refine sK (KJ h.qO (l:=r.den) (by omega)) (by (refine ew ?_;try with_reducible exact aC)) (by (refine ew ?_;try with_reducible exact aC)) ?_;intro v2 σ2 o2 g2
 replace B1:=(g2.old 1 (by omega)).trans B1
 have lq2:2<=σ2.length:=by have:=g2.len;omega
 have lf2:=g2.lf rfl;have lb2:=g2.lfb rfl
 replace O:=O.got g2 (by omega)
 refine D5 @B1 @lq2 @lf2 @lb2 @lf @lb ?_;refine⟨by unfold sF;decide +kernel,?_⟩;refine Ae @lq2 ?_;exact(O.set (by decide)).fin
def Eh:Fn:=⟨1,21,[.tmp 2],(sr [oN 2 mN] (sr [oW 4 0,oN 5 (ln 4),oW 3 5] (.seq (.block 0 (.loop (.seq (sr [oW 6 3,oN 7 (bc .gtr 6 0),oW 8 7,oG 8 true 9 (oV 0),oG 8 true 10 (oV 3),oG 8 true 11 (bc .sub 10 1),oG 8 true 12 (ix 1 9 11),oG 8 true 13 (lF 1 12),oG 8 true 14 (bc .eql 13 0),oN 15 (.pick (.t 8) (.t 14) (.c (.bool false)))] (cd 15 .skip (.exit 0))) (.block 1 (rg [oW 16 3,oN 17 (bc .sub 16 1),oW 3 17]))))) (sr [oW 18 0,oW 19 3,oN 20 (.slice 1 (.t 18) none (some (.t 19))),oW 2 20] .ret))))⟩
structure uh (T:Tb):Prop where
 hT:T 71=some Eh
def GU:Fn:=⟨2,41,[.tmp 4],(sr [oN 4 (.qC (cI 0))] (.seq (sr [oW 6 0,oN 7 (ln 6),oW 8 1,oN 9 (ln 8),oN 10 (bt .neq 7 9)] (cd 10 (.seq (sr [oW 11 0,oN 12 (ln 11),oW 13 1,oN 14 (ln 13),oN 15 (bt .lss 12 14)] (cd 15 (sr [oN 4 (.qC (cI (-1)))] .ret) .skip)) (sr [oN 4 (.qC (cI 1))] .ret)) .skip)) (.seq (sr [oW 16 0,oN 17 (ln 16),oN 18 (bc .sub 17 1),oW 5 18] (.block 0 (.loop (.seq (sr [oW 19 5,oN 20 (bc .geq 19 0)] (cd 20 .skip (.exit 0))) (.seq (.block 1 (.seq (.seq (rt 0 [oW 23 0,oW 24 5,oA 25 0 (ix 1 23 24) [0,1],oA 26 0 (lF 1 25) [2],oW 27 1,oW 28 5,oA 29 0 (ix 1 27 28) [4,5],oA 30 0 (lF 1 29) [6],oA 31 0 (bt .lss 26 30) [3,7]]) (cd 31 (sr [oN 4 (.qC (cI (-1)))] .ret) .skip)) (.seq (rt 0 [oW 32 0,oW 33 5,oA 34 0 (ix 1 32 33) [0,1],oA 35 0 (lF 1 34) [2],oW 36 1,oW 37 5,oA 38 0 (ix 1 36 37) [4,5],oA 39 0 (lF 1 38) [6],oA 40 0 (bt .gtr 35 39) [3,7]]) (cd 40 (sr [oN 4 (.qC (cI 1))] .ret) .skip)))) (rg [oW 21 5,oN 22 (bc .sub 21 1),oW 5 22])))))) (sr [oN 4 (.qC (cI 0))] .ret))))⟩
structure zq (T:Tb):Prop where
 hT:T 146=some GU
def GV:Fn:=⟨2,55,[.tmp 4],(sr [oN 4 mN] (.seq (rf 1 [oN 9 (.nO 1 Kt 0 []),oK 5 1 (oV 9)]) (sr [oN 6 (.qC (cI 0))] (.seq (sr [oN 7 (.qC (cI 0))] (.block 0 (.loop (.seq (sr [oW 10 7,oW 11 0,oN 12 (ln 11),oN 13 (bt .lss 10 12),oW 14 13,oG 14 false 15 (oV 7),oG 14 false 16 (oV 1),oG 14 false 17 (ln 16),oG 14 false 18 (bt .lss 15 17),oN 19 (.pick (.t 14) (.c (.bool true)) (.t 18)),oW 20 19,oG 20 false 21 (oV 6),oG 20 false 22 (bc .gtr 21 0),oN 23 (.pick (.t 20) (.c (.bool true)) (.t 22))] (cd 23 .skip (.exit 0))) (.seq (.block 1 (sr [oW 26 6,oW 8 26] (.seq (sr [oW 27 7,oW 28 0,oN 29 (ln 28),oN 30 (bt .lss 27 29)] (cd 30 (rg [oW 31 8,oW 32 0,oW 33 7,oN 34 (ix 1 32 33),oN 35 (lF 1 34),oN 36 (bt .add 31 35),oW 8 36]) .skip)) (.seq (sr [oW 37 7,oW 38 1,oN 39 (ln 38),oN 40 (bt .lss 37 39)] (cd 40 (rg [oW 41 8,oW 42 1,oW 43 7,oN 44 (ix 1 42 43),oN 45 (lF 1 44),oN 46 (bt .add 41 45),oW 8 46]) .skip)) (.seq (rf 2 [oK 47 2 (oV 5),oK 48 2 (oV 8),oK 49 2 (bc .rem 48 1000000000),oN 50 (.nO 1 Kt 1 [(0,(.t 49))]),oK 51 1 (.app 1 8 (.t 47) (.t 50)),oK 5 2 (oV 51)]) (rg [oW 52 8,oN 53 (bc .quo 52 1000000000),oW 6 53])))))) (rg [oW 24 7,oN 25 (bc .add 24 1),oW 7 25])))))) (sr [oW 54 5,oW 4 54] .ret)))))⟩
structure Ll (T:Tb):Prop where
 hT:T 209=some GV
def GX:Fn:=⟨2,42,[.tmp 4],(sr [oN 4 mN] (.seq (rf 1 [oN 9 (.nO 1 Kt 0 []),oK 5 1 (oV 9)]) (sr [oN 6 (.qC (cI 0))] (.seq (sr [oW 10 0,oN 11 (ln 10),oN 12 (.qC (cI 0))] (.block 0 (.loop (sr [oN 13 (bt .lss 12 11)] (.seq (cd 13 .skip (.exit 0)) (.seq (.block 1 (sr [oW 14 12,oW 7 14] (sr [oW 15 0,oW 16 7,oN 17 (ix 1 15 16),oN 18 (lF 1 17),oW 19 6,oN 20 (bt .sub 18 19),oW 8 20] (.seq (sr [oW 21 7,oW 22 1,oN 23 (ln 22),oN 24 (bt .lss 21 23)] (cd 24 (rg [oW 25 8,oW 26 1,oW 27 7,oN 28 (ix 1 26 27),oN 29 (lF 1 28),oN 30 (bt .sub 25 29),oW 8 30]) .skip)) (sr [oN 6 (.qC (cI 0))] (.seq (sr [oW 31 8,oN 32 (bc .lss 31 0)] (cd 32 (sr [oW 33 8,oN 34 (bc .add 33 1000000000),oW 8 34] (rg [oN 6 (.qC (cI 1))])) .skip)) (rf 2 [oK 35 2 (oV 5),oK 36 2 (oV 8),oN 37 (.nO 1 Kt 1 [(0,(.t 36))]),oK 38 1 (.app 1 8 (.t 35) (.t 37)),oK 5 2 (oV 38)]))))))) (rg [oN 39 (bc .add 12 1),oW 12 39]))))))) (sr [oW 40 5,oN 41 (cl 71 [40]),oW 4 41] .ret)))))⟩
structure GY (T:Tb):Prop where
 hT:T 149=some GX
 og:uh T
def GZ:Fn:=⟨2,72,[.tmp 4],(sr [oN 4 mN] (.seq (sr [oW 12 0,oN 13 (ln 12),oN 14 (bc .eql 13 0),oW 15 14,oG 15 false 16 (oV 1),oG 15 false 17 (ln 16),oG 15 false 18 (bc .eql 17 0),oN 19 (.pick (.t 15) (.c (.bool true)) (.t 18))] (cd 19 (sr [oN 4 mN] .ret) .skip)) (.seq (rf 1 [oK 20 1 (oV 0),oK 21 1 (ln 20),oK 22 1 (oV 1),oK 23 1 (ln 22),oK 24 1 (bt .add 21 23),oN 25 (.make Kt 8 (.t 24)),oK 5 1 (oV 25)]) (.seq (sr [oW 26 0,oN 27 (ln 26),oN 28 (.qC (cI 0))] (.block 0 (.loop (sr [oN 29 (bt .lss 28 27)] (.seq (cd 29 .skip (.exit 0)) (.seq (.block 1 (sr [oW 30 28,oN 31 (ix 1 26 28),oN 32 (lF 1 31),oW 6 30,oW 7 32] (sr [oN 8 (.qC (cI 0))] (.seq (sr [oW 33 1,oN 34 (ln 33),oN 35 (.qC (cI 0))] (.block 2 (.loop (sr [oN 36 (bt .lss 35 34)] (.seq (cd 36 .skip (.exit 2)) (.seq (.block 3 (sr [oW 37 35,oN 38 (ix 1 33 35),oN 39 (lF 1 38),oW 9 37,oW 10 39] (sr [oW 40 5,oW 41 6,oW 42 9,oN 43 (bt .add 41 42),oN 44 (ix 1 40 43),oN 45 (lF 1 44),oW 46 7,oW 47 10,oN 48 (bt .mul 46 47),oN 49 (bt .add 45 48),oW 50 8,oN 51 (bt .add 49 50),oW 11 51] (sr [oW 52 5,oW 53 6,oW 54 9,oN 55 (bt .add 53 54),oW 56 11,oN 57 (bc .rem 56 1000000000),oN 58 (ix 1 52 55),oS (.store 1 (.t 58) (.t 57))] (rg [oW 59 11,oN 60 (bc .quo 59 1000000000),oW 8 60]))))) (rg [oN 61 (bc .add 35 1),oW 35 61]))))))) (rg [oW 62 5,oW 63 6,oW 64 1,oN 65 (ln 64),oN 66 (bt .add 63 65),oW 67 8,oN 68 (ix 1 62 66),oS (.store 1 (.t 68) (.t 67))]))))) (rg [oN 69 (bc .add 28 1),oW 28 69]))))))) (sr [oW 70 5,oN 71 (cl 71 [70]),oW 4 71] .ret)))))⟩
structure xk (T:Tb):Prop where
 hT:T 150=some GZ
 og:uh T
def Jb:Fn:=⟨1,15,[.tmp 2],(sr [oN 2 mN] (.seq (rf 1 [oN 4 (.nO 1 Kt 0 []),oK 3 1 (oV 4)]) (.seq (.block 0 (.loop (.seq (sr [oW 5 0,oN 6 (bc .gtr 5 0)] (cd 6 .skip (.exit 0))) (.block 1 (.seq (rf 2 [oK 7 2 (oV 3),oK 8 2 (oV 0),oK 9 2 (bc .rem 8 1000000000),oN 10 (.nO 1 Kt 1 [(0,(.t 9))]),oK 11 1 (.app 1 8 (.t 7) (.t 10)),oK 3 2 (oV 11)]) (rg [oW 12 0,oN 13 (bc .quo 12 1000000000),oW 0 13])))))) (sr [oW 14 3,oW 2 14] .ret))))⟩
structure Bc (T:Tb):Prop where
 hT:T 67=some Jb
def Jc:Fn:=⟨3,15,[.tmp 6],(sr [oN 6 mF] (sr [oW 7 0,oW 8 1,oN 9 (bt .geq 7 8),oW 10 9,oG 10 true 11 (oV 0),oG 10 true 12 (oV 2),oG 10 true 13 (bt .leq 11 12),oN 14 (.pick (.t 10) (.t 13) (.c (.bool false))),oW 6 14] .ret))⟩
structure Ei (T:Tb):Prop where
 hT:T 35=some Jc
def Jd:Fn:=⟨1,32,[.tmp 2],(sr [oN 2 mF] (.seq (sr [oW 5 0,oN 6 (ln 5),oN 7 (.qC (cI 0))] (.block 0 (.loop (sr [oN 8 (bt .lss 7 6)] (.seq (cd 8 .skip (.exit 0)) (.seq (.block 1 (sr [oN 9 (ix 1 5 7),oN 10 (lF 1 9),oW 4 10] (sr [oW 11 4,oN 12 (.call 35 [(.t 11),(cI 0),(cI 999999999)]),oN 13 (nt 12)] (cd 13 (sr [oN 2 mF] .ret) .skip)))) (rg [oN 14 (bc .add 7 1),oW 7 14]))))))) (sr [oW 15 0,oN 16 (ln 15),oN 17 (bc .leq 16 60),oW 18 17,oG 18 true 19 (oV 0),oG 18 true 20 (ln 19),oG 18 true 21 (bc .eql 20 0),oG 18 true 22 (oV 21),oG 22 false 23 (oV 0),oG 22 false 24 (oV 0),oG 22 false 25 (ln 24),oG 22 false 26 (bc .sub 25 1),oG 22 false 27 (ix 1 23 26),oG 22 false 28 (lF 1 27),oG 22 false 29 (bc .neq 28 0),oG 18 true 30 (.pick (.t 22) (.c (.bool true)) (.t 29)),oN 31 (.pick (.t 18) (.t 30) (.c (.bool false))),oW 2 31] .ret)))⟩
structure Ej (T:Tb):Prop where
 hT:T 121=some Jd
 yJ:Ei T
def G5:Fn:=⟨1,10,[.tmp 2],(sr [oN 2 mN] (sr [oW 4 0,oN 5 (cl 71 [4]),oW 3 5] (.seq (sr [oW 6 3,oN 7 (ln 6),oN 8 (bc .gtr 7 60)] (cd 8 (sr [oN 2 mN] .ret) .skip)) (sr [oW 9 3,oW 2 9] .ret))))⟩
structure Ls (T:Tb):Prop where
 hT:T 70=some G5
 og:uh T
theorem DW{T:Tb}(h:uh T){l:List Int}(hl:l.length<=1048576:=by exact rF):PF T 71 [ints l] (ints (trim l)):=by
 refine lV nR h.hT ?_;simp only [Eh,Lz];refine ev ?_;refine kZ (fun _ _=>false) (α:=Nat) (fun n=>⟨mJ [ints l,.any,.any,iv (n:Nat)],[],0,0,[],[]⟩) (fun n=>n<=l.length/\yE l l.length=yE l n) (fun n=>n) rfl l.length ?_ ?_ ?_
 ·exact⟨by omega,rfl⟩
 ·(refine kS ?_;exact Kr)
 rintro n ⟨hn,ht⟩;refine ev ?_;refine lG (fun hb=>?_) fun hb=>?_<;>(refine ev1 @hb ?_;try with_reducible exact aC)
 ·obtain⟨m,rfl⟩:∃m,n=m+1:=⟨n-1,by omega⟩;have e1:((m+1:Nat):Int)-1=(m:Nat):=by omega
  refine ev1 @e1 ?_;refine lG (fun hc=>?_) fun hc=>?_<;>(refine ev1 @hc ?_;try with_reducible exact aC)
  ·refine⟨m,by omega,⟨by omega,?_⟩,by (refine kS ?_;exact Kr)⟩;rw [ht];simp only [yE,hc,if_true]
  rw [trim,ht];simp only [yE,hc,if_false]
 have:n=0:=by omega
 subst this;rw [trim,ht];simp [yE,kU]
theorem amz{T:Tb}(h:Ls T){n:Nat}(hl:(mk n).length<=60:=by exact rF):PF T 70 [ints (mk n)] (ints (mk n)):=by
 have ct:=DW h.og (l:=mk n) (by omega);rw [Ym (wY n)]at ct;have c1:¬(60:Int)<((mk n).length:Nat):=by omega
 refine lV nR h.hT ?_;simp only [G5,Lz];refine ev ?_;refine jK ct ?_
 (refine ev1 @c1 ?_;try with_reducible exact aC)
theorem Uj{T:Tb}(h:zq T){a b:List Int}(ha:Can a)(hb:Can b)(la:a.length<=1048576:=by exact rF)(lb:b.length<=1048576:=by exact rF):PF T 146 [ints a,ints b] (iv (MX (val a) (val b))):=by
 refine lV nR h.hT ?_;simp only [GU,Lz];refine ev ?_;by_cases h1:((a.length:Nat):Int)<(b.length:Nat)
 ·have:=zl ha.1 hb (by omega);have h0:¬((a.length:Nat):Int)=(b.length:Nat):=by omega
  refine xP @h0 @h1 ?_;simp [MX,this]
 by_cases h2:((b.length:Nat):Int)<(a.length:Nat)
 ·have:=zl hb.1 ha (by omega);have h3:¬val a<val b:=by omega
  have h0:¬((a.length:Nat):Int)=(b.length:Nat):=by omega
  refine xP @h0 @h1 ?_;simp [MX,this,h3]
 have hl:a.length=b.length:=by omega
 have h0:=iff_true_intro (show ((a.length:Nat):Int)=(b.length:Nat) by omega);refine ev1 @h0 ?_;refine kZ (fun _ _=>false) (α:=Nat) (fun n=>⟨mJ [ints a,ints b,.any,.any,.any,iv ((n:Int)-1)],[],0,0,[],[]⟩) (fun n=>n<=a.length/\a.drop n=b.drop n) (fun n=>n) rfl a.length ?_ ?_ ?_
 ·exact⟨by omega,by rw [eP (by omega),eP (by omega)]⟩
 ·(refine kS ?_;exact Kr)
 rintro n ⟨hn,hd⟩;refine ev ?_;refine lG (fun h3=>?_) fun h3=>?_<;>(refine ev1 @h3 ?_;try with_reducible exact aC)
 ·obtain⟨m,rfl⟩:∃m,n=m+1:=⟨n-1,by omega⟩;have e1:((m+1:Nat):Int)-1=(m:Nat):=by omega
  refine ev1 @e1 ?_;refine lG (fun h4=>?_) fun h4=>?_<;>(refine xP @h4 @e1 ?_;try with_reducible exact aC)
  ·have:=QA ha.1 hb.1 (i:=m) (by omega) (by omega) hd h4;simp [MX,this]
  refine lG (fun h5=>?_) fun h5=>?_<;>(refine xP @h5 @e1 ?_;try with_reducible exact aC)
  ·have:=QA hb.1 ha.1 (i:=m) (by omega) (by omega) hd.symm h5;have h6:¬val a<val b:=by omega
   simp [MX,this,h6]
  have e:a.getD m 0=b.getD m 0:=by omega
  refine⟨m,by omega,⟨by omega,?_⟩,by (refine kS ?_;exact Kr)⟩;rw [QC (by omega),QC (l:=b) (by omega),e,hd]
 have:n=0:=by omega
 subst this;simp only [dA]at hd;subst hd;simp [MX]
theorem amA{T:Tb}(h:Ll T){m n:Nat}(la:(mk m).length<=1000:=by exact rF)(lb:(mk n).length<=1000:=by exact rF):PF T 209 [ints (mk m),ints (mk n)] (ints (mk (m+n))):=by
 obtain⟨a,hA⟩:∃a,mk m=a:=⟨_,rfl⟩;obtain⟨b,hB⟩:∃b,mk n=b:=⟨_,rfl⟩;have hva:val a=m:=by rw [<-hA,val_mk]
 have hvb:val b=n:=by rw [<-hB,val_mk]
 have hba:Lb a:=hA▸wC m;have hbb:Lb b:=hB▸wC n;rw [hA]at la ⊢;rw [hB]at lb ⊢;refine kX nR h.hT ?_;simp only [GV,Lz];refine ev ?_;refine kZ (fun _ _=>false) (α:=Nat×Int×List Int) (fun q=>⟨mJ [ints a,ints b,.any,.any,.any,slV q.2.2.length,iv q.2.1,iv (q.1:Nat)],slS 1 (kU q.2.2),0,0,[],[]⟩) (fun q=>q.2.2.length=q.1/\Lb q.2.2/\(0<=q.2.1/\q.2.1<=1)/\val q.2.2+1000000000 ^ q.1*(q.2.1.toNat+val (a.drop q.1)+val (b.drop q.1))=m+n/\(q.1<=max a.length b.length\/(q.1=max a.length b.length+1/\q.2.1=0/\q.2.2.getLast? ≠ some 0))) (fun q=>max a.length b.length+1-q.1) rfl (0,0,[]) ?_ ?_ ?_
 ·exact⟨rfl,aga,⟨by dsimp only;omega,by dsimp only;omega⟩,by simp [val,hva,hvb],by dsimp only;omega⟩
 ·exact JH
 rintro⟨i,c,xs⟩ ⟨hl,hlb,hc,hv,hi⟩;dsimp only at hl hlb hc hv hi;have hi':i<=max a.length b.length\/(i=max a.length b.length+1/\c=0):=hi.imp id fun h=>⟨h.1,h.2.1⟩;have hx:xs.length<=1001:=by omega
 have ea:=qW a i;have eb:=qW b i;have ga:=wE hba i;have gb:=wE hbb i;have step:=ad8 hl hc.1 ga.1 gb.1 hv ea eb;have za:a.length<=i->a.getD i 0=0:=NY;have zb:b.length<=i->b.getD i 0=0:=NY;have key:∀t:Int,t=c+a.getD i 0+b.getD i 0->((i:Int)<a.length\/(i:Int)<b.length\/0<c)->∃a':Nat×Int×List Int,a'=(i+1,t.tdiv 1000000000,xs++[t.tmod 1000000000]) /\
   max a.length b.length+1-a'.1<max a.length b.length+1-i/\(a'.2.2.length=a'.1/\Lb a'.2.2/\(0<=a'.2.1/\a'.2.1<=1)/\val a'.2.2+1000000000 ^ a'.1*(a'.2.1.toNat+val (a.drop a'.1)+val (b.drop a'.1))=m+n /\
    (a'.1<=max a.length b.length\/(a'.1=max a.length b.length+1/\a'.2.1=0/\a'.2.2.getLast? ≠ some 0))):=by
  intro t ht hor;have ht0:0<=t:=by omega
  refine⟨_,rfl,?_⟩;dsimp only;rw [Sm ht0,Sr ht0];refine⟨by omega,by simp [hl],abM (by omega) (by omega) hlb,⟨by omega,by omega⟩,by rw [ht];exact step,?_⟩;by_cases hlt:i<max a.length b.length
  ·left;omega
  right;have h1:=za (by omega);have h2:=zb (by omega);refine⟨by omega,by omega,?_⟩;intro hlast;rw [List.getLast?_concat]at hlast;have:=Option.some.inj hlast;omega
 have fin:¬((i:Int)<a.length\/(i:Int)<b.length\/0<c)->xs=mk (m+n):=by
  intro hno;have e1:val (a.drop i)=0:=nK (by omega);have e2:val (b.drop i)=0:=nK (by omega);rw [e1,e2,show c.toNat=0 by omega]at hv;simp only [iP,kL]at hv;refine(aib hv hlb ?_).symm;rw [hA,hB];rcases hi with k|k
  ·left;omega
  right;exact k.2.2
 by_cases ca:(i:Int)<(a.length:Nat)<;>by_cases cb:(i:Int)<(b.length:Nat)<;>by_cases cc:0<c
 ·obtain⟨_,rfl,k1,k2⟩:=key (c+a.getD i 0+b.getD i 0) (by omega) (by omega);clear key step fin ea eb hi hv hlb hba hbb za zb
  (rcases xs with _|⟨x,xs⟩<;>simp only [aG,au,xG,wF,qE,oD]at hx ⊢)
  ·refine Dw @ca @cb @cc ?_;exact⟨by omega,_,k1,k2,by exact Nh⟩
  refine Dw @ca @cb @cc ?_;exact⟨by omega,_,k1,k2,by exact Kv⟩
 ·obtain⟨_,rfl,k1,k2⟩:=key (c+a.getD i 0+b.getD i 0) (by omega) (by omega);clear key step fin ea eb hi hv hlb hba hbb za zb
  (rcases xs with _|⟨x,xs⟩<;>simp only [aG,au,xG,wF,qE,oD]at hx ⊢)
  ·refine Dw @ca @cb @cc ?_;exact⟨by omega,_,k1,k2,by exact Nh⟩
  refine Dw @ca @cb @cc ?_;exact⟨by omega,_,k1,k2,by exact Kv⟩
 ·obtain⟨_,rfl,k1,k2⟩:=key (c+a.getD i 0) (by omega) (by omega);clear key step fin ea eb hi hv hlb hba hbb za zb
  (rcases xs with _|⟨x,xs⟩<;>simp only [aG,au,xG,wF,qE,oD]at hx ⊢)
  ·refine Dw @ca @cb @cc ?_;exact⟨by omega,_,k1,k2,by exact Nh⟩
  refine Dw @ca @cb @cc ?_;exact⟨by omega,_,k1,k2,by exact Kv⟩
 ·obtain⟨_,rfl,k1,k2⟩:=key (c+a.getD i 0) (by omega) (by omega);clear key step fin ea eb hi hv hlb hba hbb za zb
  (rcases xs with _|⟨x,xs⟩<;>simp only [aG,au,xG,wF,qE,oD]at hx ⊢)
  ·refine Dw @ca @cb @cc ?_;exact⟨by omega,_,k1,k2,by exact Nh⟩
  refine Dw @ca @cb @cc ?_;exact⟨by omega,_,k1,k2,by exact Kv⟩
 ·obtain⟨_,rfl,k1,k2⟩:=key (c+b.getD i 0) (by omega) (by omega);clear key step fin ea eb hi hv hlb hba hbb za zb
  (rcases xs with _|⟨x,xs⟩<;>simp only [aG,au,xG,wF,qE,oD]at hx ⊢)
  ·refine Dw @ca @cb @cc ?_;exact⟨by omega,_,k1,k2,by exact Nh⟩
  refine Dw @ca @cb @cc ?_;exact⟨by omega,_,k1,k2,by exact Kv⟩
 ·obtain⟨_,rfl,k1,k2⟩:=key (c+b.getD i 0) (by omega) (by omega);clear key step fin ea eb hi hv hlb hba hbb za zb
  (rcases xs with _|⟨x,xs⟩<;>simp only [aG,au,xG,wF,qE,oD]at hx ⊢)
  ·refine Dw @ca @cb @cc ?_;exact⟨by omega,_,k1,k2,by exact Nh⟩
  refine Dw @ca @cb @cc ?_;exact⟨by omega,_,k1,k2,by exact Kv⟩
 ·obtain⟨_,rfl,k1,k2⟩:=key (c) (by omega) (by omega);clear key step fin ea eb hi hv hlb hba hbb za zb
  (rcases xs with _|⟨x,xs⟩<;>simp only [aG,au,xG,wF,qE,oD]at hx ⊢)
  ·refine Dw @ca @cb @cc ?_;exact⟨by omega,_,k1,k2,by exact Nh⟩
  refine Dw @ca @cb @cc ?_;exact⟨by omega,_,k1,k2,by exact Kv⟩
 have e:=fin (by omega);clear key step fin ea eb hi hv hlb hba hbb za zb
 (rcases xs with _|⟨x,xs⟩<;>simp only [aG,au,xG,wF,qE,oD]at hx ⊢)
 ·refine Dw @ca @cb @cc ?_;rw [<-e];exact(qg 1▸trivial)
 refine Dw @ca @cb @cc ?_;rw [<-e];exact kR _
theorem Em{T:Tb}(h:xk T){m n:Nat}(la:(mk m).length<=1000:=by exact rF)(lb:(mk n).length<=1000:=by exact rF):PF T 150 [ints (mk m),ints (mk n)] (ints (mk (m*n))):=by
 obtain⟨a,hA⟩:∃a,mk m=a:=⟨_,rfl⟩;obtain⟨b,hB⟩:∃b,mk n=b:=⟨_,rfl⟩;have hva:val a=m:=by rw [<-hA,val_mk]
 have hvb:val b=n:=by rw [<-hB,val_mk]
 have hba:Lb a:=hA▸wC m;have hbb:Lb b:=hB▸wC n;rw [hA]at la ⊢;rw [hB]at lb ⊢;refine kX nR h.hT ?_;simp only [GZ,Lz];refine ev ?_;by_cases h1:a.length=0
 ·have:a=[]:=aY h1;have e:m=0:=by rw [<-hva,this];rfl
  have h1':((a.length:Nat):Int)=0:=by omega
  refine ev1 @h1' ?_;rw [e,kJ,mk_zero];exact(qg 1▸trivial)
 by_cases h2:b.length=0
 ·have:b=[]:=aY h2;have e:n=0:=by rw [<-hvb,this];rfl
  have h1':¬((a.length:Nat):Int)=0:=by omega
  have h2':((b.length:Nat):Int)=0:=by omega
  refine xP @h1' @h2' ?_;rw [e,kL,mk_zero];exact(qg 1▸trivial)
 have h1':¬((a.length:Nat):Int)=0:=by omega
 have h2':¬((b.length:Nat):Int)=0:=by omega
 refine xP @h1' @h2' ?_;refine⟨⟨by omega,by omega,by omega⟩,?_⟩;have eL:((a.length:Int)+(b.length:Int)).toNat=a.length+b.length:=by omega
 rw [eL,RY];refine kZ (fun _ _=>false) (α:=Nat×List Int) (fun q=>⟨mJ [ints a,ints b,.any,.any,.any,.lQ 0 0 (a.length+b.length),.any,.any,.any,.any,.any,.any,.any,.any,.any,.any,.any,.any,.any,.any,.any,.any,.any,.any,.any,.any,ints a,iv (a.length:Nat),iv (q.1:Nat)],[some ⟨1,kU q.2⟩],0,0,[],[]⟩) (fun q=>q.1<=a.length/\q.2.length=a.length+b.length/\Lb q.2/\val q.2=val (a.take q.1)*n/\∀k,q.1+b.length<=k->q.2.getD k 0=0) (fun q=>a.length-q.1) rfl (0,List.replicate (a.length+b.length) 0) ?_ ?_ ?_
 ·exact⟨by omega,by simp,RZ _,by rw [ahZ];simp [val],by intro k _;simp [aj,jr];split<;>rfl⟩
 ·(refine kS ?_;exact Kr)
 rintro⟨i,P⟩ ⟨hi,hP,hPb,hv,hz⟩;dsimp only at hi hP hPb hv hz;refine ev ?_;refine lG (fun c1=>?_) fun c1=>?_<;>(refine ev1 @c1 ?_;try with_reducible exact aC)
 ·have ga:=wE hba i;have eA:val (a.take (i+1))=val (a.take i)+1000000000 ^ i*(a.getD i 0).toNat:=by
   rw [pq (by omega),yX];congr 3;simp;omega
  refine kZ (fun _ _=>false) (α:=Nat×Int×List Int) (fun q=>⟨mJ [ints a,ints b,.any,.any,.any,.lQ 0 0 (a.length+b.length),iv (i:Nat),iv (a.getD i 0),iv q.2.1,.any,.any,.any,.any,.any,.any,.any,.any,.any,.any,.any,.any,.any,.any,.any,.any,.any,ints a,iv (a.length:Nat),iv (i:Nat),.any,.any,.any,.any,ints b,iv (b.length:Nat),iv (q.1:Nat)],[some ⟨1,kU q.2.2⟩],0,0,[],[]⟩) (fun q=>q.1<=b.length/\q.2.2.length=a.length+b.length/\Lb q.2.2/\(0<=q.2.1/\q.2.1<1000000000)/\val q.2.2+q.2.1.toNat*(1000000000 ^ i*1000000000 ^ q.1)=val P+(a.getD i 0).toNat*(1000000000 ^ i*val (b.take q.1))/\∀k,i+b.length<=k->q.2.2.getD k 0=0) (fun q=>b.length-q.1) rfl (0,0,P) ?_ ?_ ?_
  ·exact⟨by omega,hP,hPb,⟨by dsimp only;omega,by dsimp only;omega⟩,by simp [val],hz⟩
  ·(refine kS ?_;exact Kr)
  rintro⟨j,c,D⟩ ⟨hj,hD,Sv,hc,hw,hzD⟩;dsimp only at hj hD Sv hc hw hzD;have gb:=wE hbb j;have gd:=wE Sv (i+j);have hm:=amy ga gb;by_cases c2:(j:Int)<(b.length:Nat)
  ·have k2:(val (D.set (i+j) ((D.getD (i+j) 0+a.getD i 0*b.getD j 0+c) % 1000000000))+((D.getD (i+j) 0+a.getD i 0*b.getD j 0+c) / 1000000000).toNat*(1000000000 ^ i*1000000000 ^ (j+1)))=val P+(a.getD i 0).toNat*(1000000000 ^ i*val (b.take (j+1))):=by
    have e1:val (b.take (j+1))=val (b.take j)+1000000000 ^ j*(b.getD j 0).toNat:=by
     rw [pq (by omega),yX];congr 3;simp;omega
    have e2:=Xn (l:=D) (i:=i+j) (d:=(D.getD (i+j) 0+a.getD i 0*b.getD j 0+c) % 1000000000) (by omega);have e3:(a.getD i 0*b.getD j 0).toNat=(a.getD i 0).toNat*(b.getD j 0).toNat:=Int.toNat_mul ga.1 gb.1;have e4:(D.getD (i+j) 0+a.getD i 0*b.getD j 0+c).toNat=c.toNat+(D.getD (i+j) 0).toNat+(a.getD i 0).toNat*(b.getD j 0).toNat:=by
     rw [<-e3];omega
    rw [e1,jk];rw [Nat.pow_add]at e2;have e5:((D.getD (i+j) 0+a.getD i 0*b.getD j 0+c) % 1000000000).toNat=(D.getD (i+j) 0+a.getD i 0*b.getD j 0+c).toNat % 1000000000:=by omega
    have e6:((D.getD (i+j) 0+a.getD i 0*b.getD j 0+c) / 1000000000).toNat=(D.getD (i+j) 0+a.getD i 0*b.getD j 0+c).toNat / 1000000000:=by omega
    rw [e5]at e2;rw [e6];exact aeb hw e2 e4
   have k3:∀k,i+b.length<=k->(D.set (i+j) ((D.getD (i+j) 0+a.getD i 0*b.getD j 0+c) % 1000000000)).getD k 0=0:=by
    intro k hk;rw [sV,aN (by omega)];exact hzD k hk
   have k4:=NQ (l:=D) (i:=i+j) (d:=(D.getD (i+j) 0+a.getD i 0*b.getD j 0+c) % 1000000000) (by omega) (by omega) Sv;have t1:(D.getD (i+j) 0+a.getD i 0*b.getD j 0+c).tmod 1000000000=(D.getD (i+j) 0+a.getD i 0*b.getD j 0+c) % 1000000000:=Sm (by omega);have t2:(D.getD (i+j) 0+a.getD i 0*b.getD j 0+c).tdiv 1000000000=(D.getD (i+j) 0+a.getD i 0*b.getD j 0+c) / 1000000000:=Sr (by omega);have t3:((i:Int)+(j:Int)).toNat=i+j:=by omega
   clear hv hz hPb Sv eA hw hzD hba hbb;refine ev5 @c2 @hD @t1 @t2 @t3 ?_;refine⟨(j+1,(D.getD (i+j) 0+a.getD i 0*b.getD j 0+c) / 1000000000,D.set (i+j) ((D.getD (i+j) 0+a.getD i 0*b.getD j 0+c) % 1000000000)),by dsimp only;omega,⟨by dsimp only;omega,by simp [hD],k4,⟨by dsimp only;omega,by dsimp only;omega⟩,k2,k3⟩,by (refine kS ?_;exact Kr)⟩
  have hj2:j=b.length:=by omega
  subst hj2;rw [bI]at hw;have e2:=Xn (l:=D) (i:=i+b.length) (d:=c) (by omega);rw [hzD (i+b.length) (aJ _),Nat.pow_add]at e2;have k1:val (D.set (i+b.length) c)=val (a.take (i+1))*n:=by
   rw [eA,gJ,<-hv,<-hvb];have:1000000000 ^ i*(a.getD i 0).toNat*val b=(a.getD i 0).toNat*(1000000000 ^ i*val b):=by rw [dS (1000000000 ^ i),ig]
   rw [this];have:c.toNat*(1000000000 ^ i*1000000000 ^ b.length)=1000000000 ^ i*1000000000 ^ b.length*c.toNat:=dS _ _;simp only [Int.toNat_zero,kL,iP]at e2;omega
  have k2:∀k,(i+1)+b.length<=k->(D.set (i+b.length) c).getD k 0=0:=by
   intro k hk;rw [sV,aN (by omega)];exact hzD k (by omega)
  have k3:=NQ (l:=D) (i:=i+b.length) hc.1 hc.2 Sv;have t3:((i:Int)+(b.length:Int)).toNat=i+b.length:=by omega
  clear hv hz hPb Sv eA hw hzD hba hbb e2;refine Dw @c2 @hD @t3 ?_;exact⟨(i+1,D.set (i+b.length) c),by dsimp only;omega,⟨by dsimp only;omega,by simp [hD],k3,k1,k2⟩,by (refine kS ?_;exact Kr)⟩
 have hi2:i=a.length:=by omega
 subst hi2;rw [bI,hva]at hv;refine ev1 @hP ?_;refine jK (DW h.og (l:=P) (by omega)) ?_;refine ev ?_;rw [CS hPb,hv];exact kR _
theorem Uk{T:Tb}(h:Ei T){a b c:Int}:PF T 35 [iv a,iv b,iv c] (.bool (decide (b<=a)&&decide (a<=c))):=by
 refine lV nR h.hT ?_;simp only [Jc,Lz];refine ev ?_;by_cases h1:b<=a
 ·(refine ev1 @h1 ?_;try with_reducible exact aC)
 (refine ev1 @h1 ?_;try with_reducible exact aC)
theorem YF{T:Tb}(h:Ej T){l:List Int}(hl:l.length<=9223372036854775807:=by exact rF):PF T 121 [ints l] (.bool (yY l)):=by
 refine lV nR h.hT ?_;simp only [Jd,Lz];refine ev ?_;refine kZ (fun _ _=>false) (α:=Nat) (fun i=>⟨mJ [ints l,.any,.any,.any,.any,ints l,iv (l.length:Nat),iv (i:Nat)],[],0,0,[],[]⟩) (fun i=>i<=l.length/\∀j,j<i->0<=l.getD j 0/\l.getD j 0<1000000000) (fun i=>l.length-i) rfl 0 ?_ ?_ ?_
 ·exact⟨by omega,by intro j hj;omega⟩
 ·(refine kS ?_;exact Kr)
 rintro i ⟨hi,hj⟩;refine ev ?_;refine lG (fun h2=>?_) fun h2=>?_<;>(refine ev1 @h2 ?_;try with_reducible exact aC)
 ·have bad:¬(0<=l.getD i 0/\l.getD i 0<1000000000)->yY l=false:=fun hn=>by
   have:¬yY l=true:=fun e=>by
    have hc:=(QB.1 e).2.1;exact hn (wE hc i)
   simpa using this
  refine jK (Uk h.yJ) ?_;by_cases g:0<=l.getD i 0/\l.getD i 0<1000000000
  ·have g1:0<=l.getD i 0:=g.1;have g2:l.getD i 0<=999999999:=by omega
   refine xP @g1 @g2 ?_;refine⟨i+1,by omega,⟨by omega,fun j hj'=>?_⟩,by (refine kS ?_;exact Kr)⟩;by_cases e:j=i
   ·subst e;omega
   exact hj j (by omega)
  rw [bad g];have g2:(decide (0<=l.getD i 0)&&decide (l.getD i 0<=999999999))=false:=by
   simp only [jU,decide_eq_false_iff_not];omega
  (refine ev1 @g2 ?_;try with_reducible exact aC)
 have hi2:i=l.length:=by omega
 subst hi2;have hall:l.all (fun d=>decide (0<=d)&&decide (d<1000000000))=true:=by
  rw [bg];intro d hd;obtain⟨j,hj1,rfl⟩:=List.mem_iff_getElem.1 hd;have:=hj j hj1;rw [aj,ak hj1]at this;simpa using this
 unfold yY;rw [hall];by_cases q1:((l.length:Nat):Int)<=60
 ·have q1':decide (l.length<=60)=true:=by simp;omega
  rw [q1'];by_cases q2:((l.length:Nat):Int)=0
  ·have q2':=iff_true_intro q2;refine xP @q1 @q2' ?_;have:l=[]:=aY (by omega);subst this;rfl
  refine xP @q1 @q2 ?_;have e1:((l.length:Nat):Int)-1=((l.length-1:Nat):Int):=by omega
  have e2:((l.length:Int)-1).toNat=l.length-1:=by omega
  have e3:l.isEmpty=false:=by cases l<;>simp_all
  rw [e3,e2];simp
 have q1':decide (l.length<=60)=false:=by simp;omega
 rw [q1']
 (refine ev1 @q1 ?_;try with_reducible exact aC)
theorem QD{T:Tb}(h:Bc T){n:Int}(hn:0<=n/\n<=9223372036854775807:=by exact rF):PF T 67 [iv n] (ints (mk n.toNat)):=by
 have hlen:(mk n.toNat).length<=3:=l9.2 (by omega);refine kX nR h.hT ?_;simp only [Jb,Lz];refine ev ?_;refine kZ (fun _ _=>false) (α:=Nat×List Int) (fun q=>⟨mJ [iv (q.1:Nat),.any,.any,slV q.2.length],slS 1 (kU q.2),0,0,[],[]⟩) (fun q=>q.2++mk q.1=mk n.toNat/\q.1<=n.toNat) (fun q=>q.1) rfl (n.toNat,[]) ?_ ?_ ?_
 ·exact⟨rfl,aJ _⟩
 ·exact JH
 rintro⟨m,xs⟩ ⟨hm,hle⟩;dsimp only at hm hle;have hx:xs.length<=3:=by
  have:=congrArg List.length hm;simp at this;omega
 have e1:((m:Int).tmod 1000000000)=((m % 1000000000:Nat):Int):=by rw [Sm (by omega)];omega
 have e2:((m:Int).tdiv 1000000000)=((m / 1000000000:Nat):Int):=by rw [Sr (by omega)];omega
 have key:0<m->(xs++[((m % 1000000000:Nat):Int)])++mk (m / 1000000000)=mk n.toNat:=fun h=>by
  rw [<-hm,mk_pos (n:=m) (by omega)];simp
 (rcases xs with _|⟨x,xs⟩<;>simp only [aG,au,xG,wF,qE,oD]at hx ⊢)
 ·refine ev ?_;refine lG (fun hb=>?_) fun hb=>?_<;>(refine Dw @hb @e1 @e2 ?_;try with_reducible exact aC)
  ·exact⟨by omega,(m / 1000000000,[]++[((m % 1000000000:Nat):Int)]),by dsimp only;omega,⟨key (by omega),by dsimp only;omega⟩,by exact Nh⟩
  have e:mk n.toNat=[]:=by rw [<-hm,show m=0 by omega,mk_zero];rfl
  rw [e];exact(qg 1▸trivial)
 refine ev ?_;refine lG (fun hb=>?_) fun hb=>?_<;>(refine Dw @hb @e1 @e2 ?_;try with_reducible exact aC)
 ·refine⟨by omega,(m / 1000000000,(x::xs)++[((m % 1000000000:Nat):Int)]),by dsimp only;omega,⟨key (by omega),by dsimp only;omega⟩,by exact Kv⟩
 have e:x::xs=mk n.toNat:=by rw [<-hm,show m=0 by omega,mk_zero];simp
 rw [<-e];exact kR _
abbrev bi(z:Int):Bi:=⟨decide (z<0),mk z.natAbs⟩
abbrev sg(neg:Bool)(n:Nat):Int:=if neg=true then -(n:Int)else n
theorem aeg(n:Nat):n<1000000000 ^ (mk n).length:=l9.1 (aJ _)
theorem N7{m n:Nat}(h:m<=n):(mk m).length<=(mk n).length:=l9.2 (iG h (aeg n))
theorem Lu(m n:Nat):(mk (m*n)).length<=(mk m).length+(mk n).length:=by
 rw [l9,Nat.pow_add];exact Nat.mul_lt_mul_of_lt_of_lt (aeg m) (aeg n)
theorem agv(m n:Nat):(mk (m+n)).length<=max (mk m).length (mk n).length+1:=by
 rw [l9,jk];have h1:=bD (aeg m) (gI (n:=1000000000) (by omega) (Nat.le_max_left (mk m).length (mk n).length));have h2:=bD (aeg n) (gI (n:=1000000000) (by omega) (Nat.le_max_right (mk m).length (mk n).length));omega
theorem ab1(m n:Nat):(mk (m-n)).length<=(mk m).length:=N7 (Nat.sub_le m n)
theorem Vz(m n:Nat):(mk (m / n)).length<=(mk m).length:=N7 (Nat.div_le_self m n)
theorem ab2:(mk 0).length=0:=by rw [mk_zero];rfl
theorem F8{n:Nat}:0<(mk n).length↔0<n:=by
 constructor
 ·intro h;rcases iw n with rfl|h1
  ·rw [mk_zero]at h;simp at h
  exact h1
 intro h;have:=alW (n:=n) (by omega);omega
theorem ake{n:Nat}:(mk n).length=0↔n=0:=by
 have:=@F8 n;omega
theorem rC(x y:Int):(mk (x*y).natAbs).length<=(mk x.natAbs).length+(mk y.natAbs).length:=by
 rw [iW];exact Lu _ _
theorem KL(x y:Int):(mk (x+y).natAbs).length<=max (mk x.natAbs).length (mk y.natAbs).length+1 :=
 dw (N7 (Int.natAbs_add_le x y)) (agv _ _)
theorem amB(neg:Bool)(n:Nat)(h:0<n):bi (sg neg n)=⟨neg,mk n⟩:=by
 cases neg
 ·simp [bi,sg]
 simp [bi,sg,h]
theorem aik:bi 0=⟨false,[]⟩:=by simp [bi,mk_zero]
theorem Ul(neg:Bool):sg neg 0=0:=by cases neg<;>simp [sg]
theorem avs(n:Nat):bi (n:Int)=⟨false,mk n⟩:=by simp [bi]
theorem YG(x y:Int):sg (decide (x<0) != decide (y<0)) (x.natAbs*y.natAbs)=x*y:=by
 rw [<-iW];by_cases x0:x=0
 ·subst x0;simp [sg]
 by_cases y0:y=0
 ·subst y0;simp [sg]
 rcases(show x<0\/0<x by omega)with h|h<;>rcases(show y<0\/0<y by omega)with k|k
 ·have:=Int.mul_pos_of_neg_of_neg h k;simp only [sg,h,k,decide_true,bne_self_eq_false,bM,if_false];omega
 ·have:=Int.mul_neg_of_neg_of_pos h k;have k':¬y<0:=by omega
  simp only [sg,h,k',decide_true,decide_false,Bool.bne_false,if_true];omega
 ·have:=Int.mul_neg_of_pos_of_neg h k;have h':¬x<0:=by omega
  simp only [sg,h',k,decide_true,decide_false,Bool.false_bne,if_true];omega
 have:=Int.mul_pos h k;have k':¬y<0:=by omega
 have h':¬x<0:=by omega
 simp only [sg,h',k',decide_false,bne_self_eq_false,bM,if_false];omega
theorem WA{x y:Int}(h:decide (x<0)=decide (y<0)):sg (decide (x<0)) (x.natAbs+y.natAbs)=x+y:=by
 have h':x<0↔y<0:=by simpa using h
 by_cases k:x<0
 ·have:=h'.1 k;simp only [sg,k,decide_true,if_true];omega
 have:¬y<0:=fun q=>k (h'.2 q);simp only [sg,k,decide_false,bM,if_false];omega
theorem KN{x y:Int}(h:decide (x<0)≠decide (y<0))(hl:y.natAbs<=x.natAbs):sg (decide (x<0)) (x.natAbs-y.natAbs)=x+y:=by
 have h':¬(x<0↔y<0):=by simpa using h
 by_cases k:x<0
 ·have:¬y<0:=fun q=>h' ⟨fun _=>q,fun _=>k⟩;simp only [sg,k,decide_true,if_true];omega
 have:y<0:=iC fun q=>h' ⟨fun a=>absurd a k,fun a=>absurd a q⟩;simp only [sg,k,decide_false,bM,if_false];omega
def C9:Fn:=⟨2,39,[.tmp 4,.tmp 5],(sr [oN 4 mN,oN 5 (.qC (cI 0))] (.seq (rf 1 [oK 10 1 (oV 0),oK 11 1 (ln 10),oN 12 (.make Kt 8 (.t 11)),oK 6 1 (oV 12)]) (sr [oN 7 (.qC (cI 0))] (.seq (sr [oW 13 0,oN 14 (ln 13),oN 15 (bc .sub 14 1),oW 8 15] (.block 0 (.loop (.seq (sr [oW 16 8,oN 17 (bc .geq 16 0)] (cd 17 .skip (.exit 0))) (.seq (.block 1 (sr [oW 20 7,oN 21 (bc .mul 20 1000000000),oW 22 0,oW 23 8,oN 24 (ix 1 22 23),oN 25 (lF 1 24),oN 26 (bt .add 21 25),oW 9 26] (sr [oW 27 6,oW 28 8,oW 29 9,oW 30 1,oN 31 (bt .quo 29 30),oN 32 (ix 1 27 28),oS (.store 1 (.t 32) (.t 31))] (rg [oW 33 9,oW 34 1,oN 35 (bt .rem 33 34),oW 7 35])))) (rg [oW 18 8,oN 19 (bc .sub 18 1),oW 8 19])))))) (sr [oW 36 6,oN 37 (cl 71 [36]),oW 38 7,oW 4 37,oW 5 38] .ret)))))⟩
structure Iy (T:Tb):Prop where
 hT:T 147=some C9
 og:uh T
def Df:Fn:=⟨2,27,[.tmp 4],(sr [oN 4 (.qC (cI 0))] (sr [oN 5 (.qC (cI 0))] (sr [oN 6 (.qC (cI 999999999))] (.seq (.block 0 (.loop (.seq (sr [oW 8 5,oW 9 6,oN 10 (bt .lss 8 9)] (cd 10 .skip (.exit 0))) (.block 1 (sr [oW 11 5,oW 12 6,oN 13 (bt .add 11 12),oN 14 (bc .add 13 1),oN 15 (bc .quo 14 2),oW 7 15] (sr [oW 16 1,oW 17 7,oN 18 (cl 67 [17]),oN 19 (cl 150 [16,18]),oW 20 0,oN 21 (cl 146 [19,20]),oN 22 (bc .leq 21 0)] (cd 22 (rg [oW 23 7,oW 5 23]) (rg [oW 24 7,oN 25 (bc .sub 24 1),oW 6 25])))))))) (sr [oW 26 5,oW 4 26] .ret)))))⟩
structure Iz (T:Tb):Prop where
 hT:T 148=some Df
 uS:Bc T
 xq:zq T
 pF:xk T
def BX:Fn:=⟨2,65,[.tmp 4,.tmp 5],(sr [oN 4 mN,oN 5 mN] (.seq (sr [oW 12 1,oN 13 (ln 12),oN 14 (bc .eql 13 1)] (cd 14 (sr [oW 16 0,oW 17 1,oN 18 (.idx 1 (.t 17) (cI 0)),oN 19 (lF 1 18),oN 20 (cl 147 [16,19]),oW 15 20,oN 21 (ex 0 15),oN 22 (ex 1 15),oW 6 21,oW 7 22] (sr [oW 23 6,oW 24 7,oN 25 (cl 67 [24]),oW 4 23,oW 5 25] .ret)) .skip)) (.seq (rf 1 [oK 26 1 (oV 0),oK 27 1 (ln 26),oN 28 (.make Kt 8 (.t 27)),oK 8 1 (oV 28)]) (.seq (rf 1 [oN 29 (.nO 1 Kt 0 []),oK 9 1 (oV 29)]) (.seq (sr [oW 30 0,oN 31 (ln 30),oN 32 (bc .sub 31 1),oW 10 32] (.block 0 (.loop (.seq (sr [oW 33 10,oN 34 (bc .geq 33 0)] (cd 34 .skip (.exit 0))) (.seq (.block 1 (.seq (rf 2 [oK 37 2 (oV 0),oK 38 2 (oV 10),oK 39 2 (ix 1 37 38),oK 40 2 (lF 1 39),oN 41 (.nO 1 Kt 1 [(0,(.t 40))]),oK 42 2 (oV 9),oK 43 1 (.app 1 8 (.t 41) (.t 42)),oK 44 2 (cl 71 [43]),oK 9 2 (oV 44)]) (.seq (sr [oW 45 9,oW 46 1,oN 47 (cl 146 [45,46]),oN 48 (bc .lss 47 0)] (cd 48 (.exit 1) .skip)) (sr [oW 49 9,oW 50 1,oN 51 (cl 148 [49,50]),oW 11 51] (sr [oW 52 8,oW 53 10,oW 54 11,oN 55 (ix 1 52 53),oS (.store 1 (.t 55) (.t 54))] (rg [oW 56 9,oW 57 1,oW 58 11,oN 59 (cl 67 [58]),oN 60 (cl 150 [57,59]),oN 61 (cl 149 [56,60]),oW 9 61])))))) (rg [oW 35 10,oN 36 (bc .sub 35 1),oW 10 36])))))) (sr [oW 62 8,oN 63 (cl 71 [62]),oW 64 9,oW 4 63,oW 5 64] .ret))))))⟩
structure G6 (T:Tb):Prop where
 hT:T 136=some BX
 uS:Bc T
 og:uh T
 xq:zq T
 WU:Iy T
 WV:Iz T
 G7:GY T
 pF:xk T
def Dh:Fn:=⟨2,15,[.tmp 4],(sr [oN 4 mN] (.seq (.block 0 (.loop (.seq (sr [oW 6 1,oN 7 (bc .gtr 6 0)] (cd 7 .skip (.exit 0))) (.block 1 (sr [oW 8 0,oW 9 1,oN 10 (bt .rem 8 9),oW 5 10] (sr [oW 11 1,oW 0 11] (rg [oW 12 5,oW 1 12]))))))) (sr [oW 13 0,oN 14 (cl 67 [13]),oW 4 14] .ret)))⟩
structure IB (T:Tb):Prop where
 hT:T 135=some Dh
 uS:Bc T
def Di:Fn:=⟨1,30,[.tmp 2,.tmp 3],(sr [oN 2 (.qC (cI 0)),oN 3 mF] (.seq (.seq (rf 1 [oK 6 1 (oV 0),oK 7 1 (cl 121 [6]),oK 8 1 (nt 7),oK 9 1 (oV 8),oH 9 false 10 1 (oV 0) [],oG 9 false 11 (.nO 1 Kt 3 [(0,(cI 854775807)),(1,(cI 223372036)),(2,(cI 9))]),oH 9 false 12 1 (cl 146 [10,11]) [],oH 9 false 13 1 (bc .gtr 12 0) [],oK 14 1 (.pick (.t 9) (.c (.bool true)) (.t 13))]) (cd 14 (sr [oN 2 (.qC (cI 0)),oN 3 mF] .ret) .skip)) (sr [oN 4 (.qC (cI 0))] (.seq (sr [oW 15 0,oN 16 (ln 15),oN 17 (bc .sub 16 1),oW 5 17] (.block 0 (.loop (.seq (sr [oW 18 5,oN 19 (bc .geq 18 0)] (cd 19 .skip (.exit 0))) (.seq (.block 1 (rg [oW 22 4,oN 23 (bc .mul 22 1000000000),oW 24 0,oW 25 5,oN 26 (ix 1 24 25),oN 27 (lF 1 26),oN 28 (bt .add 23 27),oW 4 28])) (rg [oW 20 5,oN 21 (bc .sub 20 1),oW 5 21])))))) (sr [oW 29 4,oW 2 29,oN 3 mT] .ret)))))⟩
structure IC (T:Tb):Prop where
 hT:T 134=some Di
 En:Ej T
 xq:zq T
def G8:Fn:=⟨2,52,[.tmp 4],(sr [oN 4 mN] (.seq (rf 2 [oN 13 (.nO 1 Kt 0 []),oK 14 2 (oV 0),oK 15 1 (.app 1 8 (.t 13) (.t 14)),oK 5 2 (oV 15)]) (.seq (rf 2 [oN 16 (.nO 1 Kt 0 []),oK 17 2 (oV 1),oK 18 1 (.app 1 8 (.t 16) (.t 17)),oK 6 2 (oV 18)]) (.seq (.block 0 (.loop (.seq (sr [oW 19 6,oN 20 (ln 19),oN 21 (bc .gtr 20 0)] (cd 21 .skip (.exit 0))) (.block 1 (.seq (sr [oW 22 5,oN 23 (ln 22),oN 24 (bc .lss 23 3),oW 25 24,oG 25 true 26 (oV 6),oG 25 true 27 (ln 26),oG 25 true 28 (bc .lss 27 3),oN 29 (.pick (.t 25) (.t 28) (.c (.bool false)))] (cd 29 (sr [oW 31 5,oN 32 (cl 134 [31]),oW 30 32,oN 33 (ex 0 30),oN 34 (ex 1 30),oW 7 33,oW 8 34] (sr [oW 36 6,oN 37 (cl 134 [36]),oW 35 37,oN 38 (ex 0 35),oN 39 (ex 1 35),oW 9 38,oW 10 39] (sr [oW 40 7,oW 41 9,oN 42 (cl 135 [40,41]),oW 4 42] .ret))) .skip)) (sr [oW 44 5,oW 45 6,oN 46 (cl 136 [44,45]),oW 43 46,oN 47 (ex 0 43),oN 48 (ex 1 43),oW 11 47,oW 12 48] (sr [oW 49 6,oW 5 49] (rg [oW 50 12,oW 6 50])))))))) (sr [oW 51 5,oW 4 51] .ret)))))⟩
structure G9 (T:Tb):Prop where
 hT:T 123=some G8
 OM:IC T
 WW:IB T
 He:G6 T
theorem YH{T:Tb}(h:GY T){m n:Nat}(hle:n<=m)(la:(mk m).length<=1000:=by exact rF)(lb:(mk n).length<=1000:=by exact rF):PF T 149 [ints (mk m),ints (mk n)] (ints (mk (m-n))):=by
 obtain⟨a,hA⟩:∃a,mk m=a:=⟨_,rfl⟩;obtain⟨b,hB⟩:∃b,mk n=b:=⟨_,rfl⟩;have hva:val a=m:=by rw [<-hA,val_mk]
 have hvb:val b=n:=by rw [<-hB,val_mk]
 have hba:Lb a:=hA▸wC m;have hbb:Lb b:=hB▸wC n;have hlen:b.length<=a.length:=by
  rcases dW a.length b.length with k|k
  ·have:=zl hba (hB▸wY n) k;omega
  exact k
 rw [hA]at la ⊢;rw [hB]at lb ⊢;refine kX nR h.hT ?_;simp only [GX,Lz];refine ev ?_;refine kZ (fun _ _=>false) (α:=Nat×Int×List Int) (fun q=>⟨mJ [ints a,ints b,.any,.any,.any,slV q.2.2.length,iv q.2.1,.any,.any,.any,ints a,iv (a.length:Nat),iv (q.1:Nat)],slS 1 (kU q.2.2),0,0,[],[]⟩) (fun q=>q.1<=a.length/\q.2.2.length=q.1/\Lb q.2.2/\(q.2.1=0\/q.2.1=1)/\val q.2.2+val (b.take q.1)=val (a.take q.1)+q.2.1.toNat*1000000000 ^ q.1) (fun q=>a.length-q.1) rfl (0,0,[]) ?_ ?_ ?_
 ·exact⟨by omega,rfl,aga,.inl rfl,by simp [val]⟩
 ·exact JH
 rintro⟨i,bo,xs⟩ ⟨hi,hD,Sv,hbo,hv⟩;dsimp only at hi hD Sv hbo hv;have ga:=wE hba i;have gb:=wE hbb i;have zb:b.length<=i->b.getD i 0=0:=NY;have hx:xs.length<=1000:=by omega
 by_cases c1:(i:Int)<(a.length:Nat)
 ·have key:∀d bo':Int,d+b.getD i 0+bo=a.getD i 0+bo'*1000000000->0<=d->d<1000000000->(bo'=0\/bo'=1)->∃a':Nat×Int×List Int,a'=(i+1,bo',xs++[d]) /\
    a.length-a'.1<a.length-i/\(a'.1<=a.length/\a'.2.2.length=a'.1/\Lb a'.2.2/\(a'.2.1=0\/a'.2.1=1)/\val a'.2.2+val (b.take a'.1)=val (a.take a'.1)+a'.2.1.toNat*1000000000 ^ a'.1):=by
   intro d bo' hd d0 d1 hb';refine⟨_,rfl,by dsimp only;omega,by dsimp only;omega,by simp [hD],abM d0 d1 Sv,hb',?_⟩;dsimp only;have e2:(a.take i).length=i:=by simp;omega
   rw [yX,hD,pq (l:=a) (by omega),yX,e2];have e3:val (b.take (i+1))=val (b.take i)+1000000000 ^ i*(b.getD i 0).toNat:=by
    by_cases hb2:i<b.length
    ·rw [pq hb2,yX];congr 3;simp;omega
    rw [bG (by omega),bG (by omega),zb (by omega)];simp
   rw [e3,jk];exact ad9 hv (by omega)
  by_cases c2:(i:Int)<(b.length:Nat)
  ·by_cases c3:a.getD i 0-bo-b.getD i 0<0
   ·obtain⟨_,rfl,k1,k2⟩:=key (a.getD i 0-bo-b.getD i 0+1000000000) 1 (by omega) (by omega) (by omega) (.inr rfl);clear key hv zb hba hbb Sv
    (rcases xs with _|⟨x,xs⟩<;>simp only [aG,au,xG,wF,qE,oD]at hx ⊢)
    ·refine Dw @c1 @c2 @c3 ?_;exact⟨by omega,_,k1,k2,by exact Nh⟩
    refine Dw @c1 @c2 @c3 ?_;exact⟨by omega,_,k1,k2,by exact Kv⟩
   obtain⟨_,rfl,k1,k2⟩:=key (a.getD i 0-bo-b.getD i 0) 0 (by omega) (by omega) (by omega) (.inl rfl);clear key hv zb hba hbb Sv
   (rcases xs with _|⟨x,xs⟩<;>simp only [aG,au,xG,wF,qE,oD]at hx ⊢)
   ·refine Dw @c1 @c2 @c3 ?_;exact⟨by omega,_,k1,k2,by exact Nh⟩
   refine Dw @c1 @c2 @c3 ?_;exact⟨by omega,_,k1,k2,by exact Kv⟩
  have z:=zb (by omega);by_cases c3:a.getD i 0-bo<0
  ·obtain⟨_,rfl,k1,k2⟩:=key (a.getD i 0-bo+1000000000) 1 (by omega) (by omega) (by omega) (.inr rfl);clear key hv zb hba hbb Sv
   (rcases xs with _|⟨x,xs⟩<;>simp only [aG,au,xG,wF,qE,oD]at hx ⊢)
   ·refine Dw @c1 @c2 @c3 ?_;exact⟨by omega,_,k1,k2,by exact Nh⟩
   refine Dw @c1 @c2 @c3 ?_;exact⟨by omega,_,k1,k2,by exact Kv⟩
  obtain⟨_,rfl,k1,k2⟩:=key (a.getD i 0-bo) 0 (by omega) (by omega) (by omega) (.inl rfl);clear key hv zb hba hbb Sv
  (rcases xs with _|⟨x,xs⟩<;>simp only [aG,au,xG,wF,qE,oD]at hx ⊢)
  ·refine Dw @c1 @c2 @c3 ?_;exact⟨by omega,_,k1,k2,by exact Nh⟩
  refine Dw @c1 @c2 @c3 ?_;exact⟨by omega,_,k1,k2,by exact Kv⟩
 have hi2:i=a.length:=by omega
 subst hi2;rw [bI,bG (by omega)]at hv;have hlt:=zL Sv;rw [hD]at hlt;have hz:bo=0:=by
  rcases hbo with h|h
  ·exact h
  rw [h]at hv;simp at hv;omega
 subst hz;have ct:=DW h.og (l:=xs) (by omega);have e:mk (val xs)=mk (m-n):=by
  congr 1
  simp at hv;omega
 rw [CS Sv,e]at ct
 (rcases xs with _|⟨x,xs⟩<;>simp only [aG,au,xG,wF,qE,oD]at hx ⊢)
 ·refine ev1 @c1 ?_;refine aqM (as':=[.sl 1 []]) ct (by simp only [Vt,Vr,qg,and_true]) ?_;refine ev ?_;exact kR _
 refine ev1 @c1 ?_;refine jK ct ?_;refine ev ?_;exact kR _
theorem agw{T:Tb}(h:Iy T){m d:Nat}(d0:0<d)(d1:d<1000000000)(la:(mk m).length<=1000:=by exact rF):PF T 147 [ints (mk m),iv (d:Nat)] (.oU [ints (mk (m / d)),iv (m % d:Nat)]):=by
 obtain⟨A,hA⟩:∃A,mk m=A:=⟨_,rfl⟩;have hva:val A=m:=by rw [<-hA,val_mk]
 have hbA:Lb A:=hA▸wC m;rw [hA]at la ⊢;refine kX nR h.hT ?_;simp only [C9,Lz];refine ev ?_;refine⟨by omega,?_⟩;rw [RY];refine kZ (fun _ _=>false) (α:=Nat×List Int×Nat) (fun q=>⟨mJ [ints A,iv (d:Nat),.any,.any,.any,.any,.lQ 0 0 A.length,iv (q.2.2:Nat),iv ((q.1:Nat)-1)],[some ⟨1,kU q.2.1⟩],0,0,[],[]⟩) (fun q=>q.1<=A.length/\q.2.1.length=A.length/\Lb q.2.1/\q.2.2<d/\val (A.drop q.1)=val (q.2.1.drop q.1)*d+q.2.2) (fun q=>q.1) rfl (A.length,List.replicate A.length 0,0) ?_ ?_ ?_
 ·exact⟨by omega,by simp,RZ _,d0,by dsimp only;rw [nK (Nat.le_refl _),nK (by simp)];simp⟩
 ·(refine kS ?_;exact Kr)
 rintro⟨k,Q,x⟩ ⟨hk,hQ,hQb,hx,hv⟩;dsimp only at hk hQ hQb hx hv;by_cases k0:k=0
 ·subst k0;rw [dA,dA,hva]at hv;obtain⟨q1,q2⟩:=NW hv hx;have e0:¬(0:Int)<=((0:Nat):Int)-1:=by omega
  refine ev1 @e0 ?_;refine jK (DW h.og (l:=Q) (by omega)) ?_;refine ev ?_;rw [CS hQb,<-q1,<-q2];exact kR _
 obtain⟨i,rfl⟩:∃i,k=i+1:=⟨k-1,by omega⟩;have e0:(((i+1:Nat):Int)-1)=(i:Nat):=by omega
 have e1:((i:Nat):Int)<(A.length:Nat):=by omega
 have e2:(0:Int)<=(i:Nat):=by omega
 rw [e0];have ga:=wE hbA i;have hvi:=qW A i;obtain⟨t,ht⟩:∃t:Nat,t=x*1000000000+(A.getD i 0).toNat:=⟨_,rfl⟩;have ht':(x:Int)*1000000000+A.getD i 0=(t:Nat):=by omega
 have tq:t / d<1000000000:=by
  have t1:t<(x+1)*1000000000:=by omega
  exact jw (bD t1 (dG 1000000000 hx))
 have tr:t % d<d:=kK _ d0;have f1:((t:Nat):Int).tdiv (d:Nat)=((t / d:Nat):Int):=by rw [gQ (by omega),Int.natCast_ediv]
 have f2:((t:Nat):Int).tmod (d:Nat)=((t % d:Nat):Int):=by rw [iZ (by omega),kG]
 have hdm:=Nat.div_add_mod t d;have nz:¬((d:Nat):Int)=0:=by omega
 have tb:t<1000000000000000000:=by
  have t1:t<(x+1)*1000000000:=by omega
  have t2:(x+1)*1000000000<=1000000000*1000000000:=dG 1000000000 (by omega);exact bD t1 t2
 generalize t / d=q at *;generalize t % d=r at *;have k1:=NQ (l:=Q) (i:=i) (d:=((q:Nat):Int)) (by omega) (by omega) hQb;have k2:val (A.drop i)=val ((Q.set i (q:Nat)).drop i)*d+r:=by
  rw [hvi,hv,drop_set_self (by omega),val,gJ,jC,ig,dS d q]at *;rw [show ((q:Nat):Int).toNat=q by omega];omega
 clear hvi hv hdm ht;simp (disch:=first|omega|assumption|(simp;done)|(simp;omega)) only [↓EVp,EVq,splice,Nat.reduceAdd,Nat.reduceEqDiff,Nat.reduceMul,Nat.reduceLT,Nat.reduceLeDiff,reduceIte,V.leaf,MW,NJ,PW,cZ,dQ,fP,fE,iq,reduceCtorEq,e2,e1,ht',f1,f2,nz,hQ];exact⟨(i,Q.set i (q:Nat),r),by dsimp only;omega,⟨by dsimp only;omega,by simp [hQ],k1,tr,k2⟩,by (refine kS ?_;exact Kr)⟩
theorem agx{T:Tb}(h:Iz T){r b:Nat}(b0:0<b)(hr:r<b*1000000000)(la:(mk r).length<=900:=by exact rF)(lb:(mk b).length<=900:=by exact rF):PF T 148 [ints (mk r),ints (mk b)] (iv (r / b:Nat)):=by
 have hq:r / b<1000000000:=jw (by omega);have key:∀q,b*q<=r↔q<=r / b:=fun q=>by rw [Nat.le_div_iff_mul_le b0,dS]
 refine lV nR h.hT ?_;simp only [Df,Lz];refine ev ?_;generalize r / b=z at *;refine kZ (fun _ _=>false) (α:=Nat×Nat) (fun q=>⟨mJ [ints (mk r),ints (mk b),.any,.any,.any,iv (q.1:Nat),iv (q.2:Nat)],[],0,0,[],[]⟩) (fun q=>q.1<=z/\z<=q.2/\q.2<=999999999) (fun q=>q.2-q.1) rfl (0,999999999) ?_ ?_ ?_
 ·exact⟨by omega,by dsimp only;omega,by dsimp only;omega⟩
 ·(refine kS ?_;exact Kr)
 rintro⟨lo,hi⟩ ⟨h1,h2,h3⟩;dsimp only at h1 h2 h3;refine ev ?_;refine lG (fun c1=>?_) fun c1=>?_<;>(refine ev1 @c1 ?_;try with_reducible exact aC)
 ·have e1:((lo:Int)+hi+1).tdiv 2=(((lo+hi+1) / 2:Nat):Int):=by rw [gQ (by omega)];omega
  have q1:lo<(lo+hi+1) / 2:=by omega
  have q2:(lo+hi+1) / 2<=hi:=by omega
  generalize (lo+hi+1) / 2=q at *;have cn:=QD h.uS (n:=((q:Nat):Int)) (by omega);rw [gU]at cn;have lq:(mk q).length<=1:=l9.2 (by omega);have lm:=Lu b q;have cc:=Uj h.xq (wY (b*q)) (wY r) (by omega) (by omega);rw [val_mk,val_mk]at cc;refine ev1 @e1 ?_;refine jK cn ?_;refine ev ?_;refine jK (Em h.pF (m:=b) (n:=q) (by omega) (by omega)) ?_;refine ev ?_;refine jK cc ?_;refine ev ?_;have ck:MX (b*q) r<=0↔b*q<=r:=by unfold MX;repeat' split<;>omega
  refine lG (fun c2=>?_) fun c2=>?_<;>(refine ev1 @c2 ?_;try with_reducible exact aC)
  ·have:=(key q).1 (ck.1 c2);exact⟨(q,hi),by dsimp only;omega,⟨by dsimp only;omega,by dsimp only;omega,h3⟩,by (refine kS ?_;exact Kr)⟩
  have:¬q<=z:=fun k=>c2 (ck.2 ((key q).2 k));have e2:((q:Nat):Int)-1=((q-1:Nat):Int):=by omega
  exact⟨(lo,q-1),by dsimp only;omega,⟨h1,by dsimp only;omega,by dsimp only;omega⟩,by (refine kS ?_)<;>(try (refine ev1 @e2 ?_;try with_reducible exact True.intro))<;>(repeat' (first|refine⟨?_,?_⟩|exact NK (by omega)|exact P5 (by simp)|exact KG _))⟩
 have:lo=z:=by omega
 rw [this]
theorem agy{T:Tb}(h:IB T){x y:Nat}(hx:x<1000000000000000000:=by exact rF)(hy:y<1000000000000000000:=by exact rF):PF T 135 [iv (x:Nat),iv (y:Nat)] (ints (mk (Nat.gcd x y))):=by
 refine kX nR h.hT ?_;simp only [Dh,Lz];refine ev ?_;refine kZ (fun _ _=>false) (α:=Nat×Nat) (fun q=>⟨mJ [iv (q.1:Nat),iv (q.2:Nat)],[],0,0,[],[]⟩) (fun q=>Nat.gcd q.1 q.2=Nat.gcd x y/\q.1<1000000000000000000/\q.2<1000000000000000000) (fun q=>q.2) rfl (x,y) ?_ ?_ ?_
 ·exact⟨rfl,hx,hy⟩
 ·exact JH
 rintro⟨u,v⟩ ⟨hg,su,sv⟩;dsimp only at hg su sv;rw [<-hg];clear hg;refine ev ?_;refine lG (fun c4=>?_) fun c4=>?_<;>(refine ev1 @c4 ?_;try with_reducible exact aC)
 ·have v0:0<v:=by omega
  have er:((u:Nat):Int).tmod (v:Nat)=((u % v:Nat):Int):=by rw [iZ (by omega),kG]
  have lr:=kK u v0;have eg:Nat.gcd v (u % v)=Nat.gcd u v:=by rw [jX u v,Nat.gcd_rec v u,jX]
  exact⟨(v,u % v),lr,⟨eg,sv,by dsimp only;omega⟩,by (refine kS ?_)<;>(try (refine ev1 @er ?_;try with_reducible exact True.intro))<;>(repeat' (first|refine⟨?_,?_⟩|exact NK (by omega)|exact P5 (by simp)|exact KG _))⟩
 have v0:v=0:=by omega
 have cu:=QD h.uS (n:=((u:Nat):Int)) (by omega);rw [gU]at cu;refine jK cu ?_;refine ev ?_;rw [v0,Nat.gcd_zero_right];exact kR _
theorem YI{T:Tb}(h:G6 T){m n:Nat}(hn:0<n)(la:(mk m).length<=900:=by exact rF)(lb:(mk n).length<=890:=by exact rF) :
  PF T 136 [ints (mk m),ints (mk n)] (.oU [ints (mk (m / n)),ints (mk (m % n))]):=by
 by_cases big:(mk n).length=1
 ·have n1:n<1000000000:=by have:=(l9 (n:=n) (k:=1)).1 (by omega);omega
  have cs:=agw h.WU (m:=m) hn n1 (by omega);have lr:=kK m hn;have cn:=QD h.uS (n:=((m % n:Nat):Int)) (by omega);rw [gU]at cn;rw [mk_one hn n1];have c0:((1:Nat):Int)=1:=rfl;refine kX nR h.hT ?_;simp only [BX,Lz];refine ev ?_;refine ev1 @c0 ?_;refine jK cs ?_;refine ev ?_;refine jK cn ?_;refine ev ?_;exact kR _
 obtain⟨A,hA⟩:∃A,mk m=A:=⟨_,rfl⟩;obtain⟨B,hB⟩:∃B,mk n=B:=⟨_,rfl⟩;have hva:val A=m:=by rw [<-hA,val_mk]
 have hbA:Lb A:=hA▸wC m;have hbB:Lb B:=hB▸wC n;rw [hA]at la ⊢;rw [hB]at lb big ⊢;have c1:¬((B.length:Nat):Int)=1:=by omega
 refine kX nR h.hT ?_;simp only [BX,Lz];refine ev ?_;refine ev1 @c1 ?_;refine⟨by omega,?_⟩;rw [RY];refine kZ (fun _ _=>false) (α:=Nat×List Int×Nat) (fun q=>⟨mJ [ints A,ints B,.any,.any,.any,.any,.any,.any,.lQ 0 0 A.length,ints (mk q.2.2),iv ((q.1:Nat)-1)],[some ⟨1,kU q.2.1⟩],0,0,[],[]⟩) (fun q=>q.1<=A.length/\q.2.1.length=A.length/\Lb q.2.1/\(∀j,j<q.1->q.2.1.getD j 0=0)/\q.2.2<n/\val (A.drop q.1)=val (q.2.1.drop q.1)*n+q.2.2) (fun q=>q.1) rfl (A.length,List.replicate A.length 0,0) ?_ ?_ ?_
 ·exact⟨by omega,by simp,RZ _,by intro j _;simp [List.getD_eq_getElem?_getD,List.getElem?_replicate];split<;>rfl,hn,by dsimp only;rw [nK (Nat.le_refl _),nK (by simp)];simp⟩
 ·rw [mk_zero];exact abZ
 rintro⟨k,Q,x⟩ ⟨hk,hQ,hQb,hz,hx,hv⟩;dsimp only at hk hQ hQb hz hx hv;by_cases k0:k=0
 ·subst k0;rw [dA,dA,hva]at hv;obtain⟨q1,q2⟩:=NW hv hx;have e0:¬(0:Int)<=((0:Nat):Int)-1:=by omega
  refine ev1 @e0 ?_;refine jK (DW h.og (l:=Q) (by omega)) ?_;refine ev ?_;rw [CS hQb,<-q1,<-q2];exact kR _
 obtain⟨i,rfl⟩:∃i,k=i+1:=⟨k-1,by omega⟩;have e0:(((i+1:Nat):Int)-1)=(i:Nat):=by omega
 have e1:((i:Nat):Int)<(A.length:Nat):=by omega
 have e2:(0:Int)<=(i:Nat):=by omega
 rw [e0];have ga:=wE hbA i;have hvi:=qW A i;obtain⟨t,ht⟩:∃t,(A.getD i 0).toNat+1000000000*x=t:=⟨_,rfl⟩;have htn:t<n*1000000000:=by omega
 have lt':(A.getD i 0::mk x).length<=1048576:=by
  have:(mk x).length<=B.length:=by rw [l9];exact Nat.lt_trans hx (by have:=zL hbB;rw [<-hB,val_mk,hB]at this;exact this)
  simp only [au];omega
 have tr:trim (A.getD i 0::mk x)=mk t:=by
  rw [CS (by intro y hy;rcases aI.1 hy with rfl|hy;exact ga;exact wC x y hy),<-ht,val,val_mk]
 have ct:=DW h.og (l:=A.getD i 0::mk x) lt';rw [tr]at ct;have ely:∀y,y<=t->(mk y).length<=891:=by
  intro y hy;have:(mk y).length<=B.length+1:=by
   rw [l9,jk];have:=zL hbB;rw [<-hB,val_mk,hB]at this;exact bD (iG hy htn) (dG _ (Nat.le_of_lt this))
  omega
 have lx:=ely;refine xP @e2 @e1 ?_;refine⟨fun e3=>?_,fun e3=>?_⟩
 case' refine_1 =>
  have x0:mk x=[]:=by cases hm:mk x with|nil=>rfl|cons a l=>rw [hm]at e3;cases e3
  rw [x0]at ct;rw [show [[V.int IntKind.i64 (A.getD i 0)]]=kU [A.getD i 0]from rfl]
  (refine ev ?_;try with_reducible exact aC)
 case' refine_2 =>
  refine ev1 @e3 ?_;rw [show [V.int IntKind.i64 (A.getD i 0)]::kU (mk x)=kU (A.getD i 0::mk x)from rfl];refine ev ?_;have lm:=lt';simp only [au]at lm;refine⟨by omega,?_⟩
 all_goals
  clear lt';refine jK ct ?_;refine ev ?_;have ly:=ely t (aJ _);have cc:=Uj h.xq (wY t) (wY n) (by omega) (by rw [hB];omega);rw [val_mk,val_mk,hB]at cc;refine jK cc ?_;refine ev ?_;have gk:MX t n<0↔t<n:=by unfold MX;repeat' split<;>omega
  have k0:=hz i (by omega);have k1:=qW Q i;refine lG (fun c3=>?_) fun c3=>?_<;>(refine ev1 @c3 ?_;try with_reducible exact aC)
  ·have hny:=gk.1 c3;have k2:val (A.drop i)=val (Q.drop i)*n+t:=by
    rw [hvi,hv,k1,k0,gJ,jC,<-ig];simp only [Int.toNat_zero,kJ,aX,<-ht];omega
   exact⟨(i,Q,t),by dsimp only;omega,⟨by dsimp only;omega,hQ,hQb,fun j hj=>hz j (by dsimp only at hj;omega),hny,k2⟩,by exact abZ⟩
  have hny:n<=t:=by omega
  have cd:=agx h.WV (r:=t) (b:=n) hn htn (by omega) (by rw [hB];omega);rw [hB]at cd;have hdm:=Nat.div_add_mod t n;have hml:=kK t hn;have hq:t / n<1000000000:=jw (by omega);obtain⟨d,hd⟩:∃d,t / n=d:=⟨_,rfl⟩;rw [hd]at cd hdm hq;have cn:=QD h.uS (n:=((d:Nat):Int)) (by omega);rw [gU]at cn;have lq:(mk d).length<=1:=l9.2 (by omega);have pm:=Em h.pF (m:=n) (n:=d) (by rw [hB];omega) (by omega);rw [hB]at pm;have lnd:=ely (n*d) (by omega);have ps:=YH h.G7 (m:=t) (n:=n*d) (by omega) (by omega) (by omega);have k3:=NQ (l:=Q) (i:=i) (d:=((d:Nat):Int)) (by omega) (by omega) hQb;have k4:∀j,j<i->(Q.set i (d:Nat)).getD j 0=0:=by
   intro j hj;rw [sV,aN (by omega)];exact hz j (by omega)
  have k5:val (A.drop i)=val ((Q.set i (d:Nat)).drop i)*n+(t-n*d):=by
   rw [hvi,hv,drop_set_self (by omega),val,gJ,jC,<-ig];rw [show ((d:Nat):Int).toNat=d by omega,dS d n];omega
  have k6:t-n*d<n:=by omega
  clear hdm hv hvi k1 k0 hz lx ely ht hd hml hx;refine jK cd ?_;refine xP @e1 @hQ ?_;refine jK cn ?_;refine ev ?_;refine jK pm ?_;refine ev ?_;refine jK ps ?_;refine ev ?_;exact⟨(i,Q.set i (d:Nat),t-n*d),by dsimp only;omega,⟨by dsimp only;omega,by simp [hQ],k3,k4,k6,k5⟩,by exact abZ⟩
theorem YJ{T:Tb}(h:IC T){n:Nat}(hn:n<1000000000000000000:=by exact rF):PF T 134 [ints (mk n)] (.oU [iv (n:Nat),.bool true]):=by
 have hl:(mk n).length<=2:=l9.2 (by omega);have hv:=val_mk n;have c1:=YF h.En (l:=mk n) (by omega);rw [Yn (bD hn (by omega))]at c1;have cb:Can [854775807,223372036,9]:=⟨by intro x hx;simp at hx;omega,by simp⟩;have c2:=Uj h.xq (wY n) cb (by omega) (by simp);have e2:MX (val (mk n)) (val [854775807,223372036,9]) = -1:=by
  have:val [854775807,223372036,9]=9223372036854775807:=by simp [val]
  rw [this,val_mk];unfold MX;rw [aQ (by omega)]
 rw [e2]at c2;refine lV nR h.hT ?_;simp only [Di,Lz];refine ev ?_;refine jK c1 ?_;refine ev ?_;refine jK c2 ?_;have c3:¬(0:Int) < -1:=by omega
 refine ev1 @c3 ?_;refine kZ (fun _ _=>false) (α:=Nat) (fun k=>⟨mJ [ints (mk n),.any,.any,.any,iv (val ((mk n).drop k):Nat),iv ((k:Int)-1)],[],0,0,[],[]⟩) (fun k=>k<=(mk n).length) (fun k=>k) rfl (mk n).length ?_ ?_ ?_
 ·omega
 ·have e:val ((mk n).drop (mk n).length)=0:=nK (aJ _);simp only [e];exact JH
 intro k hk;refine ev ?_;refine lG (fun h3=>?_) fun h3=>?_<;>(refine ev1 @h3 ?_;try with_reducible exact aC)
 ·obtain⟨m,rfl⟩:∃m,k=m+1:=⟨k-1,by omega⟩;have e1:((m+1:Nat):Int)-1=(m:Nat):=by omega
  have e2:=qW (mk n) m;have e3:=Wx (l:=mk n) m;have e4:=wE (wC n) m;refine ev1 @e1 ?_;exact⟨m,by omega,by omega,by (refine kS ?_;exact Kr)⟩
 have:k=0:=by omega
 subst this;rw [dA,hv]
theorem aeh{T:Tb}(h:G9 T){m n:Nat}(la:(mk m).length<=800:=by exact rF)(lb:(mk n).length<=800:=by exact rF) :
  PF T 123 [ints (mk m),ints (mk n)] (ints (mk (Nat.gcd m n))):=by
 have em:∀k,kU (mk k)=[]->mk k=[]:=fun k e=>by cases hm:mk k with|nil=>rfl|cons a l=>rw [hm]at e;cases e
 refine kX nR h.hT ?_;simp only [G8,Lz];refine ev ?_;refine⟨fun e1=>⟨fun e2=>?_,fun e2=>?_⟩,fun e1=>⟨by omega,fun e2=>?_,fun e2=>?_⟩⟩
 case' refine_1=>have x0:=em m e1;have y0:=em n e2
 case' refine_2=>have x0:=em m e1;refine⟨by omega,?_⟩
 case' refine_3=>have y0:=em n e2
 case' refine_4=>refine⟨by omega,?_⟩
 all_goals
  refine kZ (fun _ _=>false) (α:=Nat×Nat) (fun q=>⟨mJ [.any,.any,.any,.any,.any,ints (mk q.1),ints (mk q.2)],[],0,0,[],[]⟩) (fun q=>Nat.gcd q.1 q.2=Nat.gcd m n/\(mk q.1).length<=800/\(mk q.2).length<=800) (fun q=>q.2) rfl (m,n) ?_ ?_ ?_
  ·exact⟨rfl,la,lb⟩
  ·dsimp only
   try rw [x0]
   try rw [y0]
   exact abY
  rintro⟨x,y⟩ ⟨hg,lx,ly⟩;dsimp only at hg lx ly;rw [<-hg];clear hg la lb em e1 e2;refine ev ?_;refine lG (fun c1=>?_) fun c1=>?_<;>(refine ev1 @c1 ?_;try with_reducible exact aC)
  ·have hy:0<y:=F8.1 (by omega);by_cases c2:(((mk x).length:Nat):Int)<3/\(((mk y).length:Nat):Int)<3
   ·obtain⟨c2,c3⟩:=c2;have sx:x<1000000000000000000:=by have:=l9 (n:=x) (k:=2);omega
    have sy:y<1000000000000000000:=by have:=l9 (n:=y) (k:=2);omega
    refine xP @c2 @c3 ?_;refine jK (YJ h.OM sx) ?_;refine ev ?_;refine jK (YJ h.OM sy) ?_;refine ev ?_;refine jK (agy h.WW sx sy) ?_;refine ev ?_;exact kR _
   have lr:=kK x hy;have lr2:(mk (x % y)).length<=800:=dw (N7 (Nat.le_of_lt lr)) ly;have eg:Nat.gcd y (x % y)=Nat.gcd x y:=by rw [jX x y,Nat.gcd_rec y x,jX]
   have big:((((mk x).length:Nat):Int)<3/\¬(((mk y).length:Nat):Int)<3)\/¬(((mk x).length:Nat):Int)<3:=by omega
   clear c2;rcases big with ⟨c2,c3⟩|c2
   case' inl=>(refine xP @c2 @c3 ?_;try with_reducible exact aC)
   case' inr=>(refine ev1 @c2 ?_;try with_reducible exact aC)
   all_goals
    refine jK (YI h.He hy (by omega) (by omega)) ?_;refine ev ?_;exact⟨(y,x % y),lr,⟨eg,ly,lr2⟩,by (refine kS ?_;exact Kr)⟩
  have y0:y=0:=by have:=@F8 y;omega
  rw [y0,Nat.gcd_zero_right];exact kR _
def vN:Fn:=⟨2,17,[.cell 4 2 true],(.seq (rf 1 [oN 4 (.alloc zz3)]) (.seq (sr [oW 5 1,oN 6 (ln 5),oN 7 (bc .eql 6 0),oW 8 7,oG 8 false 9 (oV 1),oG 8 false 10 (ln 9),oG 8 false 11 (bc .gtr 10 60),oN 12 (.pick (.t 8) (.c (.bool true)) (.t 11))] (cd 12 (sr [oN 13 (.build zz3 []),oS (.store 2 (.t 4) (.t 13))] .ret) .skip)) (sr [oW 14 0,oW 15 1,oN 16 (.build zz3 [(0,1,(.t 14)),(1,1,(.t 15))]),oS (.store 2 (.t 4) (.t 16))] .ret)))⟩
structure oh (T:Tb):Prop where
 hT:T 68=some vN
def Hf:Fn:=⟨2,16,[.cell 4 2 true],(.seq (rf 3 [oN 2 (.box (.t 0)),oK 3 1 (.box (.t 1)),oK 4 2 (.alloc zz3)]) (.seq (rt 0 [oN 5 (fd 0 2),oA 6 0 (lF 1 5) [0],oN 7 (fd 0 3),oA 8 0 (lF 1 7) [2],oA 9 0 (.beq true (.t 6) (.t 8)) [1,3],oN 10 (fd 1 2),oA 11 0 (lF 1 10) [5],oN 12 (fd 1 3),oA 13 0 (lF 1 12) [7],oA 14 0 (cl 155 [11,13]) [6,8],oA 15 0 (cl 68 [9,14]) [4,9,9],⟨none,none,0,.store 2 (.t 4) (.t 15),[10,10,0,1,2,3,4,5,6,7,8,9,10]⟩]) .ret))⟩
structure BZ (T:Tb):Prop where
 hT:T 142=some Hf
 mG:oh T
 GK:GH T
def Hg:Fn:=⟨2,40,[.cell 4 2 true],(.seq (rf 3 [oN 2 (.box (.t 0)),oK 3 1 (.box (.t 1)),oK 4 2 (.alloc zz3)]) (.seq (sr [oN 5 (fd 0 2),oN 6 (lF 1 5),oN 7 (fd 0 3),oN 8 (lF 1 7),oN 9 (.beq false (.t 6) (.t 8))] (cd 9 (.seq (rt 0 [oN 10 (fd 0 2),oA 11 0 (lF 1 10) [0],oN 12 (fd 1 2),oA 13 0 (lF 1 12) [2],oN 14 (fd 1 3),oA 15 0 (lF 1 14) [4],oA 16 0 (cl 160 [13,15]) [3,5],oA 17 0 (cl 68 [11,16]) [1,6,6],⟨none,none,0,.store 2 (.t 4) (.t 17),[7,7,0,1,2,3,4,5,6,7]⟩]) .ret) .skip)) (.seq (sr [oN 18 (fd 1 2),oN 19 (lF 1 18),oN 20 (fd 1 3),oN 21 (lF 1 20),oN 22 (cl 152 [19,21]),oN 23 (bc .geq 22 0)] (cd 23 (.seq (rt 0 [oN 24 (fd 0 2),oA 25 0 (lF 1 24) [0],oN 26 (fd 1 2),oA 27 0 (lF 1 26) [2],oN 28 (fd 1 3),oA 29 0 (lF 1 28) [4],oA 30 0 (cl 154 [27,29]) [3,5],oA 31 0 (cl 68 [25,30]) [1,6,6],⟨none,none,0,.store 2 (.t 4) (.t 31),[7,7,0,1,2,3,4,5,6,7]⟩]) .ret) .skip)) (.seq (rt 0 [oN 32 (fd 0 3),oA 33 0 (lF 1 32) [0],oN 34 (fd 1 3),oA 35 0 (lF 1 34) [2],oN 36 (fd 1 2),oA 37 0 (lF 1 36) [4],oA 38 0 (cl 154 [35,37]) [3,5],oA 39 0 (cl 68 [33,38]) [1,6,6],⟨none,none,0,.store 2 (.t 4) (.t 39),[7,7,0,1,2,3,4,5,6,7]⟩]) .ret))))⟩
structure LC (T:Tb):Prop where
 hT:T 141=some Hg
 mG:oh T
 GI:Gu T
 BU:Gy T
 ZV:Lj T
def Dj:Fn:=⟨1,17,[.tmp 2],(.seq (rf 1 [oN 1 (.box (.t 0)),oK 2 1 mF]) (sr [oN 3 (fd 1 1),oN 4 (lF 1 3),oN 5 (cl 126 [4]),oW 6 5,oG 6 true 7 (fd 0 1),oG 6 true 8 (lF 1 7),oG 6 true 9 (oV 8),oG 9 true 10 (fd 1 1),oG 9 true 11 (lF 1 10),oG 9 true 12 (ln 11),oG 9 true 13 (bc .eql 12 0),oG 6 true 14 (.pick (.t 9) (.t 13) (.c (.bool false))),oG 6 true 15 (nt 14),oN 16 (.pick (.t 6) (.t 15) (.c (.bool false))),oW 2 16] .ret))⟩
structure IE (T:Tb):Prop where
 hT:T 125=some Dj
 N8:Ja T
def Je:Fn:=⟨1,6,[.cell 2 2 true],(.seq (rf 2 [oN 1 (.box (.t 0)),oK 2 1 (.alloc zz3)]) (sr [oN 3 (fd 2 1),oN 4 (lF 1 3),oN 5 (.build zz3 [(1,1,(.t 4))]),oS (.store 2 (.t 2) (.t 5))] .ret))⟩
structure Bd (T:Tb):Prop where
 hT:T 143=some Je
def KO:Fn:=⟨1,7,[.tmp 2],(.seq (rf 1 [oN 1 (.box (.t 0)),oK 2 1 mF]) (sr [oN 3 (fd 2 1),oN 4 (lF 1 3),oN 5 (ln 4),oN 6 (bc .gtr 5 0),oW 2 6] .ret))⟩
structure pG (T:Tb):Prop where
 hT:T 132=some KO
theorem ab3:nG (Xo ⟨false,[]⟩) (.agg [.bool false,.kC]):=by
 show nG (.agg [.bool false,.sl 1 []]) (.agg [.bool false,.kC]);simp only [P8,Vt,Vr,Na,qg,and_true]
theorem sU:nG (lD ⟨false,[],[]⟩) (.agg [.bool false,.kC,.kC]):=by
 show nG (.agg [.bool false,.sl 1 [],.sl 1 []]) (.agg [.bool false,.kC,.kC]);simp only [P8,Vt,Vr,Na,qg,and_true]
theorem DX{T:Tb}(h:oh T){neg:Bool}{n:Nat}(hl:(mk n).length<=60:=by exact rF):PF T 68 [.bool neg,ints (mk n)] (Xo (bi (sg neg n))):=by
 refine kX nR h.hT ?_;simp only [vN,Lz];refine ev ?_;refine lG (fun h1=>?_) fun h1=>?_<;>(refine ev1 @h1 ?_;try with_reducible exact aC)
 ·have n0:n=0:=ake.1 (by omega);subst n0;rw [Ul,aik];exact ab3
 have h2:¬(60:Int)<((mk n).length:Nat):=by omega
 refine ev1 @h2 ?_;rw [amB neg n (F8.1 (by omega))];exact kR _
theorem aq0{T:Tb}(h:Bd T){r:R}:PF T 143 [lD r] (Xo ⟨false,r.den⟩):=by
 refine kX nR h.hT ?_;simp only [Je,Lz];refine ev ?_;exact kR _
theorem Um(a b:Bool):(!decide (a=b))=(a != b):=by cases a<;>cases b<;>rfl
theorem wK{T:Tb}(h:BZ T){x y:Int}(lx:(mk x.natAbs).length<=30:=by exact rF)(ly:(mk y.natAbs).length<=30:=by exact rF):PF T 142 [Xo (bi x),Xo (bi y)] (Xo (bi (x*y))):=by
 have l1:=Lu x.natAbs y.natAbs;refine kX nR h.hT ?_;simp only [Hf,Lz];refine ev ?_;refine jK (YB h.GK (by omega) (by omega)) ?_;refine ev ?_;refine jK (DX h.mG (by omega)) ?_;refine ev ?_;refine⟨by unfold sF;decide +kernel,?_⟩;rw [Um,YG];exact kR _
theorem aei{T:Tb}(h:LC T){x y:Int}(lx:(mk x.natAbs).length<=59:=by exact rF)(ly:(mk y.natAbs).length<=59:=by exact rF):PF T 141 [Xo (bi x),Xo (bi y)] (Xo (bi (x+y))):=by
 have l1:=agv x.natAbs y.natAbs;have l2:=ab1 x.natAbs y.natAbs;have l3:=ab1 y.natAbs x.natAbs;refine kX nR h.hT ?_;simp only [Hg,Lz];refine ev ?_;refine lG (fun h1=>?_) fun h1=>?_<;>(refine ev1 @h1 ?_;try with_reducible exact aC)
 ·refine jK (amx h.ZV (by omega) (by omega)) ?_;refine ev ?_;refine jK (DX h.mG (by omega)) ?_;refine ev ?_;refine⟨by unfold sF;decide +kernel,?_⟩;rw [<-h1,WA h1];exact kR _
 have cc:=YA h.GI (wY x.natAbs) (wY y.natAbs) (by omega) (by omega);rw [val_mk,val_mk]at cc;refine jK cc ?_;refine ev ?_;refine lG (fun h2=>?_) fun h2=>?_<;>(refine ev1 @h2 ?_;try with_reducible exact aC)
 ·have h3:=yG.1 h2;refine jK (Uh h.BU h3 (by omega) (by omega)) ?_;refine ev ?_;refine jK (DX h.mG (by omega)) ?_;refine ev ?_;refine⟨by unfold sF;decide +kernel,?_⟩;rw [KN h1 h3];exact kR _
 have h3:x.natAbs<=y.natAbs:=by have:=@yG x.natAbs y.natAbs;omega
 refine jK (Uh h.BU h3 (by omega) (by omega)) ?_;refine ev ?_;refine jK (DX h.mG (by omega)) ?_;refine ev ?_;refine⟨by unfold sF;decide +kernel,?_⟩;rw [KN (fun e=>h1 e.symm) h3,Int.add_comm];exact kR _
theorem agz{T:Tb}(h:IE T){z:Bi}(hl:z.mag.length<=9223372036854775807:=by exact rF):PF T 125 [Xo z] (.bool (yY z.mag && !(z.neg&&z.mag.isEmpty))):=by
 obtain⟨neg,mag⟩:=z;have cn:=aif h.N8 hl;dsimp only at cn ⊢
 cases hn:yY mag<;>rw [hn]at cn<;>cases neg
 all_goals
  refine lV nR h.hT ?_;simp only [Dj,Lz];refine ev ?_;refine jK cn ?_
  (refine ev ?_;try with_reducible exact aC)
 all_goals
  cases mag<;>simp<;>omega
theorem avt{T:Tb}(h:pG T){r:R}:PF T 132 [lD r] (.bool (!r.den.isEmpty)):=by
 refine lV nR h.hT ?_;simp only [KO,Lz];refine ev ?_
 cases r.den<;>simp
def Ah:Fn:=⟨2,18,[.cell 4 2 true],(.seq (rf 1 [oN 4 (.alloc zz3)]) (sr [oW 6 1,oN 7 (cl 70 [6]),oW 5 7] (.seq (rf 2 [oK 8 2 (oV 0),oK 9 2 (oV 8),oH 9 true 10 2 (oV 5) [],oH 9 true 11 2 (ln 10) [],oH 9 true 12 2 (bc .gtr 11 0) [],oK 13 2 (.pick (.t 9) (.t 12) (.c (.bool false))),oN 14 (.nO 1 Kt 0 []),oK 15 2 (oV 5),oK 16 1 (.app 1 8 (.t 14) (.t 15)),oK 17 2 (.build zz3 [(0,1,(.t 13)),(1,1,(.t 16))]),⟨none,none,2,.store 2 (.t 4) (.t 17),[]⟩]) .ret)))⟩
structure vO (T:Tb):Prop where
 hT:T 66=some Ah
 ZW:Ls T
def Hl:Fn:=⟨2,40,[.cell 4 2 true],(.seq (rf 3 [oN 2 (.box (.t 0)),oK 3 1 (.box (.t 1)),oK 4 2 (.alloc zz3)]) (.seq (sr [oN 5 (fd 0 2),oN 6 (lF 1 5),oN 7 (fd 0 3),oN 8 (lF 1 7),oN 9 (.beq false (.t 6) (.t 8))] (cd 9 (.seq (rt 0 [oN 10 (fd 0 2),oA 11 0 (lF 1 10) [0],oN 12 (fd 1 2),oA 13 0 (lF 1 12) [2],oN 14 (fd 1 3),oA 15 0 (lF 1 14) [4],oA 16 0 (cl 209 [13,15]) [3,5],oA 17 0 (cl 66 [11,16]) [1,6,6],⟨none,none,0,.store 2 (.t 4) (.t 17),[7,7,0,1,2,3,4,5,6,7]⟩]) .ret) .skip)) (.seq (sr [oN 18 (fd 1 2),oN 19 (lF 1 18),oN 20 (fd 1 3),oN 21 (lF 1 20),oN 22 (cl 146 [19,21]),oN 23 (bc .geq 22 0)] (cd 23 (.seq (rt 0 [oN 24 (fd 0 2),oA 25 0 (lF 1 24) [0],oN 26 (fd 1 2),oA 27 0 (lF 1 26) [2],oN 28 (fd 1 3),oA 29 0 (lF 1 28) [4],oA 30 0 (cl 149 [27,29]) [3,5],oA 31 0 (cl 66 [25,30]) [1,6,6],⟨none,none,0,.store 2 (.t 4) (.t 31),[7,7,0,1,2,3,4,5,6,7]⟩]) .ret) .skip)) (.seq (rt 0 [oN 32 (fd 0 3),oA 33 0 (lF 1 32) [0],oN 34 (fd 1 3),oA 35 0 (lF 1 34) [2],oN 36 (fd 1 2),oA 37 0 (lF 1 36) [4],oA 38 0 (cl 149 [35,37]) [3,5],oA 39 0 (cl 66 [33,38]) [1,6,6],⟨none,none,0,.store 2 (.t 4) (.t 39),[7,7,0,1,2,3,4,5,6,7]⟩]) .ret))))⟩
structure LD (T:Tb):Prop where
 hT:T 205=some Hl
 oq:vO T
 xq:zq T
 G7:GY T
 ZX:Ll T
def Dk:Fn:=⟨1,17,[.tmp 2],(.seq (rf 1 [oN 1 (.box (.t 0)),oK 2 1 mF]) (sr [oN 3 (fd 1 1),oN 4 (lF 1 3),oN 5 (cl 121 [4]),oW 6 5,oG 6 true 7 (fd 0 1),oG 6 true 8 (lF 1 7),oG 6 true 9 (nt 8),oG 6 true 10 (oV 9),oG 10 false 11 (fd 1 1),oG 10 false 12 (lF 1 11),oG 10 false 13 (ln 12),oG 10 false 14 (bc .gtr 13 0),oG 6 true 15 (.pick (.t 10) (.c (.bool true)) (.t 14)),oN 16 (.pick (.t 6) (.t 15) (.c (.bool false))),oW 2 16] .ret))⟩
structure IG (T:Tb):Prop where
 hT:T 120=some Dk
 En:Ej T
def Cb:Fn:=⟨1,12,[.tmp 2],(sr [oN 2 mF] (sr [oW 3 0,oN 4 (ln 3),oN 5 (bc .eql 4 1),oW 6 5,oG 6 true 7 (oV 0),oG 6 true 8 (.idx 1 (.t 7) (cI 0)),oG 6 true 9 (lF 1 8),oG 6 true 10 (bc .eql 9 1),oN 11 (.pick (.t 6) (.t 10) (.c (.bool false))),oW 2 11] .ret))⟩
structure Ce (T:Tb):Prop where
 hT:T 122=some Cb
theorem Bf{T:Tb}(h:vO T){neg:Bool}{n:Nat}(hl:(mk n).length<=60:=by exact rF):PF T 66 [.bool neg,ints (mk n)] (Xo (bi (sg neg n))):=by
 have ct:=amz h.ZW (n:=n) (by omega);by_cases n0:n=0
 ·subst n0;rw [mk_zero]at *;rw [Ul,aik];refine kX nR h.hT ?_;simp only [Ah,Lz];refine ev ?_;refine jK ct ?_
  cases neg
  ·refine ev ?_;exact⟨fun _=>ab3,fun e=>absurd rfl e⟩
  refine ev ?_;exact⟨fun _=>ab3,fun e=>absurd rfl e⟩
 have hp:=F8.2 (jS n0);have ne:kU (mk n)≠[]:=by intro e;rw [<-vK,e]at hp;simp at hp
 rw [amB neg n (by omega)];refine kX nR h.hT ?_;simp only [Ah,Lz];refine ev ?_;refine jK ct ?_
 cases neg
 ·refine ev1 @ne ?_;exact⟨by omega,kR _⟩
 have c1:(0:Int)<((mk n).length:Nat):=by omega
 refine xP @ne @c1 ?_;exact⟨by omega,kR _⟩
theorem aej{T:Tb}(h:LD T){x y:Int}(lx:(mk x.natAbs).length<=59:=by exact rF)(ly:(mk y.natAbs).length<=59:=by exact rF):PF T 205 [Xo (bi x),Xo (bi y)] (Xo (bi (x+y))):=by
 have l1:=agv x.natAbs y.natAbs;have l2:=ab1 x.natAbs y.natAbs;have l3:=ab1 y.natAbs x.natAbs;refine kX nR h.hT ?_;simp only [Hl,Lz];refine ev ?_;refine lG (fun h1=>?_) fun h1=>?_<;>(refine ev1 @h1 ?_;try with_reducible exact aC)
 ·refine jK (amA h.ZX (by omega) (by omega)) ?_;refine ev ?_;refine jK (Bf h.oq (by omega)) ?_;refine ev ?_;refine⟨by unfold sF;decide +kernel,?_⟩;rw [<-h1,WA h1];exact kR _
 have cc:=Uj h.xq (wY x.natAbs) (wY y.natAbs) (by omega) (by omega);rw [val_mk,val_mk]at cc;refine jK cc ?_;refine ev ?_;refine lG (fun h2=>?_) fun h2=>?_<;>(refine ev1 @h2 ?_;try with_reducible exact aC)
 ·have h3:=yG.1 h2;refine jK (YH h.G7 h3 (by omega) (by omega)) ?_;refine ev ?_;refine jK (Bf h.oq (by omega)) ?_;refine ev ?_;refine⟨by unfold sF;decide +kernel,?_⟩;rw [KN h1 h3];exact kR _
 have h3:x.natAbs<=y.natAbs:=by have:=@yG x.natAbs y.natAbs;omega
 refine jK (YH h.G7 h3 (by omega) (by omega)) ?_;refine ev ?_;refine jK (Bf h.oq (by omega)) ?_;refine ev ?_;refine⟨by unfold sF;decide +kernel,?_⟩;rw [KN (fun e=>h1 e.symm) h3,Int.add_comm];exact kR _
theorem aek{T:Tb}(h:IG T){z:Bi}(hl:z.mag.length<=9223372036854775807:=by exact rF):PF T 120 [Xo z] (.bool (yY z.mag && !(z.neg&&z.mag.isEmpty))):=by
 obtain⟨neg,mag⟩:=z;have cn:=YF h.En hl;dsimp only at cn ⊢
 cases hn:yY mag<;>rw [hn]at cn<;>cases neg
 all_goals
  refine lV nR h.hT ?_;simp only [Dk,Lz];refine ev ?_;refine jK cn ?_
  (refine ev ?_;try with_reducible exact aC)
 all_goals
  cases mag<;>simp<;>omega
theorem Qb{T:Tb}(h:Ce T){n:Nat}:PF T 122 [ints (mk n)] (.bool (decide (n=1))):=by
 by_cases n1:n=1
 ·subst n1;rw [mk_one (by omega) (by omega)];have c0:((1:Nat):Int)=1:=rfl;refine lV nR h.hT ?_;simp only [Cb,Lz];refine ev ?_;refine ev1 @c0 ?_;rfl
 have key:¬((mk n).length=1/\(mk n).getD 0 0=1):=by
  rintro⟨k,e⟩;have:=val_mk n
  cases hm:mk n with
  |nil=>rw [hm]at k;simp at k
  |
   cons x l =>
   rw [hm]at k e this;have:l=[]:=by simpa using k
   subst this;simp [val]at *;omega
 refine lV nR h.hT ?_;simp only [Cb,Lz];refine ev ?_;by_cases k:(((mk n).length:Nat):Int)=1
 ·have k':=iff_true_intro k;have e:¬(mk n).getD 0 0=1:=fun e=>key ⟨by omega,e⟩;refine xP @k' @e ?_;simp [n1]
 refine ev1 @k ?_;simp [n1]
theorem Un{q:Rat}:fits q=true↔(mk q.num.natAbs).length<=24/\(mk q.den).length<=24:=by
 rw [l9,l9];simp [fits]
theorem Nj(neg:Bool)(m:Nat):(sg neg m).natAbs=m:=by cases neg<;>simp [sg]
theorem ab4{n d:Int}(hd:d≠0):Q.raw (TG n d) =
  if (mk (n.natAbs / Nat.gcd n.natAbs d.natAbs)).length<=24/\(mk (d.natAbs / Nat.gcd n.natAbs d.natAbs)).length<=24 then
   ⟨(bi (sg (decide (n<0) != decide (d<0)) (n.natAbs / Nat.gcd n.natAbs d.natAbs))).neg,mk (n.natAbs / Nat.gcd n.natAbs d.natAbs),mk (d.natAbs / Nat.gcd n.natAbs d.natAbs)⟩
  else⟨false,[],[]⟩:=by
 obtain⟨h1,h2,h3⟩:=agd (n:=n) hd;unfold TG;rw [aN hd];have hg:0<Nat.gcd n.natAbs d.natAbs:=jE _ (by omega);have h4:n.natAbs / Nat.gcd n.natAbs d.natAbs=0↔n=0:=by
  constructor
  ·intro h;have:=Nat.div_mul_cancel (Nat.gcd_dvd_left n.natAbs d.natAbs);rw [h]at this;omega
  intro h;subst h;simp
 have h5:decide ((Rat.divInt n d).num<0)=decide (sg (decide (n<0) != decide (d<0)) (n.natAbs / Nat.gcd n.natAbs d.natAbs)<0):=by
  rw [h3];generalize n.natAbs / Nat.gcd n.natAbs d.natAbs=m at h4
  cases hb:(decide (n<0) != decide (d<0))
  ·simp [sg]
  by_cases hn:n=0
  ·have:=h4.2 hn;subst this;simp [sg,hn]
  have:m≠0:=fun e=>hn (h4.1 e);simp [sg,hn];omega
 by_cases hf:fits (Rat.divInt n d)=true
 ·have hf2:=Un.1 hf;rw [h1,h2]at hf2;rw [zn hf,aQ hf2];simp only [Q.raw,h1,h2,h5]
 have hf2:=fun h=>hf (Un.2 h);rw [h1,h2]at hf2;rw [aaF (by simpa using hf),aN hf2];rfl
def vP:Fn:=⟨2,52,[.cell 4 3 true],(.seq (rf 3 [oN 2 (.box (.t 0)),oK 3 1 (.box (.t 1)),oK 4 2 (.alloc uJ)]) (.seq (sr [oN 10 (fd 1 3),oN 11 (lF 1 10),oN 12 (ln 11),oN 13 (bc .eql 12 0)] (cd 13 (sr [oN 14 (.build uJ []),oS (.store 3 (.t 4) (.t 14))] .ret) .skip)) (sr [oN 15 (fd 1 2),oN 16 (lF 1 15),oN 17 (fd 1 3),oN 18 (lF 1 17),oN 19 (cl 127 [16,18]),oW 5 19] (sr [oN 21 (fd 1 2),oN 22 (lF 1 21),oW 23 5,oN 24 (cl 138 [22,23]),oW 20 24,oN 25 (ex 0 20),oN 26 (ex 1 20),oW 6 25,oW 7 26] (sr [oN 28 (fd 1 3),oN 29 (lF 1 28),oW 30 5,oN 31 (cl 138 [29,30]),oW 27 31,oN 32 (ex 0 27),oN 33 (ex 1 27),oW 8 32,oW 9 33] (.seq (sr [oW 34 6,oN 35 (ln 34),oN 36 (bc .gtr 35 24),oW 37 36,oG 37 false 38 (oV 8),oG 37 false 39 (ln 38),oG 37 false 40 (bc .gtr 39 24),oN 41 (.pick (.t 37) (.c (.bool true)) (.t 40))] (cd 41 (sr [oN 42 (.build uJ []),oS (.store 3 (.t 4) (.t 42))] .ret) .skip)) (sr [oN 43 (fd 0 2),oN 44 (lF 1 43),oN 45 (fd 0 3),oN 46 (lF 1 45),oN 47 (.beq true (.t 44) (.t 46)),oW 48 6,oN 49 (cl 68 [47,48]),oW 50 8,oN 51 (.build uJ [(0,2,(.t 49)),(2,1,(.t 50))]),oS (.store 3 (.t 4) (.t 51))] .ret)))))))⟩
structure xX (T:Tb):Prop where
 hT:T 144=some vP
 mG:oh T
 Ho:GN T
 zo:BR T
def sZ:Fn:=⟨2,33,[.cell 4 3 true],(.seq (rf 3 [oN 2 (.box (.t 0)),oK 3 1 (.box (.t 1)),oK 4 2 (.alloc uJ)]) (.seq (sr [oN 6 (lT 3 2),oN 7 (cl 132 [6]),oN 8 (nt 7),oW 9 8,oG 9 false 10 (lT 3 3),oG 9 false 11 (cl 132 [10]),oG 9 false 12 (nt 11),oN 13 (.pick (.t 9) (.c (.bool true)) (.t 12))] (cd 13 (sr [oN 14 (.build uJ []),oS (.store 3 (.t 4) (.t 14))] .ret) .skip)) (.seq (rt 1 [oK 15 1 (fd 0 2),oA 16 1 (lT 2 15) [0],oK 17 1 (lT 3 3),oA 18 1 (cl 143 [17]) [2],oA 19 1 (cl 142 [16,18]) [1,3,3],oK 20 1 (fd 0 3),oA 21 1 (lT 2 20) [5],oK 22 1 (lT 3 2),oA 23 1 (cl 143 [22]) [7,4],oA 24 1 (cl 142 [21,23]) [6,8,8],oA 25 1 (cl 141 [19,24]) [4,9,9],oN 5 (.alloc zz3),⟨none,none,1,.store 2 (.t 5) (.t 25),[11,10,10,0,1,2,3,4,5,6,7,8,9,10,11]⟩]) (.seq (rt 0 [oN 26 (lT 2 5),oN 27 (lT 3 2),oA 28 0 (cl 143 [27]) [1],oN 29 (lT 3 3),oA 30 0 (cl 143 [29]) [3,2],oA 31 0 (cl 142 [28,30]) [2,4,4],oA 32 0 (cl 144 [26,31]) [0,5,5],⟨none,none,0,.store 3 (.t 4) (.t 32),[6,6,0,1,2,3,4,5,6]⟩]) .ret))))⟩
structure nM (T:Tb):Prop where
 hT:T 131=some sZ
 kW:pG T
 Rj:LC T
 nN:BZ T
 nJ:Bd T
 uj:xX T
def zu:Fn:=⟨1,20,[.cell 2 3 true],(.seq (rf 2 [oN 1 (.box (.t 0)),oK 2 1 (.alloc uJ)]) (.seq (sr [oN 3 (lT 3 1),oN 4 (cl 132 [3]),oN 5 (nt 4)] (cd 5 (sr [oN 6 (.build uJ []),oS (.store 3 (.t 2) (.t 6))] .ret) .skip)) (.seq (rt 0 [oN 7 (fd 0 1),oA 8 0 (fd 0 7) [0],oA 9 0 (lF 1 8) [1],oA 10 0 (nt 9) [2],oN 11 (fd 0 1),oA 12 0 (fd 1 11) [4],oA 13 0 (lF 1 12) [5],oA 14 0 (cl 139 [13]) [6],oA 15 0 (cl 68 [10,14]) [3,7,7],oN 16 (fd 2 1),oA 17 0 (lF 1 16) [9],oA 18 0 (cl 139 [17]) [10,8],oA 19 0 (.build uJ [(0,2,(.t 15)),(2,1,(.t 18))]) [8,11],⟨none,none,0,.store 3 (.t 2) (.t 19),[12,11,0,1,2,3,4,5,6,7,8,9,10,11,12]⟩]) .ret)))⟩
structure uV (T:Tb):Prop where
 hT:T 161=some zu
 mG:oh T
 kW:pG T
 qO:wH T
def Ci:Fn:=⟨2,9,[.cell 4 3 true],(.seq (rf 3 [oN 2 (.box (.t 0)),oK 3 1 (.box (.t 1)),oK 4 2 (.alloc uJ)]) (.seq (rt 0 [oN 5 (lT 3 2),oN 6 (lT 3 3),oA 7 0 (cl 161 [6]) [1],oA 8 0 (cl 131 [5,7]) [0,2,2],⟨none,none,0,.store 3 (.t 4) (.t 8),[3,3,0,1,2,3]⟩]) .ret))⟩
structure tu (T:Tb):Prop where
 hT:T 159=some Ci
 lJ:nM T
 uX:uV T
def tC:Fn:=⟨2,25,[.cell 4 3 true],(.seq (rf 3 [oN 2 (.box (.t 0)),oK 3 1 (.box (.t 1)),oK 4 2 (.alloc uJ)]) (.seq (sr [oN 5 (lT 3 2),oN 6 (cl 132 [5]),oN 7 (nt 6),oW 8 7,oG 8 false 9 (lT 3 3),oG 8 false 10 (cl 132 [9]),oG 8 false 11 (nt 10),oN 12 (.pick (.t 8) (.c (.bool true)) (.t 11))] (cd 12 (sr [oN 13 (.build uJ []),oS (.store 3 (.t 4) (.t 13))] .ret) .skip)) (.seq (rt 0 [oN 14 (fd 0 2),oA 15 0 (lT 2 14) [0],oN 16 (fd 0 3),oA 17 0 (lT 2 16) [2],oA 18 0 (cl 142 [15,17]) [1,3],oN 19 (lT 3 2),oA 20 0 (cl 143 [19]) [5,4],oN 21 (lT 3 3),oA 22 0 (cl 143 [21]) [7,6],oA 23 0 (cl 142 [20,22]) [6,8,8],oA 24 0 (cl 144 [18,23]) [4,9,9],⟨none,none,0,.store 3 (.t 4) (.t 24),[10,10,0,1,2,3,4,5,6,7,8,9,10]⟩]) .ret)))⟩
structure qL (T:Tb):Prop where
 hT:T 157=some tC
 kW:pG T
 nN:BZ T
 nJ:Bd T
 uj:xX T
def tH:Fn:=⟨2,25,[.cell 4 3 true],(.seq (rf 3 [oN 2 (.box (.t 0)),oK 3 1 (.box (.t 1)),oK 4 2 (.alloc uJ)]) (.seq (sr [oN 5 (lT 3 2),oN 6 (cl 132 [5]),oN 7 (nt 6),oW 8 7,oG 8 false 9 (lT 3 3),oG 8 false 10 (cl 132 [9]),oG 8 false 11 (nt 10),oN 12 (.pick (.t 8) (.c (.bool true)) (.t 11))] (cd 12 (sr [oN 13 (.build uJ []),oS (.store 3 (.t 4) (.t 13))] .ret) .skip)) (.seq (rt 0 [oN 14 (fd 0 2),oA 15 0 (lT 2 14) [0],oN 16 (lT 3 3),oA 17 0 (cl 143 [16]) [2],oA 18 0 (cl 142 [15,17]) [1,3,3],oN 19 (fd 0 3),oA 20 0 (lT 2 19) [5],oN 21 (lT 3 2),oA 22 0 (cl 143 [21]) [7,4],oA 23 0 (cl 142 [20,22]) [6,8,8],oA 24 0 (cl 144 [18,23]) [4,9,9],⟨none,none,0,.store 3 (.t 4) (.t 24),[10,10,0,1,2,3,4,5,6,7,8,9,10]⟩]) .ret)))⟩
structure uY (T:Tb):Prop where
 hT:T 156=some tH
 kW:pG T
 nN:BZ T
 nJ:Bd T
 uj:xX T
def Ai:Fn:=⟨1,16,[.tmp 2],(.seq (rf 1 [oN 1 (.box (.t 0)),oK 2 1 (.qC (cI 0))]) (.seq (sr [oN 3 (lT 3 1),oN 4 (cl 132 [3]),oN 5 (nt 4),oW 6 5,oG 6 false 7 (fd 0 1),oG 6 false 8 (fd 1 7),oG 6 false 9 (lF 1 8),oG 6 false 10 (ln 9),oG 6 false 11 (bc .eql 10 0),oN 12 (.pick (.t 6) (.c (.bool true)) (.t 11))] (cd 12 (sr [oN 2 (.qC (cI 0))] .ret) .skip)) (.seq (sr [oN 13 (fd 0 1),oN 14 (fd 0 13),oN 15 (lF 1 14)] (cd 15 (sr [oN 2 (.qC (cI (-1)))] .ret) .skip)) (sr [oN 2 (.qC (cI 1))] .ret))))⟩
structure Aj (T:Tb):Prop where
 hT:T 124=some Ai
 kW:pG T
def uT:Fn:=⟨1,46,[.tmp 2],(.seq (rf 1 [oN 1 (.box (.t 0)),oK 2 1 mF]) (.seq (sr [oN 4 (fd 0 1),oN 5 (lT 2 4),oN 6 (cl 125 [5]),oN 7 (nt 6),oW 8 7,oG 8 false 9 (fd 2 1),oG 8 false 10 (lF 1 9),oG 8 false 11 (cl 126 [10]),oG 8 false 12 (nt 11),oN 13 (.pick (.t 8) (.c (.bool true)) (.t 12)),oW 14 13,oG 14 false 15 (fd 2 1),oG 14 false 16 (lF 1 15),oG 14 false 17 (ln 16),oG 14 false 18 (bc .eql 17 0),oN 19 (.pick (.t 14) (.c (.bool true)) (.t 18))] (cd 19 (sr [oN 2 mF] .ret) .skip)) (.seq (sr [oN 20 (fd 0 1),oN 21 (fd 1 20),oN 22 (lF 1 21),oN 23 (ln 22),oN 24 (bc .gtr 23 24),oW 25 24,oG 25 false 26 (fd 2 1),oG 25 false 27 (lF 1 26),oG 25 false 28 (ln 27),oG 25 false 29 (bc .gtr 28 24),oN 30 (.pick (.t 25) (.c (.bool true)) (.t 29))] (cd 30 (sr [oN 2 mF] .ret) .skip)) (sr [oN 31 (fd 0 1),oN 32 (fd 1 31),oN 33 (lF 1 32),oN 34 (fd 2 1),oN 35 (lF 1 34),oN 36 (cl 127 [33,35]),oW 3 36] (sr [oW 37 3,oN 38 (ln 37),oN 39 (bc .eql 38 1),oW 40 39,oG 40 true 41 (oV 3),oG 40 true 42 (.idx 1 (.t 41) (cI 0)),oG 40 true 43 (lF 1 42),oG 40 true 44 (bc .eql 43 1),oN 45 (.pick (.t 40) (.t 44) (.c (.bool false))),oW 2 45] .ret)))))⟩
structure yK (T:Tb):Prop where
 hT:T 102=some uT
 OO:IE T
 N8:Ja T
 Ho:GN T
theorem BJ{T:Tb}(h:Bd T){q:Rat}:PF T 143 [lD (Q.raw (some q))] (Xo (bi q.den)):=by
 have:=aq0 h (r:=Q.raw (some q));rw [avs];exact this
theorem ab5{T:Tb}(h:pG T){a:Q}:PF T 132 [lD (Q.raw a)] (.bool a.isSome):=by
 have:=avt h (r:=Q.raw a)
 cases a with
 |none=>exact this
 |
  some q =>
  have hp:=F8.2 q.den_pos;have e:(Q.raw (some q)).den.isEmpty=false:=by
   show (mk q.den).isEmpty=false
   cases hm:mk q.den with
   |nil=>rw [hm]at hp;simp at hp
   |cons x l=>rfl
  rw [e]at this;exact this
theorem tJ{T:Tb}(h:pG T){q:Rat}:PF T 132 [lD (Q.raw (some q))] (.bool true):=ab5 h (a:=some q)
theorem zQ{T:Tb}(h:pG T):PF T 132 [lD (Q.raw none)] (.bool false):=ab5 h (a:=none)
theorem VA{T:Tb}(h:xX T){n d:Int}(ln:(mk n.natAbs).length<=60:=by exact rF)(ld:(mk d.natAbs).length<=60:=by exact rF) :
  PF T 144 [Xo (bi n),Xo (bi d)] (lD (Q.raw (TG n d))):=by
 by_cases hd:d=0
 ·subst hd;have e:TG n 0=none:=rfl;rw [e];refine kX nR h.hT ?_;simp only [vP,Lz];refine ev ?_;have c1:(((mk (0:Int).natAbs).length:Nat):Int)=0:=by
   show (((mk 0).length:Nat):Int)=0;rw [ab2];rfl
  refine ev1 @c1 ?_;exact sU
 rw [ab4 hd];have hg:0<Nat.gcd n.natAbs d.natAbs:=jE _ (by omega);have cg:=YE h.Ho (m:=n.natAbs) (n:=d.natAbs) (by omega) (by omega);have lg:(mk (Nat.gcd n.natAbs d.natAbs)).length<=60:=dw (N7 (Nat.le_of_dvd (by omega) (Nat.gcd_dvd_right _ _))) ld;have l1:=Vz n.natAbs (Nat.gcd n.natAbs d.natAbs);have l2:=Vz d.natAbs (Nat.gcd n.natAbs d.natAbs);have cn:=YD h.zo (m:=n.natAbs) hg (by omega) (by omega);have cd:=YD h.zo (m:=d.natAbs) hg (by omega) (by omega);have c1:¬(((mk d.natAbs).length:Nat):Int)=0:=by have:=@ake d.natAbs;omega
 clear hg lg;generalize n.natAbs / Nat.gcd n.natAbs d.natAbs=u at *;generalize d.natAbs / Nat.gcd n.natAbs d.natAbs=v at *;have cm:=DX h.mG (neg:=!decide (decide (n<0)=decide (d<0))) (n:=u) (by omega);refine kX nR h.hT ?_;simp only [vP,Lz];refine ev ?_;refine ev1 @c1 ?_;refine jK cg ?_;refine ev ?_;refine jK cn ?_;refine ev ?_;refine jK cd ?_;refine ev ?_;by_cases k1:(24:Int)<((mk u).length:Nat)
 ·refine ev1 @k1 ?_;rw [aN (by omega)];exact sU
 by_cases k2:(24:Int)<((mk v).length:Nat)
 ·refine xP @k1 @k2 ?_;rw [aN (by omega)];exact sU
 refine xP @k1 @k2 ?_;refine jK cm ?_;refine ev ?_;rw [aQ (by omega),Um];rw [Nj];exact kR _
theorem LG{q:Rat}(h:Q.ok (some q)):(mk q.num.natAbs).length<=24/\(mk q.den).length<=24:=Un.1 h
theorem ael{T:Tb}(h:nM T){a b:Q}(ha:a.ok:=by assumption)(hb:b.ok:=by assumption):PF T 131 [lD (Q.raw a),lD (Q.raw b)] (lD (Q.raw (O8 a b))):=by
 cases a with
 |
  none =>
  refine kX nR h.hT ?_;simp only [sZ,Lz];refine ev ?_;refine jK (zQ h.kW) ?_;refine ev ?_;exact sU
 |
  some q=>cases b with
  |
   none =>
   refine kX nR h.hT ?_;simp only [sZ,Lz];refine ev ?_;refine jK (tJ h.kW) ?_;refine ev ?_;refine jK (zQ h.kW) ?_;refine ev ?_;exact sU
  |
   some s =>
   obtain⟨l1,l2⟩:=LG ha;obtain⟨l3,l4⟩:=LG hb;have e:O8 (some q) (some s)=TG (q.num*s.den+s.num*q.den) (q.den*s.den):=(abP q s).symm;rw [e];have t1:=rC q.num s.den;have t2:=rC s.num q.den;have t3:=rC q.den s.den;have t5:=rC q.num s.num;have t4:=KL (q.num*s.den) (s.num*q.den);have n1:(mk (q.den:Int).natAbs).length<=24:=by rw [dF];exact l2
   have n2:(mk (s.den:Int).natAbs).length<=24:=by rw [dF];exact l4
   refine kX nR h.hT ?_;simp only [sZ,Lz];refine ev ?_;refine jK (tJ h.kW) ?_;refine ev ?_;refine jK (tJ h.kW) ?_;refine ev ?_;refine jK (BJ h.nJ (q:=s)) ?_;refine ev ?_;refine jK (wK h.nN (x:=q.num) (y:=s.den) (by omega) (by omega)) ?_;refine ev ?_;refine jK (BJ h.nJ (q:=q)) ?_;refine ev ?_;refine jK (wK h.nN (x:=s.num) (y:=q.den) (by omega) (by omega)) ?_;refine ev ?_;refine jK (aei h.Rj (x:=q.num*s.den) (y:=s.num*q.den) (by omega) (by omega)) ?_;refine ev ?_;refine⟨by unfold sF;decide +kernel,?_⟩;refine jK (BJ h.nJ (q:=q)) ?_;refine ev ?_;refine jK (BJ h.nJ (q:=s)) ?_;refine ev ?_;refine jK (wK h.nN (x:=q.den) (y:=s.den) (by omega) (by omega)) ?_;refine ev ?_;refine jK (VA h.uj (n:=q.num*s.den+s.num*q.den) (d:=q.den*s.den) (by omega) (by omega)) ?_;refine ev ?_;refine⟨by unfold sF;decide +kernel,?_⟩;exact kR _
theorem amC{T:Tb}(h:qL T){a b:Q}(ha:a.ok:=by assumption)(hb:b.ok:=by assumption):PF T 157 [lD (Q.raw a),lD (Q.raw b)] (lD (Q.raw (WQ a b))):=by
 cases a with
 |
  none =>
  refine kX nR h.hT ?_;simp only [tC,Lz];refine ev ?_;refine jK (zQ h.kW) ?_;refine ev ?_;exact sU
 |
  some q=>cases b with
  |
   none =>
   refine kX nR h.hT ?_;simp only [tC,Lz];refine ev ?_;refine jK (tJ h.kW) ?_;refine ev ?_;refine jK (zQ h.kW) ?_;refine ev ?_;exact sU
  |
   some s =>
   obtain⟨l1,l2⟩:=LG ha;obtain⟨l3,l4⟩:=LG hb;have e:WQ (some q) (some s)=TG (q.num*s.num) (q.den*s.den):=(abQ q s).symm;rw [e];have t1:=rC q.num s.den;have t2:=rC s.num q.den;have t3:=rC q.den s.den;have t5:=rC q.num s.num;have t4:=KL (q.num*s.den) (s.num*q.den);have n1:(mk (q.den:Int).natAbs).length<=24:=by rw [dF];exact l2
   have n2:(mk (s.den:Int).natAbs).length<=24:=by rw [dF];exact l4
   refine kX nR h.hT ?_;simp only [tC,Lz];refine ev ?_;refine jK (tJ h.kW) ?_;refine ev ?_;refine jK (tJ h.kW) ?_;refine ev ?_;refine jK (wK h.nN (x:=q.num) (y:=s.num) (by omega) (by omega)) ?_;refine ev ?_;refine jK (BJ h.nJ (q:=q)) ?_;refine ev ?_;refine jK (BJ h.nJ (q:=s)) ?_;refine ev ?_;refine jK (wK h.nN (x:=q.den) (y:=s.den) (by omega) (by omega)) ?_;refine ev ?_;refine jK (VA h.uj (n:=q.num*s.num) (d:=q.den*s.den) (by omega) (by omega)) ?_;refine ev ?_;refine⟨by unfold sF;decide +kernel,?_⟩;exact kR _
theorem amD{T:Tb}(h:uY T){a b:Q}(ha:a.ok:=by assumption)(hb:b.ok:=by assumption):PF T 156 [lD (Q.raw a),lD (Q.raw b)] (lD (Q.raw (WR a b))):=by
 cases a with
 |
  none =>
  refine kX nR h.hT ?_;simp only [tH,Lz];refine ev ?_;refine jK (zQ h.kW) ?_;refine ev ?_;exact sU
 |
  some q=>cases b with
  |
   none =>
   refine kX nR h.hT ?_;simp only [tH,Lz];refine ev ?_;refine jK (tJ h.kW) ?_;refine ev ?_;refine jK (zQ h.kW) ?_;refine ev ?_;exact sU
  |
   some s =>
   obtain⟨l1,l2⟩:=LG ha;obtain⟨l3,l4⟩:=LG hb;have e:WR (some q) (some s)=TG (q.num*s.den) (s.num*q.den):=(abR q s).symm;rw [e];have t1:=rC q.num s.den;have t2:=rC s.num q.den;have t3:=rC q.den s.den;have t5:=rC q.num s.num;have t4:=KL (q.num*s.den) (s.num*q.den);have n1:(mk (q.den:Int).natAbs).length<=24:=by rw [dF];exact l2
   have n2:(mk (s.den:Int).natAbs).length<=24:=by rw [dF];exact l4
   refine kX nR h.hT ?_;simp only [tH,Lz];refine ev ?_;refine jK (tJ h.kW) ?_;refine ev ?_;refine jK (tJ h.kW) ?_;refine ev ?_;refine jK (BJ h.nJ (q:=s)) ?_;refine ev ?_;refine jK (wK h.nN (x:=q.num) (y:=s.den) (by omega) (by omega)) ?_;refine ev ?_;refine jK (BJ h.nJ (q:=q)) ?_;refine ev ?_;refine jK (wK h.nN (x:=s.num) (y:=q.den) (by omega) (by omega)) ?_;refine ev ?_;refine jK (VA h.uj (n:=q.num*s.den) (d:=s.num*q.den) (by omega) (by omega)) ?_;refine ev ?_;refine⟨by unfold sF;decide +kernel,?_⟩;exact kR _
theorem YK{T:Tb}(h:uV T){a:Q}(ha:a.ok:=by assumption):PF T 161 [lD (Q.raw a)] (lD (Q.raw (negQ a))):=by
 cases a with
 |
  none =>
  refine kX nR h.hT ?_;simp only [zu,Lz];refine ev ?_;refine jK (zQ h.kW) ?_;refine ev ?_;exact sU
 |
  some q =>
  obtain⟨l1,l2⟩:=LG ha;refine kX nR h.hT ?_;simp only [zu,Lz];refine ev ?_;refine jK (tJ h.kW) ?_;refine ev ?_;refine jK (Sz h.qO (l:=mk q.num.natAbs) (by omega)) ?_;refine ev ?_;refine jK (DX h.mG (neg:=!decide (q.num<0)) (n:=q.num.natAbs) (by omega)) ?_;refine ev ?_;refine jK (Sz h.qO (l:=mk q.den) (by omega)) ?_;refine ev ?_;refine⟨by unfold sF;decide +kernel,?_⟩;have e:Q.raw (negQ (some q))=⟨(bi (sg (!decide (q.num<0)) q.num.natAbs)).neg,mk q.num.natAbs,mk q.den⟩:=by
   simp only [negQ,Q.raw,Rat.neg_num,Rat.neg_den,Int.natAbs_neg,R.mk.injEq,and_true];have e2:sg (!decide (q.num<0)) q.num.natAbs = -q.num:=by
    by_cases h1:q.num<0
    ·simp [sg,h1];omega
    simp [sg,h1];omega
   rw [e2]
  rw [e,Nj];exact kR _
theorem amE{T:Tb}(h:tu T){a b:Q}(ha:a.ok:=by assumption)(hb:b.ok:=by assumption):PF T 159 [lD (Q.raw a),lD (Q.raw b)] (lD (Q.raw (agc a b))):=by
 have hn:=Ua hb;refine kX nR h.hT ?_;simp only [Ci,Lz];refine ev ?_;refine jK (YK h.uX hb) ?_;refine ev ?_;refine jK (ael h.lJ ha hn) ?_;refine ev ?_;refine⟨by unfold sF;decide +kernel,?_⟩;exact kR _
theorem aaS{T:Tb}(h:Aj T){a:Q}:PF T 124 [lD (Q.raw a)] (iv (yF a)):=by
 cases a with
 |
  none =>
  refine lV nR h.hT ?_;simp only [Ai,Lz];refine ev ?_;refine jK (zQ h.kW) ?_;refine ev ?_;rfl
 |
  some q =>
  refine lV nR h.hT ?_;simp only [Ai,Lz];refine ev ?_;refine jK (tJ h.kW) ?_;refine ev ?_;have e:((((mk q.num.natAbs).length:Nat):Int)=0)↔q.num=0:=by have:=@ake q.num.natAbs;omega
  refine lG (fun h1=>?_) fun h1=>?_<;>(refine ev1 @h1 ?_;try with_reducible exact aC)
  ·have:=e.1 h1;simp [yF,sgn,this]
  have h2:¬q.num=0:=fun k=>h1 (e.2 k);by_cases h3:q.num<0
  ·have e3:(Q.raw (some q)).neg=true:=by simp [Q.raw,h3]
   refine ev1 @e3 ?_;simp [yF,sgn,h3]
  have e3:(Q.raw (some q)).neg=false:=by simp [Q.raw,h3]
  refine ev1 @e3 ?_;simp [yF,sgn,h3,h2]
theorem KP{T:Tb}(h:yK T){r:R}(hw:r.wf:=by exact rF):PF T 102 [lD r] (.bool r.ok):=by
 obtain⟨neg,mag,den⟩:=r;have w1:mag.length<=9223372036854775807:=hw.1;have w2:den.length<=9223372036854775807:=hw.2;clear hw;have cb:=agz h.OO (z:=⟨neg,mag⟩) w1;have cn:=aif h.OO.N8 (l:=den) w2;dsimp only at cb;unfold R.ok;dsimp only
 cases h1:(yY mag && !(neg&&mag.isEmpty))
 ·rw [h1]at cb;refine lV nR h.hT ?_;simp only [uT,Lz];refine ev ?_;refine jK cb ?_
  (refine ev ?_;try with_reducible exact aC)
 rw [h1]at cb
 cases h2:yY den
 ·rw [h2]at cn;refine lV nR h.hT ?_;simp only [uT,Lz];refine ev ?_;refine jK cb ?_;refine ev ?_;refine jK cn ?_
  (refine ev ?_;try with_reducible exact aC)
 rw [h2]at cn;by_cases h3:((den.length:Nat):Int)=0
 ·have:den=[]:=aY (by omega);refine lV nR h.hT ?_;simp only [uT,Lz];refine ev ?_;refine jK cb ?_;refine ev ?_;refine jK cn ?_;refine ev1 @h3 ?_;subst this;rfl
 have h3':den.isEmpty=false:=by cases den with|nil=>simp at h3|cons=>rfl
 by_cases h4:(24:Int)<((mag.length:Nat):Int)
 ·have h4':¬mag.length<=24:=by omega
  refine lV nR h.hT ?_;simp only [uT,Lz];refine ev ?_;refine jK cb ?_;refine ev ?_;refine jK cn ?_;refine xP @h3 @h4 ?_;simp [h4']
 by_cases h5:(24:Int)<((den.length:Nat):Int)
 ·have h5':¬den.length<=24:=by omega
  refine lV nR h.hT ?_;simp only [uT,Lz];refine ev ?_;refine jK cb ?_;refine ev ?_;refine jK cn ?_;refine Dw @h3 @h4 @h5 ?_;simp [h5']
 have h4':mag.length<=24:=by omega
 have h5':den.length<=24:=by omega
 have h6:yY mag=true:=by simp only [aH]at h1;exact h1.1
 have em:=MZ h6;have ed:=MZ h2;have cg:=YE h.Ho (m:=val mag) (n:=val den) (by rw [<-em];omega) (by rw [<-ed];omega);rw [<-em,<-ed]at cg;obtain⟨g,hg⟩:∃g,Nat.gcd (val mag) (val den)=g:=⟨_,rfl⟩;have hdec:∀(inst:Decidable (Nat.gcd (val mag) (val den)=1)),@decide _ inst=decide (g=1):=by
  intro inst;subst hg
  congr
 rw [hg]at cg;have key:(decide (((mk g).length:Int)=1)&&(decide ((mk g).getD 0 0=1)))=decide (g=1):=by
  by_cases g1:g=1
  ·subst g1;rw [mk_one (by omega) (by omega)];rfl
  simp only [g1,decide_false,jU,decide_eq_false_iff_not];by_cases k:(mk g).length=1
  ·right;intro e;have:=val_mk g
   cases hm:mk g with
   |nil=>rw [hm]at k;simp at k
   |
    cons x l =>
    rw [hm]at k e this;have:l=[]:=by simpa using k
    subst this;simp [val]at *;omega
  left;omega
 simp only [h3',h4',h5',decide_true,dJ,kE,cZ];rw [hdec,<-key];clear key;refine lV nR h.hT ?_;simp only [uT,Lz];refine ev ?_;refine jK cb ?_;refine ev ?_;refine jK cn ?_;refine Dw @h3 @h4 @h5 ?_;refine jK cg ?_;refine ev ?_;by_cases k:(((mk g).length:Nat):Int)=1
 ·(refine ev1 @k ?_;try with_reducible exact aC)
 (refine ev1 @k ?_;try with_reducible exact aC)
def uU:Fn:=⟨1,39,[.tmp 2],(.seq (rf 1 [oN 1 (.box (.t 0)),oK 2 1 mF]) (.seq (sr [oN 3 (fd 0 1),oN 4 (lT 2 3),oN 5 (cl 120 [4]),oN 6 (nt 5),oW 7 6,oG 7 false 8 (fd 2 1),oG 7 false 9 (lF 1 8),oG 7 false 10 (cl 121 [9]),oG 7 false 11 (nt 10),oN 12 (.pick (.t 7) (.c (.bool true)) (.t 11)),oW 13 12,oG 13 false 14 (fd 2 1),oG 13 false 15 (lF 1 14),oG 13 false 16 (ln 15),oG 13 false 17 (bc .eql 16 0),oN 18 (.pick (.t 13) (.c (.bool true)) (.t 17)),oW 19 18,oG 19 false 20 (fd 2 1),oG 19 false 21 (lF 1 20),oG 19 false 22 (ln 21),oG 19 false 23 (bc .gtr 22 24),oN 24 (.pick (.t 19) (.c (.bool true)) (.t 23)),oW 25 24,oG 25 false 26 (fd 0 1),oG 25 false 27 (fd 1 26),oG 25 false 28 (lF 1 27),oG 25 false 29 (ln 28),oG 25 false 30 (bc .gtr 29 24),oN 31 (.pick (.t 25) (.c (.bool true)) (.t 30))] (cd 31 (sr [oN 2 mF] .ret) .skip)) (sr [oN 32 (fd 0 1),oN 33 (fd 1 32),oN 34 (lF 1 33),oN 35 (fd 2 1),oN 36 (lF 1 35),oN 37 (cl 123 [34,36]),oN 38 (cl 122 [37]),oW 2 38] .ret)))⟩
structure tK (T:Tb):Prop where
 hT:T 100=some uU
 OQ:IG T
 En:Ej T
 xu:Ce T
 LH:G9 T
def xw:Fn:=⟨3,55,[.cell 6 3 true],(.seq (rf 1 [oN 6 (.alloc uJ)]) (sr [oW 10 1,oN 11 (cl 71 [10]),oW 7 11] (sr [oW 12 2,oN 13 (cl 71 [12]),oW 8 13] (.seq (sr [oW 14 8,oN 15 (ln 14),oN 16 (bc .eql 15 0)] (cd 16 (sr [oN 17 (.build uJ []),oS (.store 3 (.t 6) (.t 17))] .ret) .skip)) (.seq (sr [oW 18 8,oN 19 (cl 122 [18]),oN 20 (nt 19)] (cd 20 (sr [oW 21 7,oW 22 8,oN 23 (cl 123 [21,22]),oW 9 23] (sr [oW 24 9,oN 25 (cl 122 [24]),oN 26 (nt 25)] (cd 26 (sr [oW 28 7,oW 29 9,oN 30 (cl 136 [28,29]),oW 27 30,oN 31 (ex 0 27),oN 32 (ex 1 27),oW 7 31] (rg [oW 34 8,oW 35 9,oN 36 (cl 136 [34,35]),oW 33 36,oN 37 (ex 0 33),oN 38 (ex 1 33),oW 8 37])) .skip))) .skip)) (.seq (sr [oW 39 7,oN 40 (ln 39),oN 41 (bc .gtr 40 24),oW 42 41,oG 42 false 43 (oV 8),oG 42 false 44 (ln 43),oG 42 false 45 (bc .gtr 44 24),oN 46 (.pick (.t 42) (.c (.bool true)) (.t 45))] (cd 46 (sr [oN 47 (.build uJ []),oS (.store 3 (.t 6) (.t 47))] .ret) .skip)) (.seq (rf 2 [oK 48 2 (oV 0),oK 49 2 (oV 7),oK 50 2 (cl 66 [48,49]),oN 51 (.nO 1 Kt 0 []),oK 52 2 (oV 8),oK 53 1 (.app 1 8 (.t 51) (.t 52)),oK 54 2 (.build uJ [(0,2,(.t 50)),(2,1,(.t 53))]),⟨none,none,2,.store 3 (.t 6) (.t 54),[]⟩]) .ret)))))))⟩
structure Cj (T:Tb):Prop where
 hT:T 206=some xw
 oq:vO T
 og:uh T
 xu:Ce T
 LH:G9 T
 He:G6 T
def Hq:Fn:=⟨2,25,[.cell 4 3 true],(.seq (rf 3 [oN 2 (.box (.t 0)),oK 3 1 (.box (.t 1)),oK 4 2 (.alloc uJ)]) (.seq (rt 0 [oN 5 (fd 0 2),oA 6 0 (fd 0 5) [0],oA 7 0 (lF 1 6) [1],oN 8 (fd 0 3),oA 9 0 (fd 0 8) [3],oA 10 0 (lF 1 9) [4],oA 11 0 (.beq true (.t 7) (.t 10)) [2,5],oN 12 (fd 0 2),oA 13 0 (fd 1 12) [7],oA 14 0 (lF 1 13) [8],oN 15 (fd 0 3),oA 16 0 (fd 1 15) [10],oA 17 0 (lF 1 16) [11],oA 18 0 (cl 150 [14,17]) [9,12],oN 19 (fd 2 2),oA 20 0 (lF 1 19) [14],oN 21 (fd 2 3),oA 22 0 (lF 1 21) [16],oA 23 0 (cl 150 [20,22]) [15,17,13],oA 24 0 (cl 206 [11,18,23]) [6,13,18,18],⟨none,none,0,.store 3 (.t 4) (.t 24),[19,19,0,1,2,3,4,5,6,7,8,9,10,11,12,13,14,15,16,17,18,19]⟩]) .ret))⟩
structure LJ (T:Tb):Prop where
 hT:T 207=some Hq
 pF:xk T
 zA:Cj T
def zB:Fn:=⟨2,61,[.cell 4 3 true],(.seq (rf 3 [oN 2 (.box (.t 0)),oK 3 1 (.box (.t 1)),oK 4 2 (.alloc uJ)]) (.seq (sr [oN 9 (fd 2 2),oN 10 (lF 1 9),oN 11 (cl 122 [10]),oW 12 11,oG 12 true 13 (fd 2 3),oG 12 true 14 (lF 1 13),oG 12 true 15 (cl 122 [14]),oN 16 (.pick (.t 12) (.t 15) (.c (.bool false)))] (cd 16 (.seq (rf 1 [oK 17 1 (fd 0 2),oK 18 1 (lT 2 17),oK 19 1 (fd 0 3),oK 20 1 (lT 2 19),oK 21 1 (cl 205 [18,20]),oN 5 (.alloc zz3),⟨none,none,1,.store 2 (.t 5) (.t 21),[]⟩]) (.seq (rf 1 [oK 22 1 (fd 0 5),oK 23 1 (lF 1 22),oK 24 1 (fd 1 5),oK 25 1 (lF 1 24),oN 26 (.nO 1 Kt 1 [(0,(cI 1))]),oK 27 1 (cl 206 [23,25,26]),⟨none,none,1,.store 3 (.t 4) (.t 27),[]⟩]) .ret)) .skip)) (.seq (rt 1 [oK 28 1 (fd 0 2),oA 29 1 (fd 0 28) [0],oA 30 1 (lF 1 29) [1],oK 31 1 (fd 0 2),oA 32 1 (fd 1 31) [3],oA 33 1 (lF 1 32) [4],oK 34 1 (fd 2 3),oA 35 1 (lF 1 34) [6],oA 36 1 (cl 150 [33,35]) [5,7],oA 37 1 (cl 66 [30,36]) [2,8,8],oN 6 (.alloc zz3),⟨none,none,1,.store 2 (.t 6) (.t 37),[10,9,9,0,1,2,3,4,5,6,7,8,9,10]⟩]) (.seq (rt 1 [oK 38 1 (fd 0 3),oA 39 1 (fd 0 38) [0],oA 40 1 (lF 1 39) [1],oK 41 1 (fd 0 3),oA 42 1 (fd 1 41) [3],oA 43 1 (lF 1 42) [4],oK 44 1 (fd 2 2),oA 45 1 (lF 1 44) [6],oA 46 1 (cl 150 [43,45]) [5,7],oA 47 1 (cl 66 [40,46]) [2,8,8],oN 7 (.alloc zz3),⟨none,none,1,.store 2 (.t 7) (.t 47),[10,9,9,0,1,2,3,4,5,6,7,8,9,10]⟩]) (.seq (rf 1 [oK 48 1 (lT 2 6),oK 49 1 (lT 2 7),oK 50 1 (cl 205 [48,49]),oN 8 (.alloc zz3),⟨none,none,1,.store 2 (.t 8) (.t 50),[]⟩]) (.seq (rt 0 [oN 51 (fd 0 8),oA 52 0 (lF 1 51) [0],oN 53 (fd 1 8),oA 54 0 (lF 1 53) [2],oN 55 (fd 2 2),oA 56 0 (lF 1 55) [4],oN 57 (fd 2 3),oA 58 0 (lF 1 57) [6],oA 59 0 (cl 150 [56,58]) [5,7],oA 60 0 (cl 206 [52,54,59]) [1,3,8,8],⟨none,none,0,.store 3 (.t 4) (.t 60),[9,9,0,1,2,3,4,5,6,7,8,9]⟩]) .ret))))))⟩
structure Hr (T:Tb):Prop where
 hT:T 198=some zB
 oq:vO T
 xu:Ce T
 pF:xk T
 Rk:LD T
 zA:Cj T
def Hu:Fn:=⟨1,16,[.cell 2 3 true],(.seq (rf 2 [oN 1 (.box (.t 0)),oK 2 1 (.alloc uJ)]) (.seq (rt 2 [oK 3 2 (fd 0 1),oA 4 2 (fd 0 3) [0],oA 5 2 (lF 1 4) [1],oA 6 2 (nt 5) [2],oK 7 2 (fd 0 1),oA 8 2 (fd 1 7) [4],oA 9 2 (lF 1 8) [5],oA 10 2 (cl 66 [6,9]) [3,6],oN 11 (.nO 1 Kt 0 []),oK 12 2 (fd 2 1),oA 13 2 (lF 1 12) [9],oA 14 1 (.app 1 8 (.t 11) (.t 13)) [8,10,7],oA 15 2 (.build uJ [(0,2,(.t 10)),(2,1,(.t 14))]) [7,11],⟨none,none,2,.store 3 (.t 2) (.t 15),[12,11,0,1,2,3,4,5,6,7,8,9,10,11,12]⟩]) .ret))⟩
structure LK (T:Tb):Prop where
 hT:T 208=some Hu
 oq:vO T
def zC:Fn:=⟨2,17,[.cell 4 3 true],(.seq (rf 3 [oN 2 (.box (.t 0)),oK 3 1 (.box (.t 1)),oK 4 2 (.alloc uJ)]) (.seq (sr [oN 5 (lT 3 2),oN 6 (cl 100 [5]),oN 7 (nt 6),oW 8 7,oG 8 false 9 (lT 3 3),oG 8 false 10 (cl 100 [9]),oG 8 false 11 (nt 10),oN 12 (.pick (.t 8) (.c (.bool true)) (.t 11))] (cd 12 (sr [oN 13 (.build uJ []),oS (.store 3 (.t 4) (.t 13))] .ret) .skip)) (sr [oN 14 (lT 3 2),oN 15 (lT 3 3),oN 16 (cl 198 [14,15]),oS (.store 3 (.t 4) (.t 16))] .ret)))⟩
structure CB (T:Tb):Prop where
 hT:T 189=some zC
 mQ:tK T
 LM:Hr T
def zD:Fn:=⟨2,18,[.cell 4 3 true],(.seq (rf 3 [oN 2 (.box (.t 0)),oK 3 1 (.box (.t 1)),oK 4 2 (.alloc uJ)]) (.seq (sr [oN 5 (lT 3 2),oN 6 (cl 100 [5]),oN 7 (nt 6),oW 8 7,oG 8 false 9 (lT 3 3),oG 8 false 10 (cl 100 [9]),oG 8 false 11 (nt 10),oN 12 (.pick (.t 8) (.c (.bool true)) (.t 11))] (cd 12 (sr [oN 13 (.build uJ []),oS (.store 3 (.t 4) (.t 13))] .ret) .skip)) (.seq (rt 0 [oN 14 (lT 3 2),oN 15 (lT 3 3),oA 16 0 (cl 208 [15]) [1],oA 17 0 (cl 198 [14,16]) [0,2,2],⟨none,none,0,.store 3 (.t 4) (.t 17),[3,3,0,1,2,3]⟩]) .ret)))⟩
structure LP (T:Tb):Prop where
 hT:T 203=some zD
 mQ:tK T
 LM:Hr T
 ZY:LK T
def zF:Fn:=⟨2,17,[.cell 4 3 true],(.seq (rf 3 [oN 2 (.box (.t 0)),oK 3 1 (.box (.t 1)),oK 4 2 (.alloc uJ)]) (.seq (sr [oN 5 (lT 3 2),oN 6 (cl 100 [5]),oN 7 (nt 6),oW 8 7,oG 8 false 9 (lT 3 3),oG 8 false 10 (cl 100 [9]),oG 8 false 11 (nt 10),oN 12 (.pick (.t 8) (.c (.bool true)) (.t 11))] (cd 12 (sr [oN 13 (.build uJ []),oS (.store 3 (.t 4) (.t 13))] .ret) .skip)) (sr [oN 14 (lT 3 2),oN 15 (lT 3 3),oN 16 (cl 207 [14,15]),oS (.store 3 (.t 4) (.t 16))] .ret)))⟩
structure Hw (T:Tb):Prop where
 hT:T 201=some zF
 mQ:tK T
 Z4:LJ T
def zG:Fn:=⟨2,34,[.cell 4 3 true],(.seq (rf 3 [oN 2 (.box (.t 0)),oK 3 1 (.box (.t 1)),oK 4 2 (.alloc uJ)]) (.seq (sr [oN 5 (lT 3 2),oN 6 (cl 100 [5]),oN 7 (nt 6),oW 8 7,oG 8 false 9 (lT 3 3),oG 8 false 10 (cl 100 [9]),oG 8 false 11 (nt 10),oN 12 (.pick (.t 8) (.c (.bool true)) (.t 11))] (cd 12 (sr [oN 13 (.build uJ []),oS (.store 3 (.t 4) (.t 13))] .ret) .skip)) (.seq (rt 0 [oN 14 (fd 0 2),oA 15 0 (fd 0 14) [0],oA 16 0 (lF 1 15) [1],oN 17 (fd 0 3),oA 18 0 (fd 0 17) [3],oA 19 0 (lF 1 18) [4],oA 20 0 (.beq true (.t 16) (.t 19)) [2,5],oN 21 (fd 0 2),oA 22 0 (fd 1 21) [7],oA 23 0 (lF 1 22) [8],oN 24 (fd 2 3),oA 25 0 (lF 1 24) [10],oA 26 0 (cl 150 [23,25]) [9,11],oN 27 (fd 2 2),oA 28 0 (lF 1 27) [13],oN 29 (fd 0 3),oA 30 0 (fd 1 29) [15],oA 31 0 (lF 1 30) [16],oA 32 0 (cl 150 [28,31]) [14,17,12],oA 33 0 (cl 206 [20,26,32]) [6,12,18,18],⟨none,none,0,.store 3 (.t 4) (.t 33),[19,19,0,1,2,3,4,5,6,7,8,9,10,11,12,13,14,15,16,17,18,19]⟩]) .ret)))⟩
structure LQ (T:Tb):Prop where
 hT:T 200=some zG
 mQ:tK T
 pF:xk T
 zA:Cj T
def Ak:Fn:=⟨1,18,[.tmp 2],(.seq (rf 1 [oN 1 (.box (.t 0)),oK 2 1 (.qC (cI 0))]) (.seq (.block 0 (sr [oN 4 (lT 3 1),oN 5 (cl 100 [4]),oN 6 (nt 5),oW 7 6,oG 7 false 8 (fd 0 1),oG 7 false 9 (fd 1 8),oG 7 false 10 (lF 1 9),oG 7 false 11 (ln 10),oG 7 false 12 (bc .eql 11 0),oN 13 (.pick (.t 7) (.c (.bool true)) (.t 12)),oW 3 13] (cd 3 (sr [oN 2 (.qC (cI 0))] .ret) (sr [oN 15 (fd 0 1),oN 16 (fd 0 15),oN 17 (lF 1 16),oW 14 17] (cd 14 (sr [oN 2 (.qC (cI (-1)))] .ret) .skip))))) (sr [oN 2 (.qC (cI 1))] .ret)))⟩
structure JL (T:Tb):Prop where
 hT:T 99=some Ak
 mQ:tK T
theorem xY{T:Tb}(h:tK T){r:R}(hw:r.wf:=by exact rF):PF T 100 [lD r] (.bool r.ok):=by
 obtain⟨neg,mag,den⟩:=r;have w1:mag.length<=9223372036854775807:=hw.1;have w2:den.length<=9223372036854775807:=hw.2;clear hw;have cb:=aek h.OQ (z:=⟨neg,mag⟩) w1;have cn:=YF h.OQ.En (l:=den) w2;dsimp only at cb;unfold R.ok;dsimp only
 cases h1:(yY mag && !(neg&&mag.isEmpty))
 ·rw [h1]at cb;refine lV nR h.hT ?_;simp only [uU,Lz];refine ev ?_;refine jK cb ?_
  (refine ev ?_;try with_reducible exact aC)
 rw [h1]at cb
 cases h2:yY den
 ·rw [h2]at cn;refine lV nR h.hT ?_;simp only [uU,Lz];refine ev ?_;refine jK cb ?_;refine ev ?_;refine jK cn ?_
  (refine ev ?_;try with_reducible exact aC)
 rw [h2]at cn;by_cases h3:((den.length:Nat):Int)=0
 ·have:den=[]:=aY (by omega);refine lV nR h.hT ?_;simp only [uU,Lz];refine ev ?_;refine jK cb ?_;refine ev ?_;refine jK cn ?_;refine ev1 @h3 ?_;subst this;rfl
 have h3':den.isEmpty=false:=by cases den with|nil=>simp at h3|cons=>rfl
 by_cases h5:(24:Int)<((den.length:Nat):Int)
 ·have h5':¬den.length<=24:=by omega
  refine lV nR h.hT ?_;simp only [uU,Lz];refine ev ?_;refine jK cb ?_;refine ev ?_;refine jK cn ?_;refine xP @h3 @h5 ?_;simp [h5']
 by_cases h4:(24:Int)<((mag.length:Nat):Int)
 ·have h4':¬mag.length<=24:=by omega
  refine lV nR h.hT ?_;simp only [uU,Lz];refine ev ?_;refine jK cb ?_;refine ev ?_;refine jK cn ?_;refine Dw @h3 @h4 @h5 ?_;simp [h4']
 have h4':mag.length<=24:=by omega
 have h5':den.length<=24:=by omega
 have h6:yY mag=true:=by simp only [aH]at h1;exact h1.1
 have em:=MZ h6;have ed:=MZ h2;have cg:=aeh h.LH (m:=val mag) (n:=val den) (by rw [<-em];omega) (by rw [<-ed];omega);rw [<-em,<-ed]at cg;obtain⟨g,hg⟩:∃g,Nat.gcd (val mag) (val den)=g:=⟨_,rfl⟩;have hdec:∀(inst:Decidable (Nat.gcd (val mag) (val den)=1)),@decide _ inst=decide (g=1):=by
  intro inst;subst hg
  congr
 rw [hg]at cg;have co:=Qb h.xu (n:=g);simp only [h3',h4',h5',decide_true,dJ,kE,cZ];rw [hdec];refine lV nR h.hT ?_;simp only [uU,Lz];refine ev ?_;refine jK cb ?_;refine ev ?_;refine jK cn ?_;refine Dw @h3 @h4 @h5 ?_;refine jK cg ?_;refine ev ?_;refine jK co ?_
 (refine ev ?_;try with_reducible exact aC)
def R.cn(r:R):Prop:=Q.raw r.q=r
abbrev R0:R:=⟨false,[],[]⟩
theorem SA{q:Q}(h:q.ok):(Q.raw q).cn:=by unfold R.cn;rw [D9 h]
theorem CG{r:R}(h:r.ok=true):r.cn:=aze h
theorem ab6:R0.cn:=SA (q:=none) trivial
def oC(r s:R):R:=Q.raw (O8 r.q s.q)
def wL(r s:R):R:=Q.raw (agc r.q s.q)
def mulR(r s:R):R:=Q.raw (WQ r.q s.q)
def vS(r s:R):R:=Q.raw (WR r.q s.q)
def negR(r:R):R:=Q.raw (negQ r.q)
def lC(n:Int):R:=Q.raw (auZ n)
def xI(r:R):Int:=yF r.q
theorem SB(r s:R):(oC r s).q=O8 r.q s.q:=D9 (abO _ _)
theorem YL(r s:R):(wL r s).q=agc r.q s.q:=D9 (ah0 _ _)
theorem YM(r s:R):(mulR r s).q=WQ r.q s.q:=D9 (ah1 _ _)
theorem YN(r s:R):(vS r s).q=WR r.q s.q:=D9 (ah2 _ _)
theorem agA(r:R):(negR r).q=negQ r.q:=D9 (Ua (Ld r))
theorem JM{n:Int}(h:n.natAbs<1000000000 ^ 24):(lC n).q=auZ n:=D9 (ah3 h)
theorem wM(r s:R):(oC r s).cn:=SA (abO _ _)
theorem KQ(r s:R):(wL r s).cn:=SA (ah0 _ _)
theorem Jf(r s:R):(mulR r s).cn:=SA (ah1 _ _)
theorem N9(r s:R):(vS r s).cn:=SA (ah2 _ _)
theorem Xv(r:R):(negR r).cn:=SA (Ua (Ld r))
theorem wO{n:Int}(h:n.natAbs<1000000000 ^ 24):(lC n).cn:=SA (ah3 h)
theorem xZ{r:R}:r.ok=true↔r.q≠none:=by
 rw [<-agf];cases r.q<;>simp
theorem Bg{r:R}:r.ok=false↔r.q=none:=by
 rw [<-agf];cases r.q<;>simp
theorem aq1{r:R}(h:r.cn)(hq:r.q=none):r=R0:=by
 unfold R.cn at h;rw [hq]at h;exact h.symm
theorem avu{r s:R}(hr:r.cn)(hs:s.cn)(h:r.q=s.q):r=s:=by
 rw [<-hr,<-hs,h]
theorem Qc{r:R}(h:r.cn):r.mag.length<=24/\r.den.length<=24:=by
 cases hq:r.q with
 |none=>rw [aq1 h hq];simp
 |
  some q =>
  have hk:Q.ok (some q):=by rw [<-hq];exact Ld r
  have:=Un.1 hk;rw [<-h,hq];exact this
theorem uy{r:R}(h:r.cn):r.wf:=by have:=Qc h;exact⟨by omega,by omega⟩
theorem aem(a:Q):O8 none a=none:=rfl
theorem WB(a:Q):O8 a none=none:=by cases a<;>rfl
theorem WC(a:Q):WQ a none=none:=by cases a<;>rfl
theorem WE(a:Q):WR a none=none:=by cases a<;>rfl
theorem WG(a:Q):agc a none=none:=by cases a<;>rfl
theorem akf(a b:Q):O8 a b=O8 b a:=by
 cases a<;>cases b<;>first|rfl|(simp only [O8];rw [Rat.add_comm])
theorem akg(a b:R):oC a b=oC b a:=by unfold oC;rw [akf]
theorem amF(x:Int):[[V.int .i64 x]]=kU [x]:=rfl
theorem avv(neg:Bool)(m k:Nat)(h:m=0->k=0):bi (sg (decide (sg neg m<0)) k)=bi (sg neg k):=by
 by_cases hm:m=0
 ·rw [h hm,Ul,Ul]
 have e:decide (sg neg m<0)=neg:=by
  cases neg
  ·simp [sg]
  simp [sg];omega
 rw [e]
theorem Uo{T:Tb}(h:Cj T){neg:Bool}{m n:Nat}(la:(mk m).length<=60:=by exact rF)(lb:(mk n).length<=60:=by exact rF) :
  PF T 206 [.bool neg,ints (mk m),ints (mk n)] (lD (Q.raw (TG (sg neg m) n))):=by
 have ct1:=DW h.og (l:=mk m) (by omega);have ct2:=DW h.og (l:=mk n) (by omega);rw [Ym (wY m)]at ct1;rw [Ym (wY n)]at ct2;by_cases hn:n=0
 ·subst hn;have e:TG (sg neg m) ((0:Nat):Int)=none:=rfl;rw [e];have c1:(((mk 0).length:Nat):Int)=0:=by rw [ab2];rfl
  refine kX nR h.hT ?_;simp only [xw,Lz];refine ev ?_;refine jK ct1 ?_;refine ev ?_;refine jK ct2 ?_;refine ev1 @c1 ?_;exact sU
 have hd:(n:Int)≠0:=by omega
 rw [ab4 hd];have hpos:¬((n:Int)<0):=by omega
 have e0:(decide (sg neg m<0) != decide ((n:Int)<0))=decide (sg neg m<0):=by simp [hpos]
 rw [e0,Nj,dF];have hg:0<Nat.gcd m n:=jE _ (by omega);have c1:¬(((mk n).length:Nat):Int)=0:=by have:=@ake n;omega
 have hz:m=0->m / Nat.gcd m n=0:=fun e=>by rw [e];simp
 rw [avv neg m _ hz];have fin:∀(u v:Nat),u=m / Nat.gcd m n->v=n / Nat.gcd m n->(mk u).length<=60/\(mk v).length<=60:=by
  intro u v hu hv;have l1:=Vz m (Nat.gcd m n);have l2:=Vz n (Nat.gcd m n);rw [hu,hv];omega
 have co:=Qb h.xu (n:=n);have cg:=aeh h.LH (m:=m) (n:=n) (by omega) (by omega);have lg:(mk (Nat.gcd m n)).length<=60:=dw (N7 (Nat.le_of_dvd (by omega) (Nat.gcd_dvd_right _ _))) lb;have co2:=Qb h.xu (n:=Nat.gcd m n);have cd1:=YI h.He (m:=m) hg (by omega) (by omega);have cd2:=YI h.He (m:=n) hg (by omega) (by omega);obtain⟨g,hgd⟩:∃g,Nat.gcd m n=g:=⟨_,rfl⟩;obtain⟨u,hu⟩:∃u,m / Nat.gcd m n=u:=⟨_,rfl⟩;obtain⟨v,hv⟩:∃v,n / Nat.gcd m n=v:=⟨_,rfl⟩;obtain⟨lu,lv⟩:=fin u v hu.symm hv.symm;have cm:=Bf h.oq (neg:=neg) (n:=u) (by omega);have ecm:Xo (bi (sg neg u))=.agg [.bool (bi (sg neg u)).neg,ints (mk u)]:=by
  show V.agg [.bool (bi (sg neg u)).neg,ints (mk (sg neg u).natAbs)]=_;rw [Nj]
 rw [ecm]at cm;have un:n=1->u=m/\v=n:=by
  intro e;subst e;rw [Nat.gcd_one_right]at hu hv;simp at hu hv;omega
 have ug:g=1->u=m/\v=n:=by
  intro e;rw [hgd,e]at hu hv;simp at hu hv;omega
 rw [hu,hv];rw [hgd]at cg co2;rw [hu]at cd1;rw [hv]at cd2;rw [hgd]at cd1 cd2;have fin2:nG (lD (if (mk u).length<=24/\(mk v).length<=24 then⟨(bi (sg neg u)).neg,mk u,mk v⟩else⟨false,[],[]⟩))
   (if (mk u).length<=24/\(mk v).length<=24 then lD ⟨(bi (sg neg u)).neg,mk u,mk v⟩else .agg [.bool false,.kC,.kC]):=by
  split
  ·exact kR _
  exact sU
 have v0:v≠0:=by
  rw [<-hv];exact Nat.ne_of_gt (Nat.div_pos (Nat.le_of_dvd (by omega) (Nat.gcd_dvd_right _ _)) hg)
 have ne:kU (mk v)≠[]:=by
  have hp:=F8.2 (jS v0);intro e;rw [<-vK,e]at hp;simp at hp
 clear fin hz hg e0 hpos hd hgd hu hv;by_cases n1:n=1
 ·rw [show decide (n=1)=true from aT n1]at co;obtain⟨rfl,rfl⟩:=un n1;refine kX nR h.hT ?_;simp only [xw,Lz];refine ev ?_;refine jK ct1 ?_;refine ev ?_;refine jK ct2 ?_;refine ev1 @c1 ?_;refine jK co ?_;refine ev ?_;by_cases k1:(24:Int)<((mk u).length:Nat)
  ·refine ev1 @k1 ?_;rw [aN (by omega)];exact sU
  by_cases k2:(24:Int)<((mk v).length:Nat)
  ·refine xP @k1 @k2 ?_;rw [aN (by omega)];exact sU
  refine xP @k1 @k2 ?_;refine jK cm ?_;refine ev1 @ne ?_;rw [aQ (by omega)];exact⟨by omega,kR _⟩
 rw [show decide (n=1)=false from bH n1]at co;by_cases g1:g=1
 ·rw [show decide (g=1)=true from aT g1]at co2;obtain⟨rfl,rfl⟩:=ug g1;refine kX nR h.hT ?_;simp only [xw,Lz];refine ev ?_;refine jK ct1 ?_;refine ev ?_;refine jK ct2 ?_;refine ev1 @c1 ?_;refine jK co ?_;refine ev ?_;refine jK cg ?_;refine ev ?_;refine jK co2 ?_;refine ev ?_;by_cases k1:(24:Int)<((mk u).length:Nat)
  ·refine ev1 @k1 ?_;rw [aN (by omega)];exact sU
  by_cases k2:(24:Int)<((mk v).length:Nat)
  ·refine xP @k1 @k2 ?_;rw [aN (by omega)];exact sU
  refine xP @k1 @k2 ?_;refine jK cm ?_;refine ev1 @ne ?_;rw [aQ (by omega)];exact⟨by omega,kR _⟩
 rw [show decide (g=1)=false from bH g1]at co2;refine kX nR h.hT ?_;simp only [xw,Lz];refine ev ?_;refine jK ct1 ?_;refine ev ?_;refine jK ct2 ?_;refine ev1 @c1 ?_;refine jK co ?_;refine ev ?_;refine jK cg ?_;refine ev ?_;refine jK co2 ?_;refine ev ?_;refine jK cd1 ?_;refine ev ?_;refine jK cd2 ?_;refine ev ?_;by_cases k1:(24:Int)<((mk u).length:Nat)
 ·refine ev1 @k1 ?_;rw [aN (by omega)];exact sU
 by_cases k2:(24:Int)<((mk v).length:Nat)
 ·refine xP @k1 @k2 ?_;rw [aN (by omega)];exact sU
 refine xP @k1 @k2 ?_;refine jK cm ?_;refine ev1 @ne ?_;rw [aQ (by omega)];exact⟨by omega,kR _⟩
def Ap:Fn:=⟨1,8,[.tmp 2],(.seq (rf 1 [oN 1 (.box (.t 0)),oK 2 1 (.qC (cI 0))]) (.seq (sr [oN 3 (lT 3 1),oN 4 (cl 102 [3]),oN 5 (nt 4)] (cd 5 (sr [oN 2 (.qC (cI 0))] .ret) .skip)) (sr [oN 6 (lT 3 1),oN 7 (cl 124 [6]),oW 2 7] .ret)))⟩
structure Eo (T:Tb):Prop where
 hT:T 101=some Ap
 qP:yK T
 JO:Aj T
def Hy:Fn:=⟨1,9,[.tmp 2],(sr [oN 2 mF] (sr [oW 3 0,oN 4 (bc .geq 3 0),oW 5 4,oG 5 true 6 (oV 0),oG 5 true 7 (bc .lss 6 10),oN 8 (.pick (.t 5) (.t 7) (.c (.bool false))),oW 2 8] .ret))⟩
structure Hz (T:Tb):Prop where
 hT:T 37=some Hy
def Et:Fn:=⟨1,5,[.tmp 2],(sr [oN 2 mF] (sr [oW 3 0,oN 4 (.call 35 [(.t 3),(cI 0),(cI 9)]),oW 2 4] .ret))⟩
structure Eu (T:Tb):Prop where
 hT:T 34=some Et
 yJ:Ei T
def yL:Fn:=⟨1,34,[.tmp 2],(.seq (rf 1 [oN 1 (.box (.t 0)),oK 2 1 mF]) (sr [oN 3 (fd 0 1),oN 4 (lF 1 3),oN 5 (cl 37 [4]),oW 6 5,oG 6 true 7 (fd 1 1),oG 6 true 8 (lF 1 7),oG 6 true 9 (cl 37 [8]),oN 10 (.pick (.t 6) (.t 9) (.c (.bool false))),oW 11 10,oG 11 true 12 (fd 0 1),oG 11 true 13 (lF 1 12),oG 11 true 14 (fd 1 1),oG 11 true 15 (lF 1 14),oG 11 true 16 (bt .lss 13 15),oN 17 (.pick (.t 11) (.t 16) (.c (.bool false))),oW 18 17,oG 18 true 19 (fd 2 1),oG 18 true 20 (lT 3 19),oG 18 true 21 (cl 101 [20]),oG 18 true 22 (bc .gtr 21 0),oN 23 (.pick (.t 18) (.t 22) (.c (.bool false))),oW 24 23,oG 24 true 25 (fd 5 1),oG 24 true 26 (lT 3 25),oG 24 true 27 (cl 102 [26]),oN 28 (.pick (.t 24) (.t 27) (.c (.bool false))),oW 29 28,oG 29 true 30 (fd 8 1),oG 29 true 31 (lT 3 30),oG 29 true 32 (cl 102 [31]),oN 33 (.pick (.t 29) (.t 32) (.c (.bool false))),oW 2 33] .ret))⟩
structure yM (T:Tb):Prop where
 hT:T 84=some yL
 HY:Hz T
 Ew:Eo T
 qP:yK T
def yO:Fn:=⟨1,34,[.tmp 2],(.seq (rf 1 [oN 1 (.box (.t 0)),oK 2 1 mF]) (sr [oN 3 (fd 0 1),oN 4 (lF 1 3),oN 5 (cl 34 [4]),oW 6 5,oG 6 true 7 (fd 1 1),oG 6 true 8 (lF 1 7),oG 6 true 9 (cl 34 [8]),oN 10 (.pick (.t 6) (.t 9) (.c (.bool false))),oW 11 10,oG 11 true 12 (fd 0 1),oG 11 true 13 (lF 1 12),oG 11 true 14 (fd 1 1),oG 11 true 15 (lF 1 14),oG 11 true 16 (bt .lss 13 15),oN 17 (.pick (.t 11) (.t 16) (.c (.bool false))),oW 18 17,oG 18 true 19 (fd 2 1),oG 18 true 20 (lT 3 19),oG 18 true 21 (cl 99 [20]),oG 18 true 22 (bc .gtr 21 0),oN 23 (.pick (.t 18) (.t 22) (.c (.bool false))),oW 24 23,oG 24 true 25 (fd 5 1),oG 24 true 26 (lT 3 25),oG 24 true 27 (cl 100 [26]),oN 28 (.pick (.t 24) (.t 27) (.c (.bool false))),oW 29 28,oG 29 true 30 (fd 8 1),oG 29 true 31 (lT 3 30),oG 29 true 32 (cl 100 [31]),oN 33 (.pick (.t 29) (.t 32) (.c (.bool false))),oW 2 33] .ret))⟩
structure vT (T:Tb):Prop where
 hT:T 83=some yO
 Aq:Eu T
 YO:JL T
 mQ:tK T
theorem agB{T:Tb}(h:JL T){r:R}(hw:r.wf:=by exact rF):PF T 99 [lD r] (iv (yF r.q)):=by
 have co:=xY h.mQ hw
 cases ho:r.ok
 ·rw [ho]at co;have e:r.q=none:=by unfold R.q;rw [aN (by simp [ho])]
  rw [e];refine lV nR h.hT ?_;simp only [Ak,Lz];refine ev ?_;refine jK co ?_;refine ev ?_;rfl
 rw [ho]at co;obtain⟨q,hq,rfl⟩:=Ir ho;rw [D9 (q:=some q) hq];refine lV nR h.hT ?_;simp only [Ak,Lz];refine ev ?_;refine jK co ?_;refine ev ?_;have e:((((mk q.num.natAbs).length:Nat):Int)=0)↔q.num=0:=by have:=@ake q.num.natAbs;omega
 refine lG (fun h1=>?_) fun h1=>?_<;>(refine ev1 @h1 ?_;try with_reducible exact aC)
 ·have:=e.1 h1;simp [yF,sgn,this]
 have h2:¬q.num=0:=fun k=>h1 (e.2 k);by_cases h3:q.num<0
 ·have e3:(Q.raw (some q)).neg=true:=by simp [Q.raw,h3]
  refine ev1 @e3 ?_;simp [yF,sgn,h3]
 have e3:(Q.raw (some q)).neg=false:=by simp [Q.raw,h3]
 refine ev1 @e3 ?_;simp [yF,sgn,h3,h2]
theorem SC{T:Tb}(h:Eo T){r:R}(hw:r.wf:=by exact rF):PF T 101 [lD r] (iv (yF r.q)):=by
 have co:=KP h.qP hw
 cases ho:r.ok
 ·rw [ho]at co;have e:r.q=none:=by unfold R.q;rw [aN (by simp [ho])]
  rw [e];refine lV nR h.hT ?_;simp only [Ap,Lz];refine ev ?_;refine jK co ?_;refine ev ?_;rfl
 rw [ho]at co;obtain⟨q,hq,rfl⟩:=Ir ho;rw [D9 (q:=some q) hq];have cs:=aaS h.JO (a:=some q);refine lV nR h.hT ?_;simp only [Ap,Lz];refine ev ?_;refine jK co ?_;refine ev ?_;refine jK cs ?_
 (refine ev ?_;try with_reducible exact aC)
def nd(a:Int):Bool:=decide (0<=a)&&decide (a<=9)
theorem QE{T:Tb}(h:Eu T){a:Int}:PF T 34 [iv a] (.bool (nd a)):=by
 refine lV nR h.hT ?_;simp only [Et,Lz];refine ev ?_;refine jK (Uk h.yJ) ?_;refine ev ?_;rfl
theorem YP{T:Tb}(h:Hz T){a:Int}:PF T 37 [iv a] (.bool (nd a)):=by
 unfold nd;have e:decide (a<=9)=decide (a<10):=by simp;omega
 rw [e];refine lV nR h.hT ?_;simp only [Hy,Lz];refine ev ?_;by_cases h1:0<=a
 ·(refine ev1 @h1 ?_;try with_reducible exact aC)
 (refine ev1 @h1 ?_;try with_reducible exact aC)
def ql(l:Lk):Bool:=nd l.a&&nd l.b&&decide (l.a<l.b)&&decide (0<yF l.w.q)&&l.dx.ok&&l.dy.ok
theorem Au{T:Tb}(h:vT T){l:Lk}(hw:l.wf:=by exact rF):PF T 83 [Wu l] (.bool (ql l)):=by
 have c1:=QE h.Aq (a:=l.a);have c2:=QE h.Aq (a:=l.b);have c3:=agB h.YO hw.1;have c4:=xY h.mQ hw.2.1;have c5:=xY h.mQ hw.2.2;unfold ql;refine lV nR h.hT ?_;simp only [yO,Lz];refine ev ?_;refine jK c1 ?_
 cases nd l.a
 ·(refine ev ?_;try with_reducible exact aC)
 refine ev ?_;refine jK c2 ?_
 cases nd l.b
 ·(refine ev ?_;try with_reducible exact aC)
 refine ev ?_;by_cases h3:l.a<l.b
 rotate_left
 ·(refine ev1 @h3 ?_;try with_reducible exact aC)
 refine ev1 @h3 ?_;refine jK c3 ?_;by_cases h6:0<yF l.w.q
 rotate_left
 ·(refine xP @h3 @h6 ?_;try with_reducible exact aC)
 refine xP @h3 @h6 ?_;refine jK c4 ?_
 cases l.dx.ok
 ·(refine xP @h3 @h6 ?_;try with_reducible exact aC)
 refine xP @h3 @h6 ?_;refine jK c5 ?_
 cases l.dy.ok
 ·(refine xP @h3 @h6 ?_;try with_reducible exact aC)
 (refine xP @h3 @h6 ?_;try with_reducible exact aC)
theorem Qd{T:Tb}(h:yM T){l:Lk}(hw:l.wf:=by exact rF):PF T 84 [Wu l] (.bool (ql l)):=by
 have c1:=YP h.HY (a:=l.a);have c2:=YP h.HY (a:=l.b);have c3:=SC h.Ew hw.1;have c4:=KP h.qP hw.2.1;have c5:=KP h.qP hw.2.2;unfold ql;refine lV nR h.hT ?_;simp only [yL,Lz];refine ev ?_;refine jK c1 ?_
 cases nd l.a
 ·(refine ev ?_;try with_reducible exact aC)
 refine ev ?_;refine jK c2 ?_
 cases nd l.b
 ·(refine ev ?_;try with_reducible exact aC)
 refine ev ?_;by_cases h3:l.a<l.b
 rotate_left
 ·(refine ev1 @h3 ?_;try with_reducible exact aC)
 refine ev1 @h3 ?_;refine jK c3 ?_;by_cases h6:0<yF l.w.q
 rotate_left
 ·(refine xP @h3 @h6 ?_;try with_reducible exact aC)
 refine xP @h3 @h6 ?_;refine jK c4 ?_
 cases l.dx.ok
 ·(refine xP @h3 @h6 ?_;try with_reducible exact aC)
 refine xP @h3 @h6 ?_;refine jK c5 ?_
 cases l.dy.ok
 ·(refine xP @h3 @h6 ?_;try with_reducible exact aC)
 (refine xP @h3 @h6 ?_;try with_reducible exact aC)
theorem akh{n d k:Int}(hk:k≠0):TG (n*k) (d*k)=TG n d:=by
 unfold TG;by_cases hd:d=0
 ·subst hd;simp
 have:d*k≠0:=fun e=>by rcases Int.mul_eq_zero.1 e with h|h<;>omega
 rw [aN hd,aN this,Rat.divInt_mul_right hk]
theorem agC(q:Rat):Q.raw (some q)=⟨decide (q.num<0),mk q.num.natAbs,mk q.den⟩:=rfl
theorem ail(x:Int):sg (decide (x<0)) x.natAbs=x:=by
 by_cases h:x<0
 ·simp only [sg,h,decide_true,if_true];omega
 simp only [sg,h,decide_false,bM,if_false];omega
theorem avw(x:Int):sg (!decide (x<0)) x.natAbs = -x:=by
 by_cases h:x<0
 ·simp only [sg,h,decide_true,Bool.not_true,bM,if_false];omega
 simp only [sg,h,decide_false,kE,if_true];omega
theorem amG{n:Nat}(h:0<n):kU (mk n)≠[]:=by
 have hp:=F8.2 h;intro e;rw [<-vK,e]at hp;simp at hp
theorem amH{T:Tb}(h:LK T){q:Rat}(hq:Q.ok (some q)):PF T 208 [lD (Q.raw (some q))] (lD (Q.raw (negQ (some q)))):=by
 obtain⟨l1,l2⟩:=LG hq;have cm:=Bf h.oq (neg:=!decide (q.num<0)) (n:=q.num.natAbs) (by omega);rw [avw]at cm;have ne:=amG q.den_pos;rw [agC];have e:Q.raw (negQ (some q))=⟨decide (-q.num<0),mk (-q.num).natAbs,mk q.den⟩:=rfl;rw [e];generalize q.num.natAbs=m at *;refine kX nR h.hT ?_;simp only [Hu,Lz];refine ev ?_;refine jK cm ?_;refine ev1 @ne ?_;refine⟨by omega,?_⟩;refine⟨by unfold sF;decide +kernel,?_⟩;exact kR _
theorem amI{T:Tb}(h:LJ T){a b:Rat}(ha:Q.ok (some a))(hb:Q.ok (some b)):PF T 207 [lD (Q.raw (some a)),lD (Q.raw (some b))] (lD (Q.raw (WQ (some a) (some b)))):=by
 obtain⟨l1,l2⟩:=LG ha;obtain⟨l3,l4⟩:=LG hb;have e:WQ (some a) (some b)=TG (a.num*b.num) (a.den*b.den):=(abQ a b).symm;rw [e,agC,agC];have c1:=Em h.pF (m:=a.num.natAbs) (n:=b.num.natAbs) (by omega) (by omega);have c2:=Em h.pF (m:=a.den) (n:=b.den) (by omega) (by omega);have t1:=Lu a.num.natAbs b.num.natAbs;have t2:=Lu a.den b.den;have c3:=Uo h.zA (neg:=decide (a.num<0) != decide (b.num<0)) (m:=a.num.natAbs*b.num.natAbs) (n:=a.den*b.den) (by omega) (by omega);rw [YG,Int.natCast_mul,<-Um]at c3;refine kX nR h.hT ?_;simp only [Hq,Lz];refine ev ?_;refine jK c1 ?_;refine ev ?_;refine jK c2 ?_;refine ev ?_;refine jK c3 ?_;refine ev ?_;refine⟨by unfold sF;decide +kernel,?_⟩;exact kR _
theorem aen{T:Tb}(h:Hr T){a b:Rat}(ha:Q.ok (some a))(hb:Q.ok (some b)):PF T 198 [lD (Q.raw (some a)),lD (Q.raw (some b))] (lD (Q.raw (O8 (some a) (some b)))):=by
 obtain⟨l1,l2⟩:=LG ha;obtain⟨l3,l4⟩:=LG hb;have e:O8 (some a) (some b)=TG (a.num*b.den+b.num*a.den) (a.den*b.den):=(abP a b).symm;rw [e,agC,agC];have o1:=Qb h.xu (n:=a.den);have o2:=Qb h.xu (n:=b.den);by_cases hd:a.den=1/\b.den=1
 ·have m1:mk 1=[1]:=mk_one (by omega) (by omega);have c1:=aej h.Rk (x:=a.num) (y:=b.num) (by omega) (by omega);have t1:=KL a.num b.num;have c2:=Uo h.zA (neg:=decide (a.num+b.num<0)) (m:=(a.num+b.num).natAbs) (n:=1) (by omega) (by rw [m1];simp);rw [ail,m1]at c2;have e2:TG (a.num*b.den+b.num*a.den) (a.den*b.den)=TG (a.num+b.num) ((1:Nat):Int):=by
   rw [hd.1,hd.2];simp
  rw [e2];rw [show decide (a.den=1)=true from aT hd.1]at o1;rw [show decide (b.den=1)=true from aT hd.2]at o2;refine kX nR h.hT ?_;simp only [zB,Lz];refine ev ?_;refine jK o1 ?_;refine ev ?_;refine jK o2 ?_;refine ev ?_;refine jK c1 ?_;refine ev ?_;simp only [amF];refine ev ?_;refine jK c2 ?_;refine ev ?_;exact kR _
 have c1:=Em h.pF (m:=a.num.natAbs) (n:=b.den) (by omega) (by omega);have c2:=Em h.pF (m:=b.num.natAbs) (n:=a.den) (by omega) (by omega);have c3:=Em h.pF (m:=a.den) (n:=b.den) (by omega) (by omega);have t1:=Lu a.num.natAbs b.den;have t2:=Lu b.num.natAbs a.den;have t3:=Lu a.den b.den;have c4:=Bf h.oq (neg:=decide (a.num<0)) (n:=a.num.natAbs*b.den) (by omega);have c5:=Bf h.oq (neg:=decide (b.num<0)) (n:=b.num.natAbs*a.den) (by omega);have e4:∀(x:Int) (n:Nat),sg (decide (x<0)) (x.natAbs*n)=x*n:=by
  intro x n;have:=YG x n;rw [show decide ((n:Int)<0)=false from bH (by omega),Bool.bne_false,dF]at this;exact this
 rw [e4]at c4 c5;have t4:(mk (a.num*b.den).natAbs).length<=48:=by rw [iW,dF];omega
 have t5:(mk (b.num*a.den).natAbs).length<=48:=by rw [iW,dF];omega
 have c6:=aej h.Rk (x:=a.num*b.den) (y:=b.num*a.den) (by omega) (by omega);have t6:=KL (a.num*b.den) (b.num*a.den);have c7:=Uo h.zA (neg:=decide (a.num*b.den+b.num*a.den<0)) (m:=(a.num*b.den+b.num*a.den).natAbs) (n:=a.den*b.den) (by omega) (by omega);rw [ail,Int.natCast_mul]at c7;clear t1 t2 t3 t4 t5 t6 e4 e l1 l2 l3 l4;have fin:∀{P:Prop},(a.den=1->¬b.den=1->P)->(¬a.den=1->P)->P:=by
  intro P p1 p2;by_cases k:a.den=1
  ·exact p1 k fun k2=>hd ⟨k,k2⟩
  exact p2 k
 refine fin (fun k1 k2=>?_) (fun k1=>?_)
 ·rw [show decide (a.den=1)=true from aT k1]at o1;rw [show decide (b.den=1)=false from bH k2]at o2;refine kX nR h.hT ?_;simp only [zB,Lz];refine ev ?_;refine jK o1 ?_;refine ev ?_;refine jK o2 ?_;refine ev ?_;refine jK c1 ?_;refine ev ?_;refine jK c4 ?_;refine ev ?_;refine⟨by unfold sF;decide +kernel,?_⟩;refine jK c2 ?_;refine ev ?_;refine jK c5 ?_;refine ev ?_;refine⟨by unfold sF;decide +kernel,?_⟩;refine jK c6 ?_;refine ev ?_;refine jK c3 ?_;refine ev ?_;refine jK c7 ?_;refine ev ?_;refine⟨by unfold sF;decide +kernel,?_⟩;exact kR _
 rw [show decide (a.den=1)=false from bH k1]at o1;refine kX nR h.hT ?_;simp only [zB,Lz];refine ev ?_;refine jK o1 ?_;refine ev ?_;refine jK c1 ?_;refine ev ?_;refine jK c4 ?_;refine ev ?_;refine⟨by unfold sF;decide +kernel,?_⟩;refine jK c2 ?_;refine ev ?_;refine jK c5 ?_;refine ev ?_;refine⟨by unfold sF;decide +kernel,?_⟩;refine jK c6 ?_;refine ev ?_;refine jK c3 ?_;refine ev ?_;refine jK c7 ?_;refine ev ?_;refine⟨by unfold sF;decide +kernel,?_⟩;exact kR _
theorem Nk{T:Tb}(h:CB T){r s:R}(hr:r.wf:=by exact rF)(hs:s.wf:=by exact rF):PF T 189 [lD r,lD s] (lD (oC r s)):=by
 have o1:=xY h.mQ hr;have o2:=xY h.mQ hs
 cases hro:r.ok
 ·have e:oC r s=R0:=by unfold oC;rw [Bg.1 hro];rfl
  rw [e];rw [hro]at o1;refine kX nR h.hT ?_;simp only [zC,Lz];refine ev ?_;refine jK o1 ?_;refine ev ?_;exact sU
 cases hso:s.ok
 ·have e:oC r s=R0:=by unfold oC;rw [Bg.1 hso,WB];rfl
  rw [e];rw [hro]at o1;rw [hso]at o2;refine kX nR h.hT ?_;simp only [zC,Lz];refine ev ?_;refine jK o1 ?_;refine ev ?_;refine jK o2 ?_;refine ev ?_;exact sU
 rw [hro]at o1;rw [hso]at o2;obtain⟨a,ha,rfl⟩:=Ir hro;obtain⟨b,hb,rfl⟩:=Ir hso;have e:oC (Q.raw (some a)) (Q.raw (some b))=Q.raw (O8 (some a) (some b)):=by unfold oC;rw [D9 (q:=some a) ha,D9 (q:=some b) hb]
 have c:=aen h.LM (a:=a) (b:=b) ha hb;rw [e];refine kX nR h.hT ?_;simp only [zC,Lz];refine ev ?_;refine jK o1 ?_;refine ev ?_;refine jK o2 ?_;refine ev ?_;refine jK c ?_;refine ev ?_;exact kR _
def y9:Fn:=⟨1,16,[.cell 2 2 true],(.seq (rf 1 [oN 2 (.alloc zz3)]) (.seq (sr [oW 3 0,oN 4 (.bin .eql (.t 3) (cI (-9223372036854775808)))] (cd 4 (.seq (rf 1 [oN 5 (.nO 1 Kt 3 [(0,(cI 854775808)),(1,(cI 223372036)),(2,(cI 9))]),oK 6 1 (.call 66 [(.c (.bool true)),(.t 5)]),⟨none,none,1,.store 2 (.t 2) (.t 6),[]⟩]) .ret) .skip)) (.seq (sr [oW 7 0,oN 8 (bc .lss 7 0)] (cd 8 (sr [oW 9 0,oN 10 (.un .neg (.t 9)),oN 11 (cl 67 [10]),oN 12 (.call 66 [(.c (.bool true)),(.t 11)]),oS (.store 2 (.t 2) (.t 12))] .ret) .skip)) (sr [oW 13 0,oN 14 (cl 67 [13]),oN 15 (.call 66 [(.c (.bool false)),(.t 14)]),oS (.store 2 (.t 2) (.t 15))] .ret))))⟩
structure II (T:Tb):Prop where
 hT:T 53=some y9
 oq:vO T
 uS:Bc T
def zS:Fn:=⟨1,7,[.cell 2 3 true],(.seq (rf 1 [oN 2 (.alloc uJ)]) (.seq (rf 1 [oK 3 1 (oV 0),oK 4 1 (cl 53 [3]),oN 5 (.nO 1 Kt 1 [(0,(cI 1))]),oK 6 1 (.build uJ [(0,2,(.t 4)),(2,1,(.t 5))]),⟨none,none,1,.store 3 (.t 2) (.t 6),[]⟩]) .ret))⟩
structure wQ (T:Tb):Prop where
 hT:T 36=some zS
 WX:II T
def uI:Fn:=⟨1,16,[.cell 2 2 true],(.seq (rf 1 [oN 2 (.alloc zz3)]) (.seq (sr [oW 3 0,oN 4 (bc .lss 3 0)] (cd 4 (sr [oW 5 0,oN 6 (bc .add 5 1),oN 7 (.un .neg (.t 6)),oN 8 (.conv .u64 (.t 7)),oN 9 (.bin .add (.t 8) (.c (.int .u64 1))),oN 10 (cl 69 [9]),oN 11 (.call 68 [(.c (.bool true)),(.t 10)]),oS (.store 2 (.t 2) (.t 11))] .ret) .skip)) (sr [oW 12 0,oN 13 (.conv .u64 (.t 12)),oN 14 (cl 69 [13]),oN 15 (.call 68 [(.c (.bool false)),(.t 14)]),oS (.store 2 (.t 2) (.t 15))] .ret)))⟩
structure Dl (T:Tb):Prop where
 hT:T 54=some uI
 mG:oh T
 nS:vC T
def wR:Fn:=⟨1,7,[.cell 2 3 true],(.seq (rf 1 [oN 2 (.alloc uJ)]) (.seq (rf 1 [oK 3 1 (oV 0),oK 4 1 (cl 54 [3]),oN 5 (.nO 1 Kt 1 [(0,(cI 1))]),oK 6 1 (.build uJ [(0,2,(.t 4)),(2,1,(.t 5))]),⟨none,none,1,.store 3 (.t 2) (.t 6),[]⟩]) .ret))⟩
structure nV (T:Tb):Prop where
 hT:T 39=some wR
 OT:Dl T
theorem DY{T:Tb}(h:Hw T){r s:R}(hr:r.wf:=by exact rF)(hs:s.wf:=by exact rF):PF T 201 [lD r,lD s] (lD (mulR r s)):=by
 have o1:=xY h.mQ hr;have o2:=xY h.mQ hs
 cases hro:r.ok
 ·have e:mulR r s=R0:=by unfold mulR;rw [Bg.1 hro];rfl
  rw [e];rw [hro]at o1;refine kX nR h.hT ?_;simp only [zF,Lz];refine ev ?_;refine jK o1 ?_;refine ev ?_;exact sU
 cases hso:s.ok
 ·have e:mulR r s=R0:=by unfold mulR;rw [Bg.1 hso,WC];rfl
  rw [e];rw [hro]at o1;rw [hso]at o2;refine kX nR h.hT ?_;simp only [zF,Lz];refine ev ?_;refine jK o1 ?_;refine ev ?_;refine jK o2 ?_;refine ev ?_;exact sU
 rw [hro]at o1;rw [hso]at o2;obtain⟨a,ha,rfl⟩:=Ir hro;obtain⟨b,hb,rfl⟩:=Ir hso;have e:mulR (Q.raw (some a)) (Q.raw (some b))=Q.raw (WQ (some a) (some b)):=by unfold mulR;rw [D9 (q:=some a) ha,D9 (q:=some b) hb]
 rw [e];have c:=amI h.Z4 (a:=a) (b:=b) ha hb;refine kX nR h.hT ?_;simp only [zF,Lz];refine ev ?_;refine jK o1 ?_;refine ev ?_;refine jK o2 ?_;refine ev ?_;refine jK c ?_;refine ev ?_;exact kR _
theorem aaT{T:Tb}(h:LP T){r s:R}(hr:r.wf:=by exact rF)(hs:s.wf:=by exact rF):PF T 203 [lD r,lD s] (lD (wL r s)):=by
 have o1:=xY h.mQ hr;have o2:=xY h.mQ hs
 cases hro:r.ok
 ·have e:wL r s=R0:=by unfold wL;rw [Bg.1 hro];rfl
  rw [e];rw [hro]at o1;refine kX nR h.hT ?_;simp only [zD,Lz];refine ev ?_;refine jK o1 ?_;refine ev ?_;exact sU
 cases hso:s.ok
 ·have e:wL r s=R0:=by unfold wL;rw [Bg.1 hso,WG];rfl
  rw [e];rw [hro]at o1;rw [hso]at o2;refine kX nR h.hT ?_;simp only [zD,Lz];refine ev ?_;refine jK o1 ?_;refine ev ?_;refine jK o2 ?_;refine ev ?_;exact sU
 rw [hro]at o1;rw [hso]at o2;obtain⟨a,ha,rfl⟩:=Ir hro;obtain⟨b,hb,rfl⟩:=Ir hso;have e:wL (Q.raw (some a)) (Q.raw (some b))=Q.raw (agc (some a) (some b)):=by unfold wL;rw [D9 (q:=some a) ha,D9 (q:=some b) hb]
 rw [e];have c:=amH h.ZY (q:=b) hb;have c2:=aen h.LM (a:=a) (b:=-b) ha (Ua (a:=some b) hb);refine kX nR h.hT ?_;simp only [zD,Lz];refine ev ?_;refine jK o1 ?_;refine ev ?_;refine jK o2 ?_;refine ev ?_;refine jK c ?_;refine ev ?_;refine jK c2 ?_;refine ev ?_;refine⟨by unfold sF;decide +kernel,?_⟩;exact kR _
theorem VB{T:Tb}(h:LQ T){r s:R}(hr:r.wf:=by exact rF)(hs:s.wf:=by exact rF):PF T 200 [lD r,lD s] (lD (vS r s)):=by
 have o1:=xY h.mQ hr;have o2:=xY h.mQ hs
 cases hro:r.ok
 ·have e:vS r s=R0:=by unfold vS;rw [Bg.1 hro];rfl
  rw [e];rw [hro]at o1;refine kX nR h.hT ?_;simp only [zG,Lz];refine ev ?_;refine jK o1 ?_;refine ev ?_;exact sU
 cases hso:s.ok
 ·have e:vS r s=R0:=by unfold vS;rw [Bg.1 hso,WE];rfl
  rw [e];rw [hro]at o1;rw [hso]at o2;refine kX nR h.hT ?_;simp only [zG,Lz];refine ev ?_;refine jK o1 ?_;refine ev ?_;refine jK o2 ?_;refine ev ?_;exact sU
 rw [hro]at o1;rw [hso]at o2;obtain⟨a,ha,rfl⟩:=Ir hro;obtain⟨b,hb,rfl⟩:=Ir hso;have e:vS (Q.raw (some a)) (Q.raw (some b))=Q.raw (WR (some a) (some b)):=by unfold vS;rw [D9 (q:=some a) ha,D9 (q:=some b) hb]
 rw [e];obtain⟨l1,l2⟩:=LG (q:=a) ha;obtain⟨l3,l4⟩:=LG (q:=b) hb;have c1:=Em h.pF (m:=a.num.natAbs) (n:=b.den) (by omega) (by omega);have c2:=Em h.pF (m:=a.den) (n:=b.num.natAbs) (by omega) (by omega);have t1:=Lu a.num.natAbs b.den;have t2:=Lu a.den b.num.natAbs;have c3:=Uo h.zA (neg:=decide (a.num<0) != decide (b.num<0)) (m:=a.num.natAbs*b.den) (n:=a.den*b.num.natAbs) (by omega) (by omega);have e3:TG (sg (decide (a.num<0) != decide (b.num<0)) (a.num.natAbs*b.den)) ((a.den*b.num.natAbs:Nat):Int)=WR (some a) (some b):=by
  have e4:WR (some a) (some b)=TG (a.num*b.den) (b.num*a.den):=(abR a b).symm;rw [e4];have hden:0<b.den:=b.den_pos;rcases Int.lt_trichotomy b.num 0 with k|k|k
  ·have e5:((a.den*b.num.natAbs:Nat):Int)=(b.num*a.den)*(-1):=by
    rw [Int.natCast_mul,Int.mul_comm b.num,Int.mul_assoc];congr 1;omega
   have e6:sg (decide (a.num<0) != decide (b.num<0)) (a.num.natAbs*b.den)=(a.num*b.den)*(-1):=by
    have:=YG a.num (-(b.den:Int));rw [show decide (-(b.den:Int)<0)=true from aT (by omega),Int.natAbs_neg,dF]at this;rw [show decide (b.num<0)=true from aT k,this,Int.mul_neg,Int.mul_neg,Int.mul_one]
   rw [e5,e6,akh (by omega)]
  ·rw [k];simp [TG]
  have e5:((a.den*b.num.natAbs:Nat):Int)=b.num*a.den:=by
   rw [Int.natCast_mul,Int.mul_comm b.num];congr 1;omega
  have e6:sg (decide (a.num<0) != decide (b.num<0)) (a.num.natAbs*b.den)=a.num*b.den:=by
   have:=YG a.num (b.den:Int);rw [show decide ((b.den:Int)<0)=false from bH (by omega),dF]at this;rw [show decide (b.num<0)=false from bH (by omega),this]
  rw [e5,e6]
 rw [e3,<-Um]at c3;clear e3 l1 l2 l3 l4 t1 t2;rw [agC]at *;rw [agC]at *;refine kX nR h.hT ?_;simp only [zG,Lz];refine ev ?_;refine jK o1 ?_;refine ev ?_;refine jK o2 ?_;refine ev ?_;refine jK c1 ?_;refine ev ?_;refine jK c2 ?_;refine ev ?_;refine jK c3 ?_;refine ev ?_;refine⟨by unfold sF;decide +kernel,?_⟩;exact kR _
theorem YQ{n:Nat}(h:n<1000000000000000000):(mk n).length<=2:=l9.2 (by simpa using h)
theorem YR(n:Int):lC n=⟨decide (n<0),mk n.natAbs,[1]⟩:=by
 show (⟨decide ((n:Rat).num<0),mk (n:Rat).num.natAbs,mk (n:Rat).den⟩:R)=_;have m1:mk 1=[1]:=mk_one (by omega) (by omega);rw [Rat.num_intCast,Rat.den_intCast,m1]
theorem aeo{T:Tb}(h:II T){n:Int}(hn : -1000000000000000000<n/\n<1000000000000000000:=by exact rF):PF T 53 [iv n] (Xo (bi n)):=by
 have hl:(mk n.natAbs).length<=2:=YQ (by omega);by_cases hneg:n<0
 ·have c1:=QD h.uS (n:=-n) (by omega);have c2:=Bf h.oq (neg:=true) (n:=n.natAbs) (by omega);rw [show (-n).toNat=n.natAbs by omega]at c1;rw [show sg true n.natAbs=n by simp only [sg,if_true];omega]at c2;have c0:¬n = -9223372036854775808:=by omega
  refine kX nR h.hT ?_;simp only [y9,Lz];refine ev ?_;refine xP @c0 @hneg ?_;rw [show (0:Int)-n = -n by omega];refine jK c1 ?_;refine ev ?_;refine jK c2 ?_;refine ev ?_;exact kR _
 have c1:=QD h.uS (n:=n) (by omega);have c2:=Bf h.oq (neg:=false) (n:=n.natAbs) (by omega);rw [show n.toNat=n.natAbs by omega]at c1;rw [show sg false n.natAbs=n by simp only [sg,bM,if_false];omega]at c2;have c0:¬n = -9223372036854775808:=by omega
 refine kX nR h.hT ?_;simp only [y9,Lz];refine ev ?_;refine xP @c0 @hneg ?_;refine jK c1 ?_;refine ev ?_;refine jK c2 ?_;refine ev ?_;exact kR _
theorem aep{T:Tb}(h:Dl T){n:Int}(hn : -1000000000000000000<n/\n<1000000000000000000:=by exact rF):PF T 54 [iv n] (Xo (bi n)):=by
 have hl:(mk n.natAbs).length<=2:=YQ (by omega);by_cases hneg:n<0
 ·have c1:=Ag h.nS (n:=-(n+1)+1) (by omega);have c2:=DX h.mG (neg:=true) (n:=n.natAbs) (by omega);rw [show (-(n+1)+1).toNat=n.natAbs by omega]at c1;rw [show sg true n.natAbs=n by simp only [sg,if_true];omega]at c2;refine kX nR h.hT ?_;simp only [uI,Lz];refine ev ?_;refine ev1 @hneg ?_;rw [show (0:Int)-(n+1)+1 = -(n+1)+1 by omega];refine jK c1 ?_;refine ev ?_;refine jK c2 ?_;refine ev ?_;exact kR _
 have c1:=Ag h.nS (n:=n) (by omega);have c2:=DX h.mG (neg:=false) (n:=n.natAbs) (by omega);rw [show n.toNat=n.natAbs by omega]at c1;rw [show sg false n.natAbs=n by simp only [sg,bM,if_false];omega]at c2;refine kX nR h.hT ?_;simp only [uI,Lz];refine ev ?_;refine ev1 @hneg ?_;refine jK c1 ?_;refine ev ?_;refine jK c2 ?_;refine ev ?_;exact kR _
theorem rG{T:Tb}(h:wQ T){n:Int}(hn : -1000000000000000000<n/\n<1000000000000000000:=by exact rF):PF T 36 [iv n] (lD (lC n)):=by
 have c:=aeo h.WX hn;rw [YR];refine kX nR h.hT ?_;simp only [zS,Lz];refine ev ?_;refine jK c ?_;refine ev ?_;simp only [amF];refine ev ?_;exact kR _
theorem LU{T:Tb}(h:nV T){n:Int}(hn : -1000000000000000000<n/\n<1000000000000000000:=by exact rF):PF T 39 [iv n] (lD (lC n)):=by
 have c:=aep h.OT hn;rw [YR];refine kX nR h.hT ?_;simp only [wR,Lz];refine ev ?_;refine jK c ?_;refine ev ?_;simp only [amF];refine ev ?_;exact kR _
def zH:Fn:=⟨2,17,[.cell 4 3 true],(.seq (rf 3 [oN 2 (.box (.t 0)),oK 3 1 (.box (.t 1)),oK 4 2 (.alloc uJ)]) (.seq (sr [oN 5 (lT 3 2),oN 6 (cl 102 [5]),oN 7 (nt 6),oW 8 7,oG 8 false 9 (lT 3 3),oG 8 false 10 (cl 102 [9]),oG 8 false 11 (nt 10),oN 12 (.pick (.t 8) (.c (.bool true)) (.t 11))] (cd 12 (sr [oN 13 (.build uJ []),oS (.store 3 (.t 4) (.t 13))] .ret) .skip)) (sr [oN 14 (lT 3 2),oN 15 (lT 3 3),oN 16 (cl 131 [14,15]),oS (.store 3 (.t 4) (.t 16))] .ret)))⟩
structure LV (T:Tb):Prop where
 hT:T 178=some zH
 qP:yK T
 lJ:nM T
theorem Rl{r:R}(h:r.cn:=by
 first|with_reducible assumption|with_reducible exact wM _ _|with_reducible exact KQ _ _|with_reducible exact Jf _ _|with_reducible exact N9 _ _|with_reducible exact Xv _|with_reducible exact ab6|with_reducible exact wO (by decide)):r.cn:=h
theorem DZ{T:Tb}(h:nM T){r s:R}(hr:r.cn:=by exact Rl)(hs:s.cn:=by exact Rl):PF T 131 [lD r,lD s] (lD (oC r s)):=by
 have:=ael h (a:=r.q) (b:=s.q) (Ld r) (Ld s);rw [hr,hs]at this;exact this
theorem QF{T:Tb}(h:tu T){r s:R}(hr:r.cn:=by exact Rl)(hs:s.cn:=by exact Rl):PF T 159 [lD r,lD s] (lD (wL r s)):=by
 have:=amE h (a:=r.q) (b:=s.q) (Ld r) (Ld s);rw [hr,hs]at this;exact this
theorem uz{T:Tb}(h:qL T){r s:R}(hr:r.cn:=by exact Rl)(hs:s.cn:=by exact Rl):PF T 157 [lD r,lD s] (lD (mulR r s)):=by
 have:=amC h (a:=r.q) (b:=s.q) (Ld r) (Ld s);rw [hr,hs]at this;exact this
theorem aaU{T:Tb}(h:uY T){r s:R}(hr:r.cn:=by exact Rl)(hs:s.cn:=by exact Rl):PF T 156 [lD r,lD s] (lD (vS r s)):=by
 have:=amD h (a:=r.q) (b:=s.q) (Ld r) (Ld s);rw [hr,hs]at this;exact this
theorem aaV{T:Tb}(h:uV T){r:R}(hr:r.cn:=by exact Rl):PF T 161 [lD r] (lD (negR r)):=by
 have:=YK h (a:=r.q) (Ld r);rw [hr]at this;exact this
theorem agD{T:Tb}(h:Aj T){r:R}(hr:r.cn:=by exact Rl):PF T 124 [lD r] (iv (xI r)):=by
 have:=aaS h (a:=r.q);rw [hr]at this;exact this
theorem Jg{T:Tb}(h:pG T){r:R}(hr:r.cn:=by exact Rl):PF T 132 [lD r] (.bool r.ok):=by
 have:=ab5 h (a:=r.q);rw [hr,agf]at this;exact this
theorem aaW{T:Tb}(h:LV T){r s:R}(hr:r.wf:=by exact rF)(hs:s.wf:=by exact rF):PF T 178 [lD r,lD s] (lD (oC r s)):=by
 have o1:=KP h.qP hr;have o2:=KP h.qP hs
 cases hro:r.ok
 ·have e:oC r s=R0:=by unfold oC;rw [Bg.1 hro];rfl
  rw [e];rw [hro]at o1;refine kX nR h.hT ?_;simp only [zH,Lz];refine ev ?_;refine jK o1 ?_;refine ev ?_;exact sU
 cases hso:s.ok
 ·have e:oC r s=R0:=by unfold oC;rw [Bg.1 hso,WB];rfl
  rw [e];rw [hro]at o1;rw [hso]at o2;refine kX nR h.hT ?_;simp only [zH,Lz];refine ev ?_;refine jK o1 ?_;refine ev ?_;refine jK o2 ?_;refine ev ?_;exact sU
 rw [hro]at o1;rw [hso]at o2;have c:=DZ h.lJ (CG hro) (CG hso);refine kX nR h.hT ?_;simp only [zH,Lz];refine ev ?_;refine jK o1 ?_;refine ev ?_;refine jK o2 ?_;refine ev ?_;refine jK c ?_;refine ev ?_;exact kR _
def sN:Fn:=⟨2,24,[.tmp 4],(.seq (rf 2 [oN 2 (.box (.t 0)),oK 3 1 (.box (.t 1)),oK 4 2 mF]) (sr [oN 5 (fd 0 2),oN 6 (lF 1 5),oN 7 (fd 0 3),oN 8 (lF 1 7),oN 9 (bt .lss 6 8),oW 10 9,oG 10 false 11 (fd 0 2),oG 10 false 12 (lF 1 11),oG 10 false 13 (fd 0 3),oG 10 false 14 (lF 1 13),oG 10 false 15 (bt .eql 12 14),oG 10 false 16 (oV 15),oG 16 true 17 (fd 1 2),oG 16 true 18 (lF 1 17),oG 16 true 19 (fd 1 3),oG 16 true 20 (lF 1 19),oG 16 true 21 (bt .lss 18 20),oG 10 false 22 (.pick (.t 16) (.t 21) (.c (.bool false))),oN 23 (.pick (.t 10) (.c (.bool true)) (.t 22)),oW 4 23] .ret))⟩
structure yP (T:Tb):Prop where
 hT:T 111=some sN
def Bh:Fn:=⟨1,30,[.tmp 2],(sr [oN 2 mF] (.seq (sr [oW 5 0,oN 6 (ln 5),oN 7 (.qC (cI 0))] (.block 0 (.loop (sr [oN 8 (bt .lss 7 6)] (.seq (cd 8 .skip (.exit 0)) (.seq (.block 1 (.seq (rf 1 [oK 9 1 (oV 7),oK 10 1 (ix 11 5 7),oK 11 1 (lT 11 10),oN 4 (.alloc I5),oK 3 1 (oV 9),⟨none,none,1,.store 11 (.t 4) (.t 11),[]⟩]) (.seq (rt 0 [oN 12 (lT 11 4),oA 13 0 (cl 84 [12]) [0],oA 14 0 (nt 13) [1],oA 15 0 (oV 14) [2,1],oH 15 false 16 0 (oV 3) [3],oH 15 false 17 0 (bc .gtr 16 0) [4,3],oH 15 false 18 0 (oV 17) [5,3,3],oH 18 true 19 0 (oV 0) [6],oH 18 true 20 0 (oV 3) [6],oH 18 true 21 0 (bc .sub 20 1) [8,6],oH 18 true 22 0 (ix 11 19 21) [7,9,6],oH 18 true 23 0 (lT 11 22) [10,6],oH 18 true 24 0 (lT 11 4) [6],oH 18 true 25 0 (cl 111 [23,24]) [11,12,6,6],oH 18 true 26 0 (nt 25) [13,6],oH 15 false 27 0 (.pick (.t 18) (.t 26) (.c (.bool false))) [6,14,3],oA 28 0 (.pick (.t 15) (.c (.bool true)) (.t 27)) [3,15]]) (cd 28 (sr [oN 2 mF] .ret) .skip)))) (rg [oN 29 (bc .add 7 1),oW 7 29]))))))) (sr [oN 2 mT] .ret)))⟩
structure vG (T:Tb):Prop where
 hT:T 89=some Bh
 Dz:yM T
 yQ:yP T
def yc:Fn:=⟨2,24,[.tmp 4],(.seq (rf 2 [oN 2 (.box (.t 0)),oK 3 1 (.box (.t 1)),oK 4 2 mF]) (sr [oN 5 (fd 0 2),oN 6 (lF 1 5),oN 7 (fd 0 3),oN 8 (lF 1 7),oN 9 (bt .lss 6 8),oW 10 9,oG 10 false 11 (fd 0 2),oG 10 false 12 (lF 1 11),oG 10 false 13 (fd 0 3),oG 10 false 14 (lF 1 13),oG 10 false 15 (bt .eql 12 14),oG 10 false 16 (oV 15),oG 16 true 17 (fd 1 2),oG 16 true 18 (lF 1 17),oG 16 true 19 (fd 1 3),oG 16 true 20 (lF 1 19),oG 16 true 21 (bt .lss 18 20),oG 10 false 22 (.pick (.t 16) (.t 21) (.c (.bool false))),oN 23 (.pick (.t 10) (.c (.bool true)) (.t 22)),oW 4 23] .ret))⟩
structure Ey (T:Tb):Prop where
 hT:T 195=some yc
def Bj:Fn:=⟨1,30,[.tmp 2],(sr [oN 2 mF] (.seq (sr [oW 5 0,oN 6 (ln 5),oN 7 (.qC (cI 0))] (.block 0 (.loop (sr [oN 8 (bt .lss 7 6)] (.seq (cd 8 .skip (.exit 0)) (.seq (.block 1 (.seq (rf 1 [oK 9 1 (oV 7),oK 10 1 (ix 11 5 7),oK 11 1 (lT 11 10),oN 4 (.alloc I5),oK 3 1 (oV 9),⟨none,none,1,.store 11 (.t 4) (.t 11),[]⟩]) (.seq (rt 0 [oN 12 (lT 11 4),oA 13 0 (cl 83 [12]) [0],oA 14 0 (nt 13) [1],oA 15 0 (oV 14) [2,1],oH 15 false 16 0 (oV 3) [3],oH 15 false 17 0 (bc .gtr 16 0) [4,3],oH 15 false 18 0 (oV 17) [5,3,3],oH 18 true 19 0 (oV 0) [6],oH 18 true 20 0 (oV 3) [6],oH 18 true 21 0 (bc .sub 20 1) [8,6],oH 18 true 22 0 (ix 11 19 21) [7,9,6],oH 18 true 23 0 (lT 11 22) [10,6],oH 18 true 24 0 (lT 11 4) [6],oH 18 true 25 0 (cl 195 [23,24]) [11,12,6,6],oH 18 true 26 0 (nt 25) [13,6],oH 15 false 27 0 (.pick (.t 18) (.t 26) (.c (.bool false))) [6,14,3],oA 28 0 (.pick (.t 15) (.c (.bool true)) (.t 27)) [3,15]]) (cd 28 (sr [oN 2 mF] .ret) .skip)))) (rg [oN 29 (bc .add 7 1),oW 7 29]))))))) (sr [oN 2 mT] .ret)))⟩
structure Bl (T:Tb):Prop where
 hT:T 193=some Bj
 qR:vT T
 Ez:Ey T
def Dn:Fn:=⟨2,33,[.tmp 4],(sr [oN 4 mF] (.seq (sr [oW 9 0,oN 10 (ln 9),oN 11 (bc .gtr 10 10)] (cd 11 (sr [oN 4 mF] .ret) .skip)) (.seq (sr [oW 12 0,oN 13 (ln 12),oN 14 (.qC (cI 0))] (.block 0 (.loop (sr [oN 15 (bt .lss 14 13)] (.seq (cd 15 .skip (.exit 0)) (.seq (.block 1 (sr [oN 16 (ix 1 12 14),oN 17 (lF 1 16),oW 6 17] (.seq (sr [oW 18 6,oN 19 (ln 18),oW 20 1,oN 21 (bt .neq 19 20)] (cd 21 (sr [oN 4 mF] .ret) .skip)) (sr [oW 22 6,oN 23 (ln 22),oN 24 (.qC (cI 0))] (.block 2 (.loop (sr [oN 25 (bt .lss 24 23)] (.seq (cd 25 .skip (.exit 2)) (.seq (.block 3 (.seq (rf 1 [oK 26 1 (ix 3 22 24),oK 27 1 (lT 3 26),oN 8 (.alloc uJ),⟨none,none,1,.store 3 (.t 8) (.t 27),[]⟩]) (sr [oN 28 (lT 3 8),oN 29 (cl 102 [28]),oN 30 (nt 29)] (cd 30 (sr [oN 4 mF] .ret) .skip)))) (rg [oN 31 (bc .add 24 1),oW 24 31])))))))))) (rg [oN 32 (bc .add 14 1),oW 14 32]))))))) (sr [oN 4 mT] .ret))))⟩
structure Dp (T:Tb):Prop where
 hT:T 93=some Dn
 qP:yK T
def lW(k l:Lk):Bool:=decide (k.a<l.a)||(decide (k.a=l.a)&&decide (k.b<l.b))
theorem LX{T:Tb}(h:yP T){k l:Lk}:PF T 111 [Wu k,Wu l] (.bool (lW k l)):=by
 unfold lW;by_cases h1:k.a<l.a
 ·simp only [h1,decide_true,iq];refine lV nR h.hT ?_;simp only [sN,Lz];refine ev ?_
  (refine ev1 @h1 ?_;try with_reducible exact aC)
 by_cases h2:k.a=l.a
 ·simp only [h2,Int.lt_irrefl,decide_true,decide_false,cZ,fE];refine lV nR h.hT ?_;simp only [sN,Lz];refine ev ?_
  (refine xP @h2 @Int.lt_irrefl ?_;try with_reducible exact aC)
 simp only [h1,h2,decide_false,dQ,fE];refine lV nR h.hT ?_;simp only [sN,Lz];refine ev ?_
 (refine xP @h1 @h2 ?_;try with_reducible exact aC)
theorem VD{T:Tb}(h:Ey T){k l:Lk}:PF T 195 [Wu k,Wu l] (.bool (lW k l)):=by
 unfold lW;by_cases h1:k.a<l.a
 ·simp only [h1,decide_true,iq];refine lV nR h.hT ?_;simp only [yc,Lz];refine ev ?_
  (refine ev1 @h1 ?_;try with_reducible exact aC)
 by_cases h2:k.a=l.a
 ·simp only [h2,Int.lt_irrefl,decide_true,decide_false,cZ,fE];refine lV nR h.hT ?_;simp only [yc,Lz];refine ev ?_
  (refine xP @h2 @Int.lt_irrefl ?_;try with_reducible exact aC)
 simp only [h1,h2,decide_false,dQ,fE];refine lV nR h.hT ?_;simp only [yc,Lz];refine ev ?_
 (refine xP @h1 @h2 ?_;try with_reducible exact aC)
def allB(n:Nat)(p:Nat->Bool):Bool:=decide (∀i,i<n->p i=true)
theorem SE{n:Nat}{p:Nat->Bool}(h:∀i,i<n->p i=true):allB n p=true:=aT h
theorem SG{n:Nat}{p:Nat->Bool}{i:Nat}(hi:i<n)(h:p i=false):allB n p=false:=bH fun k=>by rw [k i hi]at h;cases h
theorem Qe{n:Nat}{p:Nat->Bool}:allB n p=true↔∀i,i<n->p i=true:=by simp [allB]
def KR(l:List Lk)(i:Nat):Bool:=ql (l.getD i default)&&(decide (i=0)||lW (l.getD (i-1) default) (l.getD i default))
def lN(l:List Lk):Bool:=allB l.length (KR l)
theorem Jh{T:Tb}(h:vG T){l:List Lk}(hw:DR Lk.wf l:=by exact rF):PF T 89 [nZ l] (.bool (lN l)):=by
 have hlen:=hw.1;refine lV nR h.hT ?_;simp only [Bh,Lz];refine ev ?_;refine kZ (fun _ _=>false) (α:=Nat) (fun i=>⟨mJ [nZ l,.any,.bool false,.any,.any,nZ l,iv (l.length:Nat),iv (i:Nat)],[],0,0,[],[]⟩) (fun i=>i<=l.length/\∀j,j<i->KR l j=true) (fun i=>l.length-i) rfl 0 ?_ ?_ ?_
 ·exact⟨by omega,by intro j hj;omega⟩
 ·exact JH
 rintro i ⟨hi,hj⟩;refine ev ?_;refine lG (fun hc=>?_) fun hc=>?_<;>(refine xP @hc @mg ?_;try with_reducible exact aC)
 ·have hil:i<l.length:=by omega
  have cv:=Qd h.Dz (l:=l.getD i default) (hw.at_ hil);have cb:=LX h.yQ (k:=l.getD (i-1) default) (l:=l.getD i default)
  cases hv:ql (l.getD i default)
  ·rw [hv]at cv;refine jK cv ?_;refine ev ?_;have:lN l=false:=SG hil (by simp only [KR,hv,dQ]);rw [this]
  rw [hv]at cv;refine jK cv ?_;by_cases h0:i=0
  ·have h0':¬(0:Int)<(i:Nat):=by omega
   refine ev1 @h0' ?_;refine⟨i+1,by omega,⟨by omega,fun j hj'=>?_⟩,by exact JH⟩;have:j=i:=by omega
   subst this;unfold KR;rw [hv,aT h0];rfl
  have h0':(0:Int)<(i:Nat):=by omega
  have e1:((i:Int)-1).toNat=i-1:=by omega
  cases hb:lW (l.getD (i-1) default) (l.getD i default)
  ·rw [hb]at cb;refine Dw @h0' @mg @e1 ?_;refine jK cb ?_;refine ev ?_;have:lN l=false:=SG hil (by simp only [KR,hv,hb,h0,decide_false,Bool.or_self,jI]);rw [this]
  rw [hb]at cb;refine Dw @h0' @mg @e1 ?_;refine jK cb ?_;refine ev ?_;refine⟨i+1,by omega,⟨by omega,fun j hj'=>?_⟩,by exact JH⟩;by_cases e:j=i
  ·subst e;simp only [KR,hv,hb,Bool.or_true,Bool.and_self]
  exact hj j (by omega)
 have:lN l=true:=SE fun j hj'=>hj j (by omega);rw [this]
theorem Ur{T:Tb}(h:Bl T){l:List Lk}(hw:DR Lk.wf l:=by exact rF):PF T 193 [nZ l] (.bool (lN l)):=by
 have hlen:=hw.1;refine lV nR h.hT ?_;simp only [Bj,Lz];refine ev ?_;refine kZ (fun _ _=>false) (α:=Nat) (fun i=>⟨mJ [nZ l,.any,.bool false,.any,.any,nZ l,iv (l.length:Nat),iv (i:Nat)],[],0,0,[],[]⟩) (fun i=>i<=l.length/\∀j,j<i->KR l j=true) (fun i=>l.length-i) rfl 0 ?_ ?_ ?_
 ·exact⟨by omega,by intro j hj;omega⟩
 ·exact JH
 rintro i ⟨hi,hj⟩;refine ev ?_;refine lG (fun hc=>?_) fun hc=>?_<;>(refine xP @hc @mg ?_;try with_reducible exact aC)
 ·have hil:i<l.length:=by omega
  have cv:=Au h.qR (l:=l.getD i default) (hw.at_ hil);have cb:=VD h.Ez (k:=l.getD (i-1) default) (l:=l.getD i default)
  cases hv:ql (l.getD i default)
  ·rw [hv]at cv;refine jK cv ?_;refine ev ?_;have:lN l=false:=SG hil (by simp only [KR,hv,dQ]);rw [this]
  rw [hv]at cv;refine jK cv ?_;by_cases h0:i=0
  ·have h0':¬(0:Int)<(i:Nat):=by omega
   refine ev1 @h0' ?_;refine⟨i+1,by omega,⟨by omega,fun j hj'=>?_⟩,by exact JH⟩;have:j=i:=by omega
   subst this;unfold KR;rw [hv,aT h0];rfl
  have h0':(0:Int)<(i:Nat):=by omega
  have e1:((i:Int)-1).toNat=i-1:=by omega
  cases hb:lW (l.getD (i-1) default) (l.getD i default)
  ·rw [hb]at cb;refine Dw @h0' @mg @e1 ?_;refine jK cb ?_;refine ev ?_;have:lN l=false:=SG hil (by simp only [KR,hv,hb,h0,decide_false,Bool.or_self,jI]);rw [this]
  rw [hb]at cb;refine Dw @h0' @mg @e1 ?_;refine jK cb ?_;refine ev ?_;refine⟨i+1,by omega,⟨by omega,fun j hj'=>?_⟩,by exact JH⟩;by_cases e:j=i
  ·subst e;simp only [KR,hv,hb,Bool.or_true,Bool.and_self]
  exact hj j (by omega)
 have:lN l=true:=SE fun j hj'=>hj j (by omega);rw [this]
def Rn(m:List (List R))(cols:Int)(i:Nat):Bool:=decide (((m.getD i default).length:Int)=cols)&&allB (m.getD i default).length (fun j=>((m.getD i default).getD j default).ok)
def CJ(m:List (List R))(cols:Int):Bool:=allB m.length (Rn m cols)&&decide (m.length<=10)
theorem ain{m:List (List R)}{cols:Int}{i:Nat}(hi:i<m.length)(h:Rn m cols i=false):CJ m cols=false:=by
 unfold CJ;rw [SG hi h,dQ]
theorem ab7{m:List (List R)}{cols:Int}(h:∀j,j<m.length->Rn m cols j=true):CJ m cols=decide (m.length<=10):=by
 unfold CJ;rw [SE h,cZ]
theorem WH{T:Tb}(h:Dp T){m:List (List R)}{cols:Int}(hw:DR (DR R.wf) m:=by exact rF)(hcw:cols<=9223372036854775807:=by exact rF):PF T 93 [sG m,iv cols] (.bool (CJ m cols)):=by
 have hlen:=hw.1;refine lV nR h.hT ?_;simp only [Dn,Lz];refine ev ?_;refine lG (fun h10=>?_) fun h10=>?_<;>(refine ev1 @h10 ?_;try with_reducible exact aC)
 ·have:CJ m cols=false:=by unfold CJ;rw [bH (by omega),jI]
  rw [this]
 refine kZ (fun _ _=>false) (α:=Nat) (fun i=>⟨mJ [sG m,iv cols,.any,.any,.bool false,.any,.any,.any,.any,.any,.any,.any,sG m,iv (m.length:Nat),iv (i:Nat)],[],0,0,[],[]⟩) (fun i=>i<=m.length/\∀j,j<i->Rn m cols j=true) (fun i=>m.length-i) rfl 0 ?_ ?_ ?_
 ·exact⟨by omega,by intro j hj;omega⟩
 ·exact JH
 rintro i ⟨hi,hj⟩;refine ev ?_;refine lG (fun hc=>?_) fun hc=>?_<;>(refine xP @hc @mg ?_;try with_reducible exact aC)
 ·have hil:i<m.length:=by omega
  have hwr:=hw.at_ hil;have hrl:=hwr.1;obtain⟨row,hrow⟩:∃row,m.getD i default=row:=⟨_,rfl⟩;rw [hrow]at hwr hrl ⊢;refine ev ?_;refine lG (fun hn=>?_) fun hn=>?_<;>(refine ev1 @hn ?_;try with_reducible exact aC)
  ·refine kZ (fun _ _=>false) (α:=Nat) (fun k=>⟨mJ [sG m,iv cols,.any,.any,.bool false,.any,.any,.any,.any,.any,.any,.any,sG m,iv (m.length:Nat),iv (i:Nat),.any,.any,.any,.any,.any,.any,.any,pK row,iv (row.length:Nat),iv (k:Nat)],[],0,0,[],[]⟩) (fun k=>k<=row.length/\∀j,j<k->(row.getD j default).ok=true) (fun k=>row.length-k) rfl 0 ?_ ?_ ?_
   ·exact⟨by omega,by intro j hj;omega⟩
   ·exact JH
   rintro k ⟨hk,hkj⟩;refine ev ?_;refine lG (fun hd=>?_) fun hd=>?_<;>(refine xP @hd @mg ?_;try with_reducible exact aC)
   ·have hkl:k<row.length:=by omega
    have co:=KP h.qP (r:=row.getD k default) (hwr.at_ hkl)
    cases hv:(row.getD k default).ok
    ·rw [hv]at co;refine jK co ?_;refine ev ?_;have:CJ m cols=false:=ain hil (by unfold Rn;rw [hrow,SG hkl hv,jI]);rw [this]
    rw [hv]at co;refine jK co ?_;refine ev ?_;refine⟨k+1,by omega,⟨by omega,fun j hj'=>?_⟩,by exact JH⟩;by_cases e:j=k
    ·subst e;exact hv
    exact hkj j (by omega)
   refine⟨i+1,by omega,⟨by omega,fun j hj'=>?_⟩,by exact JH⟩;by_cases e:j=i
   ·subst e;unfold Rn;rw [hrow,aT (by omega),SE fun j hj=>hkj j (by omega)];rfl
   exact hj j (by omega)
  have:CJ m cols=false:=ain hil (by unfold Rn;rw [hrow,bH (by omega),dQ]);rw [this]
 rw [ab7 fun j hj'=>hj j (by omega),aT (by omega)]
def IJ:List Int->Int->List Int
 | [],n=>[n]
 |x::l,n=>if x<n then x::IJ l n else if x=n then x::l else n::x::l
theorem aio{l:List Int}{n:Int}{k:Nat}(hk:k<=l.length)(h:∀j,j<k->l.getD j 0<n)(h2:k<l.length->¬l.getD k 0<n) :
  IJ l n=if k<l.length/\l.getD k 0=n then l else l.take k++n::l.drop k:=by
 induction l generalizing k with
 |nil=>simp [IJ]
 |
  cons x l ih =>
  cases k with
  |
   zero =>
   have h3:=h2 (by simp);simp only [List.getD_cons_zero]at h3;unfold IJ;rw [aN h3];by_cases e:x=n
   ·simp [e]
   simp [e]
  |
   succ k =>
   have h3:=h 0 (by omega);simp only [List.getD_cons_zero]at h3;unfold IJ;rw [aQ h3,ih (k:=k) (by simpa using hk) (fun j hj=>by have:=h (j+1) (by omega);simpa using this) (fun hj=>by have:=h2 (by simpa using hj);simpa using this)];simp only [au,List.getD_cons_succ,jO,List.drop_succ_cons,dI,Nat.add_lt_add_iff_right];split<;>rfl
def Asc(l:List Int):Prop:=l.Pairwise (· < ·)
theorem JQ{l:List Int}{n a:Int}:a∈IJ l n↔a=n\/a∈l:=by
 induction l with
 |nil=>simp [IJ]
 |
  cons x l ih =>
  unfold IJ;split
  ·rw [aI,ih,aI];constructor
   ·rintro(h|h|h)<;>simp [h]
   rintro(h|h|h)<;>simp [h]
  split
  ·rename_i e;subst e;constructor
   ·intro h;exact .inr h
   rintro(h|h)
   ·rw [h];simp
   exact h
  simp
theorem Nl{l:List Int}{n:Int}(h:Asc l):Asc (IJ l n):=by
 unfold Asc at *
 induction l with
 |nil=>simp [IJ]
 |
  cons x l ih =>
  rw [fB]at h;unfold IJ;split
  ·rename_i hx;rw [fB];refine⟨fun a ha=>?_,ih h.2⟩;rcases JQ.1 ha with rfl|ha
   ·exact hx
   exact h.1 a ha
  split
  ·rw [fB];exact h
  rename_i h1 h2;have:n<x:=by omega
  rw [fB,fB];refine⟨fun a ha=>?_,h⟩;rcases aI.1 ha with rfl|ha
  ·exact this
  have:=h.1 a ha;omega
theorem YS(l:List Int)(n:Int):(IJ l n).length<=l.length+1:=by
 induction l with
 |nil=>simp [IJ]
 |
  cons x l ih =>
  unfold IJ;split
  ·simp;omega
  split<;>simp
theorem Xw:∀{l m:List Int},Asc l->Asc m->(∀a,a∈l↔a∈m)->l=m
 | [],[],_,_,_=>rfl
 | [],y::m,_,_,h=>absurd ((h y).2 (by simp)) (by simp)
 |x::l,[],_,_,h=>absurd ((h x).1 (by simp)) (by simp)
 |
  x::l,y::m,hl,hm,h=>by
  unfold Asc at hl hm;rw [fB]at hl hm;have e:x=y:=by
   rcases aI.1 ((h x).1 (by simp))with h1|h1
   ·exact h1
   rcases aI.1 ((h y).2 (by simp))with h2|h2
   ·exact h2.symm
   have:=hl.1 y h2;have:=hm.1 x h1;omega
  subst e
  congr 1
  refine Xw hl.2 hm.2 fun a=>?_;constructor
  ·intro ha;rcases aI.1 ((h a).1 (by simp [ha]))with h1|h1
   ·have:=hl.1 a ha;omega
   exact h1
  intro ha;rcases aI.1 ((h a).2 (by simp [ha]))with h1|h1
  ·have:=hm.1 a ha;omega
  exact h1
theorem EC:∀{a b:List Int},a.Nodup->(∀x∈a,x∈b)->a.length<=b.length
 | [],b,_,_=>by simp
 |
  x::a,b,hn,h=>by
  rw [eU]at hn;have hx:=h x (by simp);have:=EC (a:=a) (b:=b.erase x) hn.2 fun y hy=>by
   have hyx:y≠x:=fun e=>hn.1 (e▸hy);exact(List.mem_erase_of_ne hyx).2 (h y (by simp [hy]))
  rw [List.length_erase_of_mem hx]at this;have:=List.length_pos_of_mem hx;simp only [au];omega
theorem VE{a b:List Int}(hn:a.Nodup)(h:∀x∈a,x∈b)(hl:b.length<=a.length):∀x∈b,x∈a:=by
 intro x hx;refine iC fun hxa=>?_;have:=EC (a:=x::a) (b:=b) (eU.2 ⟨hxa,hn⟩) fun y hy=>by
  rcases aI.1 hy with rfl|hy
  ·exact hx
  exact h y hy
 simp at this;omega
theorem aer:∀{a b:List Int},a.Nodup->(∀x∈a,x∈b)->b.length<=a.length->b.Nodup
 |a,[],_,_,_=>List.nodup_nil
 |
  a,y::b,hn,h,hl=>by
  have hya:y∈a:=VE hn h hl y (by simp);have h2:=aer (a:=a.erase y) (b:=b) (hn.erase y) (fun x hx=>by
   have hxy:x≠y:=fun e=>by rw [e]at hx;exact(List.Nodup.not_mem_erase hn) hx
   have:=h x (List.mem_of_mem_erase hx);rcases aI.1 this with e|k
   ·exact absurd e hxy
   exact k) (by rw [List.length_erase_of_mem hya];simp only [au]at hl;omega)
  refine eU.2 ⟨fun hyb=>?_,h2⟩;have:=EC (a:=a) (b:=b) hn fun x hx=>by
   rcases aI.1 (h x hx)with e|k
   ·rw [e];exact hyb
   exact k
  simp only [au]at hl;omega
theorem Jw{l:List Int}(h:Asc l):l.Nodup:=by
 unfold Asc at h;exact h.imp fun h e=>by omega
def H6:Fn:=⟨2,48,[.tmp 4],(sr [oN 4 mN] (sr [oN 5 (.qC (cI 0))] (.seq (.block 0 (.loop (.seq (sr [oW 7 5,oW 8 0,oN 9 (ln 8),oN 10 (bt .lss 7 9),oW 11 10,oG 11 true 12 (oV 0),oG 11 true 13 (oV 5),oG 11 true 14 (ix 1 12 13),oG 11 true 15 (lF 1 14),oG 11 true 16 (oV 1),oG 11 true 17 (bt .lss 15 16),oN 18 (.pick (.t 11) (.t 17) (.c (.bool false)))] (cd 18 .skip (.exit 0))) (.block 1 (rg [oW 19 5,oN 20 (bc .add 19 1),oW 5 20]))))) (.seq (sr [oW 21 5,oW 22 0,oN 23 (ln 22),oN 24 (bt .lss 21 23),oW 25 24,oG 25 true 26 (oV 0),oG 25 true 27 (oV 5),oG 25 true 28 (ix 1 26 27),oG 25 true 29 (lF 1 28),oG 25 true 30 (oV 1),oG 25 true 31 (bt .eql 29 30),oN 32 (.pick (.t 25) (.t 31) (.c (.bool false)))] (cd 32 (sr [oW 33 0,oW 4 33] .ret) .skip)) (.seq (rf 2 [oN 34 (.nO 1 Kt 0 []),oK 35 2 (oV 0),oK 36 2 (oV 5),oK 37 2 (.slice 1 (.t 35) none (some (.t 36))),oK 38 1 (.app 1 8 (.t 34) (.t 37)),oK 6 2 (oV 38)]) (.seq (rf 2 [oK 39 2 (oV 6),oK 40 2 (oV 1),oN 41 (.nO 1 Kt 1 [(0,(.t 40))]),oK 42 1 (.app 1 8 (.t 39) (.t 41)),oK 6 2 (oV 42)]) (.seq (rf 1 [oK 43 1 (oV 6),oK 44 1 (oV 0),oK 45 1 (oV 5),oK 46 1 (.slice 1 (.t 44) (some (.t 45)) none),oN 47 (.app 1 8 (.t 43) (.t 46)),oK 4 1 (oV 47)]) .ret)))))))⟩
structure LY (T:Tb):Prop where
 hT:T 237=some H6
def Aw:Fn:=⟨1,29,[.tmp 2],(sr [oN 2 mN] (.seq (rf 1 [oN 6 (.nO 1 Kt 0 []),oK 3 1 (oV 6)]) (.seq (sr [oW 7 0,oN 8 (cl 193 [7]),oN 9 (nt 8)] (cd 9 (sr [oN 2 mN] .ret) .skip)) (.seq (sr [oW 10 0,oN 11 (ln 10),oN 12 (.qC (cI 0))] (.block 0 (.loop (sr [oN 13 (bt .lss 12 11)] (.seq (cd 13 .skip (.exit 0)) (.seq (.block 1 (.seq (rf 1 [oK 14 1 (ix 11 10 12),oK 15 1 (lT 11 14),oN 5 (.alloc I5),⟨none,none,1,.store 11 (.t 5) (.t 15),[]⟩]) (.seq (sr [oN 16 (fd 0 5),oN 17 (lF 1 16),oN 18 (bc .gtr 17 0)] (cd 18 (rg [oW 19 3,oN 20 (fd 0 5),oN 21 (lF 1 20),oN 22 (cl 237 [19,21]),oW 3 22]) .skip)) (rg [oW 23 3,oN 24 (fd 1 5),oN 25 (lF 1 24),oN 26 (cl 237 [23,25]),oW 3 26])))) (rg [oN 27 (bc .add 12 1),oW 12 27]))))))) (sr [oW 28 3,oW 2 28] .ret)))))⟩
structure ED (T:Tb):Prop where
 hT:T 222=some Aw
 Gf:Bl T
 Ro:LY T
def Az:Fn:=⟨1,34,[.tmp 2],(sr [oN 2 mN] (.seq (rf 1 [oN 7 (.nO 1 Kt 0 []),oK 3 1 (oV 7)]) (.seq (sr [oN 4 (.qC (cI 1))] (.block 0 (.loop (.seq (sr [oW 8 4,oN 9 (bc .lss 8 10)] (cd 9 .skip (.exit 0))) (.seq (.block 1 (sr [oW 12 0,oN 13 (ln 12),oN 14 (.qC (cI 0))] (.block 2 (.loop (sr [oN 15 (bt .lss 14 13)] (.seq (cd 15 .skip (.exit 2)) (.seq (.block 3 (.seq (rf 1 [oK 16 1 (ix 11 12 14),oK 17 1 (lT 11 16),oN 6 (.alloc I5),⟨none,none,1,.store 11 (.t 6) (.t 17),[]⟩]) (sr [oN 18 (fd 0 6),oN 19 (lF 1 18),oW 20 4,oN 21 (bt .eql 19 20),oW 22 21,oG 22 false 23 (fd 1 6),oG 22 false 24 (lF 1 23),oG 22 false 25 (oV 4),oG 22 false 26 (bt .eql 24 25),oN 27 (.pick (.t 22) (.c (.bool true)) (.t 26))] (cd 27 (.seq (rf 2 [oK 28 2 (oV 3),oK 29 2 (oV 4),oN 30 (.nO 1 Kt 1 [(0,(.t 29))]),oK 31 1 (.app 1 8 (.t 28) (.t 30)),oK 3 2 (oV 31)]) (.exit 2)) .skip)))) (rg [oN 32 (bc .add 14 1),oW 14 32])))))))) (rg [oW 10 4,oN 11 (bc .add 10 1),oW 4 11])))))) (sr [oW 33 3,oW 2 33] .ret))))⟩
structure vU (T:Tb):Prop where
 hT:T 180=some Az
theorem aes{T:Tb}(h:LY T){l:List Int}{n:Int}(hl:l.length<=100000000:=by exact rF):PF T 237 [ints l,iv n] (ints (IJ l n)):=by
 refine kX nR h.hT ?_;simp only [H6,Lz];refine ev ?_;refine kZ (fun _ _=>false) (α:=Nat) (fun i=>⟨mJ [ints l,iv n,.any,.any,.kC,iv (i:Nat)],[],0,0,[],[]⟩) (fun i=>i<=l.length/\∀j,j<i->l.getD j 0<n) (fun i=>l.length-i) rfl 0 ?_ ?_ ?_
 ·exact⟨by omega,by intro j hj;omega⟩
 ·(refine kS ?_;exact Kr)
 rintro i ⟨hi,hj⟩;refine ev ?_;by_cases hc:(i:Int)<(l.length:Nat)
 ·by_cases hx:l.getD i 0<n
  ·refine xP @hc @hx ?_;refine⟨i+1,by omega,⟨by omega,fun j hj'=>?_⟩,by (refine kS ?_;exact Kr)⟩;by_cases e:j=i
   ·subst e;exact hx
   exact hj j (by omega)
  rw [aio hi hj fun _=>hx];by_cases he:l.getD i 0=n
  ·refine ev4 @hc @hx @he @Int.lt_irrefl ?_;rw [aQ (by omega)];exact kR _
  rw [aN fun k=>he k.2];have hd:¬l.drop i=[]:=by
   intro e;have:=congrArg List.length e;simp at this;omega
  have ld:(l.drop i).length=l.length-i:=by simp
  have lt:(l.take i).length=i:=by simp;omega
  obtain⟨d,hde⟩:∃d,l.drop i=d:=⟨_,rfl⟩;obtain⟨t,hte⟩:∃t,l.take i=t:=⟨_,rfl⟩;refine Dw @hc @hx @he ?_;rw [hde]at hd ld ⊢;rw [hte]at lt ⊢;simp only [NU];refine⟨fun e=>?_,fun e=>?_⟩
  ·subst e;refine⟨by omega,fun k=>absurd k hd,fun _=>⟨by omega,?_⟩⟩;simp only [EVi];refine ev1 @EVi ?_;exact kR _
  refine⟨by omega,by omega,?_⟩;simp only [EVi];refine ev1 @EVi ?_;refine⟨fun k=>absurd (NU.1 k) hd,fun _=>⟨by simp;omega,?_⟩⟩;rw [cO];exact kR _
 have ei:i=l.length:=by omega
 subst ei;rw [aio (aJ _) hj fun h=>absurd h (jg _),aN fun h=>jg _ h.1];simp only [bI,jA];refine xP @hc @List.drop_length.{0} ?_;simp only [NU];refine⟨fun e=>?_,fun e=>⟨by omega,by omega,?_⟩⟩
 ·subst e;refine⟨by omega,?_⟩;simp only [EVi];refine ev1 @EVi ?_;exact kR _
 simp only [EVi];refine ev1 @EVi ?_;exact⟨fun _=>kR _,fun k=>absurd (by simp [kU]) k⟩
def SH(out:List Int)(l:Lk):List Int:=IJ (if 0<l.a then IJ out l.a else out) l.b
def AA(l:List Lk)(i:Nat):List Int:=(l.take i).foldl SH []
theorem Us(l:List Lk):AA l 0=[]:=by simp [AA]
theorem Ut(l:List Lk){i:Nat}(h:i<l.length):AA l (i+1)=SH (AA l i) (l.getD i default):=by
 unfold AA;rw [iY,ak h,aj,ak h];simp only [Option.toList,Option.getD,jZ,iE,jf]
theorem agE(out:List Int)(l:Lk):(SH out l).length<=out.length+2:=by
 unfold SH;have h1:=YS (if 0<l.a then IJ out l.a else out) l.b;have h2:=YS out l.a;split at h1<;>(split<;>omega)
theorem agF(l:List Lk){i:Nat}(h:i<=l.length):(AA l i).length<=2*i:=by
 induction i with
 |zero=>simp [Us]
 |
  succ i ih =>
  rw [Ut l h];have:=ih (by omega);have:=agE (AA l i) (l.getD i default);omega
def SI(l:List Lk):List Int:=if lN l=true then AA l l.length else []
theorem agG{T:Tb}(h:ED T){l:List Lk}(hw:DR Lk.wf l:=by exact rF)(hl:l.length<=1048576:=by exact rF):PF T 222 [nZ l] (ints (SI l)):=by
 have ci:=Ur h.Gf hw
 cases hb:lN l
 ·rw [hb]at ci;rw [show SI l=[]from by unfold SI;rw [hb];rfl];refine kX nR h.hT ?_;simp only [Aw,Lz];refine ev ?_;refine jK ci ?_;refine ev ?_;exact gV (qg 1)
 rw [hb]at ci;rw [show SI l=AA l l.length from by unfold SI;rw [hb];rfl];refine kX nR h.hT ?_;simp only [Aw,Lz];refine ev ?_;refine jK ci ?_;refine ev ?_;refine kZ (fun _ _=>false) (α:=Nat) (fun i=>⟨mJ [.any,.any,.kC,ints (AA l i),.any,.any,.any,.any,.any,.any,nZ l,iv (l.length:Nat),iv (i:Nat)],[],0,0,[],[]⟩) (fun i=>i<=l.length) (fun i=>l.length-i) rfl 0 ?_ ?_ ?_
 ·omega
 ·rw [Us,show ints []=.sl 1 []from rfl];exact abY
 intro i hi;have hnl:=agF l hi;refine ev ?_;refine lG (fun hc=>?_) fun hc=>?_<;>(refine xP @hc @mg ?_;try with_reducible exact aC)
 ·have hil:i<l.length:=by omega
  have es:=Ut l hil;unfold SH at es;have c1:=aes h.Ro (l:=AA l i) (n:=(l.getD i default).a) (by omega);have c2:=aes h.Ro (l:=if 0<(l.getD i default).a then IJ (AA l i) (l.getD i default).a else AA l i) (n:=(l.getD i default).b) (by
   have:=YS (AA l i) (l.getD i default).a;split<;>omega)
  rw [<-es]at c2;by_cases ha:0<(l.getD i default).a
  ·rw [aQ ha]at c2;refine ev1 @ha ?_;refine jK c1 ?_;refine ev ?_;refine jK c2 ?_;refine ev ?_;exact⟨i+1,by omega,by omega,by exact abY⟩
  rw [aN ha]at c2;refine ev1 @ha ?_;refine jK c2 ?_;refine ev ?_;exact⟨i+1,by omega,by omega,by exact abY⟩
 have:i=l.length:=by omega
 subst this;exact kR _
def ends(l:List Lk)(v:Int):Bool:=l.any fun x=>decide (x.a=v)||decide (x.b=v)
def zM(l:List Lk)(v:Nat):List Int:=((List.range v).filter fun (u:Nat)=>decide (1<=u)&&ends l u).map fun u=>((u:Nat):Int)
theorem aeu(l:List Lk):zM l 1=[]:=by simp [zM]
theorem aev(l:List Lk){v:Nat}(h:1<=v):zM l (v+1)=zM l v++(if ends l v=true then [((v:Nat):Int)]else []):=by
 unfold zM;rw [iV,List.filter_append,bU]
 congr 1
 simp only [List.filter_cons,List.filter_nil,aT h,cZ];split<;>rfl
theorem SK(l:List Lk)(v:Nat):(zM l v).length<=v:=by
 unfold zM;rw [aV];have:=jY (fun (u:Nat)=>decide (1<=u)&&ends l u) (List.range v);rw [jM]at this;exact this
theorem Oa{l:List Lk}{v:Int}{k:Nat}(hk:k<l.length)(h:(l.getD k default).a=v\/(l.getD k default).b=v):ends l v=true:=by
 unfold ends;rw [List.any_eq_true];exact⟨_,getD_mem hk,by simpa using h⟩
theorem YT{l:List Lk}{v:Int}(h:∀k,k<l.length->(l.getD k default).a≠v/\(l.getD k default).b≠v):ends l v=false:=by
 unfold ends;rw [List.any_eq_false];intro x hx;obtain⟨k,hk⟩:=bJ.1 hx;have hlt:=(aP.1 hk).1;have:=h k hlt;rw [aj,hk]at this;simpa using this
theorem azw{a b:St}(h:Fg a b:=by
 (simp only [<-Ad];refine KH (k:=3) (DU _ _) rfl ?_;(try (refine ev ?_;try with_reducible exact aC));(repeat' (first|exact aC|omega|exact DT (by simp) (by simp) (by simp)|refine⟨?_,?_⟩|exact pW rfl (by simp))))):Fg a b:=h
theorem agH{T:Tb}(h:vU T){l:List Lk}(hw:DR Lk.wf l:=by exact rF):PF T 180 [nZ l] (ints (zM l 10)):=by
 have hlen:=hw.1;refine kX nR h.hT ?_;simp only [Az,Lz];refine ev ?_;refine kZ (fun _ _=>false) (α:=Nat×List Int) (fun q=>⟨mJ [nZ l,.any,.kC,slV q.2.length,iv (q.1:Nat)],slS 1 (kU q.2),0,0,[],[]⟩) (fun q=>1<=q.1/\q.1<=10/\q.2=zM l q.1) (fun q=>10-q.1) rfl (1,[]) ?_ ?_ ?_
 ·exact⟨by omega,by omega,(aeu l).symm⟩
 ·exact abY
 rintro⟨v,xs⟩ ⟨h1,h2,hx0⟩;dsimp only at h1 h2 hx0;have hx:xs.length<=10:=by rw [hx0];have:=SK l v;omega
 have es:=aev l h1;rw [<-hx0]at es
 (rcases xs with _|⟨x,xs⟩<;>simp only [aG,au,xG,wF,qE,oD]at hx ⊢)
 ·refine ev ?_;refine lG (fun hc=>?_) fun hc=>?_<;>(refine ev1 @hc ?_;try with_reducible exact aC)
  ·refine kZ (fun _ _=>false) (α:=Nat) (fun k=>⟨mJ [nZ l,.any,.kC,.kC,iv (v:Nat),.any,.any,.any,.any,.any,.any,.any,nZ l,iv (l.length:Nat),iv (k:Nat)],[],0,0,[],[]⟩) (fun k=>k<=l.length/\∀r,r<k->(l.getD r default).a≠(v:Nat)/\(l.getD r default).b≠(v:Nat)) (fun k=>l.length-k) rfl 0 ?_ ?_ ?_
   ·exact⟨by omega,by intro j hj;omega⟩
   ·(refine kS ?_;exact Kr)
   rintro k ⟨hk,hr⟩;refine ev ?_;refine lG (fun hd=>?_) fun hd=>?_<;>(refine xP @hd @mg ?_;try with_reducible exact aC)
   ·have hkl:k<l.length:=by omega
    by_cases ha:(l.getD k default).a=(v:Nat)
    ·rw [Oa hkl (.inl ha)]at es;refine ev1 @ha ?_;exact⟨by omega,(v+1,([])++[((v:Nat):Int)]),by dsimp only;omega,⟨by dsimp only;omega,by dsimp only;omega,es.symm⟩,by exact Kv⟩
    by_cases hb:(l.getD k default).b=(v:Nat)
    ·rw [Oa hkl (.inr hb)]at es;refine xP @ha @hb ?_;exact⟨by omega,(v+1,([])++[((v:Nat):Int)]),by dsimp only;omega,⟨by dsimp only;omega,by dsimp only;omega,es.symm⟩,by exact Kv⟩
    refine xP @ha @hb ?_;refine⟨k+1,by omega,⟨by omega,fun r hr'=>?_⟩,by exact abY⟩;by_cases e:r=k
    ·subst e;exact⟨ha,hb⟩
    exact hr r (by omega)
   rw [YT fun r hr'=>hr r (by omega),aN (by simp),aU]at es;exact⟨(v+1,[]),by dsimp only;omega,⟨by dsimp only;omega,by dsimp only;omega,es.symm⟩,by exact abY⟩
  have ev:v=10:=by omega
  subst ev;rw [<-hx0];exact gV (qg 1)
 refine ev ?_;refine lG (fun hc=>?_) fun hc=>?_<;>(refine ev1 @hc ?_;try with_reducible exact aC)
 ·refine kZ (fun _ _=>false) (α:=Nat) (fun k=>⟨mJ [nZ l,.any,.kC,.lQ 0 0 (x::xs).length,iv (v:Nat),.any,.any,.any,.any,.any,.any,.any,nZ l,iv (l.length:Nat),iv (k:Nat)],[some ⟨1,kU (x::xs)⟩],0,0,[],[]⟩) (fun k=>k<=l.length/\∀r,r<k->(l.getD r default).a≠(v:Nat)/\(l.getD r default).b≠(v:Nat)) (fun k=>l.length-k) rfl 0 ?_ ?_ ?_
  ·exact⟨by omega,by intro j hj;omega⟩
  ·(refine kS ?_;exact Kr)
  rintro k ⟨hk,hr⟩;refine ev ?_;refine lG (fun hd=>?_) fun hd=>?_<;>(refine xP @hd @mg ?_;try with_reducible exact aC)
  ·have hkl:k<l.length:=by omega
   by_cases ha:(l.getD k default).a=(v:Nat)
   ·rw [Oa hkl (.inl ha)]at es;refine ev1 @ha ?_;exact⟨by omega,(v+1,(x::xs)++[((v:Nat):Int)]),by dsimp only;omega,⟨by dsimp only;omega,by dsimp only;omega,es.symm⟩,by exact azw⟩
   by_cases hb:(l.getD k default).b=(v:Nat)
   ·rw [Oa hkl (.inr hb)]at es;refine xP @ha @hb ?_;exact⟨by omega,(v+1,(x::xs)++[((v:Nat):Int)]),by dsimp only;omega,⟨by dsimp only;omega,by dsimp only;omega,es.symm⟩,by exact azw⟩
   refine xP @ha @hb ?_;refine⟨k+1,by omega,⟨by omega,fun r hr'=>?_⟩,by exact abZ⟩;by_cases e:r=k
   ·subst e;exact⟨ha,hb⟩
   exact hr r (by omega)
  rw [YT fun r hr'=>hr r (by omega),aN (by simp),aU]at es;exact⟨(v+1,x::xs),by dsimp only;omega,⟨by dsimp only;omega,by dsimp only;omega,es.symm⟩,by exact abZ⟩
 have ev:v=10:=by omega
 subst ev;rw [<-hx0];exact kR _
end Go.Ml
end
