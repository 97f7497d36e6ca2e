/- Contracts of functions. -/
import Derived.Test.YtpcfblijjoomgaaGreatPart1
set_option linter.unusedSimpArgs false
set_option linter.unusedVariables false
set_option maxRecDepth 100000
set_option maxHeartbeats 16000000
section
namespace Go.Ml
def axJ(σ:Store)(r:V)(ts:List (Bool×V)):Prop:=∃W σ2 vs os,ReS W σ σ2/\yu W σ r (.oJ vs)/\VQ σ2 vs ts os/\os.Nodup
theorem SE{T:Tb}{f:Nat}{F:Fn}{args:List V}{ts:List (Bool×V)}(rf:Nat->Nat->Bool)(hT:T f=some F)
  (h:wp T rf F.body (fun e st=>endW F.res e (fun r σ=>afl σ r ts\/axJ σ r ts) st) (St.enter args [])) (hl:args.length=F.nargs:=by rfl) (hk:F.body.okC=true:=by rfl):PX T f args ts:=by
 obtain⟨r,σ',h1,h2⟩:=run_end rf hT h hl hk;rcases h2 with ⟨vs,os,h2,h3,h4⟩|⟨W,σ2,vs,os,h2,h3,h4,h5⟩
 ·exact⟨vs,σ',os,.aau (yH _) h1 h2,h3,h4⟩
 exact⟨vs,σ2,os,.reF W (yH _) h1 h2 h3,h4,h5⟩
theorem apv{σ:Store}{v w t u:V}{os:List Nat}(h:mJ σ v t os)(hn:os.Nodup)(hr:resolve σ FD w=some u):afl σ (.oJ [v,w]) [(true,t),(false,u)]:=by
 refine⟨[v,w],os,kM _,?_,hn⟩;simp only [VQ,if_true,bG,if_false];exact⟨v,[w],os,[],rfl,by simp,h,w,[],[],[],rfl,rfl,⟨hr,rfl⟩,rfl,rfl⟩
theorem ZU(l:List Int):trim l=l.take (trim l).length/\(trim l).length<=l.length:=by
 have h:=acK l l.length;have e2:(trim l).length=xM l l.length:=by unfold trim;rw [fD];omega
 exact⟨by rw [e2];rfl,by omega⟩
theorem apw{Q:List Int}{n:Nat}(h:n<=Q.length):ReS [some (0,0,n)] [some ⟨1,kR Q⟩] [some ⟨1,kR (Q.take n)⟩]:=by
 refine⟨rfl,fun i j o s l s' l' h1 h2=>?_,fun k o s l hk=>?_,fun k hk=>?_⟩
 ·cases i with
  |
   zero=>cases j with
   |zero=>rfl
   |succ j=>simp at h2
  |succ i=>simp at h1
 ·cases k with
  |succ k=>simp at hk
  |
   zero =>
   simp only [jL,aB,Prod.mk.injEq]at hk;obtain⟨rfl,rfl,rfl⟩:=hk;refine⟨⟨1,kR Q⟩,⟨1,kR (Q.take n)⟩,rfl,by rw [Fb];omega,rfl,rfl,by rw [Fb,fD];omega,fun i r r2 h1 h2=>?_⟩;have hi:i<n:=by
    have:=(aP.1 h2).1;rw [Fb,fD]at this;omega
   have e:r2=r:=by
    rw [aV]at h1;simp only [kR,bM]at h1 h2;rw [jJ hi,h1]at h2;exact(Option.some.inj h2).symm
   subst e;refine Jf fun v hv=>wX Q r2 ?_ v hv;exact bg h1
 cases k<;>simp at hk
theorem alh{Q:List Int}{n:Nat}{t u:V}(h:n<=Q.length)(ht:t=ints (Q.take n))(hu:u.still=true):axJ [some ⟨1,kR Q⟩] (.oJ [.lG 0 0 n,u]) [(true,t),(false,u)]:=by
 subst ht;refine⟨[some (0,0,n)],[some ⟨1,kR (Q.take n)⟩],[.lG 0 0 n,u],[0],apw h,?_,?_,by simp⟩
 ·simp only [yu,Ad];exact⟨_,rfl,_,_,rfl,.inl ⟨0,0,n,rfl,aK _,by omega,rfl⟩,_,_,rfl,Je hu,rfl⟩
 simp only [VQ,if_true,bG,if_false];refine⟨_,[u],[0],[],rfl,rfl,?_,u,[],[],[],rfl,rfl,⟨ZE (n:=11) hu,rfl⟩,rfl,rfl⟩;have:=SA (σ:=[some ⟨1,kR (Q.take n)⟩]) (o:=0) (l:=Q.take n) rfl
 rwa [fD,Nat.min_eq_left h]at this
theorem I5(g:Nat->Option Nat)(l:List Int):qK g ⟨1,kR l⟩=⟨1,kR l⟩:=by
 unfold qK
 congr 1
 simp only [kR,fG];rfl
theorem UG{T:Tb}{f:Nat}{as:List Src}{dst:Option Nat}{env:Nat->V}{σ:Store}{kp bs:Nat}{rs ms:List Nat}{k:St->Prop}{ρ:List Nat}{as':List V}{r:V}{σ':Store}(hn:ρ.Nodup)
  (hρ:∀o,o∈ρ->∃l,jX σ o=some ⟨1,kR l⟩) (ha:(as.map fun s=>lD (place ρ) (s.ev env))=as') (hr:Run T (.fn f as' (Hl ρ σ)) (.fn r σ'))
  (hold:∀q,q<ρ.length->jX σ' q=jX (Hl ρ σ) q) (hk:∀σ2:Store,(∀q,q<σ.length->jX σ2 q=jX σ q)->σ.length<=σ2.length->k ⟨oh env dst (lD (back ρ σ.length) r),σ2,kp,bs,rs,ms⟩) :
  Qj T f as dst ⟨env,σ,kp,bs,rs,ms⟩ k:=by
 subst ha;refine⟨_,.ref ρ hn (fun o ho=>by obtain⟨l,h⟩:=hρ o ho;rw [h];rfl) hr,?_⟩;refine hk _ (fun q hq=>?_) (by simp [uw]);have e1:jX (uw ρ σ σ') q=((σ.mapIdx fun o ob=>match place ρ o with
   |some j=>(jX σ' j).map (qK (back ρ σ.length))
   |none=>ob)[q]?).getD none:=by
  show ((uw ρ σ σ')[q]?).getD none=_;unfold uw;rw [bJ (by simpa using hq)];rfl
 show jX (uw ρ σ σ') q=_;rw [e1,jY,au hq];simp only [dh,jA]
 cases hp:place ρ q with
 |none=>simp [jX,au hq]
 |
  some j =>
  have hj:=rP hp;have hlt:=(aP.1 hj).1;simp only [];rw [hold j hlt,Ll,hj];obtain⟨l,hl⟩:=hρ q (bg hj);simp only [hl,dh,I5]
end Go.Ml
namespace Go.Ml
theorem aa4{L:Nat}{d e:ql}{i:Nat}{R:List Nat}{b:Acc}(hw:∀w∈b.W,w∉R)(h:wz L d e ⟨i,[],[],true⟩ b=true):wz L d e ⟨i,R,[],true⟩ b=true:=by
 simp only [wz,aH]at h ⊢;obtain⟨⟨⟨⟨h1,h2⟩,h3⟩,h4⟩,h5⟩:=h;refine⟨⟨⟨⟨h1,h2⟩,?_⟩,h4⟩,?_⟩
 ·rw [aX];intro w hw';simpa using hw w hw'
 unfold AQ at h5 ⊢;simpa using h5
theorem aa5{L:Nat}{d e:ql}{i:Nat}{R:List Nat}{b:Acc}(hw:∀w∈b.W,w∉R)(h:wz L d e b ⟨i,[],[],true⟩=true):wz L d e b ⟨i,R,[],true⟩=true:=by
 simp only [wz,aH]at h ⊢;obtain⟨⟨⟨⟨h1,h2⟩,h3⟩,h4⟩,h5⟩:=h;refine⟨⟨⟨⟨h1,?_⟩,h3⟩,?_⟩,h5⟩
 ·rw [aX];intro w hw';simpa using hw w hw'
 unfold AQ at h4 ⊢;simpa using h4
theorem ac2{L:Nat}{B:Nat->List Nat}{ops:List ql}{i:Nat}{R:List Nat}:∀(pre post:List Acc),(∀b∈pre++post,∀w∈b.W,w∉R)->okA L B ops (pre++⟨i,[],[],true⟩::post)=true->okA L B ops (pre++⟨i,R,[],true⟩::post)=true
 |
  [],post,hw,h=>by
  simp only [iW,okA,aH,aX,dQ]at h ⊢;refine⟨fun b hb=>?_,h.2⟩;rcases h.1 b hb with k|k
  ·exact .inl k
  exact .inr (aa4 (hw b (by simpa using hb)) k)
 |
  a::pre,post,hw,h=>by
  simp only [dL,okA,aH,aX,dQ]at h ⊢;refine⟨fun b hb=>?_,ac2 pre post (fun b hb=>hw b (by simp only [dL,aI];exact .inr hb)) h.2⟩;rcases aN.1 hb with hb|hb
  ·exact h.1 b (iw _ hb)
  rcases aI.1 hb with rfl|hb
  ·rcases h.1 ⟨i,[],[],true⟩ (by simp)with k|k
   ·exact .inl k
   exact .inr (aa5 (hw a (by simp)) k)
  exact h.1 b (eP _ (fH _ hb))
theorem ali{L:Nat}{ops:List ql}{i:Nat}{R:List Nat}(pre post:List Acc)(hw:∀b∈pre++post,∀w∈b.W,w∉R)(h:rO L ops (pre++⟨i,[],[],true⟩::post)):rO L ops (pre++⟨i,R,[],true⟩::post):=by
 unfold rO at h ⊢;simp only [List.reverse_append,List.reverse_cons,cO,List.singleton_append]at h ⊢;exact ac2 _ _ (fun b hb=>hw b (by rcases aN.1 hb with h|h<;>simp at h<;>simp [h])) h
theorem afm{σ:Store}{v:V}{l:List Int}{os:List Nat}(h:mJ σ v (ints l) os):∀n,∀o∈reach σ n v,o∈os:=by
 intro n o ho;rcases h.zG with ⟨_,rfl,_⟩|⟨q,rfl,h1,rfl⟩
 ·cases n<;>simp [reach]at ho
 cases n with
 |zero=>simp [reach]at ho
 |
  succ n =>
  simp only [reach,h1,aI,fU]at ho;rcases ho with rfl|⟨r,hr,c,hc,ho⟩
  ·simp
  have hs:=wX l r hr c hc
  cases n with
  |zero=>simp [reach]at ho
  |succ n=>rw [JL hs]at ho;cases ho
theorem Ag{σ:Store}{n:Nat}{cs:List V}{o:Nat}:o∈reach σ (n+1) (.agg cs)↔∃c∈cs,o∈reach σ n c:=by
 simp [reach,fU]
theorem xk{T:Tb}{f:Nat}{as:List Src}{dst:Option Nat}{env:Nat->V}{σ:Store}{kp bs:Nat}{rs ms:List Nat}{k:List Nat->List Nat->Bool->St->Prop}{as':List V}{t:V}(P:Nat->Prop)(h:PO T f as' t)
  (ha:Ls env σ as (· = as')) (hr:∀o∈nJ env σ as,P o) (hk:∀R r σ2 os,(∀o∈R,P o)->Got σ σ2 r t os->k R [] true ⟨oh env dst r,σ2,kp,bs,rs,ms⟩):Y5 T f as dst ⟨env,σ,kp,bs,rs,ms⟩ k :=
 Sz h ha fun r σ2 os g=>hk _ r σ2 os hr g
end Go.Ml
namespace Go.Ml
theorem ac3{L L':Nat}(hL:L'<=L){d e:ql}{a b:Acc}(h:wz L' d e a b=true):wz L d e a b=true:=by
 have hb:∀a b:Acc,AQ L' a b=true->AQ L a b=true:=by
  intro a b h;unfold AQ at h ⊢;simp only [dQ,aH,iI,aX,bf]at h ⊢;rcases h with h|⟨⟨h1,h2⟩,h3⟩
  ·exact .inl h
  exact .inr ⟨⟨h1,fun o ho=>bn (h2 o ho) hL⟩,fun o ho=>bn (h3 o ho) hL⟩
 simp only [wz,aH]at h ⊢;exact⟨⟨h.1.1,hb _ _ h.1.2⟩,hb _ _ h.2⟩
theorem ac4{L L':Nat}(hL:L'<=L){B:Nat->List Nat}{ops:List ql}:∀l:List Acc,okA L' B ops l=true->okA L B ops l=true
 | [],_=>rfl
 |
  a::l,h=>by
  simp only [okA,aH,aX,dQ]at h ⊢;refine⟨fun b hb=>?_,ac4 hL l h.2⟩;rcases h.1 b hb with k|k
  ·exact .inl k
  exact .inr (ac3 hL k)
theorem Ji{L L':Nat}{ops:List ql}{l:List Acc}(hL:L'<=L)(h:rO L' ops l):rO L ops l:=ac4 hL _ h
theorem Fv{L:Nat}{ops:List ql}(aF:List Nat->List Acc)(Q:List Nat->Prop)(m i:Nat)(h1:(aF [])[m]? = some ⟨i,[],[],true⟩)(h2:∀R,aF R=(aF []).set m ⟨i,R,[],true⟩)
  (hw:∀R,Q R->∀b∈aF [],∀w∈b.W,w∉R) (h:rO L ops (aF [])):∀R,Q R->rO L ops (aF R):=by
 intro R hR;have hlt:=(aP.1 h1).1;have e:aF []=(aF []).take m++⟨i,[],[],true⟩::(aF []).drop (m+1):=by
  conv=>lhs;rw [<-iD m (aF []),dH hlt]
  rw [(aP.1 h1).2]
 have e2:aF R=(aF []).take m++⟨i,R,[],true⟩::(aF []).drop (m+1):=by
  rw [h2,List.set_eq_take_append_cons_drop,aQ hlt]
 rw [e2];refine ali _ _ (fun b hb=>hw R hR b ?_) (e▸h);rcases aN.1 hb with h|h
 ·exact dM h
 exact gq h
theorem Ep.push{s:Store}{cs ts:List V}{os:List Nat}{L:List (Nat×Obj)}{ob:Obj}(E:Ep s cs ts os L):Ep (s++[some ob]) cs ts os (L++[(s.length,ob)]):=by
 refine⟨E.c.snoc,fun q hq=>?_⟩;rcases aN.1 hq with hq|hq
 ·exact E.snoc.l q hq
 simp only [aI,dD,or_false]at hq;subst hq;exact⟨tZ _ _,fun hm=>absurd (E.c.lt _ hm) (jr _)⟩
theorem Ep.reach{s:Store}{cs ts:List V}{os:List Nat}{L:List (Nat×Obj)}(E:Ep s cs ts os L)(c:Nat){v:V}{l:List Int}(hv:cs[c]? = some v)(ht:ts[c]? = some (ints l))(n:Nat):∀o∈reach s n v,o∈os:=by
 intro o ho;obtain⟨vc,oc,j1,j2,_,j4,_⟩:=E.c.ow.focus c _ E.c.nd ht;rw [hv]at j1
 cases j1
 exact j4 o (afm j2 n o ho)
theorem atM{σ:Store}{c9 d3 e3 t9 u3 v3:List V}{os:List Nat}{n m:Int}{b:Bool}(h:ni σ (c9++(d3++e3)) (t9++(u3++v3)) os)(hl:c9.length=t9.length)(hl2:d3.length=u3.length)(hn:os.Nodup) :
  Fin σ (.oJ [.agg (.int .i64 n::.int .i64 m::c9),.agg e3,.bool b]) (.oJ [.agg (.int .i64 n::.int .i64 m::t9),.agg v3,.bool b]):=by
 obtain⟨a1,a2,o1,o2,e,rfl,h1,h2⟩:=pF h;obtain⟨rfl,rfl⟩:=fJ e (by rw [hl];exact h1.len.symm);obtain⟨a3,a4,o3,o4,e,rfl,h3,h4⟩:=pF h2;obtain⟨rfl,rfl⟩:=fJ e (by rw [hl2];exact h3.len.symm);refine wZ (os:=o1++o4) (JO (qJ (qV (IG (IG h1))) ?_)) ?_
 ·have:=qJ (qV h4) (rM (b:=b) (σ:=σ) qB)
  rwa [aW]at this
 refine hn.sublist ?_;exact List.Sublist.append (List.Sublist.refl _) (List.sublist_append_right _ _)
theorem Got.ag3{σ σ2:Store}{r:V}{x:Lk}{y:R}{b:Bool}{os:List Nat}(g:Got σ σ2 r (.oJ [RN x,kW y,.bool b]) os):∃c3 c4 c6 c7 c9 c10 e1 e2,r=.oJ [.agg [iv x.a,iv x.b,.bool x.w.neg,c3,c4,.bool x.dx.neg,c6,c7,.bool x.dy.neg,c9,c10],.agg [.bool y.neg,e1,e2],.bool b] /\
  ni σ2 [iv x.a,iv x.b,.bool x.w.neg,c3,c4,.bool x.dx.neg,c6,c7,.bool x.dy.neg,c9,c10,.bool y.neg,e1,e2] (x.cells++y.cells) os:=by
 obtain⟨v,w,rfl,g2⟩:=g.aCw;obtain⟨cs,e,h⟩:=g2.ow.lJ
 cases e
 obtain⟨v1,vs,o1,o2,e1,rfl,h1,h2⟩:=h.inv
 cases e1
 obtain⟨w1,vs2,o3,o4,e1,rfl,h3,h4⟩:=h2.inv
 cases e1
 obtain⟨_,rfl⟩:=h4.Dt;obtain⟨c,rfl,h5⟩:=h1.lJ;obtain⟨e,rfl,h6⟩:=h3.lJ;obtain⟨c3,c4,c6,c7,c9,c10,rfl⟩:=h5.lk;obtain⟨e1,e2,rfl⟩:=h6.rat
 refine⟨c3,c4,c6,c7,c9,c10,e1,e2,rfl,?_⟩;rw [aW];exact nG h5 h6
abbrev Gd:=Nat->Nat->Bool
def Ku(g:Gd)(i j:Nat)(b:Bool):Gd:=fun x y=>if x=i/\y=j then b else g x y
def gz:Gd:=fun _ _=>false
def grow(g:Gd)(a:Nat):List (List V):=(List.range 10).map fun j=>[.bool (g a j)]
theorem alj{g:Gd}{a j:Nat}{b:Bool}:(grow g a).set j [.bool b]=grow (Ku g a j b) a:=by
 apply fP
 intro n;rw [fB];simp only [grow,bM,aU,jG];by_cases hn:n<10
 ·rw [dJ hn];by_cases e:j=n
  ·rw [aQ e,aQ (by omega)];simp only [dh,Ku];rw [aQ (by simp [e])]
  rw [aO e];simp only [dh,Ku];rw [aO (by omega)]
 rw [aZ (by simp;omega)];split
 ·split
  ·omega
  rfl
 rfl
theorem apx{g:Gd}{a c j:Nat}{b:Bool}(h:c≠a):grow (Ku g a j b) c=grow g c:=by
 unfold grow Ku
 apply fZ
 intro k _;rw [aO (by omega)]
def onR(b:Nat):List (List V):=(List.range 10).map fun i=>[.lG (b+i) 0 10]
def gst(g:Gd):Store:=some ⟨1,[[.lG 1 0 10]]⟩::some ⟨1,onR 2⟩::(List.range 10).map fun a=>some ⟨1,grow g a⟩
theorem ag4(g:Gd):(gst g).length=12:=by simp [gst]
structure Kv (s:Store) (b:Nat) (g:Gd):Prop where
 p:jX s b=some ⟨1,[[.lG (b+1) 0 10]]⟩
 on:jX s (b+1)=some ⟨1,onR (b+2)⟩
 row:∀a,a<10->jX s (b+2+a)=some ⟨1,grow g a⟩
theorem apy{g:Gd}{a:Nat}(ha:a<10):jX (gst g) (2+a)=some ⟨1,grow g a⟩:=by
 rw [Nat.add_comm];show ((List.range 10).map fun a=>some (⟨1,grow g a⟩:Obj))[a]?.getD none=_;rw [bM,dJ ha];rfl
theorem Kv.lt{s:Store}{b:Nat}{g:Gd}(h:Kv s b g):b+12<=s.length:=by
 have:=kX (h.row 9 (by omega));omega
theorem Kv.frame{s s2:Store}{b:Nat}{g:Gd}(h:Kv s b g)(hs:∀q,b<=q->q<b+12->jX s2 q=jX s q):Kv s2 b g :=
 ⟨(hs _ (by omega) (by omega)).trans h.p,(hs _ (by omega) (by omega)).trans h.on,fun a ha=>(hs _ (by omega) (by omega)).trans (h.row a ha)⟩
theorem Kv.set{s:Store}{b:Nat}{g:Gd}(h:Kv s b g){i j:Nat}{x:Bool}(hi:i<10)(hj:j<10):Kv (s.set (b+2+i) (some ⟨1,(grow g i).set j [.bool x]⟩)) b (Ku g i j x):=by
 have hl:=h.lt;refine⟨(kK (by omega)).trans h.p,(kK (by omega)).trans h.on,fun a ha=>?_⟩;by_cases e:a=i
 ·subst e;rw [kT (by omega),alj]
 rw [kK (by omega),h.row a ha,apx e]
theorem XH{f:Nat->Option Nat}{v:V}(h:v.still=true):lD f v=v:=by
 cases v<;>simp_all [V.still,lD]
theorem apz{ρ:Nat->Option Nat}{b b':Nat}(h:∀i,i<10->ρ (b+i)=some (b'+i)):qK ρ ⟨1,onR b⟩=⟨1,onR b'⟩:=by
 unfold qK onR
 congr 1
 rw [fG]
 apply fZ
 intro i hi;simp [lD,h i (eG.1 hi)]
theorem aiW(f:Nat->Option Nat)(g:Gd)(a:Nat):qK f ⟨1,grow g a⟩=⟨1,grow g a⟩:=by
 unfold qK
 congr 1
theorem I7{T:Tb}{f:Nat}{as:List Src}{dst:Option Nat}{env:Nat->V}{σ:Store}{kp bs:Nat}{rs ms:List Nat}{k:St->Prop}{as':List V}{r:V}{σ':Store}
  (h:Run T (.fn f as' []) (.fn r σ')) (ha:Ls env σ as (· = as')) (hr:nJ env σ as=[]) (hk:k ⟨oh env dst (lD (mD σ.length) r),yV σ σ',kp,bs,rs,ms⟩):Qj T f as dst ⟨env,σ,kp,bs,rs,ms⟩ k:=by
 obtain⟨as2,e,rfl⟩:=Ae ha;exact⟨_,.own e h (R:=[]) (by split;rfl;exact hr.symm),hk⟩
theorem Vz{b j:Nat}:∀n,j<n->place ((List.range n).map (b + ·)) (b+j)=some j:=by
 intro n hj;have h1:((List.range n).map (b + ·))[j]? = some (b+j):=by rw [bM,dJ hj];rfl
 have h2:((List.range n).map (b + ·)).Nodup:=by
  refine iJ.2 (List.nodup_range.imp fun hne e=>hne (by omega))
 exact PK h2 h1
def g12(b:Nat):List Nat:=(List.range 12).map (b + ·)
theorem aiX(g:Gd):gst g=(List.range 12).map fun j=>jX (gst g) j:=by
 apply fP
 intro n;rw [bM];by_cases h:n<12
 ·rw [dJ h];simp only [dh,jX];rw [au (by rw [ag4];exact h)];rfl
 rw [aZ (by rw [ag4];omega),aZ (by simp;omega)];rfl
theorem alk{ρ:Nat->Option Nat}{o o':Nat}(h:ρ o=some o'){s l:Nat}:qK ρ ⟨1,[[.lG o s l]]⟩=⟨1,[[.lG o' s l]]⟩:=by
 simp [qK,lD,h]
theorem Kv.gc{s:Store}{b:Nat}{g:Gd}(h:Kv s b g):Hl (g12 b) s=gst g:=by
 rw [aiX g];unfold Hl;rw [g12,fG]
 apply fZ
 intro j hj;have hj:=eG.1 hj;show (jX s (b+j)).map (qK (place ((List.range 12).map (b + ·))))=jX (gst g) j;by_cases h0:j=0
 ·subst h0;rw [iL,h.p];exact congrArg some (alk (Vz 12 (by omega:1<12)))
 by_cases h1:j=1
 ·subst h1;rw [h.on];refine congrArg some (apz fun i hi=>?_);rw [show b+2+i=b+(2+i) by omega];exact Vz 12 (by omega)
 obtain⟨a,rfl⟩:∃a,j=2+a:=⟨j-2,by omega⟩;rw [<-ji,h.row a (by omega),apy (by omega)];exact congrArg some (aiW _ _ _)
theorem mapM_some{α β:Type}{f:α->Option β}{h:α->β}:∀{l:List α},(∀a∈l,f a=some (h a))->l.mapM f=some (l.map h)
 | [],_=>rfl
 |
  a::l,k=>by
  rw [bU,k a (by simp),mapM_some fun x hx=>k x (by simp [hx])];rfl
theorem SG{s:Store}{o n m:Nat}{rows:List (List V)}(h:jX s o=some ⟨m,rows⟩)(hs:nN rows):resolve s (n+2) (.lG o 0 rows.length)=some (.sl m rows):=by
 rw [resolve];simp only [h,aV,aK,if_true,bZ,bK];rw [xK hs];rfl
end Go.Ml
namespace Go.Ml
theorem aiY{T:Tb}(rf:Nat->Nat->Bool){c:C}{Q:Ex->St->Prop}{st:St}(hk:c.okC=true)(h:wp T rf c (fun e st'=>aaF e (Vw T c Q st') (Q e st')) st):Vw T c Q st:=by
 obtain⟨e,st1,h1,h2⟩:=AZ hk h
 cases e with
 |
  normal =>
  obtain⟨e,st2,h4,h5⟩:=h2;exact⟨e,st2,.ajO h1 h4,h5⟩
 |exit id=>exact⟨_,_,.ab5 (by simp) h1,h2⟩
 |ret=>exact⟨_,_,.ab5 (by simp) h1,h2⟩
def II:Fn:=⟨1,33,[.tmp 2],(sr [oN 2 mF] (.seq (sr [oW 5 0,oN 6 (ln 5),oN 7 (bc .gtr 6 60)] (cd 7 (sr [oN 2 mF] .ret) .skip)) (.seq (sr [oW 8 0,oN 9 (ln 8),oN 10 (.qw (cI 0))] (.block 0 (.loop (sr [oN 11 (bt .lss 10 9)] (.seq (cd 11 .skip (.exit 0)) (.seq (.block 1 (sr [oN 12 (ix 1 8 10),oN 13 (lF 1 12),oW 4 13] (sr [oW 14 4,oN 15 (bc .lss 14 0),oW 16 15,oG 16 false 17 (oV 4),oG 16 false 18 (bc .geq 17 1000000000),oN 19 (.pick (.t 16) (.c (.bool true)) (.t 18))] (cd 19 (sr [oN 2 mF] .ret) .skip)))) (rg [oN 20 (bc .add 10 1),oW 10 20]))))))) (sr [oW 21 0,oN 22 (ln 21),oN 23 (bc .eql 22 0),oW 24 23,oG 24 false 25 (oV 0),oG 24 false 26 (oV 0),oG 24 false 27 (ln 26),oG 24 false 28 (bc .sub 27 1),oG 24 false 29 (ix 1 25 28),oG 24 false 30 (lF 1 29),oG 24 false 31 (bc .neq 30 0),oN 32 (.pick (.t 24) (.c (.bool true)) (.t 31)),oW 2 32] .ret))))⟩
structure IJ (T:Tb):Prop where
 hT:T 126=some II
def xq:Fn:=⟨1,16,[.tmp 2],(sr [oN 2 mN] (.seq (rf 1 [oN 4 (.nM 1 Oo 0 []),oK 3 1 (oV 4)]) (.seq (.block 0 (.loop (.seq (sr [oW 5 0,oN 6 (.bin .gtr (.t 5) (.c (.int .u64 0)))] (cd 6 .skip (.exit 0))) (.block 1 (.seq (rf 2 [oK 7 2 (oV 3),oK 8 2 (oV 0),oK 9 2 (.bin .rem (.t 8) (.c (.int .u64 1000000000))),oK 10 2 (.conv .i64 (.t 9)),oN 11 (.nM 1 Oo 1 [(0,(.t 10))]),oK 12 1 (.app 1 8 (.t 7) (.t 11)),oK 3 2 (oV 12)]) (rg [oW 13 0,oN 14 (.bin .quo (.t 13) (.c (.int .u64 1000000000))),oW 0 14])))))) (sr [oW 15 3,oW 2 15] .ret))))⟩
structure uP (T:Tb):Prop where
 hT:T 69=some xq
def F6:Fn:=⟨2,41,[.tmp 4],(sr [oN 4 (.qw (cI 0))] (.seq (sr [oW 6 0,oN 7 (ln 6),oW 8 1,oN 9 (ln 8),oN 10 (bt .lss 7 9)] (cd 10 (sr [oN 4 (.qw (cI (-1)))] .ret) .skip)) (.seq (sr [oW 11 0,oN 12 (ln 11),oW 13 1,oN 14 (ln 13),oN 15 (bt .gtr 12 14)] (cd 15 (sr [oN 4 (.qw (cI 1))] .ret) .skip)) (.seq (sr [oW 16 0,oN 17 (ln 16),oN 18 (bc .sub 17 1),oW 5 18] (.block 0 (.loop (.seq (sr [oW 19 5,oN 20 (bc .geq 19 0)] (cd 20 .skip (.exit 0))) (.seq (.block 1 (.seq (.seq (rt 0 [oW 23 0,oW 24 5,oA 25 0 (ix 1 23 24) [0,1],oA 26 0 (lF 1 25) [2],oW 27 1,oW 28 5,oA 29 0 (ix 1 27 28) [4,5],oA 30 0 (lF 1 29) [6],oA 31 0 (bt .lss 26 30) [3,7]]) (cd 31 (sr [oN 4 (.qw (cI (-1)))] .ret) .skip)) (.seq (rt 0 [oW 32 0,oW 33 5,oA 34 0 (ix 1 32 33) [0,1],oA 35 0 (lF 1 34) [2],oW 36 1,oW 37 5,oA 38 0 (ix 1 36 37) [4,5],oA 39 0 (lF 1 38) [6],oA 40 0 (bt .gtr 35 39) [3,7]]) (cd 40 (sr [oN 4 (.qw (cI 1))] .ret) .skip)))) (rg [oW 21 5,oN 22 (bc .sub 21 1),oW 5 22])))))) (sr [oN 4 (.qw (cI 0))] .ret)))))⟩
structure F7 (T:Tb):Prop where
 hT:T 152=some F6
def zH:Fn:=⟨1,21,[.tmp 2],(sr [oN 2 mN] (sr [oW 4 0,oN 5 (ln 4),oW 3 5] (.seq (.block 0 (.loop (.seq (sr [oW 6 3,oN 7 (bc .gtr 6 0),oW 8 7,oG 8 true 9 (oV 0),oG 8 true 10 (oV 3),oG 8 true 11 (bc .sub 10 1),oG 8 true 12 (ix 1 9 11),oG 8 true 13 (lF 1 12),oG 8 true 14 (bc .eql 13 0),oN 15 (.pick (.t 8) (.t 14) (.c (.bool false)))] (cd 15 .skip (.exit 0))) (.block 1 (rg [oW 16 3,oN 17 (bc .sub 16 1),oW 3 17]))))) (sr [oW 18 0,oW 19 3,oN 20 (.slice 1 (.t 18) none (some (.t 19))),oW 2 20] .ret))))⟩
structure xu (T:Tb):Prop where
 hT:T 151=some zH
def F8:Fn:=⟨2,53,[.tmp 4],(sr [oN 4 mN] (.seq (rf 1 [oN 8 (.nM 1 Oo 0 []),oK 5 1 (oV 8)]) (sr [oN 6 (.qw (cI 0))] (.seq (sr [oN 7 (.qw (cI 0))] (.block 0 (.loop (.seq (sr [oW 9 7,oW 10 0,oN 11 (ln 10),oN 12 (bt .lss 9 11),oW 13 12,oG 13 false 14 (oV 7),oG 13 false 15 (oV 1),oG 13 false 16 (ln 15),oG 13 false 17 (bt .lss 14 16),oN 18 (.pick (.t 13) (.c (.bool true)) (.t 17)),oW 19 18,oG 19 false 20 (oV 6),oG 19 false 21 (bc .gtr 20 0),oN 22 (.pick (.t 19) (.c (.bool true)) (.t 21))] (cd 22 .skip (.exit 0))) (.seq (.block 1 (.seq (sr [oW 25 7,oW 26 0,oN 27 (ln 26),oN 28 (bt .lss 25 27)] (cd 28 (rg [oW 29 6,oW 30 0,oW 31 7,oN 32 (ix 1 30 31),oN 33 (lF 1 32),oN 34 (bt .add 29 33),oW 6 34]) .skip)) (.seq (sr [oW 35 7,oW 36 1,oN 37 (ln 36),oN 38 (bt .lss 35 37)] (cd 38 (rg [oW 39 6,oW 40 1,oW 41 7,oN 42 (ix 1 40 41),oN 43 (lF 1 42),oN 44 (bt .add 39 43),oW 6 44]) .skip)) (.seq (rf 2 [oK 45 2 (oV 5),oK 46 2 (oV 6),oK 47 2 (bc .rem 46 1000000000),oN 48 (.nM 1 Oo 1 [(0,(.t 47))]),oK 49 1 (.app 1 8 (.t 45) (.t 48)),oK 5 2 (oV 49)]) (rg [oW 50 6,oN 51 (bc .quo 50 1000000000),oW 6 51]))))) (rg [oW 23 7,oN 24 (bc .add 23 1),oW 7 24])))))) (sr [oW 52 5,oW 4 52] .ret)))))⟩
structure Kw (T:Tb):Prop where
 hT:T 160=some F8
def Gf:Fn:=⟨2,44,[.tmp 4],(sr [oN 4 mN] (.seq (rf 1 [oK 9 1 (oV 0),oK 10 1 (ln 9),oN 11 (.make Oo 8 (.t 10)),oK 5 1 (oV 11)]) (sr [oN 6 (.qw (cI 0))] (.seq (sr [oW 12 0,oN 13 (ln 12),oN 14 (.qw (cI 0))] (.block 0 (.loop (sr [oN 15 (bt .lss 14 13)] (.seq (cd 15 .skip (.exit 0)) (.seq (.block 1 (sr [oW 16 14,oW 7 16] (sr [oW 17 0,oW 18 7,oN 19 (ix 1 17 18),oN 20 (lF 1 19),oW 21 6,oN 22 (bt .sub 20 21),oW 8 22] (.seq (sr [oW 23 7,oW 24 1,oN 25 (ln 24),oN 26 (bt .lss 23 25)] (cd 26 (rg [oW 27 8,oW 28 1,oW 29 7,oN 30 (ix 1 28 29),oN 31 (lF 1 30),oN 32 (bt .sub 27 31),oW 8 32]) .skip)) (sr [oN 6 (.qw (cI 0))] (.seq (sr [oW 33 8,oN 34 (bc .lss 33 0)] (cd 34 (sr [oW 35 8,oN 36 (bc .add 35 1000000000),oW 8 36] (rg [oN 6 (.qw (cI 1))])) .skip)) (rg [oW 37 5,oW 38 7,oW 39 8,oN 40 (ix 1 37 38),oS (.store 1 (.t 40) (.t 39))]))))))) (rg [oN 41 (bc .add 14 1),oW 14 41]))))))) (sr [oW 42 5,oN 43 (cl 151 [42]),oW 4 43] .ret)))))⟩
structure Gg (T:Tb):Prop where
 hT:T 154=some Gf
 sZ:xu T
def Gh:Fn:=⟨2,71,[.tmp 4],(sr [oN 4 mN] (.seq (sr [oW 9 0,oN 10 (ln 9),oN 11 (bc .eql 10 0),oW 12 11,oG 12 false 13 (oV 1),oG 12 false 14 (ln 13),oG 12 false 15 (bc .eql 14 0),oN 16 (.pick (.t 12) (.c (.bool true)) (.t 15))] (cd 16 (sr [oN 4 mN] .ret) .skip)) (.seq (rf 1 [oK 17 1 (oV 0),oK 18 1 (ln 17),oK 19 1 (oV 1),oK 20 1 (ln 19),oK 21 1 (bt .add 18 20),oN 22 (.make Oo 8 (.t 21)),oK 5 1 (oV 22)]) (.seq (sr [oW 23 0,oN 24 (ln 23),oN 25 (.qw (cI 0))] (.block 0 (.loop (sr [oN 26 (bt .lss 25 24)] (.seq (cd 26 .skip (.exit 0)) (.seq (.block 1 (sr [oW 27 25,oW 6 27] (sr [oN 7 (.qw (cI 0))] (.seq (sr [oW 28 1,oN 29 (ln 28),oN 30 (.qw (cI 0))] (.block 2 (.loop (sr [oN 31 (bt .lss 30 29)] (.seq (cd 31 .skip (.exit 2)) (.seq (.block 3 (sr [oW 32 30,oW 8 32] (.seq (rt 0 [oW 33 7,oW 34 5,oW 35 6,oW 36 8,oA 37 0 (bt .add 35 36) [2,3],oA 38 0 (ix 1 34 37) [1,4],oA 39 0 (lF 1 38) [5],oW 40 0,oW 41 6,oA 42 0 (ix 1 40 41) [7,8],oA 43 0 (lF 1 42) [9],oW 44 1,oW 45 8,oA 46 0 (ix 1 44 45) [11,12],oA 47 0 (lF 1 46) [13],oA 48 0 (bt .mul 43 47) [10,14],oA 49 0 (bt .add 39 48) [6,15],oA 50 0 (bt .add 33 49) [0,16],oA 7 0 (oV 50) [17,0,1,2,3,4,5,6,7,8,9,10,11,12,13,14,15,16,17]]) (sr [oW 51 5,oW 52 6,oW 53 8,oN 54 (bt .add 52 53),oW 55 7,oN 56 (bc .rem 55 1000000000),oN 57 (ix 1 51 54),oS (.store 1 (.t 57) (.t 56))] (rg [oW 58 7,oN 59 (bc .quo 58 1000000000),oW 7 59]))))) (rg [oN 60 (bc .add 30 1),oW 30 60]))))))) (rg [oW 61 5,oW 62 6,oW 63 1,oN 64 (ln 63),oN 65 (bt .add 62 64),oW 66 7,oN 67 (ix 1 61 65),oS (.store 1 (.t 67) (.t 66))]))))) (rg [oN 68 (bc .add 25 1),oW 25 68]))))))) (sr [oW 69 5,oN 70 (cl 151 [69]),oW 4 70] .ret)))))⟩
structure Gi (T:Tb):Prop where
 hT:T 155=some Gh
 sZ:xu T
def BK:Fn:=⟨1,20,[.tmp 2],(sr [oN 2 (.qw (cI 0))] (sr [oN 3 (.qw (cI 0))] (.seq (sr [oW 5 0,oN 6 (ln 5),oN 7 (bc .sub 6 1),oW 4 7] (.block 0 (.loop (.seq (sr [oW 8 4,oN 9 (bc .geq 8 0)] (cd 9 .skip (.exit 0))) (.seq (.block 1 (rg [oW 12 3,oN 13 (bc .mul 12 1000000000),oW 14 0,oW 15 4,oN 16 (ix 1 14 15),oN 17 (lF 1 16),oN 18 (bt .add 13 17),oW 3 18])) (rg [oW 10 4,oN 11 (bc .sub 10 1),oW 4 11])))))) (sr [oW 19 3,oW 2 19] .ret))))⟩
structure BL (T:Tb):Prop where
 hT:T 137=some BK
theorem tX{p:Prop}(h:p:=by
 first|omega|assumption|(simp;omega)):p:=h
theorem LH{T:Tb}(h:xu T){l:List Int}(hl:l.length<=1048576:=by exact tX):PF T 151 [ints l] (ints (trim l)):=by
 refine lQ nR h.hT ?_;simp only [zH,Lz];refine ev ?_;refine kV (fun _ _=>false) (α:=Nat) (fun n=>⟨mM [ints l,.any,.any,iv (n:Nat)],[],0,0,[],[]⟩) (fun n=>n<=l.length/\xM l l.length=xM l n) (fun n=>n) rfl l.length ?_ ?_ ?_
 ·exact⟨by omega,rfl⟩
 ·(refine kN ?_;exact MG)
 rintro n ⟨hn,ht⟩;refine ev ?_;refine kY (fun hb=>?_) fun hb=>?_<;>(refine ev1 @hb ?_;try with_reducible exact aC)
 ·obtain⟨m,rfl⟩:∃m,n=m+1:=⟨n-1,by omega⟩;have e1:((m+1:Nat):Int)-1=(m:Nat):=by omega
  refine ev1 @e1 ?_;refine kY (fun hc=>?_) fun hc=>?_<;>(refine ev1 @hc ?_;try with_reducible exact aC)
  ·refine⟨m,by omega,⟨by omega,?_⟩,by (refine kN ?_;exact MG)⟩;rw [ht];simp only [xM,hc,if_true]
  rw [trim,ht];simp only [xM,hc,if_false]
 have:n=0:=by omega
 subst this;rw [trim,ht];simp [xM,kR]
theorem atO{a b:St}(h:Fg a b:=by
 (refine Sm [] (by simp) (by intro p hp;cases hp) rfl ?_)<;>(try (refine ev ?_;try with_reducible exact aC))<;>(repeat' (first|exact aC|omega|exact Ba rfl (by simp)|refine⟨?_,?_⟩|exact iV (Dn _ _ _)|exact qR rfl (by simp;done)|exact qR rfl rfl|(refine rJ rfl ?_ rfl;simp [kR];done)|(refine rJ rfl ?_ rfl;simp [kR];omega)|(refine Ho ?_ ?_;(focus ((refine ev ?_;try with_reducible exact aC);done));(intro q hq k s0 l0;simp;done))))):Fg a b:=h
theorem Ky{a b:St}(h:Fg a b:=by
 first|((refine kN ?_;exact MG);done)|((refine Sm [] (by simp) (by intro p hp;cases hp) rfl ?_)<;>(try (refine ev ?_;try with_reducible exact aC))<;>(repeat' (first|exact aC|omega|exact Ba rfl (by simp)|refine⟨?_,?_⟩|exact iV (Dn _ _ _)|exact qR rfl (by simp;done)|exact qR rfl rfl|(refine rJ rfl ?_ rfl;simp [kR];done)|(refine rJ rfl ?_ rfl;simp [kR];omega)|(refine Ho ?_ ?_;(focus ((refine ev ?_;try with_reducible exact aC);done));(intro q hq k s0 l0;simp;done))));done)):Fg a b:=h
theorem LJ{a b:St}(h:Fg a b:=by
 (simp only [<-Fj];refine MX (k:=1) (Hu _ _) rfl ?_;(try (refine ev ?_;try with_reducible exact aC));(repeat' (first|exact aC|omega|exact Fh (by simp) (by simp) (by simp)|refine⟨?_,?_⟩|exact qR rfl (by simp))))):Fg a b:=h
theorem LK{a b:St}(h:Fg a b:=by
 (simp only [<-Fj];refine MX (k:=2) (Hu _ _) rfl ?_;(try (refine ev ?_;try with_reducible exact aC));(repeat' (first|exact aC|omega|exact Fh (by simp) (by simp) (by simp)|refine⟨?_,?_⟩|exact qR rfl (by simp))))):Fg a b:=h
theorem zI{T:Tb}(h:uP T){n:Int}(hn:0<=n/\n<18446744073709551616:=by exact tX):PF T 69 [.int .u64 n] (ints (mk n.toNat)):=by
 have hlen:(mk n.toNat).length<=3:=lS.2 (by omega);refine kS nR h.hT ?_;simp only [xq,Lz];refine ev ?_;refine kV (fun _ _=>false) (α:=Nat×List Int) (fun q=>⟨mM [.int .u64 (q.1:Nat),.any,.any,slV q.2.length],slS 1 (kR q.2),0,0,[],[]⟩) (fun q=>q.2++mk q.1=mk n.toNat/\q.1<=n.toNat) (fun q=>q.1) rfl (n.toNat,[]) ?_ ?_ ?_
 ·exact⟨rfl,aK _⟩
 ·exact Ky
 rintro⟨m,xs⟩ ⟨hm,hle⟩;dsimp only at hm hle;have hx:xs.length<=3:=by
  have:=congrArg List.length hm;simp at this;omega
 have e1:((m:Int).tmod 1000000000)=((m % 1000000000:Nat):Int):=by rw [QV (by omega)];omega
 have e2:((m:Int).tdiv 1000000000)=((m / 1000000000:Nat):Int):=by rw [QW (by omega)];omega
 have key:0<m->(xs++[((m % 1000000000:Nat):Int)])++mk (m / 1000000000)=mk n.toNat:=fun h=>by
  rw [<-hm,mk_pos (n:=m) (by omega)];simp
 (rcases xs with _|⟨x,xs⟩<;>simp only [aG,ak,wY,vO,qA,oI]at hx ⊢)
 ·refine ev ?_;refine kY (fun hb=>?_) fun hb=>?_<;>(refine EG @hb @e1 @e2 ?_;try with_reducible exact aC)
  ·exact⟨by omega,(m / 1000000000,[]++[((m % 1000000000:Nat):Int)]),by dsimp only;omega,⟨key (by omega),by dsimp only;omega⟩,by exact LJ⟩
  have e:mk n.toNat=[]:=by rw [<-hm,show m=0 by omega,mk_zero];rfl
  rw [e];exact(sV 1▸trivial)
 refine ev ?_;refine kY (fun hb=>?_) fun hb=>?_<;>(refine EG @hb @e1 @e2 ?_;try with_reducible exact aC)
 ·refine⟨by omega,(m / 1000000000,(x::xs)++[((m % 1000000000:Nat):Int)]),by dsimp only;omega,⟨key (by omega),by dsimp only;omega⟩,by exact LK⟩
 have e:x::xs=mk n.toNat:=by rw [<-hm,show m=0 by omega,mk_zero];simp
 rw [<-e];exact kM _
theorem ag5{T:Tb}(h:IJ T){l:List Int}(hl:l.length<=9223372036854775807:=by exact tX):PF T 126 [ints l] (.bool (yx l)):=by
 refine lQ nR h.hT ?_;simp only [II,Lz];refine ev ?_;refine kY (fun h1=>?_) fun h1=>?_<;>(refine ev1 @h1 ?_;try with_reducible exact aC)
 ·simp [yx];intro h2;omega
 refine kV (fun _ _=>false) (α:=Nat) (fun i=>⟨mM [ints l,.any,.any,.any,.any,.any,.any,.any,ints l,iv (l.length:Nat),iv (i:Nat)],[],0,0,[],[]⟩) (fun i=>i<=l.length/\∀j,j<i->0<=l.getD j 0/\l.getD j 0<1000000000) (fun i=>l.length-i) rfl 0 ?_ ?_ ?_
 ·exact⟨by omega,by intro j hj;omega⟩
 ·(refine kN ?_;exact MG)
 rintro i ⟨hi,hj⟩;refine ev ?_;refine kY (fun h2=>?_) fun h2=>?_<;>(refine ev1 @h2 ?_;try with_reducible exact aC)
 ·have bad:¬(0<=l.getD i 0/\l.getD i 0<1000000000)->yx l=false:=fun hn=>by
   have:¬yx l=true:=fun e=>by
    have hc:=(PN.1 e).2.1;exact hn (vI hc i)
   simpa using this
  repeat' (first|((refine kY (fun hb=>?_) fun hb=>?_)<;>(try (refine ev1 @hb ?_;try with_reducible exact aC))))
  all_goals first
   |(rw [bad (by omega)];done)
   |(
     refine⟨i+1,by omega,⟨by omega,fun j hj'=>?_⟩,by (refine kN ?_;exact MG)⟩;by_cases e:j=i
     ·subst e;omega
     exact hj j (by omega))
 have hi2:i=l.length:=by omega
 subst hi2;have hall:l.all (fun d=>decide (0<=d)&&decide (d<1000000000))=true:=by
  rw [aX];intro d hd;obtain⟨j,hj1,rfl⟩:=List.mem_iff_getElem.1 hd;have:=hj j hj1;rw [aj,au hj1]at this;simpa using this
 repeat' (first|((refine kY (fun hb=>?_) fun hb=>?_)<;>(try (refine ev1 @hb ?_;try with_reducible exact aC))))
 ·have:l=[]:=aY (by omega);subst this;rfl
 have e1:((l.length:Nat):Int)-1=((l.length-1:Nat):Int):=by omega
 have e2:((l.length:Int)-1).toNat=l.length-1:=by omega
 have e3:l.isEmpty=false:=by cases l<;>simp_all
 have e4:decide (l.length<=60)=true:=by simp;omega
 unfold yx;rw [hall,e3,e4,e2];simp
theorem XI{T:Tb}(h:F7 T){a b:List Int}(ha:Can a)(hb:Can b)(la:a.length<=1048576:=by exact tX)(lb:b.length<=1048576:=by exact tX):PF T 152 [ints a,ints b] (iv (LC (val a) (val b))):=by
 refine lQ nR h.hT ?_;simp only [F6,Lz];refine ev ?_;refine kY (fun h1=>?_) fun h1=>?_<;>(refine ev1 @h1 ?_;try with_reducible exact aC)
 ·have:=yI ha.1 hb (by omega);simp [LC,this]
 refine kY (fun h2=>?_) fun h2=>?_<;>(refine ev1 @h2 ?_;try with_reducible exact aC)
 ·have:=yI hb.1 ha (by omega);have h3:¬val a<val b:=by omega
  simp [LC,this,h3]
 have hl:a.length=b.length:=by omega
 refine kV (fun _ _=>false) (α:=Nat) (fun n=>⟨mM [ints a,ints b,.any,.any,.any,iv ((n:Int)-1)],[],0,0,[],[]⟩) (fun n=>n<=a.length/\a.drop n=b.drop n) (fun n=>n) rfl a.length ?_ ?_ ?_
 ·exact⟨by omega,by rw [fC (by omega),fC (by omega)]⟩
 ·(refine kN ?_;exact MG)
 rintro n ⟨hn,hd⟩;refine ev ?_;refine kY (fun h3=>?_) fun h3=>?_<;>(refine ev1 @h3 ?_;try with_reducible exact aC)
 ·obtain⟨m,rfl⟩:∃m,n=m+1:=⟨n-1,by omega⟩;have e1:((m+1:Nat):Int)-1=(m:Nat):=by omega
  refine ev1 @e1 ?_;refine kY (fun h4=>?_) fun h4=>?_<;>(refine zf @h4 @e1 ?_;try with_reducible exact aC)
  ·have:=PL ha.1 hb.1 (i:=m) (by omega) (by omega) hd h4;simp [LC,this]
  refine kY (fun h5=>?_) fun h5=>?_<;>(refine zf @h5 @e1 ?_;try with_reducible exact aC)
  ·have:=PL hb.1 ha.1 (i:=m) (by omega) (by omega) hd.symm h5;have h6:¬val a<val b:=by omega
   simp [LC,this,h6]
  have e:a.getD m 0=b.getD m 0:=by omega
  refine⟨m,by omega,⟨by omega,?_⟩,by (refine kN ?_;exact MG)⟩;rw [PU (by omega),PU (l:=b) (by omega),e,hd]
 have:n=0:=by omega
 subst this;simp only [bZ]at hd;subst hd;simp [LC]
theorem Fz{T:Tb}(h:BL T){n:Nat}(hn:n<1000000000000000000:=by exact tX):PF T 137 [ints (mk n)] (iv (n:Nat)):=by
 have hl:(mk n).length<=2:=lS.2 (by omega);have hv:=val_mk n;refine lQ nR h.hT ?_;simp only [BK,Lz];refine ev ?_;refine kV (fun _ _=>false) (α:=Nat) (fun k=>⟨mM [ints (mk n),.any,.any,iv (val ((mk n).drop k):Nat),iv ((k:Int)-1)],[],0,0,[],[]⟩) (fun k=>k<=(mk n).length) (fun k=>k) rfl (mk n).length ?_ ?_ ?_
 ·omega
 ·have e:val ((mk n).drop (mk n).length)=0:=mV (aK _);simp only [e]
  (refine kN ?_;exact MG)
 intro k hk;refine ev ?_;refine kY (fun h3=>?_) fun h3=>?_<;>(refine ev1 @h3 ?_;try with_reducible exact aC)
 ·obtain⟨m,rfl⟩:∃m,k=m+1:=⟨k-1,by omega⟩;have e1:((m+1:Nat):Int)-1=(m:Nat):=by omega
  have e2:=qH (mk n) m;have e3:=Vy (l:=mk n) m;have e4:=vI (vH n) m;refine ev1 @e1 ?_;exact⟨m,by omega,by omega,by (refine kN ?_;exact MG)⟩
 have:k=0:=by omega
 subst this;rw [bZ,hv]
theorem alm{T:Tb}(h:Kw T){m n:Nat}(la:(mk m).length<=1000:=by exact tX)(lb:(mk n).length<=1000:=by exact tX):PF T 160 [ints (mk m),ints (mk n)] (ints (mk (m+n))):=by
 obtain⟨a,hA⟩:∃a,mk m=a:=⟨_,rfl⟩;obtain⟨b,hB⟩:∃b,mk n=b:=⟨_,rfl⟩;have hva:val a=m:=by rw [<-hA,val_mk]
 have hvb:val b=n:=by rw [<-hB,val_mk]
 have hba:Lb a:=hA▸vH m;have hbb:Lb b:=hB▸vH n;rw [hA]at la ⊢;rw [hB]at lb ⊢;refine kS nR h.hT ?_;simp only [F8,Lz];refine ev ?_;refine kV (fun _ _=>false) (α:=Nat×Int×List Int) (fun q=>⟨mM [ints a,ints b,.any,.any,.any,slV q.2.2.length,iv q.2.1,iv (q.1:Nat)],slS 1 (kR q.2.2),0,0,[],[]⟩) (fun q=>q.2.2.length=q.1/\Lb q.2.2/\(0<=q.2.1/\q.2.1<=1)/\val q.2.2+1000000000 ^ q.1*(q.2.1.toNat+val (a.drop q.1)+val (b.drop q.1))=m+n/\(q.1<=max a.length b.length\/(q.1=max a.length b.length+1/\q.2.1=0/\q.2.2.getLast? ≠ some 0))) (fun q=>max a.length b.length+1-q.1) rfl (0,0,[]) ?_ ?_ ?_
 ·exact⟨rfl,ae7,⟨by dsimp only;omega,by dsimp only;omega⟩,by simp [val,hva,hvb],by dsimp only;omega⟩
 ·exact Ky
 rintro⟨i,c,xs⟩ ⟨hl,hlb,hc,hv,hi⟩;dsimp only at hl hlb hc hv hi;have hi':i<=max a.length b.length\/(i=max a.length b.length+1/\c=0):=hi.imp id fun h=>⟨h.1,h.2.1⟩;have hx:xs.length<=1001:=by omega
 have ea:=qH a i;have eb:=qH b i;have ga:=vI hba i;have gb:=vI hbb i;have step:=acW hl hc.1 ga.1 gb.1 hv ea eb;have za:a.length<=i->a.getD i 0=0:=Nc;have zb:b.length<=i->b.getD i 0=0:=Nc;have key:∀t:Int,t=c+a.getD i 0+b.getD i 0->((i:Int)<a.length\/(i:Int)<b.length\/0<c)->∃a':Nat×Int×List Int,a'=(i+1,t.tdiv 1000000000,xs++[t.tmod 1000000000]) /\
   max a.length b.length+1-a'.1<max a.length b.length+1-i/\(a'.2.2.length=a'.1/\Lb a'.2.2/\(0<=a'.2.1/\a'.2.1<=1)/\val a'.2.2+1000000000 ^ a'.1*(a'.2.1.toNat+val (a.drop a'.1)+val (b.drop a'.1))=m+n /\
    (a'.1<=max a.length b.length\/(a'.1=max a.length b.length+1/\a'.2.1=0/\a'.2.2.getLast? ≠ some 0))):=by
  intro t ht hor;have ht0:0<=t:=by omega
  refine⟨_,rfl,?_⟩;dsimp only;rw [QV ht0,QW ht0];refine⟨by omega,by simp [hl],aaO (by omega) (by omega) hlb,⟨by omega,by omega⟩,by rw [ht];exact step,?_⟩;by_cases hlt:i<max a.length b.length
  ·left;omega
  right;have h1:=za (by omega);have h2:=zb (by omega);refine⟨by omega,by omega,?_⟩;intro hlast;rw [List.getLast?_concat]at hlast;have:=Option.some.inj hlast;omega
 have fin:¬((i:Int)<a.length\/(i:Int)<b.length\/0<c)->xs=mk (m+n):=by
  intro hno;have e1:val (a.drop i)=0:=mV (by omega);have e2:val (b.drop i)=0:=mV (by omega);rw [e1,e2,show c.toNat=0 by omega]at hv;simp only [iL,kG]at hv;refine(ag2 hv hlb ?_).symm;rw [hA,hB];rcases hi with k|k
  ·left;omega
  right;exact k.2.2
 by_cases ca:(i:Int)<(a.length:Nat)<;>by_cases cb:(i:Int)<(b.length:Nat)<;>by_cases cc:0<c
 ·obtain⟨_,rfl,k1,k2⟩:=key (c+a.getD i 0+b.getD i 0) (by omega) (by omega);clear key step fin ea eb hi hv hlb hba hbb za zb
  (rcases xs with _|⟨x,xs⟩<;>simp only [aG,ak,wY,vO,qA,oI]at hx ⊢)
  ·refine EG @ca @cb @cc ?_;exact⟨by omega,_,k1,k2,by exact LJ⟩
  refine EG @ca @cb @cc ?_;exact⟨by omega,_,k1,k2,by exact LK⟩
 ·obtain⟨_,rfl,k1,k2⟩:=key (c+a.getD i 0+b.getD i 0) (by omega) (by omega);clear key step fin ea eb hi hv hlb hba hbb za zb
  (rcases xs with _|⟨x,xs⟩<;>simp only [aG,ak,wY,vO,qA,oI]at hx ⊢)
  ·refine EG @ca @cb @cc ?_;exact⟨by omega,_,k1,k2,by exact LJ⟩
  refine EG @ca @cb @cc ?_;exact⟨by omega,_,k1,k2,by exact LK⟩
 ·obtain⟨_,rfl,k1,k2⟩:=key (c+a.getD i 0) (by omega) (by omega);clear key step fin ea eb hi hv hlb hba hbb za zb
  (rcases xs with _|⟨x,xs⟩<;>simp only [aG,ak,wY,vO,qA,oI]at hx ⊢)
  ·refine EG @ca @cb @cc ?_;exact⟨by omega,_,k1,k2,by exact LJ⟩
  refine EG @ca @cb @cc ?_;exact⟨by omega,_,k1,k2,by exact LK⟩
 ·obtain⟨_,rfl,k1,k2⟩:=key (c+a.getD i 0) (by omega) (by omega);clear key step fin ea eb hi hv hlb hba hbb za zb
  (rcases xs with _|⟨x,xs⟩<;>simp only [aG,ak,wY,vO,qA,oI]at hx ⊢)
  ·refine EG @ca @cb @cc ?_;exact⟨by omega,_,k1,k2,by exact LJ⟩
  refine EG @ca @cb @cc ?_;exact⟨by omega,_,k1,k2,by exact LK⟩
 ·obtain⟨_,rfl,k1,k2⟩:=key (c+b.getD i 0) (by omega) (by omega);clear key step fin ea eb hi hv hlb hba hbb za zb
  (rcases xs with _|⟨x,xs⟩<;>simp only [aG,ak,wY,vO,qA,oI]at hx ⊢)
  ·refine EG @ca @cb @cc ?_;exact⟨by omega,_,k1,k2,by exact LJ⟩
  refine EG @ca @cb @cc ?_;exact⟨by omega,_,k1,k2,by exact LK⟩
 ·obtain⟨_,rfl,k1,k2⟩:=key (c+b.getD i 0) (by omega) (by omega);clear key step fin ea eb hi hv hlb hba hbb za zb
  (rcases xs with _|⟨x,xs⟩<;>simp only [aG,ak,wY,vO,qA,oI]at hx ⊢)
  ·refine EG @ca @cb @cc ?_;exact⟨by omega,_,k1,k2,by exact LJ⟩
  refine EG @ca @cb @cc ?_;exact⟨by omega,_,k1,k2,by exact LK⟩
 ·obtain⟨_,rfl,k1,k2⟩:=key (c) (by omega) (by omega);clear key step fin ea eb hi hv hlb hba hbb za zb
  (rcases xs with _|⟨x,xs⟩<;>simp only [aG,ak,wY,vO,qA,oI]at hx ⊢)
  ·refine EG @ca @cb @cc ?_;exact⟨by omega,_,k1,k2,by exact LJ⟩
  refine EG @ca @cb @cc ?_;exact⟨by omega,_,k1,k2,by exact LK⟩
 have e:=fin (by omega);clear key step fin ea eb hi hv hlb hba hbb za zb
 (rcases xs with _|⟨x,xs⟩<;>simp only [aG,ak,wY,vO,qA,oI]at hx ⊢)
 ·refine EG @ca @cb @cc ?_;rw [<-e];exact(sV 1▸trivial)
 refine EG @ca @cb @cc ?_;rw [<-e];exact kM _
theorem SH{T:Tb}(h:Gg T){m n:Nat}(hle:n<=m)(la:(mk m).length<=1000:=by exact tX)(lb:(mk n).length<=1000:=by exact tX):PF T 154 [ints (mk m),ints (mk n)] (ints (mk (m-n))):=by
 obtain⟨a,hA⟩:∃a,mk m=a:=⟨_,rfl⟩;obtain⟨b,hB⟩:∃b,mk n=b:=⟨_,rfl⟩;have hva:val a=m:=by rw [<-hA,val_mk]
 have hvb:val b=n:=by rw [<-hB,val_mk]
 have hba:Lb a:=hA▸vH m;have hbb:Lb b:=hB▸vH n;have hlen:b.length<=a.length:=by
  rcases dV a.length b.length with k|k
  ·have:=yI hba (hB▸wC n) k;omega
  exact k
 rw [hA]at la ⊢;rw [hB]at lb ⊢;refine lQ nR h.hT ?_;simp only [Gf,Lz];refine ev ?_;refine⟨by omega,?_⟩;rw [QO];refine kV (fun _ _=>false) (α:=Nat×Int×List Int) (fun q=>⟨mM [ints a,ints b,.any,.any,.any,.lG 0 0 a.length,iv q.2.1,.any,.any,.any,.any,.any,ints a,iv (a.length:Nat),iv (q.1:Nat)],[some ⟨1,kR q.2.2⟩],0,0,[],[]⟩) (fun q=>q.1<=a.length/\q.2.2.length=a.length/\Lb q.2.2/\(q.2.1=0\/q.2.1=1)/\val (q.2.2.take q.1)+val (b.take q.1)=val (a.take q.1)+q.2.1.toNat*1000000000 ^ q.1) (fun q=>a.length-q.1) rfl (0,0,List.replicate a.length 0) ?_ ?_ ?_
 ·exact⟨by omega,by simp,QS _,.inl rfl,by simp [val]⟩
 ·(refine kN ?_;exact MG)
 rintro⟨i,bo,D⟩ ⟨hi,hD,QX,hbo,hv⟩;dsimp only at hi hD QX hbo hv;have ga:=vI hba i;have gb:=vI hbb i;have zb:b.length<=i->b.getD i 0=0:=Nc;by_cases c1:(i:Int)<(a.length:Nat)
 ·have key:∀d bo':Int,d+b.getD i 0+bo=a.getD i 0+bo'*1000000000->0<=d->d<1000000000->(bo'=0\/bo'=1)->∃a':Nat×Int×List Int,a'=(i+1,bo',D.set i d) /\
    a.length-a'.1<a.length-i/\(a'.1<=a.length/\a'.2.2.length=a.length/\Lb a'.2.2/\(a'.2.1=0\/a'.2.1=1)/\val (a'.2.2.take a'.1)+val (b.take a'.1)=val (a.take a'.1)+a'.2.1.toNat*1000000000 ^ a'.1):=by
   intro d bo' hd d0 d1 hb';refine⟨_,rfl,by dsimp only;omega,by dsimp only;omega,by simp [hD],MS d0 d1 QX,hb',?_⟩;dsimp only;have e1:(D.take i).length=i:=by simp;omega
   have e2:(a.take i).length=i:=by simp;omega
   rw [Y7 (by omega),yw,e1,oD (l:=a) (by omega),yw,e2];have e3:val (b.take (i+1))=val (b.take i)+1000000000 ^ i*(b.getD i 0).toNat:=by
    by_cases hb2:i<b.length
    ·rw [oD hb2,yw];congr 3;simp;omega
    rw [bH (by omega),bH (by omega),zb (by omega)];simp
   rw [e3,jd];exact acZ hv (by omega)
  by_cases c2:(i:Int)<(b.length:Nat)
  ·by_cases c3:a.getD i 0-bo-b.getD i 0<0
   ·obtain⟨_,rfl,k1,k2⟩:=key (a.getD i 0-bo-b.getD i 0+1000000000) 1 (by omega) (by omega) (by omega) (.inr rfl);clear key hv zb hba hbb QX;refine ev4 @c1 @c2 @c3 @hD ?_;exact⟨_,k1,k2,by (refine kN ?_;exact MG)⟩
   obtain⟨_,rfl,k1,k2⟩:=key (a.getD i 0-bo-b.getD i 0) 0 (by omega) (by omega) (by omega) (.inl rfl);clear key hv zb hba hbb QX;refine ev4 @c1 @c2 @c3 @hD ?_;exact⟨_,k1,k2,by (refine kN ?_;exact MG)⟩
  have z:=zb (by omega);by_cases c3:a.getD i 0-bo<0
  ·obtain⟨_,rfl,k1,k2⟩:=key (a.getD i 0-bo+1000000000) 1 (by omega) (by omega) (by omega) (.inr rfl);clear key hv zb hba hbb QX;refine ev4 @c1 @c2 @c3 @hD ?_;exact⟨_,k1,k2,by (refine kN ?_;exact MG)⟩
  obtain⟨_,rfl,k1,k2⟩:=key (a.getD i 0-bo) 0 (by omega) (by omega) (by omega) (.inl rfl);clear key hv zb hba hbb QX;refine ev4 @c1 @c2 @c3 @hD ?_;exact⟨_,k1,k2,by (refine kN ?_;exact MG)⟩
 have hi2:i=a.length:=by omega
 subst hi2;rw [<-hD,bK,hD,bK,bH (by omega)]at hv;have hlt:=y7 QX;rw [hD]at hlt;have hz:bo=0:=by
  rcases hbo with h|h
  ·exact h
  rw [h]at hv;simp at hv;omega
 subst hz;refine zf @c1 @hD ?_;refine jM (LH h.sZ (l:=D) (by omega)) ?_;refine ev ?_;rw [BJ QX]
 congr 3
 simp at hv;omega
theorem aln{x y:Int}(hx:0<=x/\x<1000000000)(hy:0<=y/\y<1000000000):0<=x*y/\x*y<=999999998000000001:=by
 refine⟨Int.mul_nonneg hx.1 hy.1,?_⟩;have:x*y<=999999999*999999999:=Int.mul_le_mul (by omega) (by omega) hy.1 (by omega);omega
theorem XJ{T:Tb}(h:Gi T){m n:Nat}(la:(mk m).length<=1000:=by exact tX)(lb:(mk n).length<=1000:=by exact tX):PF T 155 [ints (mk m),ints (mk n)] (ints (mk (m*n))):=by
 obtain⟨a,hA⟩:∃a,mk m=a:=⟨_,rfl⟩;obtain⟨b,hB⟩:∃b,mk n=b:=⟨_,rfl⟩;have hva:val a=m:=by rw [<-hA,val_mk]
 have hvb:val b=n:=by rw [<-hB,val_mk]
 have hba:Lb a:=hA▸vH m;have hbb:Lb b:=hB▸vH n;rw [hA]at la ⊢;rw [hB]at lb ⊢;refine kS nR h.hT ?_;simp only [Gh,Lz];refine ev ?_;by_cases h1:a.length=0
 ·have:a=[]:=aY h1;have e:m=0:=by rw [<-hva,this];rfl
  have h1':((a.length:Nat):Int)=0:=by omega
  refine ev1 @h1' ?_;rw [e,kE,mk_zero];exact(sV 1▸trivial)
 by_cases h2:b.length=0
 ·have:b=[]:=aY h2;have e:n=0:=by rw [<-hvb,this];rfl
  have h1':¬((a.length:Nat):Int)=0:=by omega
  have h2':((b.length:Nat):Int)=0:=by omega
  refine zf @h1' @h2' ?_;rw [e,kG,mk_zero];exact(sV 1▸trivial)
 have h1':¬((a.length:Nat):Int)=0:=by omega
 have h2':¬((b.length:Nat):Int)=0:=by omega
 refine zf @h1' @h2' ?_;refine⟨⟨by omega,by omega,by omega⟩,?_⟩;have eL:((a.length:Int)+(b.length:Int)).toNat=a.length+b.length:=by omega
 rw [eL,QO];refine kV (fun _ _=>false) (α:=Nat×List Int) (fun q=>⟨mM [ints a,ints b,.any,.any,.any,.lG 0 0 (a.length+b.length),.any,.any,.any,.any,.any,.any,.any,.any,.any,.any,.any,.any,.any,.any,.any,.any,.any,ints a,iv (a.length:Nat),iv (q.1:Nat)],[some ⟨1,kR q.2⟩],0,0,[],[]⟩) (fun q=>q.1<=a.length/\q.2.length=a.length+b.length/\Lb q.2/\val q.2=val (a.take q.1)*n/\∀k,q.1+b.length<=k->q.2.getD k 0=0) (fun q=>a.length-q.1) rfl (0,List.replicate (a.length+b.length) 0) ?_ ?_ ?_
 ·exact⟨by omega,by simp,QS _,by rw [agQ];simp [val],by intro k _;simp [aj,jD];split<;>rfl⟩
 ·(refine kN ?_;exact MG)
 rintro⟨i,P⟩ ⟨hi,hP,hPb,hv,hz⟩;dsimp only at hi hP hPb hv hz;refine ev ?_;refine kY (fun c1=>?_) fun c1=>?_<;>(refine ev1 @c1 ?_;try with_reducible exact aC)
 ·have ga:=vI hba i;have eA:val (a.take (i+1))=val (a.take i)+1000000000 ^ i*(a.getD i 0).toNat:=by
   rw [oD (by omega),yw];congr 3;simp;omega
  refine kV (fun _ _=>false) (α:=Nat×Int×List Int) (fun q=>⟨mM [ints a,ints b,.any,.any,.any,.lG 0 0 (a.length+b.length),iv (i:Nat),iv q.2.1,.any,.any,.any,.any,.any,.any,.any,.any,.any,.any,.any,.any,.any,.any,.any,ints a,iv (a.length:Nat),iv (i:Nat),.any,.any,ints b,iv (b.length:Nat),iv (q.1:Nat)],[some ⟨1,kR q.2.2⟩],0,0,[],[]⟩) (fun q=>q.1<=b.length/\q.2.2.length=a.length+b.length/\Lb q.2.2/\(0<=q.2.1/\q.2.1<1000000000)/\val q.2.2+q.2.1.toNat*(1000000000 ^ i*1000000000 ^ q.1)=val P+(a.getD i 0).toNat*(1000000000 ^ i*val (b.take q.1))/\∀k,i+b.length<=k->q.2.2.getD k 0=0) (fun q=>b.length-q.1) rfl (0,0,P) ?_ ?_ ?_
  ·exact⟨by omega,hP,hPb,⟨by dsimp only;omega,by dsimp only;omega⟩,by simp [val],hz⟩
  ·(refine kN ?_;exact MG)
  rintro⟨j,c,D⟩ ⟨hj,hD,QX,hc,hw,hzD⟩;dsimp only at hj hD QX hc hw hzD;have gb:=vI hbb j;have gd:=vI QX (i+j);have hm:=aln ga gb;by_cases c2:(j:Int)<(b.length:Nat)
  ·have k2:(val (D.set (i+j) ((c+(D.getD (i+j) 0+a.getD i 0*b.getD j 0)) % 1000000000))+((c+(D.getD (i+j) 0+a.getD i 0*b.getD j 0)) / 1000000000).toNat*(1000000000 ^ i*1000000000 ^ (j+1)))=val P+(a.getD i 0).toNat*(1000000000 ^ i*val (b.take (j+1))):=by
    have e1:val (b.take (j+1))=val (b.take j)+1000000000 ^ j*(b.getD j 0).toNat:=by
     rw [oD (by omega),yw];congr 3;simp;omega
    have e2:=Ws (l:=D) (i:=i+j) (d:=(c+(D.getD (i+j) 0+a.getD i 0*b.getD j 0)) % 1000000000) (by omega);have e3:(a.getD i 0*b.getD j 0).toNat=(a.getD i 0).toNat*(b.getD j 0).toNat:=Int.toNat_mul ga.1 gb.1;have e4:(c+(D.getD (i+j) 0+a.getD i 0*b.getD j 0)).toNat=c.toNat+(D.getD (i+j) 0).toNat+(a.getD i 0).toNat*(b.getD j 0).toNat:=by
     rw [<-e3];omega
    rw [e1,jd];rw [Nat.pow_add]at e2;have e5:((c+(D.getD (i+j) 0+a.getD i 0*b.getD j 0)) % 1000000000).toNat=(c+(D.getD (i+j) 0+a.getD i 0*b.getD j 0)).toNat % 1000000000:=by omega
    have e6:((c+(D.getD (i+j) 0+a.getD i 0*b.getD j 0)) / 1000000000).toNat=(c+(D.getD (i+j) 0+a.getD i 0*b.getD j 0)).toNat / 1000000000:=by omega
    rw [e5]at e2;rw [e6];exact ac1 hw e2 e4
   have k3:∀k,i+b.length<=k->(D.set (i+j) ((c+(D.getD (i+j) 0+a.getD i 0*b.getD j 0)) % 1000000000)).getD k 0=0:=by
    intro k hk;rw [sD,aO (by omega)];exact hzD k hk
   have k4:=MS (l:=D) (i:=i+j) (d:=(c+(D.getD (i+j) 0+a.getD i 0*b.getD j 0)) % 1000000000) (by omega) (by omega) QX;have t1:(c+(D.getD (i+j) 0+a.getD i 0*b.getD j 0)).tmod 1000000000=(c+(D.getD (i+j) 0+a.getD i 0*b.getD j 0)) % 1000000000:=QV (by omega);have t2:(c+(D.getD (i+j) 0+a.getD i 0*b.getD j 0)).tdiv 1000000000=(c+(D.getD (i+j) 0+a.getD i 0*b.getD j 0)) / 1000000000:=QW (by omega);have t3:((i:Int)+(j:Int)).toNat=i+j:=by omega
   clear hv hz hPb QX eA hw hzD hba hbb;refine ev5 @c2 @hD @t1 @t2 @t3 ?_;refine⟨(j+1,(c+(D.getD (i+j) 0+a.getD i 0*b.getD j 0)) / 1000000000,D.set (i+j) ((c+(D.getD (i+j) 0+a.getD i 0*b.getD j 0)) % 1000000000)),by dsimp only;omega,⟨by dsimp only;omega,by simp [hD],k4,⟨by dsimp only;omega,by dsimp only;omega⟩,k2,k3⟩,by (refine kN ?_;exact MG)⟩
  have hj2:j=b.length:=by omega
  subst hj2;rw [bK]at hw;have e2:=Ws (l:=D) (i:=i+b.length) (d:=c) (by omega);rw [hzD (i+b.length) (aK _),Nat.pow_add]at e2;have k1:val (D.set (i+b.length) c)=val (a.take (i+1))*n:=by
   rw [eA,gG,<-hv,<-hvb];have:1000000000 ^ i*(a.getD i 0).toNat*val b=(a.getD i 0).toNat*(1000000000 ^ i*val b):=by rw [dP (1000000000 ^ i),gQ]
   rw [this];have:c.toNat*(1000000000 ^ i*1000000000 ^ b.length)=1000000000 ^ i*1000000000 ^ b.length*c.toNat:=dP _ _;simp only [Int.toNat_zero,kG,iL]at e2;omega
  have k2:∀k,(i+1)+b.length<=k->(D.set (i+b.length) c).getD k 0=0:=by
   intro k hk;rw [sD,aO (by omega)];exact hzD k (by omega)
  have k3:=MS (l:=D) (i:=i+b.length) hc.1 hc.2 QX;have t3:((i:Int)+(b.length:Int)).toNat=i+b.length:=by omega
  clear hv hz hPb QX eA hw hzD hba hbb e2;refine EG @c2 @hD @t3 ?_;exact⟨(i+1,D.set (i+b.length) c),by dsimp only;omega,⟨by dsimp only;omega,by simp [hD],k3,k1,k2⟩,by (refine kN ?_;exact MG)⟩
 have hi2:i=a.length:=by omega
 subst hi2;rw [bK,hva]at hv;refine ev1 @hP ?_;refine jM (LH h.sZ (l:=P) (by omega)) ?_;refine ev ?_;rw [BJ hPb,hv];exact kM _
def uf:Fn:=⟨2,44,[.tmp 4],(sr [oN 4 (.qw (cI 0))] (sr [oW 8 1,oN 9 (ln 8),oW 5 9] (sr [oW 10 0,oW 11 5,oN 12 (bc .sub 11 1),oN 13 (ix 1 10 12),oN 14 (lF 1 13),oW 6 14] (.seq (sr [oW 15 0,oN 16 (ln 15),oW 17 5,oN 18 (bt .gtr 16 17)] (cd 18 (rg [oW 19 6,oW 20 0,oW 21 5,oN 22 (ix 1 20 21),oN 23 (lF 1 22),oN 24 (bc .mul 23 1000000000),oN 25 (bt .add 19 24),oW 6 25]) .skip)) (.seq (sr [oW 26 5,oN 27 (bc .eql 26 1)] (cd 27 (sr [oW 28 6,oW 29 1,oN 30 (.idx 1 (.t 29) (cI 0)),oN 31 (lF 1 30),oN 32 (bt .quo 28 31),oW 4 32] .ret) .skip)) (sr [oW 33 6,oW 34 1,oW 35 5,oN 36 (bc .sub 35 1),oN 37 (ix 1 34 36),oN 38 (lF 1 37),oN 39 (bc .add 38 1),oN 40 (bt .quo 33 39),oW 7 40] (.seq (sr [oW 41 7,oN 42 (bc .eql 41 0)] (cd 42 (sr [oN 4 (.qw (cI 1))] .ret) .skip)) (sr [oW 43 7,oW 4 43] .ret))))))))⟩
structure Ie (T:Tb):Prop where
 hT:T 153=some uf
def Bd:Fn:=⟨2,76,[.tmp 4,.tmp 5],(sr [oN 4 mN,oN 5 mN] (.seq (sr [oW 12 0,oN 13 (ln 12),oN 14 (bc .leq 13 2),oW 15 14,oG 15 true 16 (oV 1),oG 15 true 17 (ln 16),oG 15 true 18 (bc .leq 17 2),oN 19 (.pick (.t 15) (.t 18) (.c (.bool false)))] (cd 19 (sr [oW 20 0,oN 21 (cl 137 [20]),oW 22 1,oN 23 (cl 137 [22]),oW 6 21,oW 7 23] (.seq (rt 0 [oW 24 6,oW 25 7,oA 26 0 (bt .quo 24 25) [0,1],oA 27 0 (.conv .u64 (.t 26)) [2],oA 28 0 (cl 69 [27]) [3],oW 29 6,oW 30 7,oA 31 0 (bt .rem 29 30) [5,6],oA 32 0 (.conv .u64 (.t 31)) [7],oA 33 0 (cl 69 [32]) [8,4],oA 4 0 (oV 28) [4,9,0,1,2,3,4],oA 5 0 (oV 33) [9,10,0,1,2,3,4,5,6,7,8,9,10]]) .ret)) .skip)) (.seq (rf 1 [oK 34 1 (oV 0),oK 35 1 (ln 34),oN 36 (.make Oo 8 (.t 35)),oK 8 1 (oV 36)]) (.seq (rf 1 [oN 37 (.nM 1 Oo 0 []),oK 9 1 (oV 37)]) (.seq (sr [oW 38 0,oN 39 (ln 38),oN 40 (bc .sub 39 1),oW 10 40] (.block 0 (.loop (.seq (sr [oW 41 10,oN 42 (bc .geq 41 0)] (cd 42 .skip (.exit 0))) (.seq (.block 1 (.seq (rf 2 [oK 45 2 (oV 0),oK 46 2 (oV 10),oK 47 2 (ix 1 45 46),oK 48 2 (lF 1 47),oN 49 (.nM 1 Oo 1 [(0,(.t 48))]),oK 50 2 (oV 9),oK 51 1 (.app 1 8 (.t 49) (.t 50)),oK 52 2 (cl 151 [51]),oK 9 2 (oV 52)]) (.block 2 (.loop (.seq (sr [oW 53 9,oW 54 1,oN 55 (cl 152 [53,54]),oN 56 (bc .geq 55 0)] (cd 56 .skip (.exit 2))) (.block 3 (sr [oW 57 9,oW 58 1,oN 59 (cl 153 [57,58]),oW 11 59] (.seq (rf 1 [oK 60 1 (oV 9),oK 61 1 (oV 1),oK 62 1 (oV 11),oN 63 (.nM 1 Oo 1 [(0,(.t 62))]),oK 64 1 (cl 155 [61,63]),oK 65 1 (cl 154 [60,64]),oK 9 1 (oV 65)]) (rg [oW 66 8,oW 67 10,oN 68 (ix 1 66 67),oN 69 (lF 1 68),oW 70 11,oN 71 (bt .add 69 70),oN 72 (ix 1 66 67),oS (.store 1 (.t 72) (.t 71))]))))))))) (rg [oW 43 10,oN 44 (bc .sub 43 1),oW 10 44])))))) (sr [oW 73 8,oN 74 (cl 151 [73]),oW 75 9,oW 4 74,oW 5 75] .ret))))))⟩
structure Bf (T:Tb):Prop where
 hT:T 138=some Bd
 nH:uP T
 uh:BL T
 sZ:xu T
 Gj:F7 T
 NW:Ie T
 Bg:Gg T
 Gl:Gi T
theorem XK{T:Tb}(h:Ie T){r b:Nat}(hb:0<b)(hle:b<=r)(hlt:r<b*1000000000)(lr:(mk r).length<=1000:=by exact tX)(lb:(mk b).length<=1000:=by exact tX) :
  ∃d:Nat,PF T 153 [ints (mk r),ints (mk b)] (iv (d:Nat))/\0<d/\d<1000000000/\d*b<=r:=by
 obtain⟨h1,h2,h3,h4,h5⟩:=alg hb hle hlt;obtain⟨A,hA⟩:∃A,mk r=A:=⟨_,rfl⟩;obtain⟨B,hB⟩:∃B,mk b=B:=⟨_,rfl⟩;have hbA:Lb A:=hA▸vH r;have hbB:Lb B:=hB▸vH b;rw [hA]at h1 h2 h4 h5 lr ⊢;rw [hB]at h1 h2 h3 h4 h5 lb ⊢;obtain⟨k,hk⟩:∃k,B.length=k+1:=⟨B.length-1,by omega⟩;have g1:=vI hbA k;have g2:=vI hbA (k+1);have g3:=vI hbB k;have g4:=vI hbB 0;have eT:(val (A.drop k):Int)=A.getD k 0+(if k+1<A.length then A.getD (k+1) 0*1000000000 else 0):=by
  rw [qH A k];split
  ·rw [qH A (k+1),mV (l:=A) (i:=k+1+1) (by omega)];omega
  rw [mV (l:=A) (i:=k+1) (by omega)];omega
 have e1:((B.length:Nat):Int)-1=(k:Nat):=by omega
 have ebk:B.length-1=k:=by omega
 rw [ebk]at h5;by_cases hk0:k=0
 ·subst hk0;obtain⟨d1,d2,d3,d4⟩:=h4 (by omega);refine⟨_,?_,d1,d2,d3⟩;have c0:((B.length:Nat):Int)=1:=by omega
  have e2:((val (A.drop 0) / (B.getD 0 0).toNat:Nat):Int)=(val (A.drop 0):Int).tdiv (B.getD 0 0):=by
   rw [gI (by omega)];have:((B.getD 0 0).toNat:Int)=B.getD 0 0:=by omega
   rw [<-this];simp
  have d5:0<=(val (A.drop 0):Int).tdiv (B.getD 0 0)/\(val (A.drop 0):Int).tdiv (B.getD 0 0)<1000000000:=by rw [<-e2];omega
  rw [eT]at e2 d5;rw [e2];clear h4 h5 eT hbA hbB e2 d1 d2 d3 hlt hle hb hA hB h2;have c0':=iff_true_intro c0;have nb:¬B.getD 0 0=0:=by omega
  clear d4;have e3:((0:Nat):Int).toNat=0:=rfl;have e4:(((0:Nat):Int)+1).toNat=0+1:=rfl;by_cases c1:(1:Int)<(A.length:Nat)
  ·have c2:0+1<A.length:=by omega
   have c3:=iff_true_intro (show ((B.length:Nat):Int)<(A.length:Nat) by omega);rw [aQ c2]at d5 ⊢;refine lQ nR h.hT ?_;simp only [uf,Lz];refine ev ?_;refine ev5 @c0' @c3 @e1 @e3 @nb ?_;rw [hk,w64 (n:=A.getD (0+1) 0*1000000000) (by omega),w64 (n:=A.getD 0 0+_) (by omega),w64 (by omega)]
  have c2:¬0+1<A.length:=by omega
  have c3:¬((B.length:Nat):Int)<(A.length:Nat):=by omega
  rw [aO c2]at d5 ⊢;refine lQ nR h.hT ?_;simp only [uf,Lz];refine ev ?_;refine ev5 @c0' @c3 @e1 @e3 @nb ?_;simp only [Int.add_zero]at d5 ⊢
 have c0:¬((B.length:Nat):Int)=1:=by omega
 have e4:(((k:Nat):Int)+1).toNat=k+1:=by omega
 obtain⟨d2,d3⟩:=h5;have e2:((val (A.drop k) / ((B.getD k 0).toNat+1):Nat):Int)=(val (A.drop k):Int).tdiv (B.getD k 0+1):=by
  rw [gI (by omega)];have:(((B.getD k 0).toNat+1:Nat):Int)=B.getD k 0+1:=by omega
  rw [<-this,Int.natCast_ediv]
 have d5:0<=(val (A.drop k):Int).tdiv (B.getD k 0+1)/\(val (A.drop k):Int).tdiv (B.getD k 0+1)<1000000000:=⟨by rw [<-e2];exact Int.natCast_nonneg _,by rw [<-e2];exact Int.ofNat_lt.mpr d2⟩;generalize hd:val (A.drop k) / ((B.getD k 0).toNat+1)=d at d2 d3 e2;rw [eT]at e2 d5;have fin:∀t:Int,t=(if k+1<A.length then A.getD (k+1) 0*1000000000 else 0)->∃d:Nat,(if (A.getD k 0+t).tdiv (B.getD k 0+1)=0 then iv 1 else iv ((A.getD k 0+t).tdiv (B.getD k 0+1)))=iv (d:Nat)/\0<d/\d<1000000000/\d*b<=r:=by
  intro t ht;rw [<-ht]at e2;rw [<-e2];by_cases z:d=0
  ·exact⟨1,by simp [z],by omega,by omega,by omega⟩
  exact⟨d,by rw [aO (by omega)],by omega,d2,d3⟩
 clear h4 eT hbA hbB e2 d2 d3 hlt hle hb hA hB hd h2;by_cases c1:((k:Nat):Int)+1<(A.length:Nat)
 ·have c2:k+1<A.length:=by omega
  have c3:((B.length:Nat):Int)<(A.length:Nat):=by omega
  rw [aQ c2]at d5 fin;obtain⟨u,f1,f2⟩:=fin _ rfl;refine⟨u,?_,f2⟩;clear f2 fin;rw [<-f1];have nb:¬B.getD k 0+1=0:=by omega
  refine lQ nR h.hT ?_;simp only [uf,Lz];refine ev ?_;refine ev5 @c0 @c3 @e1 @e4 @nb ?_;rw [hk,w64 (n:=A.getD (k+1) 0*1000000000) (by omega),w64 (n:=A.getD k 0+_) (by omega),w64 (by omega)];refine kY (fun z=>?_) fun z=>?_<;>(refine ev1 @z ?_;try with_reducible exact aC)
 have c2:¬k+1<A.length:=by omega
 have c3:¬((B.length:Nat):Int)<(A.length:Nat):=by omega
 rw [aO c2]at d5 fin;obtain⟨u,f1,f2⟩:=fin _ rfl;refine⟨u,?_,f2⟩;clear f2 fin;rw [<-f1];have nb:¬B.getD k 0+1=0:=by omega
 refine lQ nR h.hT ?_;simp only [uf,Lz];refine ev ?_;refine ev5 @c0 @c3 @e1 @e4 @nb ?_;simp only [Int.add_zero]at d5 ⊢;refine kY (fun z=>?_) fun z=>?_<;>(refine ev1 @z ?_;try with_reducible exact aC)
theorem ai0{a b:St}(h:Fg a b:=by
 (refine Sm [(0,_)] (by simp) (by intro p hp;simp only [aI,dD,or_false]at hp;rcases hp with rfl<;>refine⟨rfl,?_⟩<;>first|exact wX _|simp [nN,V.still]) rfl ?_)<;>(try (refine ev ?_;try with_reducible exact aC))<;>(repeat' (first|exact aC|omega|exact Ba rfl (by simp)|refine⟨?_,?_⟩|exact iV (Dn _ _ _)|exact qR rfl (by simp;done)|exact qR rfl rfl|(refine rJ rfl ?_ rfl;simp [kR];done)|(refine rJ rfl ?_ rfl;simp [kR];omega)|(refine Ho ?_ ?_;(focus ((refine ev ?_;try with_reducible exact aC);done));(intro q hq k s0 l0;simp;done))))):Fg a b:=h
theorem XL{T:Tb}(h:Bf T){m n:Nat}(hn:0<n)(la:(mk m).length<=900:=by exact tX)(lb:(mk n).length<=900:=by exact tX) :
  PF T 138 [ints (mk m),ints (mk n)] (.oJ [ints (mk (m / n)),ints (mk (m % n))]):=by
 obtain⟨A,hA⟩:∃A,mk m=A:=⟨_,rfl⟩;obtain⟨B,hB⟩:∃B,mk n=B:=⟨_,rfl⟩;have hva:val A=m:=by rw [<-hA,val_mk]
 have hbA:Lb A:=hA▸vH m;have hbB:Lb B:=hB▸vH n;rw [hA]at la ⊢;rw [hB]at lb ⊢;refine kS nR h.hT ?_;simp only [Bd,Lz];refine ev ?_;have cas:(((A.length:Nat):Int)<=2/\((B.length:Nat):Int)<=2)\/((((A.length:Nat):Int)<=2/\¬((B.length:Nat):Int)<=2)\/¬((A.length:Nat):Int)<=2):=by omega
 rcases cas with ⟨c1,c2⟩|big
 ·have sm:m<1000000000000000000:=by
   have:=y7 hbA;rw [hva]at this;exact bn this (dw (gu (by omega) (show A.length<=2 by omega)) (by omega))
  have sn:n<1000000000000000000:=by
   have:=y7 hbB;rw [<-hB,val_mk]at this;exact bn this (dw (gu (by omega) (show (mk n).length<=2 by rw [hB];omega)) (by omega))
  have cs:=Fz h.uh sm;have ct:=Fz h.uh sn;rw [hA]at cs;rw [hB]at ct;have e1:((m:Nat):Int).tdiv (n:Nat)=((m / n:Nat):Int):=by rw [gI (by omega),Int.natCast_ediv]
  have e2:((m:Nat):Int).tmod (n:Nat)=((m % n:Nat):Int):=by rw [iR (by omega),kD]
  have d1:m / n<=m:=Nat.div_le_self ..;have d2:m % n<=m:=Nat.mod_le ..;have nz:¬((n:Nat):Int)=0:=by omega
  generalize m / n=q at *;generalize m % n=r at *;have c3:=zI h.nH (n:=((q:Nat):Int)) (by omega);have c4:=zI h.nH (n:=((r:Nat):Int)) (by omega);rw [fQ]at c3 c4;refine zf @c1 @c2 ?_;refine jM cs ?_;refine ev ?_;refine jM ct ?_;refine EG @nz @e1 @e2 ?_;refine jM c3 ?_;refine EG @nz @e1 @e2 ?_;refine jM c4 ?_;refine ev ?_;exact kM _
 rcases big with ⟨c1,c2⟩|c1
 case' inl=>(refine zf @c1 @c2 ?_;try with_reducible exact aC)
 case' inr=>(refine ev1 @c1 ?_;try with_reducible exact aC)
 all_goals
  refine⟨by omega,?_⟩;rw [QO];refine kV (fun _ _=>false) (α:=Nat×List Int×Nat) (fun q=>⟨mM [ints A,ints B,.any,.any,.any,.any,.any,.any,.lG 0 0 A.length,ints (mk q.2.2),iv ((q.1:Nat)-1)],[some ⟨1,kR q.2.1⟩],0,0,[],[]⟩) (fun q=>q.1<=A.length/\q.2.1.length=A.length/\Lb q.2.1/\(∀j,j<q.1->q.2.1.getD j 0=0)/\q.2.2<n/\val (A.drop q.1)=val (q.2.1.drop q.1)*n+q.2.2) (fun q=>q.1) rfl (A.length,List.replicate A.length 0,0) ?_ ?_ ?_
  ·exact⟨by omega,by simp,QS _,by intro j _;simp [List.getD_eq_getElem?_getD,List.getElem?_replicate];split<;>rfl,hn,by dsimp only;rw [mV (Nat.le_refl _),mV (by simp)];simp⟩
  ·rw [mk_zero];exact ai0
  rintro⟨k,Q,x⟩ ⟨hk,hQ,hQb,hz,hx,hv⟩;dsimp only at hk hQ hQb hz hx hv;by_cases k0:k=0
  ·subst k0;rw [bZ,bZ,hva]at hv;obtain⟨q1,q2⟩:=Nb hv hx;have e0:¬(0:Int)<=((0:Nat):Int)-1:=by omega
   refine ev1 @e0 ?_;refine jM (LH h.sZ (l:=Q) (by omega)) ?_;refine ev ?_;rw [BJ hQb,<-q1,<-q2];exact kM _
  obtain⟨i,rfl⟩:∃i,k=i+1:=⟨k-1,by omega⟩;have e0:(((i+1:Nat):Int)-1)=(i:Nat):=by omega
  have e1:((i:Nat):Int)<(A.length:Nat):=by omega
  have e2:(0:Int)<=(i:Nat):=by omega
  rw [e0];have ga:=vI hbA i;have hvi:=qH A i;obtain⟨t,ht⟩:∃t,(A.getD i 0).toNat+1000000000*x=t:=⟨_,rfl⟩;have htn:t<n*1000000000:=by omega
  have lt':(A.getD i 0::mk x).length<=1048576:=by
   have:(mk x).length<=B.length:=by rw [lS];exact Nat.lt_trans hx (by have:=y7 hbB;rw [<-hB,val_mk,hB]at this;exact this)
   simp only [ak];omega
  have tr:trim (A.getD i 0::mk x)=mk t:=by
   rw [BJ (by intro y hy;rcases aI.1 hy with rfl|hy;exact ga;exact vH x y hy),<-ht,val,val_mk]
  have ct:=LH h.sZ (l:=A.getD i 0::mk x) lt';rw [tr]at ct;have ely:∀y,y<=t->(mk y).length<=901:=by
   intro y hy;have:(mk y).length<=B.length+1:=by
    rw [lS,jd];have:=y7 hbB;rw [<-hB,val_mk,hB]at this;exact bn (iC hy htn) (dG _ (Nat.le_of_lt this))
   omega
  have lx:=ely;refine zf @e2 @e1 ?_;refine⟨fun e3=>?_,fun e3=>?_⟩
  case' refine_1 =>
   have x0:mk x=[]:=by cases hm:mk x with|nil=>rfl|cons a l=>rw [hm]at e3;cases e3
   rw [x0]at ct;rw [show [[V.int IntKind.i64 (A.getD i 0)]]=kR [A.getD i 0]from rfl]
   (refine ev ?_;try with_reducible exact aC)
  case' refine_2 =>
   refine ev1 @e3 ?_;rw [show [V.int IntKind.i64 (A.getD i 0)]::kR (mk x)=kR (A.getD i 0::mk x)from rfl];refine ev ?_;have lm:=lt';simp only [ak]at lm;refine⟨by omega,?_⟩
  all_goals
   clear lt';refine jM ct ?_;refine ev ?_;refine kV (fun _ _=>false) (α:=List Int×Nat) (fun q=>⟨mM [ints A,ints B,.any,.any,.any,.any,.any,.any,.lG 0 0 A.length,ints (mk q.2),iv (i:Nat)],[some ⟨1,kR q.1⟩],0,0,[],[]⟩) (fun q=>q.1.length=A.length/\Lb q.1/\(∀j,j<i->q.1.getD j 0=0)/\q.1.drop (i+1)=Q.drop (i+1)/\q.2+(q.1.getD i 0).toNat*n=t) (fun q=>q.2) rfl (Q,t) ?_ ?_ ?_
   ·exact⟨hQ,hQb,fun j hj=>hz j (by omega),rfl,by dsimp only;rw [hz i (by omega)];simp⟩
   ·exact ai0
   rintro⟨P,y⟩ ⟨hP,hPb,hzP,hd,hy⟩;dsimp only at hP hPb hzP hd hy;have yt:y<=t:=by omega
   have ly:=ely y yt;have cc:=XI h.Gj (wC y) (wC n) (by omega) (by rw [hB];omega);rw [val_mk,val_mk,hB]at cc;refine ev ?_;refine jM cc ?_;refine ev ?_;refine kY (fun c3=>?_) fun c3=>?_<;>(refine ev1 @c3 ?_;try with_reducible exact aC)
   ·have hny:n<=y:=xP.1 c3;obtain⟨d,pg,d0,d1,d2⟩:=XK h.NW hn hny (by omega) (by omega) (by rw [hB];omega);rw [hB]at pg;have pm:=XJ h.Gl (m:=n) (n:=d) (by rw [hB];omega) (by rw [mk_one d0 d1];simp);have dn:n*d<=y:=by rw [dP];exact d2
    have lnd:=ely (n*d) (by omega);have ps:=SH h.Bg dn (by omega) (by omega);rw [hB,mk_one d0 d1]at pm;have gp:=vI hPb i;have y2:y-n*d+((P.getD i 0).toNat+d)*n=t:=by rw [gG,dP d n];omega
    have gp2:P.getD i 0+d<1000000000:=by
     have:((P.getD i 0).toNat+d)*n<1000000000*n:=by rw [dP 1000000000];omega
     have:=Nat.lt_of_mul_lt_mul_right this;omega
    have d0':0<n*d:=Nat.mul_pos hn d0;have k1:=MS (l:=P) (i:=i) (d:=P.getD i 0+d) (by omega) gp2 hPb;have k2:∀j,j<i->(P.set i (P.getD i 0+d)).getD j 0=0:=by
     intro j hj;rw [sD,aO (by omega)];exact hzP j hj
    have k3:(P.set i (P.getD i 0+d)).drop (i+1)=Q.drop (i+1):=by rw [List.drop_set_of_lt (by omega),hd]
    have k4:((P.set i (P.getD i 0+d)).getD i 0)=P.getD i 0+d:=by rw [sD,aQ ⟨rfl,by omega⟩]
    have k5:y-n*d+((P.set i (P.getD i 0+d)).getD i 0).toNat*n=t:=by
     rw [k4,show (P.getD i 0+(d:Int)).toNat=(P.getD i 0).toNat+d by omega];exact y2
    have k6:y-n*d<y:=by omega
    clear y2 hy htn ht hvi k4 hzP hd d2 lx ely hv hz hx;refine jM pg ?_;refine ev ?_;rw [show [[V.int IntKind.i64 (d:Int)]]=kR [(d:Int)]from rfl];refine ev ?_;refine jM pm ?_;refine ev ?_;refine jM ps ?_;refine zf @e1 @hP ?_;exact⟨(P.set i (P.getD i 0+d),y-n*d),k6,⟨by simp [hP],k1,k2,k3,k5⟩,by exact ai0⟩
   have hny:y<n:=by
    have:=@xP y n;omega
   have k1:=qH P i;rw [hd]at k1;have k2:val (A.drop i)=val (P.drop i)*n+y:=by
    rw [hvi,hv,k1,gG,jq,<-gQ];omega
   exact⟨(i,P,y),by dsimp only;omega,⟨by dsimp only;omega,hP,hPb,hzP,hny,k2⟩,by (refine kN ?_;exact MG)⟩
def yB:Fn:=⟨1,6,[.tmp 2],(sr [oN 2 mN] (.seq (rf 2 [oN 3 (.nM 1 Oo 0 []),oK 4 2 (oV 0),oK 5 1 (.app 1 8 (.t 3) (.t 4)),oK 2 2 (oV 5)]) .ret))⟩
structure vM (T:Tb):Prop where
 hT:T 139=some yB
def Gm:Fn:=⟨2,43,[.tmp 4],(sr [oN 4 mN] (.seq (.block 0 (.loop (.seq (sr [oW 9 1,oN 10 (ln 9),oN 11 (bc .gtr 10 0)] (cd 11 .skip (.exit 0))) (.block 1 (.seq (sr [oW 12 0,oN 13 (ln 12),oN 14 (bc .leq 13 2),oW 15 14,oG 15 true 16 (oV 1),oG 15 true 17 (ln 16),oG 15 true 18 (bc .leq 17 2),oN 19 (.pick (.t 15) (.t 18) (.c (.bool false)))] (cd 19 (sr [oW 20 0,oN 21 (cl 137 [20]),oW 22 1,oN 23 (cl 137 [22]),oW 5 21,oW 6 23] (.seq (.block 2 (.loop (.seq (sr [oW 24 6,oN 25 (bc .gtr 24 0)] (cd 25 .skip (.exit 2))) (.block 3 (rt 0 [oW 26 6,oW 27 5,oW 28 6,oA 29 0 (bt .rem 27 28) [1,2],oA 5 0 (oV 26) [0,0,1],oA 6 0 (oV 29) [3,4,0,1,2,3,4]]))))) (sr [oW 30 5,oN 31 (.conv .u64 (.t 30)),oN 32 (cl 69 [31]),oW 4 32] .ret))) .skip)) (sr [oW 34 0,oW 35 1,oN 36 (cl 138 [34,35]),oW 33 36,oN 37 (ex 0 33),oN 38 (ex 1 33),oW 7 37,oW 8 38] (rg [oW 39 1,oW 40 8,oW 0 39,oW 1 40]))))))) (sr [oW 41 0,oN 42 (cl 139 [41]),oW 4 42] .ret)))⟩
structure Gn (T:Tb):Prop where
 hT:T 127=some Gm
 nH:uP T
 uh:BL T
 yL:Bf T
 qE:vM T
theorem QY{T:Tb}(h:vM T){l:List Int}(hl:l.length<=1048576:=by exact tX):PF T 139 [ints l] (ints l):=by
 refine kS nR h.hT ?_;simp only [yB,Lz];refine ev ?_;refine⟨fun e=>?_,fun e=>⟨by omega,kM _⟩⟩;show mP (.sl 1 (kR l)) .jZ;rw [e];exact iV (sV 1)
theorem XM{T:Tb}(h:Gn T){m n:Nat}(la:(mk m).length<=900:=by exact tX)(lb:(mk n).length<=900:=by exact tX) :
  PF T 127 [ints (mk m),ints (mk n)] (ints (mk (Nat.gcd m n))):=by
 refine kS nR h.hT ?_;simp only [Gm,Lz];refine ev ?_;refine kV (fun _ _=>false) (α:=Nat×Nat) (fun q=>⟨mM [ints (mk q.1),ints (mk q.2)],[],0,0,[],[]⟩) (fun q=>Nat.gcd q.1 q.2=Nat.gcd m n/\(mk q.1).length<=900/\(mk q.2).length<=900) (fun q=>q.2) rfl (m,n) ?_ ?_ ?_
 ·exact⟨rfl,la,lb⟩
 ·exact Ky
 rintro⟨x,y⟩ ⟨hg,lx,ly⟩;dsimp only at hg lx ly;rw [<-hg];clear hg la lb;refine ev ?_;refine kY (fun c1=>?_) fun c1=>?_<;>(refine ev1 @c1 ?_;try with_reducible exact aC)
 ·have hy:0<y:=by
   rcases gU y with rfl|h
   ·rw [mk_zero]at c1;simp at c1
   exact h
  have cas:((((mk x).length:Nat):Int)<=2/\(((mk y).length:Nat):Int)<=2)\/(((((mk x).length:Nat):Int)<=2/\¬(((mk y).length:Nat):Int)<=2)\/¬(((mk x).length:Nat):Int)<=2):=by omega
  rcases cas with ⟨c2,c3⟩|big
  ·have sx:x<1000000000000000000:=by have:=lS (n:=x) (k:=2);omega
   have sy:y<1000000000000000000:=by have:=lS (n:=y) (k:=2);omega
   refine zf @c2 @c3 ?_;refine jM (Fz h.uh sx) ?_;refine ev ?_;refine jM (Fz h.uh sy) ?_;refine ev ?_;refine kV (fun _ _=>false) (α:=Nat×Nat) (fun q=>⟨mM [.any,.any,.any,.any,.any,iv (q.1:Nat),iv (q.2:Nat)],[],0,0,[],[]⟩) (fun q=>Nat.gcd q.1 q.2=Nat.gcd x y/\q.1<1000000000000000000/\q.2<1000000000000000000) (fun q=>q.2) rfl (x,y) ?_ ?_ ?_
   ·exact⟨rfl,sx,sy⟩
   ·exact Ky
   rintro⟨u,v⟩ ⟨hg,su,sv⟩;dsimp only at hg su sv;rw [<-hg];clear hg;refine ev ?_;refine kY (fun c4=>?_) fun c4=>?_<;>(refine ev1 @c4 ?_;try with_reducible exact aC)
   ·have v0:0<v:=by omega
    have er:((u:Nat):Int).tmod (v:Nat)=((u % v:Nat):Int):=by rw [iR (by omega),kD]
    have lr:=kF u v0;have eg:Nat.gcd v (u % v)=Nat.gcd u v:=by rw [jV u v,Nat.gcd_rec v u,jV]
    exact⟨(v,u % v),lr,⟨eg,sv,by dsimp only;omega⟩,by (refine kN ?_)<;>(try (refine ev1 @er ?_;try with_reducible exact True.intro))<;>(repeat' (first|refine⟨?_,?_⟩|exact MO (by omega)|exact OT (by simp)|exact JM _))⟩
   have v0:v=0:=by omega
   have cu:=zI h.nH (n:=((u:Nat):Int)) (by omega);rw [fQ]at cu;refine jM cu ?_;refine ev ?_;rw [v0,Nat.gcd_zero_right];exact kM _
  have lr:=kF x hy;have lr2:(mk (x % y)).length<=900:=dw (lS.2 (Nat.lt_trans lr (lS.1 (aK _)))) ly;have eg:Nat.gcd y (x % y)=Nat.gcd x y:=by rw [jV x y,Nat.gcd_rec y x,jV]
  rcases big with ⟨c2,c3⟩|c2
  case' inl=>(refine zf @c2 @c3 ?_;try with_reducible exact aC)
  case' inr=>(refine ev1 @c2 ?_;try with_reducible exact aC)
  all_goals
   refine jM (XL h.yL hy lx ly) ?_;refine ev ?_;exact⟨(y,x % y),lr,⟨eg,ly,lr2⟩,by (refine kN ?_;exact MG)⟩
 have y0:y=0:=by
  rcases gU y with h|h
  ·exact h
  have:=akI (n:=y) (by omega);omega
 refine jM (QY h.qE (l:=mk x) (by omega)) ?_;refine ev ?_;rw [y0,Nat.gcd_zero_right];exact kM _
theorem JQ{T:Tb}(h:vM T){l:List Int}(hl:l.length<=1048576:=by exact tX):PO T 139 [ints l] (ints l):=by
 refine lW nR h.hT ?_;simp only [yB,Lz,St.enter,ak,aG,aV];refine ew ?_;exact⟨fun e=>aiT e,fun _=>⟨by omega,XC rfl⟩⟩
def cnt(n:Nat)(k:Int):List Int:=(List.range n).map fun i=>k+((i:Nat):Int)
theorem Y8{α:Type} [Inhabited α] (cl:α->List V) (l:List α) {i:Nat} (h:i<l.length):(l.take (i+1)).map cl=(l.take i).map cl++[cl (l.getD i default)]:=by
 rw [jf,au h,aj,au h,bT];rfl
theorem Gp{σ:Store}{cs:List V}(h:∀v∈cs,v.still=true):resolve σ FD (.agg cs)=some (.agg cs):=by
 show (cs.mapM (resolve σ 11)).map V.agg=_;rw [Fa (n:=10) h];rfl
def BM:Fn:=⟨2,26,[.tmp 4],(sr [oN 4 mF] (.seq (sr [oW 7 0,oN 8 (ln 7),oW 9 1,oN 10 (ln 9),oN 11 (bt .neq 8 10)] (cd 11 (sr [oN 4 mF] .ret) .skip)) (.seq (sr [oW 12 0,oN 13 (ln 12),oN 14 (.qw (cI 0))] (.block 0 (.loop (sr [oN 15 (bt .lss 14 13)] (.seq (cd 15 .skip (.exit 0)) (.seq (.block 1 (sr [oW 16 14,oN 17 (ix 1 12 14),oN 18 (lF 1 17),oW 5 16,oW 6 18] (sr [oW 19 6,oW 20 1,oW 21 5,oN 22 (ix 1 20 21),oN 23 (lF 1 22),oN 24 (bt .neq 19 23)] (cd 24 (sr [oN 4 mF] .ret) .skip)))) (rg [oN 25 (bc .add 14 1),oW 14 25]))))))) (sr [oN 4 mT] .ret))))⟩
structure Ig (T:Tb):Prop where
 hT:T 52=some BM
def BN:Fn:=⟨2,28,[.tmp 4],(.seq (rf 2 [oN 2 (.box (.t 0)),oK 3 1 (.box (.t 1)),oK 4 2 mF]) (sr [oN 5 (fd 0 2),oN 6 (fd 0 5),oN 7 (lF 1 6),oN 8 (fd 0 3),oN 9 (fd 0 8),oN 10 (lF 1 9),oN 11 (.beq false (.t 7) (.t 10)),oW 12 11,oG 12 true 13 (fd 0 2),oG 12 true 14 (fd 1 13),oG 12 true 15 (lF 1 14),oG 12 true 16 (fd 0 3),oG 12 true 17 (fd 1 16),oG 12 true 18 (lF 1 17),oG 12 true 19 (cl 52 [15,18]),oN 20 (.pick (.t 12) (.t 19) (.c (.bool false))),oW 21 20,oG 21 true 22 (fd 2 2),oG 21 true 23 (lF 1 22),oG 21 true 24 (fd 2 3),oG 21 true 25 (lF 1 24),oG 21 true 26 (cl 52 [23,25]),oN 27 (.pick (.t 21) (.t 26) (.c (.bool false))),oW 4 27] .ret))⟩
structure BO (T:Tb):Prop where
 hT:T 32=some BN
 VR:Ig T
def zh:Fn:=⟨2,40,[.tmp 4],(sr [oN 4 mF] (.seq (sr [oW 7 0,oN 8 (ln 7),oW 9 1,oN 10 (ln 9),oN 11 (bt .neq 8 10)] (cd 11 (sr [oN 4 mF] .ret) .skip)) (.seq (sr [oW 12 0,oN 13 (ln 12),oN 14 (.qw (cI 0))] (.block 0 (.loop (sr [oN 15 (bt .lss 14 13)] (.seq (cd 15 .skip (.exit 0)) (.seq (.block 1 (.seq (rf 1 [oK 16 1 (oV 14),oK 17 1 (ix 6 12 14),oK 18 1 (lT 6 17),oN 6 (.alloc zz6),oK 5 1 (oV 16),⟨none,none,1,.store 6 (.t 6) (.t 18),[]⟩]) (.seq (rt 0 [oN 19 (fd 0 6),oA 20 0 (lT 3 19) [0],oW 21 1,oW 22 5,oA 23 0 (ix 6 21 22) [2,3],oA 24 0 (fd 0 23) [4],oA 25 0 (lT 3 24) [5],oA 26 0 (cl 32 [20,25]) [1,6],oA 27 0 (nt 26) [7],oA 28 0 (oV 27) [8,7],oH 28 false 29 0 (fd 3 6) [9],oH 28 false 30 0 (lT 3 29) [10,9],oH 28 false 31 0 (oV 1) [9],oH 28 false 32 0 (oV 5) [9],oH 28 false 33 0 (ix 6 31 32) [12,13,9],oH 28 false 34 0 (fd 3 33) [14,9],oH 28 false 35 0 (lT 3 34) [15,9],oH 28 false 36 0 (cl 32 [30,35]) [11,16,9,9],oH 28 false 37 0 (nt 36) [17,9],oA 38 0 (.pick (.t 28) (.c (.bool true)) (.t 37)) [9,18]]) (cd 38 (sr [oN 4 mF] .ret) .skip)))) (rg [oN 39 (bc .add 14 1),oW 14 39]))))))) (sr [oN 4 mT] .ret))))⟩
structure Dw (T:Tb):Prop where
 hT:T 12=some zh
 BP:BO T
theorem afn{T:Tb}(h:Ig T){a b:List Int}(hl:a.length<=9223372036854775807:=by exact tX)(hb:b.length<=9223372036854775807:=by exact tX):PF T 52 [ints a,ints b] (.bool (decide (a=b))):=by
 refine lQ nR h.hT ?_;simp only [BM,Lz];refine ev ?_;refine kY (fun h1=>?_) fun h1=>?_<;>(refine ev1 @h1 ?_;try with_reducible exact aC)
 ·have h1:a.length=b.length:=by omega
  refine kV (fun _ _=>false) (α:=Nat) (fun i=>⟨mM [ints a,ints b,.any,.any,.any,.any,.any,.any,.any,.any,.any,.any,ints a,iv (a.length:Nat),iv (i:Nat)],[],0,0,[],[]⟩) (fun i=>i<=a.length/\∀j,j<i->a.getD j 0=b.getD j 0) (fun i=>a.length-i) rfl 0 ?_ ?_ ?_
  ·exact⟨by omega,by intro j hj;omega⟩
  ·(refine kN ?_;exact MG)
  rintro i ⟨hi,hj⟩;refine ev ?_;refine kY (fun h2=>?_) fun h2=>?_<;>(refine ev1 @h2 ?_;try with_reducible exact aC)
  ·refine kY (fun h3=>?_) fun h3=>?_<;>(refine ev1 @h3 ?_;try with_reducible exact aC)
   ·refine⟨i+1,by omega,⟨by omega,fun j hj'=>?_⟩,by (refine kN ?_;exact MG)⟩;by_cases e:j=i
    ·subst e;exact h3
    exact hj j (by omega)
   have:¬a=b:=fun e=>h3 (by rw [e]);simp [this]
  have:a=b:=ZM h1 fun j h=>hj j (by omega);simp [this]
 have:¬a=b:=fun e=>h1 (by rw [e]);simp [this]
theorem Jj{T:Tb}(h:BO T){y z:R}(hy:y.wf:=by exact tX)(hz:z.wf:=by exact tX):PF T 32 [kW y,kW z] (.bool (decide (y=z))):=by
 obtain⟨w1,w2⟩:=hy;obtain⟨w3,w4⟩:=hz;refine lQ nR h.hT ?_;simp only [BN,Lz];refine ev ?_
 repeat' (first|((refine kY (fun hb=>?_) fun hb=>?_)<;>(try (refine ev1 @hb ?_;try with_reducible exact aC)))|((refine jM (afn h.VR) ?_)<;>(try (refine ev ?_;try with_reducible exact aC))))
 all_goals (cases y;cases z;simp_all)
theorem UH{T:Tb}(h:Dw T){a b:List Pt}(ha:Iz Pt.wf a:=by exact tX)(hb:Iz Pt.wf b:=by exact tX):PF T 12 [VO a,VO b] (.bool (decide (a=b))):=by
 have l1:=ha.1;have l2:=hb.1;refine lQ nR h.hT ?_;simp only [zh,Lz];refine ev ?_;refine kY (fun h1=>?_) fun h1=>?_<;>(refine ev1 @h1 ?_;try with_reducible exact aC)
 ·have h1:a.length=b.length:=by omega
  refine kV (fun _ _=>false) (α:=Nat) (fun i=>⟨mM [VO a,VO b,.any,.any,.any,.any,.any,.any,.any,.any,.any,.any,VO a,iv (a.length:Nat),iv (i:Nat)],[],0,0,[],[]⟩) (fun i=>i<=a.length/\∀j,j<i->a.getD j default=b.getD j default) (fun i=>a.length-i) rfl 0 ?_ ?_ ?_
  ·exact⟨by omega,by intro j hj;omega⟩
  ·(refine kN ?_;exact MG)
  rintro i ⟨hi,hj⟩;refine ev ?_;refine kY (fun h2=>?_) fun h2=>?_<;>(refine zf @h2 @mg ?_;try with_reducible exact aC)
  ·have wa:=ha.at_ (i:=i) (by omega);have wb:=hb.at_ (i:=i) (by omega);obtain⟨p,hp⟩:∃p,a.getD i default=p:=⟨_,rfl⟩;obtain⟨q,hq⟩:∃q,b.getD i default=q:=⟨_,rfl⟩;rw [hp]at wa;rw [hq]at wb;simp only [hp,hq]
   repeat' (first|((refine kY (fun hb=>?_) fun hb=>?_)<;>(try (refine ev4 @hb @mg @hp @hq ?_;try with_reducible exact aC)))|((refine jM (Jj h.BP (y:=p.x) (z:=q.x) wa.1 wb.1) ?_)<;>(try (refine EG @mg @hp @hq ?_;try with_reducible exact aC)))|((refine jM (Jj h.BP (y:=p.y) (z:=q.y) wa.2 wb.2) ?_)<;>(try (refine EG @mg @hp @hq ?_;try with_reducible exact aC))))
   all_goals first
    |(exfalso;simp_all;done)
    |(
      refine⟨i+1,by omega,⟨by omega,fun j hj'=>?_⟩,by exact atO⟩;by_cases e:j=i
      ·subst e;rw [hp,hq];first|assumption|(exact Pt.ext' (by simp_all) (by simp_all))
      exact hj j (by omega))
    |(
      have hne:¬a=b:=fun e=>by subst e;rw [hp]at hq;subst hq;simp_all
      simp [hne])
  have:a=b:=ZM h1 fun j h=>hj j (by omega);simp [this]
 have:¬a=b:=fun e=>h1 (by rw [e]);simp [this]
def R.ct(x:R):Nat:=1+x.mag.length+x.den.length
def Pt.ct(x:Pt):Nat:=1+x.x.mag.length+x.x.den.length+1+x.y.mag.length+x.y.den.length
def Lk.ct(x:Lk):Nat:=1+1+1+x.w.mag.length+x.w.den.length+1+x.dx.mag.length+x.dx.den.length+1+x.dy.mag.length+x.dy.den.length
def Pa.ct(x:Pa):Nat:=1+1+x.share.mag.length+x.share.den.length+1+x.dx.mag.length+x.dx.den.length+1+x.dy.mag.length+x.dy.den.length
def Cd.ct(x:Cd):Nat:=1+1+x.total.mag.length+x.total.den.length+cnL Pa.ct x.ps x.ps.length
def Tn.ct(x:Tn):Nat:=1+1+cnL Lk.ct x.own x.own.length+1+1+x.cond.total.mag.length+x.cond.total.den.length+cnL Pa.ct x.cond.ps x.cond.ps.length+cnL Lk.ct x.msgs x.msgs.length+1+x.MV.mag.length+x.MV.den.length
def Bi.ct2(x:Bi):Nat:=x.mag.length
def R.ct2(x:R):Nat:=Bi.ct2 x.num+x.den.length
def Pt.ct2(x:Pt):Nat:=x.x.ct2+x.y.ct2
def Lk.ct2(x:Lk):Nat:=x.w.ct2+x.dx.ct2+x.dy.ct2
def Cd.ct2(x:Cd):Nat:=x.total.ct2+cnL Pa.ct x.ps x.ps.length
theorem SI{α:Type}{f:α->Nat}{l:List α}{x:α}{n:Nat}(h:PS f l<=n)(hx:x∈l):f x<=n:=by
 have:∀l:List α,x∈l->f x<=(l.map f).sum:=by
  intro l
  induction l with
  |nil=>intro h;simp at h
  |
   cons y l ih =>
   intro h;rw [bV,List.sum_cons];rcases aI.1 h with rfl|h
   ·omega
   have:=ih h;omega
 have:=this l hx;unfold PS at h;omega
def Dx:Fn:=⟨1,15,[.cell 2 3 true],(.seq (rf 2 [oN 1 (.box (.t 0)),oK 2 1 (.alloc uz)]) (.seq (rt 0 [oN 3 (fd 0 1),oA 4 0 (fd 0 3) [0],oA 5 0 (lF 1 4) [1],oN 6 (fd 0 1),oA 7 0 (fd 1 6) [3],oA 8 0 (lF 1 7) [4],oA 9 0 (cl 139 [8]) [5],oA 10 0 (.build ZO [(0,1,(.t 5)),(1,1,(.t 9))]) [2,6],oN 11 (fd 2 1),oA 12 0 (lF 1 11) [8],oA 13 0 (cl 139 [12]) [9,6],oA 14 0 (.build uz [(0,2,(.t 10)),(2,1,(.t 13))]) [7,10],⟨none,none,0,.store 3 (.t 2) (.t 14),[11,10,0,1,2,3,4,5,6,7,8,9,10,11]⟩]) .ret))⟩
structure Dy (T:Tb):Prop where
 hT:T 145=some Dx
 qE:vM T
def BQ:Fn:=⟨1,17,[.cell 2 11 true],(.seq (rf 2 [oN 1 (.box (.t 0)),oK 2 1 (.alloc Hr)]) (.seq (rt 0 [oN 3 (fd 0 1),oA 4 0 (lF 1 3) [0],oN 5 (fd 1 1),oA 6 0 (lF 1 5) [2],oN 7 (fd 2 1),oA 8 0 (lT 3 7) [4],oA 9 0 (cl 145 [8]) [5],oN 10 (fd 5 1),oA 11 0 (lT 3 10) [7],oA 12 0 (cl 145 [11]) [8,6],oN 13 (fd 8 1),oA 14 0 (lT 3 13) [10],oA 15 0 (cl 145 [14]) [11,9],oA 16 0 (.build Hr [(0,1,(.t 4)),(1,1,(.t 6)),(2,3,(.t 9)),(5,3,(.t 12)),(8,3,(.t 15))]) [1,3,6,9,12],⟨none,none,0,.store 11 (.t 2) (.t 16),[13,12,0,1,2,3,4,5,6,7,8,9,10,11,12,13]⟩]) .ret))⟩
structure Ih (T:Tb):Prop where
 hT:T 133=some BQ
 tu:Dy T
def Ah:Fn:=⟨1,20,[.tmp 2],(sr [oN 2 mN] (.seq (rf 1 [oN 6 (.nM 11 Hr 0 []),oK 3 1 (oV 6)]) (.seq (sr [oW 7 0,oN 8 (ln 7),oN 9 (.qw (cI 0))] (.block 0 (.loop (sr [oN 10 (bt .lss 9 8)] (.seq (cd 10 .skip (.exit 0)) (.seq (.block 1 (.seq (rf 1 [oK 11 1 (ix 11 7 9),oK 12 1 (lT 11 11),oN 5 (.alloc Hr),⟨none,none,1,.store 11 (.t 5) (.t 12),[]⟩]) (rf 2 [oK 13 2 (oV 3),oK 14 2 (lT 11 5),oK 15 2 (cl 133 [14]),oN 16 (.nM 11 Hr 1 [(0,(.t 15))]),oK 17 1 (.app 11 184 (.t 13) (.t 16)),oK 3 2 (oV 17)]))) (rg [oN 18 (bc .add 9 1),oW 9 18]))))))) (sr [oW 19 3,oW 2 19] .ret))))⟩
structure FB (T:Tb):Prop where
 hT:T 110=some Ah
 NY:Ih T
def uD:Fn:=⟨1,40,[.cell 2 5 true],(.seq (rf 2 [oN 1 (.box (.t 0)),oK 2 1 (.alloc zz4)]) (.seq (rt 1 [oK 7 1 (fd 0 1),oA 8 1 (lF 1 7) [0],oK 9 1 (fd 1 1),oA 10 1 (lT 3 9) [2],oA 11 1 (cl 145 [10]) [3],oA 12 1 (.build zz4 [(0,1,(.t 8)),(1,3,(.t 11))]) [1,4],oN 3 (.alloc zz4),⟨none,none,1,.store 5 (.t 3) (.t 12),[6,5,4,0,1,2,3,4,5,6]⟩]) (.seq (sr [oN 13 (fd 4 1),oN 14 (lF 1 13),oN 15 (ln 14),oN 16 (.qw (cI 0))] (.block 0 (.loop (sr [oN 17 (bt .lss 16 15)] (.seq (cd 17 .skip (.exit 0)) (.seq (.block 1 (.seq (rf 1 [oK 18 1 (ix 10 14 16),oK 19 1 (lT 10 18),oN 5 (.alloc zz5),⟨none,none,1,.store 10 (.t 5) (.t 19),[]⟩]) (.seq (rt 1 [oK 20 1 (fd 0 5),oA 21 1 (lF 1 20) [0],oK 22 1 (fd 1 5),oA 23 1 (lT 3 22) [2],oA 24 1 (cl 145 [23]) [3],oK 25 1 (fd 4 5),oA 26 1 (lT 3 25) [5],oA 27 1 (cl 145 [26]) [6,4],oK 28 1 (fd 7 5),oA 29 1 (lT 3 28) [8],oA 30 1 (cl 145 [29]) [9,7],oA 31 1 (.build zz5 [(0,1,(.t 21)),(1,3,(.t 24)),(4,3,(.t 27)),(7,3,(.t 30))]) [1,4,7,10],oN 6 (.alloc zz5),⟨none,none,1,.store 10 (.t 6) (.t 31),[12,11,10,0,1,2,3,4,5,6,7,8,9,10,11,12]⟩]) (rf 2 [oK 32 2 (fd 4 3),oK 33 2 (lF 1 32),oK 34 2 (lT 10 6),oN 35 (.nM 10 zz5 1 [(0,(.t 34))]),oK 36 1 (.app 10 176 (.t 33) (.t 35)),oK 37 2 (fd 4 3),⟨none,none,2,.store 1 (.t 37) (.t 36),[]⟩])))) (rg [oN 38 (bc .add 16 1),oW 16 38]))))))) (sr [oN 39 (lT 5 3),oS (.store 5 (.t 2) (.t 39))] .ret))))⟩
structure xR (T:Tb):Prop where
 hT:T 183=some uD
 tu:Dy T
theorem CU{T:Tb}(h:Dy T){r:R}(hl:r.sz<=1048576:=by exact tX):PO T 145 [kW r] (kW r):=by
 simp only [R.sz]at hl;refine lW (fun x d=>x == 139) h.hT ?_;simp only [Dx,Lz,St.enter,ak,aG,aV];refine ew ?_;have O:=fun s:Store=>(@ak7 2 s).bool r.neg;refine qj (JQ h.qE (l:=r.mag) (by omega)) (by (refine ew ?_;try with_reducible exact aC)) (by (refine ew ?_;try with_reducible exact aC)) ?_;intro v1 σ1 o1 g;have B1:=g.at 1 (by simp) rfl;have B0:=g.at 0 (by simp) rfl;have lq:2<=σ1.length:=g.len;have lf:=g.lf rfl;have lb:=g.lfb rfl
 replace O:=(O _).got g (by simp)
 refine Jg @B0 @B1 @lq @lf @lb ?_;refine qj (JQ h.qE (l:=r.den) (by omega)) (by (refine ew ?_;try with_reducible exact aC)) (by (refine ew ?_;try with_reducible exact aC)) ?_;intro v2 σ2 o2 g2
 replace B1:=(g2.old 1 (by omega)).trans B1
 have lq2:2<=σ2.length:=by have:=g2.len;omega
 have lf2:=g2.lf rfl;have lb2:=g2.lfb rfl
 replace O:=O.got g2 (by omega)
 refine Ia @B1 @lq2 @lf2 @lb2 @lf @lb ?_;refine⟨by unfold rO;decide +kernel,?_⟩;refine y8 @lq2 ?_;exact(O.set (by decide)).fin
theorem VA{T:Tb}(h:Ih T){x:Lk}(hl:x.sz<=1048576:=by exact tX):PO T 133 [RN x] (RN x):=by
 simp only [Lk.sz,R.sz]at hl;refine lW (fun x d=>x == 145) h.hT ?_;simp only [BQ,Lz,St.enter,ak,aG,aV];refine ew ?_;have O:=fun s:Store=>@ak7 2 s
 replace O:=fun s=>(O s).int .i64 x.a
 replace O:=fun s=>(O s).int .i64 x.b
 refine qj (CU h.tu (r:=x.w) (by simp only [R.sz];omega)) (by (refine ew ?_;try with_reducible exact aC)) (by (refine ew ?_;try with_reducible exact aC)) ?_;intro r σ1 os g;have lq:2<=σ1.length:=g.len;have B0:=g.at 0 (by simp) rfl;have B1:=g.at 1 (by simp) rfl
 replace O:=(O _).got g (by simp)
 obtain⟨a0,d0,_,_,rfl,_,k1,k2⟩:=g.ow.Na
 replace O:=O.flat rfl
 have la:=k1.leaf rfl;have ld:=k2.leaf rfl;have XO:=ah la ld;have fc:=(fun q=>yK (cs:=[.bool x.w.neg,a0,d0]) (by simp [la,ld,show ∀b,V.leaf (.bool b)=true from fun _=>rfl]) q);clear g;refine Jg @B0 @B1 @lq @XO @fc ?_;refine qj (CU h.tu (r:=x.dx) (by simp only [R.sz];omega)) (by (refine Jg @B0 @B1 @lq @XO @fc ?_;try with_reducible exact aC)) (by (refine Jg @B0 @B1 @lq @XO @fc ?_;try with_reducible exact aC)) ?_;intro r σ2 os g
 replace B0:=(g.old 0 (by omega)).trans B0
 replace B1:=(g.old 1 (by omega)).trans B1
 replace O:=O.got g (by omega)
 replace lq:2<=σ2.length:=by have:=g.len;omega
 obtain⟨a1,d1,_,_,rfl,_,k1,k2⟩:=g.ow.Na
 replace O:=O.flat rfl
 have la:=k1.leaf rfl;have ld:=k2.leaf rfl
 replace XO:=ah XO (ah la ld)
 replace fc:=ah fc (fun q=>yK (cs:=[.bool x.dx.neg,a1,d1]) (by simp [la,ld,show ∀b,V.leaf (.bool b)=true from fun _=>rfl]) q)
 clear g;refine Jg @B0 @B1 @lq @XO @fc ?_;refine qj (CU h.tu (r:=x.dy) (by simp only [R.sz];omega)) (by (refine Jg @B0 @B1 @lq @XO @fc ?_;try with_reducible exact aC)) (by (refine Jg @B0 @B1 @lq @XO @fc ?_;try with_reducible exact aC)) ?_;intro r σ3 os g
 replace B0:=(g.old 0 (by omega)).trans B0
 replace B1:=(g.old 1 (by omega)).trans B1
 replace O:=O.got g (by omega)
 replace lq:2<=σ3.length:=by have:=g.len;omega
 obtain⟨a2,d2,_,_,rfl,_,k1,k2⟩:=g.ow.Na
 replace O:=O.flat rfl
 have la:=k1.leaf rfl;have ld:=k2.leaf rfl
 replace XO:=ah XO (ah la ld)
 replace fc:=ah fc (fun q=>yK (cs:=[.bool x.dy.neg,a2,d2]) (by simp [la,ld,show ∀b,V.leaf (.bool b)=true from fun _=>rfl]) q)
 clear g;refine Jg @B0 @B1 @lq @XO @fc ?_;refine⟨by unfold rO;decide +kernel,?_⟩;refine y8 @lq ?_;exact(O.set (by decide)).fin
theorem aa6{T:Tb}(h:FB T){l:List Lk}(hl:PS Lk.sz l<=1048576:=by exact tX):PO T 110 [nY l] (nY l):=by
 have hll:l.length<=1048576:=by unfold PS at hl;omega
 refine lW (fun x d=>x == 133) h.hT ?_;simp only [Ah,Lz,St.enter,ak,aG,aV];refine ew ?_;refine kV (fun x d=>x == 133) (α:=Nat×Store×V×List (List V)) (fun q=>⟨mM [.any,.any,.jZ,q.2.2.1,.any,.any,.any,nY l,iv (l.length:Nat),iv (q.1:Nat)],q.2.1,0,0,[],[]⟩) (fun q=>q.1<=l.length/\Grow q.2.1 q.2.2.1 11 q.2.2.2 ((l.take q.1).map Lk.cells)) (fun q=>l.length-q.1) rfl (0,[none],.jZ,[]) ?_ ?_ ?_
 ·exact⟨by omega,alb⟩
 ·(refine kN ?_;exact uT)
 rintro⟨i,s,v,A⟩ ⟨hi,hG⟩;dsimp only at hi hG;by_cases hc:(i:Int)<(l.length:Nat)
 ·have hil:i<l.length:=by omega
  have hAl:A.length=i:=by have:=hG.len;simp at this;omega
  obtain⟨x,hx⟩:∃x,l.getD i default=x:=⟨_,rfl⟩;have hts:=Y8 Lk.cells l hil;have hxs:x.sz<=1048576:=by have:=SI (f:=Lk.sz) hl (getD_mem hil);rw [hx]at this;exact this
  rw [hx]at hts;have e4:∀σ:Store,resolve σ FD (RN x)=some (RN x):=fun σ=>Gp (Hq [x] _ (by simp));rcases hG.cases with ⟨rfl,h1,rfl⟩|⟨o,rfl,ho,hlt⟩
  ·refine EN @hc @mg @hx ?_;refine nK (VA h.NY hxs) (by (refine y8 @e4 ?_;try with_reducible exact aC)) ?_;intro r σ2 os g;obtain⟨cs,rfl,k1⟩:=g.ow.lJ;have gl:s.length+3<=σ2.length:=by have:=g.len;simp at this;omega
   have lf:=yK (k1.leaf rfl);have cl1:cs.length=11:=k1.len;refine EN @lf @cl1 @gl ?_;refine⟨by omega,(i+1,(σ2.set (s.length+1) (some ⟨11,[cs]⟩)).set (s.length+1+1) (some ⟨11,[cs]⟩),.lG (s.length+1+1) 0 1,[cs]),by dsimp only;omega,⟨by dsimp only;omega,?_⟩,by (refine kN ?_;exact uT)⟩;dsimp only;rw [hts];exact hG.aCx (fun q hq=>by simp only [cO];exact pq hq) (by simp) g (by omega) (by simp) (by omega) (by simp) (by omega)
  refine Jg @hc @mg @hx @ho @hlt ?_;refine nK (VA h.NY hxs) (by (refine y8 @e4 ?_;try with_reducible exact aC)) ?_;intro r σ2 os g;obtain⟨cs,rfl,k1⟩:=g.ow.lJ;have gl:s.length+3<=σ2.length:=by have:=g.len;simp at this;omega
  have lf:=yK (k1.leaf rfl);have cl1:cs.length=11:=k1.len;have ho2:=(g.old o (by simp;omega)).trans ((by simp only [cO];exact pq hlt:_=jX s o).trans ho);refine Jg @lf @cl1 @gl @ho2 @hlt ?_;refine⟨by omega,(i+1,((σ2.set (s.length+1) (some ⟨11,[cs]⟩)).set o none).set (s.length+1+1) (some ⟨11,A++[cs]⟩),.lG (s.length+1+1) 0 (A.length+1),A++[cs]),by dsimp only;omega,⟨by dsimp only;omega,?_⟩,by (refine kN ?_;exact uT)⟩;dsimp only;rw [hts];exact hG.aCy (fun q hq=>by simp only [cO];exact pq hq) (by simp) g (by omega) (by simp) (by omega) (by simp) (by omega)
 have ei:i=l.length:=by omega
 subst ei;rw [bK]at hG;rcases hG.cases with ⟨rfl,h1,rfl⟩|⟨o,rfl,ho,hlt⟩
 ·refine y8 @hc ?_;exact hG.fin
 refine y8 @hc ?_;exact hG.fin
def Dz:Fn:=⟨1,21,[.tmp 2],(sr [oN 2 mN] (sr [oW 4 0,oN 5 (ln 4),oW 3 5] (.seq (.block 0 (.loop (.seq (sr [oW 6 3,oN 7 (bc .gtr 6 0),oW 8 7,oG 8 true 9 (oV 0),oG 8 true 10 (oV 3),oG 8 true 11 (bc .sub 10 1),oG 8 true 12 (ix 1 9 11),oG 8 true 13 (lF 1 12),oG 8 true 14 (bc .eql 13 0),oN 15 (.pick (.t 8) (.t 14) (.c (.bool false)))] (cd 15 .skip (.exit 0))) (.block 1 (rg [oW 16 3,oN 17 (bc .sub 16 1),oW 3 17]))))) (sr [oW 18 0,oW 19 3,oN 20 (.slice 1 (.t 18) none (some (.t 19))),oW 2 20] .ret))))⟩
structure tC (T:Tb):Prop where
 hT:T 71=some Dz
def Gq:Fn:=⟨2,41,[.tmp 4],(sr [oN 4 (.qw (cI 0))] (.seq (sr [oW 6 0,oN 7 (ln 6),oW 8 1,oN 9 (ln 8),oN 10 (bt .neq 7 9)] (cd 10 (.seq (sr [oW 11 0,oN 12 (ln 11),oW 13 1,oN 14 (ln 13),oN 15 (bt .lss 12 14)] (cd 15 (sr [oN 4 (.qw (cI (-1)))] .ret) .skip)) (sr [oN 4 (.qw (cI 1))] .ret)) .skip)) (.seq (sr [oW 16 0,oN 17 (ln 16),oN 18 (bc .sub 17 1),oW 5 18] (.block 0 (.loop (.seq (sr [oW 19 5,oN 20 (bc .geq 19 0)] (cd 20 .skip (.exit 0))) (.seq (.block 1 (.seq (.seq (rt 0 [oW 23 0,oW 24 5,oA 25 0 (ix 1 23 24) [0,1],oA 26 0 (lF 1 25) [2],oW 27 1,oW 28 5,oA 29 0 (ix 1 27 28) [4,5],oA 30 0 (lF 1 29) [6],oA 31 0 (bt .lss 26 30) [3,7]]) (cd 31 (sr [oN 4 (.qw (cI (-1)))] .ret) .skip)) (.seq (rt 0 [oW 32 0,oW 33 5,oA 34 0 (ix 1 32 33) [0,1],oA 35 0 (lF 1 34) [2],oW 36 1,oW 37 5,oA 38 0 (ix 1 36 37) [4,5],oA 39 0 (lF 1 38) [6],oA 40 0 (bt .gtr 35 39) [3,7]]) (cd 40 (sr [oN 4 (.qw (cI 1))] .ret) .skip)))) (rg [oW 21 5,oN 22 (bc .sub 21 1),oW 5 22])))))) (sr [oN 4 (.qw (cI 0))] .ret))))⟩
structure yM (T:Tb):Prop where
 hT:T 146=some Gq
def Gs:Fn:=⟨2,55,[.tmp 4],(sr [oN 4 mN] (.seq (rf 1 [oN 9 (.nM 1 Oo 0 []),oK 5 1 (oV 9)]) (sr [oN 6 (.qw (cI 0))] (.seq (sr [oN 7 (.qw (cI 0))] (.block 0 (.loop (.seq (sr [oW 10 7,oW 11 0,oN 12 (ln 11),oN 13 (bt .lss 10 12),oW 14 13,oG 14 false 15 (oV 7),oG 14 false 16 (oV 1),oG 14 false 17 (ln 16),oG 14 false 18 (bt .lss 15 17),oN 19 (.pick (.t 14) (.c (.bool true)) (.t 18)),oW 20 19,oG 20 false 21 (oV 6),oG 20 false 22 (bc .gtr 21 0),oN 23 (.pick (.t 20) (.c (.bool true)) (.t 22))] (cd 23 .skip (.exit 0))) (.seq (.block 1 (sr [oW 26 6,oW 8 26] (.seq (sr [oW 27 7,oW 28 0,oN 29 (ln 28),oN 30 (bt .lss 27 29)] (cd 30 (rg [oW 31 8,oW 32 0,oW 33 7,oN 34 (ix 1 32 33),oN 35 (lF 1 34),oN 36 (bt .add 31 35),oW 8 36]) .skip)) (.seq (sr [oW 37 7,oW 38 1,oN 39 (ln 38),oN 40 (bt .lss 37 39)] (cd 40 (rg [oW 41 8,oW 42 1,oW 43 7,oN 44 (ix 1 42 43),oN 45 (lF 1 44),oN 46 (bt .add 41 45),oW 8 46]) .skip)) (.seq (rf 2 [oK 47 2 (oV 5),oK 48 2 (oV 8),oK 49 2 (bc .rem 48 1000000000),oN 50 (.nM 1 Oo 1 [(0,(.t 49))]),oK 51 1 (.app 1 8 (.t 47) (.t 50)),oK 5 2 (oV 51)]) (rg [oW 52 8,oN 53 (bc .quo 52 1000000000),oW 6 53])))))) (rg [oW 24 7,oN 25 (bc .add 24 1),oW 7 25])))))) (sr [oW 54 5,oW 4 54] .ret)))))⟩
structure Kz (T:Tb):Prop where
 hT:T 209=some Gs
def Gt:Fn:=⟨2,42,[.tmp 4],(sr [oN 4 mN] (.seq (rf 1 [oN 9 (.nM 1 Oo 0 []),oK 5 1 (oV 9)]) (sr [oN 6 (.qw (cI 0))] (.seq (sr [oW 10 0,oN 11 (ln 10),oN 12 (.qw (cI 0))] (.block 0 (.loop (sr [oN 13 (bt .lss 12 11)] (.seq (cd 13 .skip (.exit 0)) (.seq (.block 1 (sr [oW 14 12,oW 7 14] (sr [oW 15 0,oW 16 7,oN 17 (ix 1 15 16),oN 18 (lF 1 17),oW 19 6,oN 20 (bt .sub 18 19),oW 8 20] (.seq (sr [oW 21 7,oW 22 1,oN 23 (ln 22),oN 24 (bt .lss 21 23)] (cd 24 (rg [oW 25 8,oW 26 1,oW 27 7,oN 28 (ix 1 26 27),oN 29 (lF 1 28),oN 30 (bt .sub 25 29),oW 8 30]) .skip)) (sr [oN 6 (.qw (cI 0))] (.seq (sr [oW 31 8,oN 32 (bc .lss 31 0)] (cd 32 (sr [oW 33 8,oN 34 (bc .add 33 1000000000),oW 8 34] (rg [oN 6 (.qw (cI 1))])) .skip)) (rf 2 [oK 35 2 (oV 5),oK 36 2 (oV 8),oN 37 (.nM 1 Oo 1 [(0,(.t 36))]),oK 38 1 (.app 1 8 (.t 35) (.t 37)),oK 5 2 (oV 38)]))))))) (rg [oN 39 (bc .add 12 1),oW 12 39]))))))) (sr [oW 40 5,oN 41 (cl 71 [40]),oW 4 41] .ret)))))⟩
structure Gu (T:Tb):Prop where
 hT:T 149=some Gt
 nS:tC T
def Gv:Fn:=⟨2,72,[.tmp 4],(sr [oN 4 mN] (.seq (sr [oW 12 0,oN 13 (ln 12),oN 14 (bc .eql 13 0),oW 15 14,oG 15 false 16 (oV 1),oG 15 false 17 (ln 16),oG 15 false 18 (bc .eql 17 0),oN 19 (.pick (.t 15) (.c (.bool true)) (.t 18))] (cd 19 (sr [oN 4 mN] .ret) .skip)) (.seq (rf 1 [oK 20 1 (oV 0),oK 21 1 (ln 20),oK 22 1 (oV 1),oK 23 1 (ln 22),oK 24 1 (bt .add 21 23),oN 25 (.make Oo 8 (.t 24)),oK 5 1 (oV 25)]) (.seq (sr [oW 26 0,oN 27 (ln 26),oN 28 (.qw (cI 0))] (.block 0 (.loop (sr [oN 29 (bt .lss 28 27)] (.seq (cd 29 .skip (.exit 0)) (.seq (.block 1 (sr [oW 30 28,oN 31 (ix 1 26 28),oN 32 (lF 1 31),oW 6 30,oW 7 32] (sr [oN 8 (.qw (cI 0))] (.seq (sr [oW 33 1,oN 34 (ln 33),oN 35 (.qw (cI 0))] (.block 2 (.loop (sr [oN 36 (bt .lss 35 34)] (.seq (cd 36 .skip (.exit 2)) (.seq (.block 3 (sr [oW 37 35,oN 38 (ix 1 33 35),oN 39 (lF 1 38),oW 9 37,oW 10 39] (sr [oW 40 5,oW 41 6,oW 42 9,oN 43 (bt .add 41 42),oN 44 (ix 1 40 43),oN 45 (lF 1 44),oW 46 7,oW 47 10,oN 48 (bt .mul 46 47),oN 49 (bt .add 45 48),oW 50 8,oN 51 (bt .add 49 50),oW 11 51] (sr [oW 52 5,oW 53 6,oW 54 9,oN 55 (bt .add 53 54),oW 56 11,oN 57 (bc .rem 56 1000000000),oN 58 (ix 1 52 55),oS (.store 1 (.t 58) (.t 57))] (rg [oW 59 11,oN 60 (bc .quo 59 1000000000),oW 8 60]))))) (rg [oN 61 (bc .add 35 1),oW 35 61]))))))) (rg [oW 62 5,oW 63 6,oW 64 1,oN 65 (ln 64),oN 66 (bt .add 63 65),oW 67 8,oN 68 (ix 1 62 66),oS (.store 1 (.t 68) (.t 67))]))))) (rg [oN 69 (bc .add 28 1),oW 28 69]))))))) (sr [oW 70 5,oN 71 (cl 71 [70]),oW 4 71] .ret)))))⟩
structure wF (T:Tb):Prop where
 hT:T 150=some Gv
 nS:tC T
def IK:Fn:=⟨1,15,[.tmp 2],(sr [oN 2 mN] (.seq (rf 1 [oN 4 (.nM 1 Oo 0 []),oK 3 1 (oV 4)]) (.seq (.block 0 (.loop (.seq (sr [oW 5 0,oN 6 (bc .gtr 5 0)] (cd 6 .skip (.exit 0))) (.block 1 (.seq (rf 2 [oK 7 2 (oV 3),oK 8 2 (oV 0),oK 9 2 (bc .rem 8 1000000000),oN 10 (.nM 1 Oo 1 [(0,(.t 9))]),oK 11 1 (.app 1 8 (.t 7) (.t 10)),oK 3 2 (oV 11)]) (rg [oW 12 0,oN 13 (bc .quo 12 1000000000),oW 0 13])))))) (sr [oW 14 3,oW 2 14] .ret))))⟩
structure Ai (T:Tb):Prop where
 hT:T 67=some IK
def IL:Fn:=⟨3,15,[.tmp 6],(sr [oN 6 mF] (sr [oW 7 0,oW 8 1,oN 9 (bt .geq 7 8),oW 10 9,oG 10 true 11 (oV 0),oG 10 true 12 (oV 2),oG 10 true 13 (bt .leq 11 12),oN 14 (.pick (.t 10) (.t 13) (.c (.bool false))),oW 6 14] .ret))⟩
structure DC (T:Tb):Prop where
 hT:T 35=some IL
def IQ:Fn:=⟨1,32,[.tmp 2],(sr [oN 2 mF] (.seq (sr [oW 5 0,oN 6 (ln 5),oN 7 (.qw (cI 0))] (.block 0 (.loop (sr [oN 8 (bt .lss 7 6)] (.seq (cd 8 .skip (.exit 0)) (.seq (.block 1 (sr [oN 9 (ix 1 5 7),oN 10 (lF 1 9),oW 4 10] (sr [oW 11 4,oN 12 (.call 35 [(.t 11),(cI 0),(cI 999999999)]),oN 13 (nt 12)] (cd 13 (sr [oN 2 mF] .ret) .skip)))) (rg [oN 14 (bc .add 7 1),oW 7 14]))))))) (sr [oW 15 0,oN 16 (ln 15),oN 17 (bc .leq 16 60),oW 18 17,oG 18 true 19 (oV 0),oG 18 true 20 (ln 19),oG 18 true 21 (bc .eql 20 0),oG 18 true 22 (oV 21),oG 22 false 23 (oV 0),oG 22 false 24 (oV 0),oG 22 false 25 (ln 24),oG 22 false 26 (bc .sub 25 1),oG 22 false 27 (ix 1 23 26),oG 22 false 28 (lF 1 27),oG 22 false 29 (bc .neq 28 0),oG 18 true 30 (.pick (.t 22) (.c (.bool true)) (.t 29)),oN 31 (.pick (.t 18) (.t 30) (.c (.bool false))),oW 2 31] .ret)))⟩
structure DF (T:Tb):Prop where
 hT:T 121=some IQ
 xU:DC T
def Gw:Fn:=⟨1,10,[.tmp 2],(sr [oN 2 mN] (sr [oW 4 0,oN 5 (cl 71 [4]),oW 3 5] (.seq (sr [oW 6 3,oN 7 (ln 6),oN 8 (bc .gtr 7 60)] (cd 8 (sr [oN 2 mN] .ret) .skip)) (sr [oW 9 3,oW 2 9] .ret))))⟩
structure KA (T:Tb):Prop where
 hT:T 70=some Gw
 nS:tC T
theorem Di{T:Tb}(h:tC T){l:List Int}(hl:l.length<=1048576:=by exact tX):PF T 71 [ints l] (ints (trim l)):=by
 refine lQ nR h.hT ?_;simp only [Dz,Lz];refine ev ?_;refine kV (fun _ _=>false) (α:=Nat) (fun n=>⟨mM [ints l,.any,.any,iv (n:Nat)],[],0,0,[],[]⟩) (fun n=>n<=l.length/\xM l l.length=xM l n) (fun n=>n) rfl l.length ?_ ?_ ?_
 ·exact⟨by omega,rfl⟩
 ·(refine kN ?_;exact MG)
 rintro n ⟨hn,ht⟩;refine ev ?_;refine kY (fun hb=>?_) fun hb=>?_<;>(refine ev1 @hb ?_;try with_reducible exact aC)
 ·obtain⟨m,rfl⟩:∃m,n=m+1:=⟨n-1,by omega⟩;have e1:((m+1:Nat):Int)-1=(m:Nat):=by omega
  refine ev1 @e1 ?_;refine kY (fun hc=>?_) fun hc=>?_<;>(refine ev1 @hc ?_;try with_reducible exact aC)
  ·refine⟨m,by omega,⟨by omega,?_⟩,by (refine kN ?_;exact MG)⟩;rw [ht];simp only [xM,hc,if_true]
  rw [trim,ht];simp only [xM,hc,if_false]
 have:n=0:=by omega
 subst this;rw [trim,ht];simp [xM,kR]
theorem alo{T:Tb}(h:KA T){n:Nat}(hl:(mk n).length<=60:=by exact tX):PF T 70 [ints (mk n)] (ints (mk n)):=by
 have ct:=Di h.nS (l:=mk n) (by omega);rw [Xv (wC n)]at ct;have c1:¬(60:Int)<((mk n).length:Nat):=by omega
 refine lQ nR h.hT ?_;simp only [Gw,Lz];refine ev ?_;refine jM ct ?_
 (refine ev1 @c1 ?_;try with_reducible exact aC)
theorem SK{T:Tb}(h:yM T){a b:List Int}(ha:Can a)(hb:Can b)(la:a.length<=1048576:=by exact tX)(lb:b.length<=1048576:=by exact tX):PF T 146 [ints a,ints b] (iv (LC (val a) (val b))):=by
 refine lQ nR h.hT ?_;simp only [Gq,Lz];refine ev ?_;by_cases h1:((a.length:Nat):Int)<(b.length:Nat)
 ·have:=yI ha.1 hb (by omega);have h0:¬((a.length:Nat):Int)=(b.length:Nat):=by omega
  refine zf @h0 @h1 ?_;simp [LC,this]
 by_cases h2:((b.length:Nat):Int)<(a.length:Nat)
 ·have:=yI hb.1 ha (by omega);have h3:¬val a<val b:=by omega
  have h0:¬((a.length:Nat):Int)=(b.length:Nat):=by omega
  refine zf @h0 @h1 ?_;simp [LC,this,h3]
 have hl:a.length=b.length:=by omega
 have h0:=iff_true_intro (show ((a.length:Nat):Int)=(b.length:Nat) by omega);refine ev1 @h0 ?_;refine kV (fun _ _=>false) (α:=Nat) (fun n=>⟨mM [ints a,ints b,.any,.any,.any,iv ((n:Int)-1)],[],0,0,[],[]⟩) (fun n=>n<=a.length/\a.drop n=b.drop n) (fun n=>n) rfl a.length ?_ ?_ ?_
 ·exact⟨by omega,by rw [fC (by omega),fC (by omega)]⟩
 ·(refine kN ?_;exact MG)
 rintro n ⟨hn,hd⟩;refine ev ?_;refine kY (fun h3=>?_) fun h3=>?_<;>(refine ev1 @h3 ?_;try with_reducible exact aC)
 ·obtain⟨m,rfl⟩:∃m,n=m+1:=⟨n-1,by omega⟩;have e1:((m+1:Nat):Int)-1=(m:Nat):=by omega
  refine ev1 @e1 ?_;refine kY (fun h4=>?_) fun h4=>?_<;>(refine zf @h4 @e1 ?_;try with_reducible exact aC)
  ·have:=PL ha.1 hb.1 (i:=m) (by omega) (by omega) hd h4;simp [LC,this]
  refine kY (fun h5=>?_) fun h5=>?_<;>(refine zf @h5 @e1 ?_;try with_reducible exact aC)
  ·have:=PL hb.1 ha.1 (i:=m) (by omega) (by omega) hd.symm h5;have h6:¬val a<val b:=by omega
   simp [LC,this,h6]
  have e:a.getD m 0=b.getD m 0:=by omega
  refine⟨m,by omega,⟨by omega,?_⟩,by (refine kN ?_;exact MG)⟩;rw [PU (by omega),PU (l:=b) (by omega),e,hd]
 have:n=0:=by omega
 subst this;simp only [bZ]at hd;subst hd;simp [LC]
theorem alp{T:Tb}(h:Kz T){m n:Nat}(la:(mk m).length<=1000:=by exact tX)(lb:(mk n).length<=1000:=by exact tX):PF T 209 [ints (mk m),ints (mk n)] (ints (mk (m+n))):=by
 obtain⟨a,hA⟩:∃a,mk m=a:=⟨_,rfl⟩;obtain⟨b,hB⟩:∃b,mk n=b:=⟨_,rfl⟩;have hva:val a=m:=by rw [<-hA,val_mk]
 have hvb:val b=n:=by rw [<-hB,val_mk]
 have hba:Lb a:=hA▸vH m;have hbb:Lb b:=hB▸vH n;rw [hA]at la ⊢;rw [hB]at lb ⊢;refine kS nR h.hT ?_;simp only [Gs,Lz];refine ev ?_;refine kV (fun _ _=>false) (α:=Nat×Int×List Int) (fun q=>⟨mM [ints a,ints b,.any,.any,.any,slV q.2.2.length,iv q.2.1,iv (q.1:Nat)],slS 1 (kR q.2.2),0,0,[],[]⟩) (fun q=>q.2.2.length=q.1/\Lb q.2.2/\(0<=q.2.1/\q.2.1<=1)/\val q.2.2+1000000000 ^ q.1*(q.2.1.toNat+val (a.drop q.1)+val (b.drop q.1))=m+n/\(q.1<=max a.length b.length\/(q.1=max a.length b.length+1/\q.2.1=0/\q.2.2.getLast? ≠ some 0))) (fun q=>max a.length b.length+1-q.1) rfl (0,0,[]) ?_ ?_ ?_
 ·exact⟨rfl,ae7,⟨by dsimp only;omega,by dsimp only;omega⟩,by simp [val,hva,hvb],by dsimp only;omega⟩
 ·exact Ky
 rintro⟨i,c,xs⟩ ⟨hl,hlb,hc,hv,hi⟩;dsimp only at hl hlb hc hv hi;have hi':i<=max a.length b.length\/(i=max a.length b.length+1/\c=0):=hi.imp id fun h=>⟨h.1,h.2.1⟩;have hx:xs.length<=1001:=by omega
 have ea:=qH a i;have eb:=qH b i;have ga:=vI hba i;have gb:=vI hbb i;have step:=acW hl hc.1 ga.1 gb.1 hv ea eb;have za:a.length<=i->a.getD i 0=0:=Nc;have zb:b.length<=i->b.getD i 0=0:=Nc;have key:∀t:Int,t=c+a.getD i 0+b.getD i 0->((i:Int)<a.length\/(i:Int)<b.length\/0<c)->∃a':Nat×Int×List Int,a'=(i+1,t.tdiv 1000000000,xs++[t.tmod 1000000000]) /\
   max a.length b.length+1-a'.1<max a.length b.length+1-i/\(a'.2.2.length=a'.1/\Lb a'.2.2/\(0<=a'.2.1/\a'.2.1<=1)/\val a'.2.2+1000000000 ^ a'.1*(a'.2.1.toNat+val (a.drop a'.1)+val (b.drop a'.1))=m+n /\
    (a'.1<=max a.length b.length\/(a'.1=max a.length b.length+1/\a'.2.1=0/\a'.2.2.getLast? ≠ some 0))):=by
  intro t ht hor;have ht0:0<=t:=by omega
  refine⟨_,rfl,?_⟩;dsimp only;rw [QV ht0,QW ht0];refine⟨by omega,by simp [hl],aaO (by omega) (by omega) hlb,⟨by omega,by omega⟩,by rw [ht];exact step,?_⟩;by_cases hlt:i<max a.length b.length
  ·left;omega
  right;have h1:=za (by omega);have h2:=zb (by omega);refine⟨by omega,by omega,?_⟩;intro hlast;rw [List.getLast?_concat]at hlast;have:=Option.some.inj hlast;omega
 have fin:¬((i:Int)<a.length\/(i:Int)<b.length\/0<c)->xs=mk (m+n):=by
  intro hno;have e1:val (a.drop i)=0:=mV (by omega);have e2:val (b.drop i)=0:=mV (by omega);rw [e1,e2,show c.toNat=0 by omega]at hv;simp only [iL,kG]at hv;refine(ag2 hv hlb ?_).symm;rw [hA,hB];rcases hi with k|k
  ·left;omega
  right;exact k.2.2
 by_cases ca:(i:Int)<(a.length:Nat)<;>by_cases cb:(i:Int)<(b.length:Nat)<;>by_cases cc:0<c
 ·obtain⟨_,rfl,k1,k2⟩:=key (c+a.getD i 0+b.getD i 0) (by omega) (by omega);clear key step fin ea eb hi hv hlb hba hbb za zb
  (rcases xs with _|⟨x,xs⟩<;>simp only [aG,ak,wY,vO,qA,oI]at hx ⊢)
  ·refine EG @ca @cb @cc ?_;exact⟨by omega,_,k1,k2,by exact LJ⟩
  refine EG @ca @cb @cc ?_;exact⟨by omega,_,k1,k2,by exact LK⟩
 ·obtain⟨_,rfl,k1,k2⟩:=key (c+a.getD i 0+b.getD i 0) (by omega) (by omega);clear key step fin ea eb hi hv hlb hba hbb za zb
  (rcases xs with _|⟨x,xs⟩<;>simp only [aG,ak,wY,vO,qA,oI]at hx ⊢)
  ·refine EG @ca @cb @cc ?_;exact⟨by omega,_,k1,k2,by exact LJ⟩
  refine EG @ca @cb @cc ?_;exact⟨by omega,_,k1,k2,by exact LK⟩
 ·obtain⟨_,rfl,k1,k2⟩:=key (c+a.getD i 0) (by omega) (by omega);clear key step fin ea eb hi hv hlb hba hbb za zb
  (rcases xs with _|⟨x,xs⟩<;>simp only [aG,ak,wY,vO,qA,oI]at hx ⊢)
  ·refine EG @ca @cb @cc ?_;exact⟨by omega,_,k1,k2,by exact LJ⟩
  refine EG @ca @cb @cc ?_;exact⟨by omega,_,k1,k2,by exact LK⟩
 ·obtain⟨_,rfl,k1,k2⟩:=key (c+a.getD i 0) (by omega) (by omega);clear key step fin ea eb hi hv hlb hba hbb za zb
  (rcases xs with _|⟨x,xs⟩<;>simp only [aG,ak,wY,vO,qA,oI]at hx ⊢)
  ·refine EG @ca @cb @cc ?_;exact⟨by omega,_,k1,k2,by exact LJ⟩
  refine EG @ca @cb @cc ?_;exact⟨by omega,_,k1,k2,by exact LK⟩
 ·obtain⟨_,rfl,k1,k2⟩:=key (c+b.getD i 0) (by omega) (by omega);clear key step fin ea eb hi hv hlb hba hbb za zb
  (rcases xs with _|⟨x,xs⟩<;>simp only [aG,ak,wY,vO,qA,oI]at hx ⊢)
  ·refine EG @ca @cb @cc ?_;exact⟨by omega,_,k1,k2,by exact LJ⟩
  refine EG @ca @cb @cc ?_;exact⟨by omega,_,k1,k2,by exact LK⟩
 ·obtain⟨_,rfl,k1,k2⟩:=key (c+b.getD i 0) (by omega) (by omega);clear key step fin ea eb hi hv hlb hba hbb za zb
  (rcases xs with _|⟨x,xs⟩<;>simp only [aG,ak,wY,vO,qA,oI]at hx ⊢)
  ·refine EG @ca @cb @cc ?_;exact⟨by omega,_,k1,k2,by exact LJ⟩
  refine EG @ca @cb @cc ?_;exact⟨by omega,_,k1,k2,by exact LK⟩
 ·obtain⟨_,rfl,k1,k2⟩:=key (c) (by omega) (by omega);clear key step fin ea eb hi hv hlb hba hbb za zb
  (rcases xs with _|⟨x,xs⟩<;>simp only [aG,ak,wY,vO,qA,oI]at hx ⊢)
  ·refine EG @ca @cb @cc ?_;exact⟨by omega,_,k1,k2,by exact LJ⟩
  refine EG @ca @cb @cc ?_;exact⟨by omega,_,k1,k2,by exact LK⟩
 have e:=fin (by omega);clear key step fin ea eb hi hv hlb hba hbb za zb
 (rcases xs with _|⟨x,xs⟩<;>simp only [aG,ak,wY,vO,qA,oI]at hx ⊢)
 ·refine EG @ca @cb @cc ?_;rw [<-e];exact(sV 1▸trivial)
 refine EG @ca @cb @cc ?_;rw [<-e];exact kM _
theorem DI{T:Tb}(h:wF T){m n:Nat}(la:(mk m).length<=1000:=by exact tX)(lb:(mk n).length<=1000:=by exact tX):PF T 150 [ints (mk m),ints (mk n)] (ints (mk (m*n))):=by
 obtain⟨a,hA⟩:∃a,mk m=a:=⟨_,rfl⟩;obtain⟨b,hB⟩:∃b,mk n=b:=⟨_,rfl⟩;have hva:val a=m:=by rw [<-hA,val_mk]
 have hvb:val b=n:=by rw [<-hB,val_mk]
 have hba:Lb a:=hA▸vH m;have hbb:Lb b:=hB▸vH n;rw [hA]at la ⊢;rw [hB]at lb ⊢;refine kS nR h.hT ?_;simp only [Gv,Lz];refine ev ?_;by_cases h1:a.length=0
 ·have:a=[]:=aY h1;have e:m=0:=by rw [<-hva,this];rfl
  have h1':((a.length:Nat):Int)=0:=by omega
  refine ev1 @h1' ?_;rw [e,kE,mk_zero];exact(sV 1▸trivial)
 by_cases h2:b.length=0
 ·have:b=[]:=aY h2;have e:n=0:=by rw [<-hvb,this];rfl
  have h1':¬((a.length:Nat):Int)=0:=by omega
  have h2':((b.length:Nat):Int)=0:=by omega
  refine zf @h1' @h2' ?_;rw [e,kG,mk_zero];exact(sV 1▸trivial)
 have h1':¬((a.length:Nat):Int)=0:=by omega
 have h2':¬((b.length:Nat):Int)=0:=by omega
 refine zf @h1' @h2' ?_;refine⟨⟨by omega,by omega,by omega⟩,?_⟩;have eL:((a.length:Int)+(b.length:Int)).toNat=a.length+b.length:=by omega
 rw [eL,QO];refine kV (fun _ _=>false) (α:=Nat×List Int) (fun q=>⟨mM [ints a,ints b,.any,.any,.any,.lG 0 0 (a.length+b.length),.any,.any,.any,.any,.any,.any,.any,.any,.any,.any,.any,.any,.any,.any,.any,.any,.any,.any,.any,.any,ints a,iv (a.length:Nat),iv (q.1:Nat)],[some ⟨1,kR q.2⟩],0,0,[],[]⟩) (fun q=>q.1<=a.length/\q.2.length=a.length+b.length/\Lb q.2/\val q.2=val (a.take q.1)*n/\∀k,q.1+b.length<=k->q.2.getD k 0=0) (fun q=>a.length-q.1) rfl (0,List.replicate (a.length+b.length) 0) ?_ ?_ ?_
 ·exact⟨by omega,by simp,QS _,by rw [agQ];simp [val],by intro k _;simp [aj,jD];split<;>rfl⟩
 ·(refine kN ?_;exact MG)
 rintro⟨i,P⟩ ⟨hi,hP,hPb,hv,hz⟩;dsimp only at hi hP hPb hv hz;refine ev ?_;refine kY (fun c1=>?_) fun c1=>?_<;>(refine ev1 @c1 ?_;try with_reducible exact aC)
 ·have ga:=vI hba i;have eA:val (a.take (i+1))=val (a.take i)+1000000000 ^ i*(a.getD i 0).toNat:=by
   rw [oD (by omega),yw];congr 3;simp;omega
  refine kV (fun _ _=>false) (α:=Nat×Int×List Int) (fun q=>⟨mM [ints a,ints b,.any,.any,.any,.lG 0 0 (a.length+b.length),iv (i:Nat),iv (a.getD i 0),iv q.2.1,.any,.any,.any,.any,.any,.any,.any,.any,.any,.any,.any,.any,.any,.any,.any,.any,.any,ints a,iv (a.length:Nat),iv (i:Nat),.any,.any,.any,.any,ints b,iv (b.length:Nat),iv (q.1:Nat)],[some ⟨1,kR q.2.2⟩],0,0,[],[]⟩) (fun q=>q.1<=b.length/\q.2.2.length=a.length+b.length/\Lb q.2.2/\(0<=q.2.1/\q.2.1<1000000000)/\val q.2.2+q.2.1.toNat*(1000000000 ^ i*1000000000 ^ q.1)=val P+(a.getD i 0).toNat*(1000000000 ^ i*val (b.take q.1))/\∀k,i+b.length<=k->q.2.2.getD k 0=0) (fun q=>b.length-q.1) rfl (0,0,P) ?_ ?_ ?_
  ·exact⟨by omega,hP,hPb,⟨by dsimp only;omega,by dsimp only;omega⟩,by simp [val],hz⟩
  ·(refine kN ?_;exact MG)
  rintro⟨j,c,D⟩ ⟨hj,hD,QX,hc,hw,hzD⟩;dsimp only at hj hD QX hc hw hzD;have gb:=vI hbb j;have gd:=vI QX (i+j);have hm:=aln ga gb;by_cases c2:(j:Int)<(b.length:Nat)
  ·have k2:(val (D.set (i+j) ((D.getD (i+j) 0+a.getD i 0*b.getD j 0+c) % 1000000000))+((D.getD (i+j) 0+a.getD i 0*b.getD j 0+c) / 1000000000).toNat*(1000000000 ^ i*1000000000 ^ (j+1)))=val P+(a.getD i 0).toNat*(1000000000 ^ i*val (b.take (j+1))):=by
    have e1:val (b.take (j+1))=val (b.take j)+1000000000 ^ j*(b.getD j 0).toNat:=by
     rw [oD (by omega),yw];congr 3;simp;omega
    have e2:=Ws (l:=D) (i:=i+j) (d:=(D.getD (i+j) 0+a.getD i 0*b.getD j 0+c) % 1000000000) (by omega);have e3:(a.getD i 0*b.getD j 0).toNat=(a.getD i 0).toNat*(b.getD j 0).toNat:=Int.toNat_mul ga.1 gb.1;have e4:(D.getD (i+j) 0+a.getD i 0*b.getD j 0+c).toNat=c.toNat+(D.getD (i+j) 0).toNat+(a.getD i 0).toNat*(b.getD j 0).toNat:=by
     rw [<-e3];omega
    rw [e1,jd];rw [Nat.pow_add]at e2;have e5:((D.getD (i+j) 0+a.getD i 0*b.getD j 0+c) % 1000000000).toNat=(D.getD (i+j) 0+a.getD i 0*b.getD j 0+c).toNat % 1000000000:=by omega
    have e6:((D.getD (i+j) 0+a.getD i 0*b.getD j 0+c) / 1000000000).toNat=(D.getD (i+j) 0+a.getD i 0*b.getD j 0+c).toNat / 1000000000:=by omega
    rw [e5]at e2;rw [e6];exact ac1 hw e2 e4
   have k3:∀k,i+b.length<=k->(D.set (i+j) ((D.getD (i+j) 0+a.getD i 0*b.getD j 0+c) % 1000000000)).getD k 0=0:=by
    intro k hk;rw [sD,aO (by omega)];exact hzD k hk
   have k4:=MS (l:=D) (i:=i+j) (d:=(D.getD (i+j) 0+a.getD i 0*b.getD j 0+c) % 1000000000) (by omega) (by omega) QX;have t1:(D.getD (i+j) 0+a.getD i 0*b.getD j 0+c).tmod 1000000000=(D.getD (i+j) 0+a.getD i 0*b.getD j 0+c) % 1000000000:=QV (by omega);have t2:(D.getD (i+j) 0+a.getD i 0*b.getD j 0+c).tdiv 1000000000=(D.getD (i+j) 0+a.getD i 0*b.getD j 0+c) / 1000000000:=QW (by omega);have t3:((i:Int)+(j:Int)).toNat=i+j:=by omega
   clear hv hz hPb QX eA hw hzD hba hbb;refine ev5 @c2 @hD @t1 @t2 @t3 ?_;refine⟨(j+1,(D.getD (i+j) 0+a.getD i 0*b.getD j 0+c) / 1000000000,D.set (i+j) ((D.getD (i+j) 0+a.getD i 0*b.getD j 0+c) % 1000000000)),by dsimp only;omega,⟨by dsimp only;omega,by simp [hD],k4,⟨by dsimp only;omega,by dsimp only;omega⟩,k2,k3⟩,by (refine kN ?_;exact MG)⟩
  have hj2:j=b.length:=by omega
  subst hj2;rw [bK]at hw;have e2:=Ws (l:=D) (i:=i+b.length) (d:=c) (by omega);rw [hzD (i+b.length) (aK _),Nat.pow_add]at e2;have k1:val (D.set (i+b.length) c)=val (a.take (i+1))*n:=by
   rw [eA,gG,<-hv,<-hvb];have:1000000000 ^ i*(a.getD i 0).toNat*val b=(a.getD i 0).toNat*(1000000000 ^ i*val b):=by rw [dP (1000000000 ^ i),gQ]
   rw [this];have:c.toNat*(1000000000 ^ i*1000000000 ^ b.length)=1000000000 ^ i*1000000000 ^ b.length*c.toNat:=dP _ _;simp only [Int.toNat_zero,kG,iL]at e2;omega
  have k2:∀k,(i+1)+b.length<=k->(D.set (i+b.length) c).getD k 0=0:=by
   intro k hk;rw [sD,aO (by omega)];exact hzD k (by omega)
  have k3:=MS (l:=D) (i:=i+b.length) hc.1 hc.2 QX;have t3:((i:Int)+(b.length:Int)).toNat=i+b.length:=by omega
  clear hv hz hPb QX eA hw hzD hba hbb e2;refine EG @c2 @hD @t3 ?_;exact⟨(i+1,D.set (i+b.length) c),by dsimp only;omega,⟨by dsimp only;omega,by simp [hD],k3,k1,k2⟩,by (refine kN ?_;exact MG)⟩
 have hi2:i=a.length:=by omega
 subst hi2;rw [bK,hva]at hv;refine ev1 @hP ?_;refine jM (Di h.nS (l:=P) (by omega)) ?_;refine ev ?_;rw [BJ hPb,hv];exact kM _
theorem SL{T:Tb}(h:DC T){a b c:Int}:PF T 35 [iv a,iv b,iv c] (.bool (decide (b<=a)&&decide (a<=c))):=by
 refine lQ nR h.hT ?_;simp only [IL,Lz];refine ev ?_;by_cases h1:b<=a
 ·(refine ev1 @h1 ?_;try with_reducible exact aC)
 (refine ev1 @h1 ?_;try with_reducible exact aC)
theorem XP{T:Tb}(h:DF T){l:List Int}(hl:l.length<=9223372036854775807:=by exact tX):PF T 121 [ints l] (.bool (yx l)):=by
 refine lQ nR h.hT ?_;simp only [IQ,Lz];refine ev ?_;refine kV (fun _ _=>false) (α:=Nat) (fun i=>⟨mM [ints l,.any,.any,.any,.any,ints l,iv (l.length:Nat),iv (i:Nat)],[],0,0,[],[]⟩) (fun i=>i<=l.length/\∀j,j<i->0<=l.getD j 0/\l.getD j 0<1000000000) (fun i=>l.length-i) rfl 0 ?_ ?_ ?_
 ·exact⟨by omega,by intro j hj;omega⟩
 ·(refine kN ?_;exact MG)
 rintro i ⟨hi,hj⟩;refine ev ?_;refine kY (fun h2=>?_) fun h2=>?_<;>(refine ev1 @h2 ?_;try with_reducible exact aC)
 ·have bad:¬(0<=l.getD i 0/\l.getD i 0<1000000000)->yx l=false:=fun hn=>by
   have:¬yx l=true:=fun e=>by
    have hc:=(PN.1 e).2.1;exact hn (vI hc i)
   simpa using this
  refine jM (SL h.xU) ?_;by_cases g:0<=l.getD i 0/\l.getD i 0<1000000000
  ·have g1:0<=l.getD i 0:=g.1;have g2:l.getD i 0<=999999999:=by omega
   refine zf @g1 @g2 ?_;refine⟨i+1,by omega,⟨by omega,fun j hj'=>?_⟩,by (refine kN ?_;exact MG)⟩;by_cases e:j=i
   ·subst e;omega
   exact hj j (by omega)
  rw [bad g];have g2:(decide (0<=l.getD i 0)&&decide (l.getD i 0<=999999999))=false:=by
   simp only [jS,decide_eq_false_iff_not];omega
  (refine ev1 @g2 ?_;try with_reducible exact aC)
 have hi2:i=l.length:=by omega
 subst hi2;have hall:l.all (fun d=>decide (0<=d)&&decide (d<1000000000))=true:=by
  rw [aX];intro d hd;obtain⟨j,hj1,rfl⟩:=List.mem_iff_getElem.1 hd;have:=hj j hj1;rw [aj,au hj1]at this;simpa using this
 unfold yx;rw [hall];by_cases q1:((l.length:Nat):Int)<=60
 ·have q1':decide (l.length<=60)=true:=by simp;omega
  rw [q1'];by_cases q2:((l.length:Nat):Int)=0
  ·have q2':=iff_true_intro q2;refine zf @q1 @q2' ?_;have:l=[]:=aY (by omega);subst this;rfl
  refine zf @q1 @q2 ?_;have e1:((l.length:Nat):Int)-1=((l.length-1:Nat):Int):=by omega
  have e2:((l.length:Int)-1).toNat=l.length-1:=by omega
  have e3:l.isEmpty=false:=by cases l<;>simp_all
  rw [e3,e2];simp
 have q1':decide (l.length<=60)=false:=by simp;omega
 rw [q1']
 (refine ev1 @q1 ?_;try with_reducible exact aC)
theorem PV{T:Tb}(h:Ai T){n:Int}(hn:0<=n/\n<=9223372036854775807:=by exact tX):PF T 67 [iv n] (ints (mk n.toNat)):=by
 have hlen:(mk n.toNat).length<=3:=lS.2 (by omega);refine kS nR h.hT ?_;simp only [IK,Lz];refine ev ?_;refine kV (fun _ _=>false) (α:=Nat×List Int) (fun q=>⟨mM [iv (q.1:Nat),.any,.any,slV q.2.length],slS 1 (kR q.2),0,0,[],[]⟩) (fun q=>q.2++mk q.1=mk n.toNat/\q.1<=n.toNat) (fun q=>q.1) rfl (n.toNat,[]) ?_ ?_ ?_
 ·exact⟨rfl,aK _⟩
 ·exact Ky
 rintro⟨m,xs⟩ ⟨hm,hle⟩;dsimp only at hm hle;have hx:xs.length<=3:=by
  have:=congrArg List.length hm;simp at this;omega
 have e1:((m:Int).tmod 1000000000)=((m % 1000000000:Nat):Int):=by rw [QV (by omega)];omega
 have e2:((m:Int).tdiv 1000000000)=((m / 1000000000:Nat):Int):=by rw [QW (by omega)];omega
 have key:0<m->(xs++[((m % 1000000000:Nat):Int)])++mk (m / 1000000000)=mk n.toNat:=fun h=>by
  rw [<-hm,mk_pos (n:=m) (by omega)];simp
 (rcases xs with _|⟨x,xs⟩<;>simp only [aG,ak,wY,vO,qA,oI]at hx ⊢)
 ·refine ev ?_;refine kY (fun hb=>?_) fun hb=>?_<;>(refine EG @hb @e1 @e2 ?_;try with_reducible exact aC)
  ·exact⟨by omega,(m / 1000000000,[]++[((m % 1000000000:Nat):Int)]),by dsimp only;omega,⟨key (by omega),by dsimp only;omega⟩,by exact LJ⟩
  have e:mk n.toNat=[]:=by rw [<-hm,show m=0 by omega,mk_zero];rfl
  rw [e];exact(sV 1▸trivial)
 refine ev ?_;refine kY (fun hb=>?_) fun hb=>?_<;>(refine EG @hb @e1 @e2 ?_;try with_reducible exact aC)
 ·refine⟨by omega,(m / 1000000000,(x::xs)++[((m % 1000000000:Nat):Int)]),by dsimp only;omega,⟨key (by omega),by dsimp only;omega⟩,by exact LK⟩
 have e:x::xs=mk n.toNat:=by rw [<-hm,show m=0 by omega,mk_zero];simp
 rw [<-e];exact kM _
abbrev bi(z:Int):Bi:=⟨decide (z<0),mk z.natAbs⟩
abbrev sg(neg:Bool)(n:Nat):Int:=if neg=true then -(n:Int)else n
theorem ac6(n:Nat):n<1000000000 ^ (mk n).length:=lS.1 (aK _)
theorem Nh{m n:Nat}(h:m<=n):(mk m).length<=(mk n).length:=lS.2 (iC h (ac6 n))
theorem KC(m n:Nat):(mk (m*n)).length<=(mk m).length+(mk n).length:=by
 rw [lS,Nat.pow_add];exact Nat.mul_lt_mul_of_lt_of_lt (ac6 m) (ac6 n)
theorem afo(m n:Nat):(mk (m+n)).length<=max (mk m).length (mk n).length+1:=by
 rw [lS,jd];have h1:=bn (ac6 m) (gu (n:=1000000000) (by omega) (Nat.le_max_left (mk m).length (mk n).length));have h2:=bn (ac6 n) (gu (n:=1000000000) (by omega) (Nat.le_max_right (mk m).length (mk n).length));omega
theorem aa7(m n:Nat):(mk (m-n)).length<=(mk m).length:=Nh (Nat.sub_le m n)
theorem UJ(m n:Nat):(mk (m / n)).length<=(mk m).length:=Nh (Nat.div_le_self m n)
theorem aa8:(mk 0).length=0:=by rw [mk_zero];rfl
theorem FC{n:Nat}:0<(mk n).length↔0<n:=by
 constructor
 ·intro h;rcases gU n with rfl|h1
  ·rw [mk_zero]at h;simp at h
  exact h1
 intro h;have:=akI (n:=n) (by omega);omega
theorem ai1{n:Nat}:(mk n).length=0↔n=0:=by
 have:=@FC n;omega
theorem qI(x y:Int):(mk (x*y).natAbs).length<=(mk x.natAbs).length+(mk y.natAbs).length:=by
 rw [iP];exact KC _ _
theorem JR(x y:Int):(mk (x+y).natAbs).length<=max (mk x.natAbs).length (mk y.natAbs).length+1 :=
 dw (Nh (Int.natAbs_add_le x y)) (afo _ _)
theorem alq(neg:Bool)(n:Nat)(h:0<n):bi (sg neg n)=⟨neg,mk n⟩:=by
 cases neg
 ·simp [bi,sg]
 simp [bi,sg,h]
theorem ag8:bi 0=⟨false,[]⟩:=by simp [bi,mk_zero]
theorem SN(neg:Bool):sg neg 0=0:=by cases neg<;>simp [sg]
theorem atP(n:Nat):bi (n:Int)=⟨false,mk n⟩:=by simp [bi]
theorem XQ(x y:Int):sg (decide (x<0) != decide (y<0)) (x.natAbs*y.natAbs)=x*y:=by
 rw [<-iP];by_cases x0:x=0
 ·subst x0;simp [sg]
 by_cases y0:y=0
 ·subst y0;simp [sg]
 rcases(show x<0\/0<x by omega)with h|h<;>rcases(show y<0\/0<y by omega)with k|k
 ·have:=Int.mul_pos_of_neg_of_neg h k;simp only [sg,h,k,decide_true,bne_self_eq_false,bG,if_false];omega
 ·have:=Int.mul_neg_of_neg_of_pos h k;have k':¬y<0:=by omega
  simp only [sg,h,k',decide_true,decide_false,Bool.bne_false,if_true];omega
 ·have:=Int.mul_neg_of_pos_of_neg h k;have h':¬x<0:=by omega
  simp only [sg,h',k,decide_true,decide_false,Bool.false_bne,if_true];omega
 have:=Int.mul_pos h k;have k':¬y<0:=by omega
 have h':¬x<0:=by omega
 simp only [sg,h',k',decide_false,bne_self_eq_false,bG,if_false];omega
theorem VB{x y:Int}(h:decide (x<0)=decide (y<0)):sg (decide (x<0)) (x.natAbs+y.natAbs)=x+y:=by
 have h':x<0↔y<0:=by simpa using h
 by_cases k:x<0
 ·have:=h'.1 k;simp only [sg,k,decide_true,if_true];omega
 have:¬y<0:=fun q=>k (h'.2 q);simp only [sg,k,decide_false,bG,if_false];omega
theorem JU{x y:Int}(h:decide (x<0)≠decide (y<0))(hl:y.natAbs<=x.natAbs):sg (decide (x<0)) (x.natAbs-y.natAbs)=x+y:=by
 have h':¬(x<0↔y<0):=by simpa using h
 by_cases k:x<0
 ·have:¬y<0:=fun q=>h' ⟨fun _=>q,fun _=>k⟩;simp only [sg,k,decide_true,if_true];omega
 have:y<0:=ig fun q=>h' ⟨fun a=>absurd a k,fun a=>absurd a q⟩;simp only [sg,k,decide_false,bG,if_false];omega
def BR:Fn:=⟨2,39,[.tmp 4,.tmp 5],(sr [oN 4 mN,oN 5 (.qw (cI 0))] (.seq (rf 1 [oK 10 1 (oV 0),oK 11 1 (ln 10),oN 12 (.make Oo 8 (.t 11)),oK 6 1 (oV 12)]) (sr [oN 7 (.qw (cI 0))] (.seq (sr [oW 13 0,oN 14 (ln 13),oN 15 (bc .sub 14 1),oW 8 15] (.block 0 (.loop (.seq (sr [oW 16 8,oN 17 (bc .geq 16 0)] (cd 17 .skip (.exit 0))) (.seq (.block 1 (sr [oW 20 7,oN 21 (bc .mul 20 1000000000),oW 22 0,oW 23 8,oN 24 (ix 1 22 23),oN 25 (lF 1 24),oN 26 (bt .add 21 25),oW 9 26] (sr [oW 27 6,oW 28 8,oW 29 9,oW 30 1,oN 31 (bt .quo 29 30),oN 32 (ix 1 27 28),oS (.store 1 (.t 32) (.t 31))] (rg [oW 33 9,oW 34 1,oN 35 (bt .rem 33 34),oW 7 35])))) (rg [oW 18 8,oN 19 (bc .sub 18 1),oW 8 19])))))) (sr [oW 36 6,oN 37 (cl 71 [36]),oW 38 7,oW 4 37,oW 5 38] .ret)))))⟩
structure Ii (T:Tb):Prop where
 hT:T 147=some BR
 nS:tC T
def BU:Fn:=⟨2,27,[.tmp 4],(sr [oN 4 (.qw (cI 0))] (sr [oN 5 (.qw (cI 0))] (sr [oN 6 (.qw (cI 999999999))] (.seq (.block 0 (.loop (.seq (sr [oW 8 5,oW 9 6,oN 10 (bt .lss 8 9)] (cd 10 .skip (.exit 0))) (.block 1 (sr [oW 11 5,oW 12 6,oN 13 (bt .add 11 12),oN 14 (bc .add 13 1),oN 15 (bc .quo 14 2),oW 7 15] (sr [oW 16 1,oW 17 7,oN 18 (cl 67 [17]),oN 19 (cl 150 [16,18]),oW 20 0,oN 21 (cl 146 [19,20]),oN 22 (bc .leq 21 0)] (cd 22 (rg [oW 23 7,oW 5 23]) (rg [oW 24 7,oN 25 (bc .sub 24 1),oW 6 25])))))))) (sr [oW 26 5,oW 4 26] .ret)))))⟩
structure Ij (T:Tb):Prop where
 hT:T 148=some BU
 uF:Ai T
 wG:yM T
 oM:wF T
def Bh:Fn:=⟨2,65,[.tmp 4,.tmp 5],(sr [oN 4 mN,oN 5 mN] (.seq (sr [oW 12 1,oN 13 (ln 12),oN 14 (bc .eql 13 1)] (cd 14 (sr [oW 16 0,oW 17 1,oN 18 (.idx 1 (.t 17) (cI 0)),oN 19 (lF 1 18),oN 20 (cl 147 [16,19]),oW 15 20,oN 21 (ex 0 15),oN 22 (ex 1 15),oW 6 21,oW 7 22] (sr [oW 23 6,oW 24 7,oN 25 (cl 67 [24]),oW 4 23,oW 5 25] .ret)) .skip)) (.seq (rf 1 [oK 26 1 (oV 0),oK 27 1 (ln 26),oN 28 (.make Oo 8 (.t 27)),oK 8 1 (oV 28)]) (.seq (rf 1 [oN 29 (.nM 1 Oo 0 []),oK 9 1 (oV 29)]) (.seq (sr [oW 30 0,oN 31 (ln 30),oN 32 (bc .sub 31 1),oW 10 32] (.block 0 (.loop (.seq (sr [oW 33 10,oN 34 (bc .geq 33 0)] (cd 34 .skip (.exit 0))) (.seq (.block 1 (.seq (rf 2 [oK 37 2 (oV 0),oK 38 2 (oV 10),oK 39 2 (ix 1 37 38),oK 40 2 (lF 1 39),oN 41 (.nM 1 Oo 1 [(0,(.t 40))]),oK 42 2 (oV 9),oK 43 1 (.app 1 8 (.t 41) (.t 42)),oK 44 2 (cl 71 [43]),oK 9 2 (oV 44)]) (.seq (sr [oW 45 9,oW 46 1,oN 47 (cl 146 [45,46]),oN 48 (bc .lss 47 0)] (cd 48 (.exit 1) .skip)) (sr [oW 49 9,oW 50 1,oN 51 (cl 148 [49,50]),oW 11 51] (sr [oW 52 8,oW 53 10,oW 54 11,oN 55 (ix 1 52 53),oS (.store 1 (.t 55) (.t 54))] (rg [oW 56 9,oW 57 1,oW 58 11,oN 59 (cl 67 [58]),oN 60 (cl 150 [57,59]),oN 61 (cl 149 [56,60]),oW 9 61])))))) (rg [oW 35 10,oN 36 (bc .sub 35 1),oW 10 36])))))) (sr [oW 62 8,oN 63 (cl 71 [62]),oW 64 9,oW 4 63,oW 5 64] .ret))))))⟩
structure Gy (T:Tb):Prop where
 hT:T 136=some Bh
 uF:Ai T
 nS:tC T
 wG:yM T
 VT:Ii T
 VU:Ij T
 Gz:Gu T
 oM:wF T
def BX:Fn:=⟨2,15,[.tmp 4],(sr [oN 4 mN] (.seq (.block 0 (.loop (.seq (sr [oW 6 1,oN 7 (bc .gtr 6 0)] (cd 7 .skip (.exit 0))) (.block 1 (sr [oW 8 0,oW 9 1,oN 10 (bt .rem 8 9),oW 5 10] (sr [oW 11 1,oW 0 11] (rg [oW 12 5,oW 1 12]))))))) (sr [oW 13 0,oN 14 (cl 67 [13]),oW 4 14] .ret)))⟩
structure Ik (T:Tb):Prop where
 hT:T 135=some BX
 uF:Ai T
def BZ:Fn:=⟨1,30,[.tmp 2,.tmp 3],(sr [oN 2 (.qw (cI 0)),oN 3 mF] (.seq (.seq (rf 1 [oK 6 1 (oV 0),oK 7 1 (cl 121 [6]),oK 8 1 (nt 7),oK 9 1 (oV 8),oH 9 false 10 1 (oV 0) [],oG 9 false 11 (.nM 1 Oo 3 [(0,(cI 854775807)),(1,(cI 223372036)),(2,(cI 9))]),oH 9 false 12 1 (cl 146 [10,11]) [],oH 9 false 13 1 (bc .gtr 12 0) [],oK 14 1 (.pick (.t 9) (.c (.bool true)) (.t 13))]) (cd 14 (sr [oN 2 (.qw (cI 0)),oN 3 mF] .ret) .skip)) (sr [oN 4 (.qw (cI 0))] (.seq (sr [oW 15 0,oN 16 (ln 15),oN 17 (bc .sub 16 1),oW 5 17] (.block 0 (.loop (.seq (sr [oW 18 5,oN 19 (bc .geq 18 0)] (cd 19 .skip (.exit 0))) (.seq (.block 1 (rg [oW 22 4,oN 23 (bc .mul 22 1000000000),oW 24 0,oW 25 5,oN 26 (ix 1 24 25),oN 27 (lF 1 26),oN 28 (bt .add 23 27),oW 4 28])) (rg [oW 20 5,oN 21 (bc .sub 20 1),oW 5 21])))))) (sr [oW 29 4,oW 2 29,oN 3 mT] .ret)))))⟩
structure Il (T:Tb):Prop where
 hT:T 134=some BZ
 DJ:DF T
 wG:yM T
def GH:Fn:=⟨2,52,[.tmp 4],(sr [oN 4 mN] (.seq (rf 2 [oN 13 (.nM 1 Oo 0 []),oK 14 2 (oV 0),oK 15 1 (.app 1 8 (.t 13) (.t 14)),oK 5 2 (oV 15)]) (.seq (rf 2 [oN 16 (.nM 1 Oo 0 []),oK 17 2 (oV 1),oK 18 1 (.app 1 8 (.t 16) (.t 17)),oK 6 2 (oV 18)]) (.seq (.block 0 (.loop (.seq (sr [oW 19 6,oN 20 (ln 19),oN 21 (bc .gtr 20 0)] (cd 21 .skip (.exit 0))) (.block 1 (.seq (sr [oW 22 5,oN 23 (ln 22),oN 24 (bc .lss 23 3),oW 25 24,oG 25 true 26 (oV 6),oG 25 true 27 (ln 26),oG 25 true 28 (bc .lss 27 3),oN 29 (.pick (.t 25) (.t 28) (.c (.bool false)))] (cd 29 (sr [oW 31 5,oN 32 (cl 134 [31]),oW 30 32,oN 33 (ex 0 30),oN 34 (ex 1 30),oW 7 33,oW 8 34] (sr [oW 36 6,oN 37 (cl 134 [36]),oW 35 37,oN 38 (ex 0 35),oN 39 (ex 1 35),oW 9 38,oW 10 39] (sr [oW 40 7,oW 41 9,oN 42 (cl 135 [40,41]),oW 4 42] .ret))) .skip)) (sr [oW 44 5,oW 45 6,oN 46 (cl 136 [44,45]),oW 43 46,oN 47 (ex 0 43),oN 48 (ex 1 43),oW 11 47,oW 12 48] (sr [oW 49 6,oW 5 49] (rg [oW 50 12,oW 6 50])))))))) (sr [oW 51 5,oW 4 51] .ret)))))⟩
structure GI (T:Tb):Prop where
 hT:T 123=some GH
 NZ:Il T
 VW:Ik T
 GK:Gy T
theorem XR{T:Tb}(h:Gu T){m n:Nat}(hle:n<=m)(la:(mk m).length<=1000:=by exact tX)(lb:(mk n).length<=1000:=by exact tX):PF T 149 [ints (mk m),ints (mk n)] (ints (mk (m-n))):=by
 obtain⟨a,hA⟩:∃a,mk m=a:=⟨_,rfl⟩;obtain⟨b,hB⟩:∃b,mk n=b:=⟨_,rfl⟩;have hva:val a=m:=by rw [<-hA,val_mk]
 have hvb:val b=n:=by rw [<-hB,val_mk]
 have hba:Lb a:=hA▸vH m;have hbb:Lb b:=hB▸vH n;have hlen:b.length<=a.length:=by
  rcases dV a.length b.length with k|k
  ·have:=yI hba (hB▸wC n) k;omega
  exact k
 rw [hA]at la ⊢;rw [hB]at lb ⊢;refine kS nR h.hT ?_;simp only [Gt,Lz];refine ev ?_;refine kV (fun _ _=>false) (α:=Nat×Int×List Int) (fun q=>⟨mM [ints a,ints b,.any,.any,.any,slV q.2.2.length,iv q.2.1,.any,.any,.any,ints a,iv (a.length:Nat),iv (q.1:Nat)],slS 1 (kR q.2.2),0,0,[],[]⟩) (fun q=>q.1<=a.length/\q.2.2.length=q.1/\Lb q.2.2/\(q.2.1=0\/q.2.1=1)/\val q.2.2+val (b.take q.1)=val (a.take q.1)+q.2.1.toNat*1000000000 ^ q.1) (fun q=>a.length-q.1) rfl (0,0,[]) ?_ ?_ ?_
 ·exact⟨by omega,rfl,ae7,.inl rfl,by simp [val]⟩
 ·exact Ky
 rintro⟨i,bo,xs⟩ ⟨hi,hD,QX,hbo,hv⟩;dsimp only at hi hD QX hbo hv;have ga:=vI hba i;have gb:=vI hbb i;have zb:b.length<=i->b.getD i 0=0:=Nc;have hx:xs.length<=1000:=by omega
 by_cases c1:(i:Int)<(a.length:Nat)
 ·have key:∀d bo':Int,d+b.getD i 0+bo=a.getD i 0+bo'*1000000000->0<=d->d<1000000000->(bo'=0\/bo'=1)->∃a':Nat×Int×List Int,a'=(i+1,bo',xs++[d]) /\
    a.length-a'.1<a.length-i/\(a'.1<=a.length/\a'.2.2.length=a'.1/\Lb a'.2.2/\(a'.2.1=0\/a'.2.1=1)/\val a'.2.2+val (b.take a'.1)=val (a.take a'.1)+a'.2.1.toNat*1000000000 ^ a'.1):=by
   intro d bo' hd d0 d1 hb';refine⟨_,rfl,by dsimp only;omega,by dsimp only;omega,by simp [hD],aaO d0 d1 QX,hb',?_⟩;dsimp only;have e2:(a.take i).length=i:=by simp;omega
   rw [yw,hD,oD (l:=a) (by omega),yw,e2];have e3:val (b.take (i+1))=val (b.take i)+1000000000 ^ i*(b.getD i 0).toNat:=by
    by_cases hb2:i<b.length
    ·rw [oD hb2,yw];congr 3;simp;omega
    rw [bH (by omega),bH (by omega),zb (by omega)];simp
   rw [e3,jd];exact acZ hv (by omega)
  by_cases c2:(i:Int)<(b.length:Nat)
  ·by_cases c3:a.getD i 0-bo-b.getD i 0<0
   ·obtain⟨_,rfl,k1,k2⟩:=key (a.getD i 0-bo-b.getD i 0+1000000000) 1 (by omega) (by omega) (by omega) (.inr rfl);clear key hv zb hba hbb QX
    (rcases xs with _|⟨x,xs⟩<;>simp only [aG,ak,wY,vO,qA,oI]at hx ⊢)
    ·refine EG @c1 @c2 @c3 ?_;exact⟨by omega,_,k1,k2,by exact LJ⟩
    refine EG @c1 @c2 @c3 ?_;exact⟨by omega,_,k1,k2,by exact LK⟩
   obtain⟨_,rfl,k1,k2⟩:=key (a.getD i 0-bo-b.getD i 0) 0 (by omega) (by omega) (by omega) (.inl rfl);clear key hv zb hba hbb QX
   (rcases xs with _|⟨x,xs⟩<;>simp only [aG,ak,wY,vO,qA,oI]at hx ⊢)
   ·refine EG @c1 @c2 @c3 ?_;exact⟨by omega,_,k1,k2,by exact LJ⟩
   refine EG @c1 @c2 @c3 ?_;exact⟨by omega,_,k1,k2,by exact LK⟩
  have z:=zb (by omega);by_cases c3:a.getD i 0-bo<0
  ·obtain⟨_,rfl,k1,k2⟩:=key (a.getD i 0-bo+1000000000) 1 (by omega) (by omega) (by omega) (.inr rfl);clear key hv zb hba hbb QX
   (rcases xs with _|⟨x,xs⟩<;>simp only [aG,ak,wY,vO,qA,oI]at hx ⊢)
   ·refine EG @c1 @c2 @c3 ?_;exact⟨by omega,_,k1,k2,by exact LJ⟩
   refine EG @c1 @c2 @c3 ?_;exact⟨by omega,_,k1,k2,by exact LK⟩
  obtain⟨_,rfl,k1,k2⟩:=key (a.getD i 0-bo) 0 (by omega) (by omega) (by omega) (.inl rfl);clear key hv zb hba hbb QX
  (rcases xs with _|⟨x,xs⟩<;>simp only [aG,ak,wY,vO,qA,oI]at hx ⊢)
  ·refine EG @c1 @c2 @c3 ?_;exact⟨by omega,_,k1,k2,by exact LJ⟩
  refine EG @c1 @c2 @c3 ?_;exact⟨by omega,_,k1,k2,by exact LK⟩
 have hi2:i=a.length:=by omega
 subst hi2;rw [bK,bH (by omega)]at hv;have hlt:=y7 QX;rw [hD]at hlt;have hz:bo=0:=by
  rcases hbo with h|h
  ·exact h
  rw [h]at hv;simp at hv;omega
 subst hz;have ct:=Di h.nS (l:=xs) (by omega);have e:mk (val xs)=mk (m-n):=by
  congr 1
  simp at hv;omega
 rw [BJ QX,e]at ct
 (rcases xs with _|⟨x,xs⟩<;>simp only [aG,ak,wY,vO,qA,oI]at hx ⊢)
 ·refine ev1 @c1 ?_;refine apl (as':=[.sl 1 []]) ct (by simp only [UC,UA,sV,and_true]) ?_;refine ev ?_;exact kM _
 refine ev1 @c1 ?_;refine jM ct ?_;refine ev ?_;exact kM _
theorem afp{T:Tb}(h:Ii T){m d:Nat}(d0:0<d)(d1:d<1000000000)(la:(mk m).length<=1000:=by exact tX):PF T 147 [ints (mk m),iv (d:Nat)] (.oJ [ints (mk (m / d)),iv (m % d:Nat)]):=by
 obtain⟨A,hA⟩:∃A,mk m=A:=⟨_,rfl⟩;have hva:val A=m:=by rw [<-hA,val_mk]
 have hbA:Lb A:=hA▸vH m;rw [hA]at la ⊢;refine kS nR h.hT ?_;simp only [BR,Lz];refine ev ?_;refine⟨by omega,?_⟩;rw [QO];refine kV (fun _ _=>false) (α:=Nat×List Int×Nat) (fun q=>⟨mM [ints A,iv (d:Nat),.any,.any,.any,.any,.lG 0 0 A.length,iv (q.2.2:Nat),iv ((q.1:Nat)-1)],[some ⟨1,kR q.2.1⟩],0,0,[],[]⟩) (fun q=>q.1<=A.length/\q.2.1.length=A.length/\Lb q.2.1/\q.2.2<d/\val (A.drop q.1)=val (q.2.1.drop q.1)*d+q.2.2) (fun q=>q.1) rfl (A.length,List.replicate A.length 0,0) ?_ ?_ ?_
 ·exact⟨by omega,by simp,QS _,d0,by dsimp only;rw [mV (Nat.le_refl _),mV (by simp)];simp⟩
 ·(refine kN ?_;exact MG)
 rintro⟨k,Q,x⟩ ⟨hk,hQ,hQb,hx,hv⟩;dsimp only at hk hQ hQb hx hv;by_cases k0:k=0
 ·subst k0;rw [bZ,bZ,hva]at hv;obtain⟨q1,q2⟩:=Nb hv hx;have e0:¬(0:Int)<=((0:Nat):Int)-1:=by omega
  refine ev1 @e0 ?_;refine jM (Di h.nS (l:=Q) (by omega)) ?_;refine ev ?_;rw [BJ hQb,<-q1,<-q2];exact kM _
 obtain⟨i,rfl⟩:∃i,k=i+1:=⟨k-1,by omega⟩;have e0:(((i+1:Nat):Int)-1)=(i:Nat):=by omega
 have e1:((i:Nat):Int)<(A.length:Nat):=by omega
 have e2:(0:Int)<=(i:Nat):=by omega
 rw [e0];have ga:=vI hbA i;have hvi:=qH A i;obtain⟨t,ht⟩:∃t:Nat,t=x*1000000000+(A.getD i 0).toNat:=⟨_,rfl⟩;have ht':(x:Int)*1000000000+A.getD i 0=(t:Nat):=by omega
 have tq:t / d<1000000000:=by
  have t1:t<(x+1)*1000000000:=by omega
  exact jk (bn t1 (dG 1000000000 hx))
 have tr:t % d<d:=kF _ d0;have f1:((t:Nat):Int).tdiv (d:Nat)=((t / d:Nat):Int):=by rw [gI (by omega),Int.natCast_ediv]
 have f2:((t:Nat):Int).tmod (d:Nat)=((t % d:Nat):Int):=by rw [iR (by omega),kD]
 have hdm:=Nat.div_add_mod t d;have nz:¬((d:Nat):Int)=0:=by omega
 have tb:t<1000000000000000000:=by
  have t1:t<(x+1)*1000000000:=by omega
  have t2:(x+1)*1000000000<=1000000000*1000000000:=dG 1000000000 (by omega);exact bn t1 t2
 generalize t / d=q at *;generalize t % d=r at *;have k1:=MS (l:=Q) (i:=i) (d:=((q:Nat):Int)) (by omega) (by omega) hQb;have k2:val (A.drop i)=val ((Q.set i (q:Nat)).drop i)*d+r:=by
  rw [hvi,hv,drop_set_self (by omega),val,gG,jq,gQ,dP d q]at *;rw [show ((q:Nat):Int).toNat=q by omega];omega
 clear hvi hv hdm ht;simp (disch:=first|omega|assumption|(simp;done)|(simp;omega)) only [↓EVp,EVq,splice,Nat.reduceAdd,Nat.reduceEqDiff,Nat.reduceMul,Nat.reduceLT,Nat.reduceLeDiff,reduceIte,V.leaf,JD,Kq,MN,cZ,dK,eF,dW,fM,reduceCtorEq,e2,e1,ht',f1,f2,nz,hQ];exact⟨(i,Q.set i (q:Nat),r),by dsimp only;omega,⟨by dsimp only;omega,by simp [hQ],k1,tr,k2⟩,by (refine kN ?_;exact MG)⟩
theorem afq{T:Tb}(h:Ij T){r b:Nat}(b0:0<b)(hr:r<b*1000000000)(la:(mk r).length<=900:=by exact tX)(lb:(mk b).length<=900:=by exact tX):PF T 148 [ints (mk r),ints (mk b)] (iv (r / b:Nat)):=by
 have hq:r / b<1000000000:=jk (by omega);have key:∀q,b*q<=r↔q<=r / b:=fun q=>by rw [Nat.le_div_iff_mul_le b0,dP]
 refine lQ nR h.hT ?_;simp only [BU,Lz];refine ev ?_;generalize r / b=z at *;refine kV (fun _ _=>false) (α:=Nat×Nat) (fun q=>⟨mM [ints (mk r),ints (mk b),.any,.any,.any,iv (q.1:Nat),iv (q.2:Nat)],[],0,0,[],[]⟩) (fun q=>q.1<=z/\z<=q.2/\q.2<=999999999) (fun q=>q.2-q.1) rfl (0,999999999) ?_ ?_ ?_
 ·exact⟨by omega,by dsimp only;omega,by dsimp only;omega⟩
 ·(refine kN ?_;exact MG)
 rintro⟨lo,hi⟩ ⟨h1,h2,h3⟩;dsimp only at h1 h2 h3;refine ev ?_;refine kY (fun c1=>?_) fun c1=>?_<;>(refine ev1 @c1 ?_;try with_reducible exact aC)
 ·have e1:((lo:Int)+hi+1).tdiv 2=(((lo+hi+1) / 2:Nat):Int):=by rw [gI (by omega)];omega
  have q1:lo<(lo+hi+1) / 2:=by omega
  have q2:(lo+hi+1) / 2<=hi:=by omega
  generalize (lo+hi+1) / 2=q at *;have cn:=PV h.uF (n:=((q:Nat):Int)) (by omega);rw [fQ]at cn;have lq:(mk q).length<=1:=lS.2 (by omega);have lm:=KC b q;have cc:=SK h.wG (wC (b*q)) (wC r) (by omega) (by omega);rw [val_mk,val_mk]at cc;refine ev1 @e1 ?_;refine jM cn ?_;refine ev ?_;refine jM (DI h.oM (m:=b) (n:=q) (by omega) (by omega)) ?_;refine ev ?_;refine jM cc ?_;refine ev ?_;have ck:LC (b*q) r<=0↔b*q<=r:=by unfold LC;repeat' split<;>omega
  refine kY (fun c2=>?_) fun c2=>?_<;>(refine ev1 @c2 ?_;try with_reducible exact aC)
  ·have:=(key q).1 (ck.1 c2);exact⟨(q,hi),by dsimp only;omega,⟨by dsimp only;omega,by dsimp only;omega,h3⟩,by (refine kN ?_;exact MG)⟩
  have:¬q<=z:=fun k=>c2 (ck.2 ((key q).2 k));have e2:((q:Nat):Int)-1=((q-1:Nat):Int):=by omega
  exact⟨(lo,q-1),by dsimp only;omega,⟨h1,by dsimp only;omega,by dsimp only;omega⟩,by (refine kN ?_)<;>(try (refine ev1 @e2 ?_;try with_reducible exact True.intro))<;>(repeat' (first|refine⟨?_,?_⟩|exact MO (by omega)|exact OT (by simp)|exact JM _))⟩
 have:lo=z:=by omega
 rw [this]
theorem afr{T:Tb}(h:Ik T){x y:Nat}(hx:x<1000000000000000000:=by exact tX)(hy:y<1000000000000000000:=by exact tX):PF T 135 [iv (x:Nat),iv (y:Nat)] (ints (mk (Nat.gcd x y))):=by
 refine kS nR h.hT ?_;simp only [BX,Lz];refine ev ?_;refine kV (fun _ _=>false) (α:=Nat×Nat) (fun q=>⟨mM [iv (q.1:Nat),iv (q.2:Nat)],[],0,0,[],[]⟩) (fun q=>Nat.gcd q.1 q.2=Nat.gcd x y/\q.1<1000000000000000000/\q.2<1000000000000000000) (fun q=>q.2) rfl (x,y) ?_ ?_ ?_
 ·exact⟨rfl,hx,hy⟩
 ·exact Ky
 rintro⟨u,v⟩ ⟨hg,su,sv⟩;dsimp only at hg su sv;rw [<-hg];clear hg;refine ev ?_;refine kY (fun c4=>?_) fun c4=>?_<;>(refine ev1 @c4 ?_;try with_reducible exact aC)
 ·have v0:0<v:=by omega
  have er:((u:Nat):Int).tmod (v:Nat)=((u % v:Nat):Int):=by rw [iR (by omega),kD]
  have lr:=kF u v0;have eg:Nat.gcd v (u % v)=Nat.gcd u v:=by rw [jV u v,Nat.gcd_rec v u,jV]
  exact⟨(v,u % v),lr,⟨eg,sv,by dsimp only;omega⟩,by (refine kN ?_)<;>(try (refine ev1 @er ?_;try with_reducible exact True.intro))<;>(repeat' (first|refine⟨?_,?_⟩|exact MO (by omega)|exact OT (by simp)|exact JM _))⟩
 have v0:v=0:=by omega
 have cu:=PV h.uF (n:=((u:Nat):Int)) (by omega);rw [fQ]at cu;refine jM cu ?_;refine ev ?_;rw [v0,Nat.gcd_zero_right];exact kM _
theorem XT{T:Tb}(h:Gy T){m n:Nat}(hn:0<n)(la:(mk m).length<=900:=by exact tX)(lb:(mk n).length<=890:=by exact tX) :
  PF T 136 [ints (mk m),ints (mk n)] (.oJ [ints (mk (m / n)),ints (mk (m % n))]):=by
 by_cases big:(mk n).length=1
 ·have n1:n<1000000000:=by have:=(lS (n:=n) (k:=1)).1 (by omega);omega
  have cs:=afp h.VT (m:=m) hn n1 (by omega);have lr:=kF m hn;have cn:=PV h.uF (n:=((m % n:Nat):Int)) (by omega);rw [fQ]at cn;rw [mk_one hn n1];have c0:((1:Nat):Int)=1:=rfl;refine kS nR h.hT ?_;simp only [Bh,Lz];refine ev ?_;refine ev1 @c0 ?_;refine jM cs ?_;refine ev ?_;refine jM cn ?_;refine ev ?_;exact kM _
 obtain⟨A,hA⟩:∃A,mk m=A:=⟨_,rfl⟩;obtain⟨B,hB⟩:∃B,mk n=B:=⟨_,rfl⟩;have hva:val A=m:=by rw [<-hA,val_mk]
 have hbA:Lb A:=hA▸vH m;have hbB:Lb B:=hB▸vH n;rw [hA]at la ⊢;rw [hB]at lb big ⊢;have c1:¬((B.length:Nat):Int)=1:=by omega
 refine kS nR h.hT ?_;simp only [Bh,Lz];refine ev ?_;refine ev1 @c1 ?_;refine⟨by omega,?_⟩;rw [QO];refine kV (fun _ _=>false) (α:=Nat×List Int×Nat) (fun q=>⟨mM [ints A,ints B,.any,.any,.any,.any,.any,.any,.lG 0 0 A.length,ints (mk q.2.2),iv ((q.1:Nat)-1)],[some ⟨1,kR q.2.1⟩],0,0,[],[]⟩) (fun q=>q.1<=A.length/\q.2.1.length=A.length/\Lb q.2.1/\(∀j,j<q.1->q.2.1.getD j 0=0)/\q.2.2<n/\val (A.drop q.1)=val (q.2.1.drop q.1)*n+q.2.2) (fun q=>q.1) rfl (A.length,List.replicate A.length 0,0) ?_ ?_ ?_
 ·exact⟨by omega,by simp,QS _,by intro j _;simp [List.getD_eq_getElem?_getD,List.getElem?_replicate];split<;>rfl,hn,by dsimp only;rw [mV (Nat.le_refl _),mV (by simp)];simp⟩
 ·rw [mk_zero];exact ai0
 rintro⟨k,Q,x⟩ ⟨hk,hQ,hQb,hz,hx,hv⟩;dsimp only at hk hQ hQb hz hx hv;by_cases k0:k=0
 ·subst k0;rw [bZ,bZ,hva]at hv;obtain⟨q1,q2⟩:=Nb hv hx;have e0:¬(0:Int)<=((0:Nat):Int)-1:=by omega
  refine ev1 @e0 ?_;refine jM (Di h.nS (l:=Q) (by omega)) ?_;refine ev ?_;rw [BJ hQb,<-q1,<-q2];exact kM _
 obtain⟨i,rfl⟩:∃i,k=i+1:=⟨k-1,by omega⟩;have e0:(((i+1:Nat):Int)-1)=(i:Nat):=by omega
 have e1:((i:Nat):Int)<(A.length:Nat):=by omega
 have e2:(0:Int)<=(i:Nat):=by omega
 rw [e0];have ga:=vI hbA i;have hvi:=qH A i;obtain⟨t,ht⟩:∃t,(A.getD i 0).toNat+1000000000*x=t:=⟨_,rfl⟩;have htn:t<n*1000000000:=by omega
 have lt':(A.getD i 0::mk x).length<=1048576:=by
  have:(mk x).length<=B.length:=by rw [lS];exact Nat.lt_trans hx (by have:=y7 hbB;rw [<-hB,val_mk,hB]at this;exact this)
  simp only [ak];omega
 have tr:trim (A.getD i 0::mk x)=mk t:=by
  rw [BJ (by intro y hy;rcases aI.1 hy with rfl|hy;exact ga;exact vH x y hy),<-ht,val,val_mk]
 have ct:=Di h.nS (l:=A.getD i 0::mk x) lt';rw [tr]at ct;have ely:∀y,y<=t->(mk y).length<=891:=by
  intro y hy;have:(mk y).length<=B.length+1:=by
   rw [lS,jd];have:=y7 hbB;rw [<-hB,val_mk,hB]at this;exact bn (iC hy htn) (dG _ (Nat.le_of_lt this))
  omega
 have lx:=ely;refine zf @e2 @e1 ?_;refine⟨fun e3=>?_,fun e3=>?_⟩
 case' refine_1 =>
  have x0:mk x=[]:=by cases hm:mk x with|nil=>rfl|cons a l=>rw [hm]at e3;cases e3
  rw [x0]at ct;rw [show [[V.int IntKind.i64 (A.getD i 0)]]=kR [A.getD i 0]from rfl]
  (refine ev ?_;try with_reducible exact aC)
 case' refine_2 =>
  refine ev1 @e3 ?_;rw [show [V.int IntKind.i64 (A.getD i 0)]::kR (mk x)=kR (A.getD i 0::mk x)from rfl];refine ev ?_;have lm:=lt';simp only [ak]at lm;refine⟨by omega,?_⟩
 all_goals
  clear lt';refine jM ct ?_;refine ev ?_;have ly:=ely t (aK _);have cc:=SK h.wG (wC t) (wC n) (by omega) (by rw [hB];omega);rw [val_mk,val_mk,hB]at cc;refine jM cc ?_;refine ev ?_;have gk:LC t n<0↔t<n:=by unfold LC;repeat' split<;>omega
  have k0:=hz i (by omega);have k1:=qH Q i;refine kY (fun c3=>?_) fun c3=>?_<;>(refine ev1 @c3 ?_;try with_reducible exact aC)
  ·have hny:=gk.1 c3;have k2:val (A.drop i)=val (Q.drop i)*n+t:=by
    rw [hvi,hv,k1,k0,gG,jq,<-gQ];simp only [Int.toNat_zero,kE,aV,<-ht];omega
   exact⟨(i,Q,t),by dsimp only;omega,⟨by dsimp only;omega,hQ,hQb,fun j hj=>hz j (by dsimp only at hj;omega),hny,k2⟩,by exact ai0⟩
  have hny:n<=t:=by omega
  have cd:=afq h.VU (r:=t) (b:=n) hn htn (by omega) (by rw [hB];omega);rw [hB]at cd;have hdm:=Nat.div_add_mod t n;have hml:=kF t hn;have hq:t / n<1000000000:=jk (by omega);obtain⟨d,hd⟩:∃d,t / n=d:=⟨_,rfl⟩;rw [hd]at cd hdm hq;have cn:=PV h.uF (n:=((d:Nat):Int)) (by omega);rw [fQ]at cn;have lq:(mk d).length<=1:=lS.2 (by omega);have pm:=DI h.oM (m:=n) (n:=d) (by rw [hB];omega) (by omega);rw [hB]at pm;have lnd:=ely (n*d) (by omega);have ps:=XR h.Gz (m:=t) (n:=n*d) (by omega) (by omega) (by omega);have k3:=MS (l:=Q) (i:=i) (d:=((d:Nat):Int)) (by omega) (by omega) hQb;have k4:∀j,j<i->(Q.set i (d:Nat)).getD j 0=0:=by
   intro j hj;rw [sD,aO (by omega)];exact hz j (by omega)
  have k5:val (A.drop i)=val ((Q.set i (d:Nat)).drop i)*n+(t-n*d):=by
   rw [hvi,hv,drop_set_self (by omega),val,gG,jq,<-gQ];rw [show ((d:Nat):Int).toNat=d by omega,dP d n];omega
  have k6:t-n*d<n:=by omega
  clear hdm hv hvi k1 k0 hz lx ely ht hd hml hx;refine jM cd ?_;refine zf @e1 @hQ ?_;refine jM cn ?_;refine ev ?_;refine jM pm ?_;refine ev ?_;refine jM ps ?_;refine ev ?_;exact⟨(i,Q.set i (d:Nat),t-n*d),by dsimp only;omega,⟨by dsimp only;omega,by simp [hQ],k3,k4,k6,k5⟩,by exact ai0⟩
theorem XU{T:Tb}(h:Il T){n:Nat}(hn:n<1000000000000000000:=by exact tX):PF T 134 [ints (mk n)] (.oJ [iv (n:Nat),.bool true]):=by
 have hl:(mk n).length<=2:=lS.2 (by omega);have hv:=val_mk n;have c1:=XP h.DJ (l:=mk n) (by omega);rw [Xw (bn hn (by omega))]at c1;have cb:Can [854775807,223372036,9]:=⟨by intro x hx;simp at hx;omega,by simp⟩;have c2:=SK h.wG (wC n) cb (by omega) (by simp);have e2:LC (val (mk n)) (val [854775807,223372036,9]) = -1:=by
  have:val [854775807,223372036,9]=9223372036854775807:=by simp [val]
  rw [this,val_mk];unfold LC;rw [aQ (by omega)]
 rw [e2]at c2;refine lQ nR h.hT ?_;simp only [BZ,Lz];refine ev ?_;refine jM c1 ?_;refine ev ?_;refine jM c2 ?_;have c3:¬(0:Int) < -1:=by omega
 refine ev1 @c3 ?_;refine kV (fun _ _=>false) (α:=Nat) (fun k=>⟨mM [ints (mk n),.any,.any,.any,iv (val ((mk n).drop k):Nat),iv ((k:Int)-1)],[],0,0,[],[]⟩) (fun k=>k<=(mk n).length) (fun k=>k) rfl (mk n).length ?_ ?_ ?_
 ·omega
 ·have e:val ((mk n).drop (mk n).length)=0:=mV (aK _);simp only [e];exact Ky
 intro k hk;refine ev ?_;refine kY (fun h3=>?_) fun h3=>?_<;>(refine ev1 @h3 ?_;try with_reducible exact aC)
 ·obtain⟨m,rfl⟩:∃m,k=m+1:=⟨k-1,by omega⟩;have e1:((m+1:Nat):Int)-1=(m:Nat):=by omega
  have e2:=qH (mk n) m;have e3:=Vy (l:=mk n) m;have e4:=vI (vH n) m;refine ev1 @e1 ?_;exact⟨m,by omega,by omega,by (refine kN ?_;exact MG)⟩
 have:k=0:=by omega
 subst this;rw [bZ,hv]
theorem ac7{T:Tb}(h:GI T){m n:Nat}(la:(mk m).length<=800:=by exact tX)(lb:(mk n).length<=800:=by exact tX) :
  PF T 123 [ints (mk m),ints (mk n)] (ints (mk (Nat.gcd m n))):=by
 have em:∀k,kR (mk k)=[]->mk k=[]:=fun k e=>by cases hm:mk k with|nil=>rfl|cons a l=>rw [hm]at e;cases e
 refine kS nR h.hT ?_;simp only [GH,Lz];refine ev ?_;refine⟨fun e1=>⟨fun e2=>?_,fun e2=>?_⟩,fun e1=>⟨by omega,fun e2=>?_,fun e2=>?_⟩⟩
 case' refine_1=>have x0:=em m e1;have y0:=em n e2
 case' refine_2=>have x0:=em m e1;refine⟨by omega,?_⟩
 case' refine_3=>have y0:=em n e2
 case' refine_4=>refine⟨by omega,?_⟩
 all_goals
  refine kV (fun _ _=>false) (α:=Nat×Nat) (fun q=>⟨mM [.any,.any,.any,.any,.any,ints (mk q.1),ints (mk q.2)],[],0,0,[],[]⟩) (fun q=>Nat.gcd q.1 q.2=Nat.gcd m n/\(mk q.1).length<=800/\(mk q.2).length<=800) (fun q=>q.2) rfl (m,n) ?_ ?_ ?_
  ·exact⟨rfl,la,lb⟩
  ·dsimp only
   try rw [x0]
   try rw [y0]
   exact atO
  rintro⟨x,y⟩ ⟨hg,lx,ly⟩;dsimp only at hg lx ly;rw [<-hg];clear hg la lb em e1 e2;refine ev ?_;refine kY (fun c1=>?_) fun c1=>?_<;>(refine ev1 @c1 ?_;try with_reducible exact aC)
  ·have hy:0<y:=FC.1 (by omega);by_cases c2:(((mk x).length:Nat):Int)<3/\(((mk y).length:Nat):Int)<3
   ·obtain⟨c2,c3⟩:=c2;have sx:x<1000000000000000000:=by have:=lS (n:=x) (k:=2);omega
    have sy:y<1000000000000000000:=by have:=lS (n:=y) (k:=2);omega
    refine zf @c2 @c3 ?_;refine jM (XU h.NZ sx) ?_;refine ev ?_;refine jM (XU h.NZ sy) ?_;refine ev ?_;refine jM (afr h.VW sx sy) ?_;refine ev ?_;exact kM _
   have lr:=kF x hy;have lr2:(mk (x % y)).length<=800:=dw (Nh (Nat.le_of_lt lr)) ly;have eg:Nat.gcd y (x % y)=Nat.gcd x y:=by rw [jV x y,Nat.gcd_rec y x,jV]
   have big:((((mk x).length:Nat):Int)<3/\¬(((mk y).length:Nat):Int)<3)\/¬(((mk x).length:Nat):Int)<3:=by omega
   clear c2;rcases big with ⟨c2,c3⟩|c2
   case' inl=>(refine zf @c2 @c3 ?_;try with_reducible exact aC)
   case' inr=>(refine ev1 @c2 ?_;try with_reducible exact aC)
   all_goals
    refine jM (XT h.GK hy (by omega) (by omega)) ?_;refine ev ?_;exact⟨(y,x % y),lr,⟨eg,ly,lr2⟩,by (refine kN ?_;exact MG)⟩
  have y0:y=0:=by have:=@FC y;omega
  rw [y0,Nat.gcd_zero_right];exact kM _
def uV:Fn:=⟨2,17,[.cell 4 2 true],(.seq (rf 1 [oN 4 (.alloc ZO)]) (.seq (sr [oW 5 1,oN 6 (ln 5),oN 7 (bc .eql 6 0),oW 8 7,oG 8 false 9 (oV 1),oG 8 false 10 (ln 9),oG 8 false 11 (bc .gtr 10 60),oN 12 (.pick (.t 8) (.c (.bool true)) (.t 11))] (cd 12 (sr [oN 13 (.build ZO []),oS (.store 2 (.t 4) (.t 13))] .ret) .skip)) (sr [oW 14 0,oW 15 1,oN 16 (.build ZO [(0,1,(.t 14)),(1,1,(.t 15))]),oS (.store 2 (.t 4) (.t 16))] .ret)))⟩
structure nT (T:Tb):Prop where
 hT:T 68=some uV
def GL:Fn:=⟨2,16,[.cell 4 2 true],(.seq (rf 3 [oN 2 (.box (.t 0)),oK 3 1 (.box (.t 1)),oK 4 2 (.alloc ZO)]) (.seq (rt 0 [oN 5 (fd 0 2),oA 6 0 (lF 1 5) [0],oN 7 (fd 0 3),oA 8 0 (lF 1 7) [2],oA 9 0 (.beq true (.t 6) (.t 8)) [1,3],oN 10 (fd 1 2),oA 11 0 (lF 1 10) [5],oN 12 (fd 1 3),oA 13 0 (lF 1 12) [7],oA 14 0 (cl 155 [11,13]) [6,8],oA 15 0 (cl 68 [9,14]) [4,9,9],⟨none,none,0,.store 2 (.t 4) (.t 15),[10,10,0,1,2,3,4,5,6,7,8,9,10]⟩]) .ret))⟩
structure Bj (T:Tb):Prop where
 hT:T 142=some GL
 lU:nT T
 Gl:Gi T
def GN:Fn:=⟨2,40,[.cell 4 2 true],(.seq (rf 3 [oN 2 (.box (.t 0)),oK 3 1 (.box (.t 1)),oK 4 2 (.alloc ZO)]) (.seq (sr [oN 5 (fd 0 2),oN 6 (lF 1 5),oN 7 (fd 0 3),oN 8 (lF 1 7),oN 9 (.beq false (.t 6) (.t 8))] (cd 9 (.seq (rt 0 [oN 10 (fd 0 2),oA 11 0 (lF 1 10) [0],oN 12 (fd 1 2),oA 13 0 (lF 1 12) [2],oN 14 (fd 1 3),oA 15 0 (lF 1 14) [4],oA 16 0 (cl 160 [13,15]) [3,5],oA 17 0 (cl 68 [11,16]) [1,6,6],⟨none,none,0,.store 2 (.t 4) (.t 17),[7,7,0,1,2,3,4,5,6,7]⟩]) .ret) .skip)) (.seq (sr [oN 18 (fd 1 2),oN 19 (lF 1 18),oN 20 (fd 1 3),oN 21 (lF 1 20),oN 22 (cl 152 [19,21]),oN 23 (bc .geq 22 0)] (cd 23 (.seq (rt 0 [oN 24 (fd 0 2),oA 25 0 (lF 1 24) [0],oN 26 (fd 1 2),oA 27 0 (lF 1 26) [2],oN 28 (fd 1 3),oA 29 0 (lF 1 28) [4],oA 30 0 (cl 154 [27,29]) [3,5],oA 31 0 (cl 68 [25,30]) [1,6,6],⟨none,none,0,.store 2 (.t 4) (.t 31),[7,7,0,1,2,3,4,5,6,7]⟩]) .ret) .skip)) (.seq (rt 0 [oN 32 (fd 0 3),oA 33 0 (lF 1 32) [0],oN 34 (fd 1 3),oA 35 0 (lF 1 34) [2],oN 36 (fd 1 2),oA 37 0 (lF 1 36) [4],oA 38 0 (cl 154 [35,37]) [3,5],oA 39 0 (cl 68 [33,38]) [1,6,6],⟨none,none,0,.store 2 (.t 4) (.t 39),[7,7,0,1,2,3,4,5,6,7]⟩]) .ret))))⟩
structure KD (T:Tb):Prop where
 hT:T 141=some GN
 lU:nT T
 Gj:F7 T
 Bg:Gg T
 Y9:Kw T
def Cb:Fn:=⟨1,17,[.tmp 2],(.seq (rf 1 [oN 1 (.box (.t 0)),oK 2 1 mF]) (sr [oN 3 (fd 1 1),oN 4 (lF 1 3),oN 5 (cl 126 [4]),oW 6 5,oG 6 true 7 (fd 0 1),oG 6 true 8 (lF 1 7),oG 6 true 9 (oV 8),oG 9 true 10 (fd 1 1),oG 9 true 11 (lF 1 10),oG 9 true 12 (ln 11),oG 9 true 13 (bc .eql 12 0),oG 6 true 14 (.pick (.t 9) (.t 13) (.c (.bool false))),oG 6 true 15 (nt 14),oN 16 (.pick (.t 6) (.t 15) (.c (.bool false))),oW 2 16] .ret))⟩
structure Io (T:Tb):Prop where
 hT:T 125=some Cb
 Nj:IJ T
def IU:Fn:=⟨1,6,[.cell 2 2 true],(.seq (rf 2 [oN 1 (.box (.t 0)),oK 2 1 (.alloc ZO)]) (sr [oN 3 (fd 2 1),oN 4 (lF 1 3),oN 5 (.build ZO [(1,1,(.t 4))]),oS (.store 2 (.t 2) (.t 5))] .ret))⟩
structure Aj (T:Tb):Prop where
 hT:T 143=some IU
def JV:Fn:=⟨1,7,[.tmp 2],(.seq (rf 1 [oN 1 (.box (.t 0)),oK 2 1 mF]) (sr [oN 3 (fd 2 1),oN 4 (lF 1 3),oN 5 (ln 4),oN 6 (bc .gtr 5 0),oW 2 6] .ret))⟩
structure pW (T:Tb):Prop where
 hT:T 132=some JV
theorem aa9:mP (Wu ⟨false,[]⟩) (.agg [.bool false,.jZ]):=by
 show mP (.agg [.bool false,.sl 1 []]) (.agg [.bool false,.jZ]);simp only [OV,UC,UA,LG,sV,and_true]
theorem uo:mP (kW ⟨false,[],[]⟩) (.agg [.bool false,.jZ,.jZ]):=by
 show mP (.agg [.bool false,.sl 1 [],.sl 1 []]) (.agg [.bool false,.jZ,.jZ]);simp only [OV,UC,UA,LG,sV,and_true]
theorem Dj{T:Tb}(h:nT T){neg:Bool}{n:Nat}(hl:(mk n).length<=60:=by exact tX):PF T 68 [.bool neg,ints (mk n)] (Wu (bi (sg neg n))):=by
 refine kS nR h.hT ?_;simp only [uV,Lz];refine ev ?_;refine kY (fun h1=>?_) fun h1=>?_<;>(refine ev1 @h1 ?_;try with_reducible exact aC)
 ·have n0:n=0:=ai1.1 (by omega);subst n0;rw [SN,ag8];exact aa9
 have h2:¬(60:Int)<((mk n).length:Nat):=by omega
 refine ev1 @h2 ?_;rw [alq neg n (FC.1 (by omega))];exact kM _
theorem apC{T:Tb}(h:Aj T){r:R}:PF T 143 [kW r] (Wu ⟨false,r.den⟩):=by
 refine kS nR h.hT ?_;simp only [IU,Lz];refine ev ?_;exact kM _
theorem SQ(a b:Bool):(!decide (a=b))=(a != b):=by cases a<;>cases b<;>rfl
theorem vP{T:Tb}(h:Bj T){x y:Int}(lx:(mk x.natAbs).length<=30:=by exact tX)(ly:(mk y.natAbs).length<=30:=by exact tX):PF T 142 [Wu (bi x),Wu (bi y)] (Wu (bi (x*y))):=by
 have l1:=KC x.natAbs y.natAbs;refine kS nR h.hT ?_;simp only [GL,Lz];refine ev ?_;refine jM (XJ h.Gl (by omega) (by omega)) ?_;refine ev ?_;refine jM (Dj h.lU (by omega)) ?_;refine ev ?_;refine⟨by unfold rO;decide +kernel,?_⟩;rw [SQ,XQ];exact kM _
theorem ac8{T:Tb}(h:KD T){x y:Int}(lx:(mk x.natAbs).length<=59:=by exact tX)(ly:(mk y.natAbs).length<=59:=by exact tX):PF T 141 [Wu (bi x),Wu (bi y)] (Wu (bi (x+y))):=by
 have l1:=afo x.natAbs y.natAbs;have l2:=aa7 x.natAbs y.natAbs;have l3:=aa7 y.natAbs x.natAbs;refine kS nR h.hT ?_;simp only [GN,Lz];refine ev ?_;refine kY (fun h1=>?_) fun h1=>?_<;>(refine ev1 @h1 ?_;try with_reducible exact aC)
 ·refine jM (alm h.Y9 (by omega) (by omega)) ?_;refine ev ?_;refine jM (Dj h.lU (by omega)) ?_;refine ev ?_;refine⟨by unfold rO;decide +kernel,?_⟩;rw [<-h1,VB h1];exact kM _
 have cc:=XI h.Gj (wC x.natAbs) (wC y.natAbs) (by omega) (by omega);rw [val_mk,val_mk]at cc;refine jM cc ?_;refine ev ?_;refine kY (fun h2=>?_) fun h2=>?_<;>(refine ev1 @h2 ?_;try with_reducible exact aC)
 ·have h3:=xP.1 h2;refine jM (SH h.Bg h3 (by omega) (by omega)) ?_;refine ev ?_;refine jM (Dj h.lU (by omega)) ?_;refine ev ?_;refine⟨by unfold rO;decide +kernel,?_⟩;rw [JU h1 h3];exact kM _
 have h3:x.natAbs<=y.natAbs:=by have:=@xP x.natAbs y.natAbs;omega
 refine jM (SH h.Bg h3 (by omega) (by omega)) ?_;refine ev ?_;refine jM (Dj h.lU (by omega)) ?_;refine ev ?_;refine⟨by unfold rO;decide +kernel,?_⟩;rw [JU (fun e=>h1 e.symm) h3,Int.add_comm];exact kM _
theorem afs{T:Tb}(h:Io T){z:Bi}(hl:z.mag.length<=9223372036854775807:=by exact tX):PF T 125 [Wu z] (.bool (yx z.mag && !(z.neg&&z.mag.isEmpty))):=by
 obtain⟨neg,mag⟩:=z;have cn:=ag5 h.Nj hl;dsimp only at cn ⊢
 cases hn:yx mag<;>rw [hn]at cn<;>cases neg
 all_goals
  refine lQ nR h.hT ?_;simp only [Cb,Lz];refine ev ?_;refine jM cn ?_
  (refine ev ?_;try with_reducible exact aC)
 all_goals
  cases mag<;>simp<;>omega
theorem atQ{T:Tb}(h:pW T){r:R}:PF T 132 [kW r] (.bool (!r.den.isEmpty)):=by
 refine lQ nR h.hT ?_;simp only [JV,Lz];refine ev ?_
 cases r.den<;>simp
def zJ:Fn:=⟨2,18,[.cell 4 2 true],(.seq (rf 1 [oN 4 (.alloc ZO)]) (sr [oW 6 1,oN 7 (cl 70 [6]),oW 5 7] (.seq (rf 2 [oK 8 2 (oV 0),oK 9 2 (oV 8),oH 9 true 10 2 (oV 5) [],oH 9 true 11 2 (ln 10) [],oH 9 true 12 2 (bc .gtr 11 0) [],oK 13 2 (.pick (.t 9) (.t 12) (.c (.bool false))),oN 14 (.nM 1 Oo 0 []),oK 15 2 (oV 5),oK 16 1 (.app 1 8 (.t 14) (.t 15)),oK 17 2 (.build ZO [(0,1,(.t 13)),(1,1,(.t 16))]),⟨none,none,2,.store 2 (.t 4) (.t 17),[]⟩]) .ret)))⟩
structure uX (T:Tb):Prop where
 hT:T 66=some zJ
 Za:KA T
def GR:Fn:=⟨2,40,[.cell 4 2 true],(.seq (rf 3 [oN 2 (.box (.t 0)),oK 3 1 (.box (.t 1)),oK 4 2 (.alloc ZO)]) (.seq (sr [oN 5 (fd 0 2),oN 6 (lF 1 5),oN 7 (fd 0 3),oN 8 (lF 1 7),oN 9 (.beq false (.t 6) (.t 8))] (cd 9 (.seq (rt 0 [oN 10 (fd 0 2),oA 11 0 (lF 1 10) [0],oN 12 (fd 1 2),oA 13 0 (lF 1 12) [2],oN 14 (fd 1 3),oA 15 0 (lF 1 14) [4],oA 16 0 (cl 209 [13,15]) [3,5],oA 17 0 (cl 66 [11,16]) [1,6,6],⟨none,none,0,.store 2 (.t 4) (.t 17),[7,7,0,1,2,3,4,5,6,7]⟩]) .ret) .skip)) (.seq (sr [oN 18 (fd 1 2),oN 19 (lF 1 18),oN 20 (fd 1 3),oN 21 (lF 1 20),oN 22 (cl 146 [19,21]),oN 23 (bc .geq 22 0)] (cd 23 (.seq (rt 0 [oN 24 (fd 0 2),oA 25 0 (lF 1 24) [0],oN 26 (fd 1 2),oA 27 0 (lF 1 26) [2],oN 28 (fd 1 3),oA 29 0 (lF 1 28) [4],oA 30 0 (cl 149 [27,29]) [3,5],oA 31 0 (cl 66 [25,30]) [1,6,6],⟨none,none,0,.store 2 (.t 4) (.t 31),[7,7,0,1,2,3,4,5,6,7]⟩]) .ret) .skip)) (.seq (rt 0 [oN 32 (fd 0 3),oA 33 0 (lF 1 32) [0],oN 34 (fd 1 3),oA 35 0 (lF 1 34) [2],oN 36 (fd 1 2),oA 37 0 (lF 1 36) [4],oA 38 0 (cl 149 [35,37]) [3,5],oA 39 0 (cl 66 [33,38]) [1,6,6],⟨none,none,0,.store 2 (.t 4) (.t 39),[7,7,0,1,2,3,4,5,6,7]⟩]) .ret))))⟩
structure KE (T:Tb):Prop where
 hT:T 205=some GR
 nU:uX T
 wG:yM T
 Gz:Gu T
 Zb:Kz T
def Ce:Fn:=⟨1,17,[.tmp 2],(.seq (rf 1 [oN 1 (.box (.t 0)),oK 2 1 mF]) (sr [oN 3 (fd 1 1),oN 4 (lF 1 3),oN 5 (cl 121 [4]),oW 6 5,oG 6 true 7 (fd 0 1),oG 6 true 8 (lF 1 7),oG 6 true 9 (nt 8),oG 6 true 10 (oV 9),oG 10 false 11 (fd 1 1),oG 10 false 12 (lF 1 11),oG 10 false 13 (ln 12),oG 10 false 14 (bc .gtr 13 0),oG 6 true 15 (.pick (.t 10) (.c (.bool true)) (.t 14)),oN 16 (.pick (.t 6) (.t 15) (.c (.bool false))),oW 2 16] .ret))⟩
structure Ip (T:Tb):Prop where
 hT:T 120=some Ce
 DJ:DF T
def Bl:Fn:=⟨1,12,[.tmp 2],(sr [oN 2 mF] (sr [oW 3 0,oN 4 (ln 3),oN 5 (bc .eql 4 1),oW 6 5,oG 6 true 7 (oV 0),oG 6 true 8 (.idx 1 (.t 7) (cI 0)),oG 6 true 9 (lF 1 8),oG 6 true 10 (bc .eql 9 1),oN 11 (.pick (.t 6) (.t 10) (.c (.bool false))),oW 2 11] .ret))⟩
structure Bo (T:Tb):Prop where
 hT:T 122=some Bl
theorem Ak{T:Tb}(h:uX T){neg:Bool}{n:Nat}(hl:(mk n).length<=60:=by exact tX):PF T 66 [.bool neg,ints (mk n)] (Wu (bi (sg neg n))):=by
 have ct:=alo h.Za (n:=n) (by omega);by_cases n0:n=0
 ·subst n0;rw [mk_zero]at *;rw [SN,ag8];refine kS nR h.hT ?_;simp only [zJ,Lz];refine ev ?_;refine jM ct ?_
  cases neg
  ·refine ev ?_;exact⟨fun _=>aa9,fun e=>absurd rfl e⟩
  refine ev ?_;exact⟨fun _=>aa9,fun e=>absurd rfl e⟩
 have hp:=FC.2 (jQ n0);have ne:kR (mk n)≠[]:=by intro e;rw [<-Fb,e]at hp;simp at hp
 rw [alq neg n (by omega)];refine kS nR h.hT ?_;simp only [zJ,Lz];refine ev ?_;refine jM ct ?_
 cases neg
 ·refine ev1 @ne ?_;exact⟨by omega,kM _⟩
 have c1:(0:Int)<((mk n).length:Nat):=by omega
 refine zf @ne @c1 ?_;exact⟨by omega,kM _⟩
theorem ac9{T:Tb}(h:KE T){x y:Int}(lx:(mk x.natAbs).length<=59:=by exact tX)(ly:(mk y.natAbs).length<=59:=by exact tX):PF T 205 [Wu (bi x),Wu (bi y)] (Wu (bi (x+y))):=by
 have l1:=afo x.natAbs y.natAbs;have l2:=aa7 x.natAbs y.natAbs;have l3:=aa7 y.natAbs x.natAbs;refine kS nR h.hT ?_;simp only [GR,Lz];refine ev ?_;refine kY (fun h1=>?_) fun h1=>?_<;>(refine ev1 @h1 ?_;try with_reducible exact aC)
 ·refine jM (alp h.Zb (by omega) (by omega)) ?_;refine ev ?_;refine jM (Ak h.nU (by omega)) ?_;refine ev ?_;refine⟨by unfold rO;decide +kernel,?_⟩;rw [<-h1,VB h1];exact kM _
 have cc:=SK h.wG (wC x.natAbs) (wC y.natAbs) (by omega) (by omega);rw [val_mk,val_mk]at cc;refine jM cc ?_;refine ev ?_;refine kY (fun h2=>?_) fun h2=>?_<;>(refine ev1 @h2 ?_;try with_reducible exact aC)
 ·have h3:=xP.1 h2;refine jM (XR h.Gz h3 (by omega) (by omega)) ?_;refine ev ?_;refine jM (Ak h.nU (by omega)) ?_;refine ev ?_;refine⟨by unfold rO;decide +kernel,?_⟩;rw [JU h1 h3];exact kM _
 have h3:x.natAbs<=y.natAbs:=by have:=@xP x.natAbs y.natAbs;omega
 refine jM (XR h.Gz h3 (by omega) (by omega)) ?_;refine ev ?_;refine jM (Ak h.nU (by omega)) ?_;refine ev ?_;refine⟨by unfold rO;decide +kernel,?_⟩;rw [JU (fun e=>h1 e.symm) h3,Int.add_comm];exact kM _
theorem ada{T:Tb}(h:Ip T){z:Bi}(hl:z.mag.length<=9223372036854775807:=by exact tX):PF T 120 [Wu z] (.bool (yx z.mag && !(z.neg&&z.mag.isEmpty))):=by
 obtain⟨neg,mag⟩:=z;have cn:=XP h.DJ hl;dsimp only at cn ⊢
 cases hn:yx mag<;>rw [hn]at cn<;>cases neg
 all_goals
  refine lQ nR h.hT ?_;simp only [Ce,Lz];refine ev ?_;refine jM cn ?_
  (refine ev ?_;try with_reducible exact aC)
 all_goals
  cases mag<;>simp<;>omega
theorem OY{T:Tb}(h:Bo T){n:Nat}:PF T 122 [ints (mk n)] (.bool (decide (n=1))):=by
 by_cases n1:n=1
 ·subst n1;rw [mk_one (by omega) (by omega)];have c0:((1:Nat):Int)=1:=rfl;refine lQ nR h.hT ?_;simp only [Bl,Lz];refine ev ?_;refine ev1 @c0 ?_;rfl
 have key:¬((mk n).length=1/\(mk n).getD 0 0=1):=by
  rintro⟨k,e⟩;have:=val_mk n
  cases hm:mk n with
  |nil=>rw [hm]at k;simp at k
  |
   cons x l =>
   rw [hm]at k e this;have:l=[]:=by simpa using k
   subst this;simp [val]at *;omega
 refine lQ nR h.hT ?_;simp only [Bl,Lz];refine ev ?_;by_cases k:(((mk n).length:Nat):Int)=1
 ·have k':=iff_true_intro k;have e:¬(mk n).getD 0 0=1:=fun e=>key ⟨by omega,e⟩;refine zf @k' @e ?_;simp [n1]
 refine ev1 @k ?_;simp [n1]
theorem SS{q:Rat}:fits q=true↔(mk q.num.natAbs).length<=24/\(mk q.den).length<=24:=by
 rw [lS,lS];simp [fits]
theorem LM(neg:Bool)(m:Nat):(sg neg m).natAbs=m:=by cases neg<;>simp [sg]
theorem abb{n d:Int}(hd:d≠0):Q.raw (RJ n d) =
  if (mk (n.natAbs / Nat.gcd n.natAbs d.natAbs)).length<=24/\(mk (d.natAbs / Nat.gcd n.natAbs d.natAbs)).length<=24 then
   ⟨(bi (sg (decide (n<0) != decide (d<0)) (n.natAbs / Nat.gcd n.natAbs d.natAbs))).neg,mk (n.natAbs / Nat.gcd n.natAbs d.natAbs),mk (d.natAbs / Nat.gcd n.natAbs d.natAbs)⟩
  else⟨false,[],[]⟩:=by
 obtain⟨h1,h2,h3⟩:=afa (n:=n) hd;unfold RJ;rw [aO hd];have hg:0<Nat.gcd n.natAbs d.natAbs:=jy _ (by omega);have h4:n.natAbs / Nat.gcd n.natAbs d.natAbs=0↔n=0:=by
  constructor
  ·intro h;have:=Nat.div_mul_cancel (Nat.gcd_dvd_left n.natAbs d.natAbs);rw [h]at this;omega
  intro h;subst h;simp
 have h5:decide ((Rat.divInt n d).num<0)=decide (sg (decide (n<0) != decide (d<0)) (n.natAbs / Nat.gcd n.natAbs d.natAbs)<0):=by
  rw [h3];generalize n.natAbs / Nat.gcd n.natAbs d.natAbs=m at h4
  cases hb:(decide (n<0) != decide (d<0))
  ·simp [sg]
  by_cases hn:n=0
  ·have:=h4.2 hn;subst this;simp [sg,hn]
  have:m≠0:=fun e=>hn (h4.1 e);simp [sg,hn];omega
 by_cases hf:fits (Rat.divInt n d)=true
 ·have hf2:=SS.1 hf;rw [h1,h2]at hf2;rw [yJ hf,aQ hf2];simp only [Q.raw,h1,h2,h5]
 have hf2:=fun h=>hf (SS.2 h);rw [h1,h2]at hf2;rw [ZK (by simpa using hf),aO hf2];rfl
def uY:Fn:=⟨2,52,[.cell 4 3 true],(.seq (rf 3 [oN 2 (.box (.t 0)),oK 3 1 (.box (.t 1)),oK 4 2 (.alloc uz)]) (.seq (sr [oN 10 (fd 1 3),oN 11 (lF 1 10),oN 12 (ln 11),oN 13 (bc .eql 12 0)] (cd 13 (sr [oN 14 (.build uz []),oS (.store 3 (.t 4) (.t 14))] .ret) .skip)) (sr [oN 15 (fd 1 2),oN 16 (lF 1 15),oN 17 (fd 1 3),oN 18 (lF 1 17),oN 19 (cl 127 [16,18]),oW 5 19] (sr [oN 21 (fd 1 2),oN 22 (lF 1 21),oW 23 5,oN 24 (cl 138 [22,23]),oW 20 24,oN 25 (ex 0 20),oN 26 (ex 1 20),oW 6 25,oW 7 26] (sr [oN 28 (fd 1 3),oN 29 (lF 1 28),oW 30 5,oN 31 (cl 138 [29,30]),oW 27 31,oN 32 (ex 0 27),oN 33 (ex 1 27),oW 8 32,oW 9 33] (.seq (sr [oW 34 6,oN 35 (ln 34),oN 36 (bc .gtr 35 24),oW 37 36,oG 37 false 38 (oV 8),oG 37 false 39 (ln 38),oG 37 false 40 (bc .gtr 39 24),oN 41 (.pick (.t 37) (.c (.bool true)) (.t 40))] (cd 41 (sr [oN 42 (.build uz []),oS (.store 3 (.t 4) (.t 42))] .ret) .skip)) (sr [oN 43 (fd 0 2),oN 44 (lF 1 43),oN 45 (fd 0 3),oN 46 (lF 1 45),oN 47 (.beq true (.t 44) (.t 46)),oW 48 6,oN 49 (cl 68 [47,48]),oW 50 8,oN 51 (.build uz [(0,2,(.t 49)),(2,1,(.t 50))]),oS (.store 3 (.t 4) (.t 51))] .ret)))))))⟩
structure xw (T:Tb):Prop where
 hT:T 144=some uY
 lU:nT T
 GU:Gn T
 yL:Bf T
def sF:Fn:=⟨2,33,[.cell 4 3 true],(.seq (rf 3 [oN 2 (.box (.t 0)),oK 3 1 (.box (.t 1)),oK 4 2 (.alloc uz)]) (.seq (sr [oN 6 (lT 3 2),oN 7 (cl 132 [6]),oN 8 (nt 7),oW 9 8,oG 9 false 10 (lT 3 3),oG 9 false 11 (cl 132 [10]),oG 9 false 12 (nt 11),oN 13 (.pick (.t 9) (.c (.bool true)) (.t 12))] (cd 13 (sr [oN 14 (.build uz []),oS (.store 3 (.t 4) (.t 14))] .ret) .skip)) (.seq (rt 1 [oK 15 1 (fd 0 2),oA 16 1 (lT 2 15) [0],oK 17 1 (lT 3 3),oA 18 1 (cl 143 [17]) [2],oA 19 1 (cl 142 [16,18]) [1,3,3],oK 20 1 (fd 0 3),oA 21 1 (lT 2 20) [5],oK 22 1 (lT 3 2),oA 23 1 (cl 143 [22]) [7,4],oA 24 1 (cl 142 [21,23]) [6,8,8],oA 25 1 (cl 141 [19,24]) [4,9,9],oN 5 (.alloc ZO),⟨none,none,1,.store 2 (.t 5) (.t 25),[11,10,10,0,1,2,3,4,5,6,7,8,9,10,11]⟩]) (.seq (rt 0 [oN 26 (lT 2 5),oN 27 (lT 3 2),oA 28 0 (cl 143 [27]) [1],oN 29 (lT 3 3),oA 30 0 (cl 143 [29]) [3,2],oA 31 0 (cl 142 [28,30]) [2,4,4],oA 32 0 (cl 144 [26,31]) [0,5,5],⟨none,none,0,.store 3 (.t 4) (.t 32),[6,6,0,1,2,3,4,5,6]⟩]) .ret))))⟩
structure oO (T:Tb):Prop where
 hT:T 131=some sF
 kU:pW T
 Qr:KD T
 nC:Bj T
 mQ:Aj T
 tH:xw T
def yO:Fn:=⟨1,20,[.cell 2 3 true],(.seq (rf 2 [oN 1 (.box (.t 0)),oK 2 1 (.alloc uz)]) (.seq (sr [oN 3 (lT 3 1),oN 4 (cl 132 [3]),oN 5 (nt 4)] (cd 5 (sr [oN 6 (.build uz []),oS (.store 3 (.t 2) (.t 6))] .ret) .skip)) (.seq (rt 0 [oN 7 (fd 0 1),oA 8 0 (fd 0 7) [0],oA 9 0 (lF 1 8) [1],oA 10 0 (nt 9) [2],oN 11 (fd 0 1),oA 12 0 (fd 1 11) [4],oA 13 0 (lF 1 12) [5],oA 14 0 (cl 139 [13]) [6],oA 15 0 (cl 68 [10,14]) [3,7,7],oN 16 (fd 2 1),oA 17 0 (lF 1 16) [9],oA 18 0 (cl 139 [17]) [10,8],oA 19 0 (.build uz [(0,2,(.t 15)),(2,1,(.t 18))]) [8,11],⟨none,none,0,.store 3 (.t 2) (.t 19),[12,11,0,1,2,3,4,5,6,7,8,9,10,11,12]⟩]) .ret)))⟩
structure uJ (T:Tb):Prop where
 hT:T 161=some yO
 lU:nT T
 kU:pW T
 qE:vM T
def Bq:Fn:=⟨2,9,[.cell 4 3 true],(.seq (rf 3 [oN 2 (.box (.t 0)),oK 3 1 (.box (.t 1)),oK 4 2 (.alloc uz)]) (.seq (rt 0 [oN 5 (lT 3 2),oN 6 (lT 3 3),oA 7 0 (cl 161 [6]) [1],oA 8 0 (cl 131 [5,7]) [0,2,2],⟨none,none,0,.store 3 (.t 4) (.t 8),[3,3,0,1,2,3]⟩]) .ret))⟩
structure sG (T:Tb):Prop where
 hT:T 159=some Bq
 lN:oO T
 uK:uJ T
def sH:Fn:=⟨2,25,[.cell 4 3 true],(.seq (rf 3 [oN 2 (.box (.t 0)),oK 3 1 (.box (.t 1)),oK 4 2 (.alloc uz)]) (.seq (sr [oN 5 (lT 3 2),oN 6 (cl 132 [5]),oN 7 (nt 6),oW 8 7,oG 8 false 9 (lT 3 3),oG 8 false 10 (cl 132 [9]),oG 8 false 11 (nt 10),oN 12 (.pick (.t 8) (.c (.bool true)) (.t 11))] (cd 12 (sr [oN 13 (.build uz []),oS (.store 3 (.t 4) (.t 13))] .ret) .skip)) (.seq (rt 0 [oN 14 (fd 0 2),oA 15 0 (lT 2 14) [0],oN 16 (fd 0 3),oA 17 0 (lT 2 16) [2],oA 18 0 (cl 142 [15,17]) [1,3],oN 19 (lT 3 2),oA 20 0 (cl 143 [19]) [5,4],oN 21 (lT 3 3),oA 22 0 (cl 143 [21]) [7,6],oA 23 0 (cl 142 [20,22]) [6,8,8],oA 24 0 (cl 144 [18,23]) [4,9,9],⟨none,none,0,.store 3 (.t 4) (.t 24),[10,10,0,1,2,3,4,5,6,7,8,9,10]⟩]) .ret)))⟩
structure qL (T:Tb):Prop where
 hT:T 157=some sH
 kU:pW T
 nC:Bj T
 mQ:Aj T
 tH:xw T
def sJ:Fn:=⟨2,25,[.cell 4 3 true],(.seq (rf 3 [oN 2 (.box (.t 0)),oK 3 1 (.box (.t 1)),oK 4 2 (.alloc uz)]) (.seq (sr [oN 5 (lT 3 2),oN 6 (cl 132 [5]),oN 7 (nt 6),oW 8 7,oG 8 false 9 (lT 3 3),oG 8 false 10 (cl 132 [9]),oG 8 false 11 (nt 10),oN 12 (.pick (.t 8) (.c (.bool true)) (.t 11))] (cd 12 (sr [oN 13 (.build uz []),oS (.store 3 (.t 4) (.t 13))] .ret) .skip)) (.seq (rt 0 [oN 14 (fd 0 2),oA 15 0 (lT 2 14) [0],oN 16 (lT 3 3),oA 17 0 (cl 143 [16]) [2],oA 18 0 (cl 142 [15,17]) [1,3,3],oN 19 (fd 0 3),oA 20 0 (lT 2 19) [5],oN 21 (lT 3 2),oA 22 0 (cl 143 [21]) [7,4],oA 23 0 (cl 142 [20,22]) [6,8,8],oA 24 0 (cl 144 [18,23]) [4,9,9],⟨none,none,0,.store 3 (.t 4) (.t 24),[10,10,0,1,2,3,4,5,6,7,8,9,10]⟩]) .ret)))⟩
structure uM (T:Tb):Prop where
 hT:T 156=some sJ
 kU:pW T
 nC:Bj T
 mQ:Aj T
 tH:xw T
def zK:Fn:=⟨1,16,[.tmp 2],(.seq (rf 1 [oN 1 (.box (.t 0)),oK 2 1 (.qw (cI 0))]) (.seq (sr [oN 3 (lT 3 1),oN 4 (cl 132 [3]),oN 5 (nt 4),oW 6 5,oG 6 false 7 (fd 0 1),oG 6 false 8 (fd 1 7),oG 6 false 9 (lF 1 8),oG 6 false 10 (ln 9),oG 6 false 11 (bc .eql 10 0),oN 12 (.pick (.t 6) (.c (.bool true)) (.t 11))] (cd 12 (sr [oN 2 (.qw (cI 0))] .ret) .skip)) (.seq (sr [oN 13 (fd 0 1),oN 14 (fd 0 13),oN 15 (lF 1 14)] (cd 15 (sr [oN 2 (.qw (cI (-1)))] .ret) .skip)) (sr [oN 2 (.qw (cI 1))] .ret))))⟩
structure zL (T:Tb):Prop where
 hT:T 124=some zK
 kU:pW T
def uG:Fn:=⟨1,46,[.tmp 2],(.seq (rf 1 [oN 1 (.box (.t 0)),oK 2 1 mF]) (.seq (sr [oN 4 (fd 0 1),oN 5 (lT 2 4),oN 6 (cl 125 [5]),oN 7 (nt 6),oW 8 7,oG 8 false 9 (fd 2 1),oG 8 false 10 (lF 1 9),oG 8 false 11 (cl 126 [10]),oG 8 false 12 (nt 11),oN 13 (.pick (.t 8) (.c (.bool true)) (.t 12)),oW 14 13,oG 14 false 15 (fd 2 1),oG 14 false 16 (lF 1 15),oG 14 false 17 (ln 16),oG 14 false 18 (bc .eql 17 0),oN 19 (.pick (.t 14) (.c (.bool true)) (.t 18))] (cd 19 (sr [oN 2 mF] .ret) .skip)) (.seq (sr [oN 20 (fd 0 1),oN 21 (fd 1 20),oN 22 (lF 1 21),oN 23 (ln 22),oN 24 (bc .gtr 23 24),oW 25 24,oG 25 false 26 (fd 2 1),oG 25 false 27 (lF 1 26),oG 25 false 28 (ln 27),oG 25 false 29 (bc .gtr 28 24),oN 30 (.pick (.t 25) (.c (.bool true)) (.t 29))] (cd 30 (sr [oN 2 mF] .ret) .skip)) (sr [oN 31 (fd 0 1),oN 32 (fd 1 31),oN 33 (lF 1 32),oN 34 (fd 2 1),oN 35 (lF 1 34),oN 36 (cl 127 [33,35]),oW 3 36] (sr [oW 37 3,oN 38 (ln 37),oN 39 (bc .eql 38 1),oW 40 39,oG 40 true 41 (oV 3),oG 40 true 42 (.idx 1 (.t 41) (cI 0)),oG 40 true 43 (lF 1 42),oG 40 true 44 (bc .eql 43 1),oN 45 (.pick (.t 40) (.t 44) (.c (.bool false))),oW 2 45] .ret)))))⟩
structure Ap (T:Tb):Prop where
 hT:T 102=some uG
 N7:Io T
 Nj:IJ T
 GU:Gn T
theorem AU{T:Tb}(h:Aj T){q:Rat}:PF T 143 [kW (Q.raw (some q))] (Wu (bi q.den)):=by
 have:=apC h (r:=Q.raw (some q));rw [atP];exact this
theorem abd{T:Tb}(h:pW T){a:Q}:PF T 132 [kW (Q.raw a)] (.bool a.isSome):=by
 have:=atQ h (r:=Q.raw a)
 cases a with
 |none=>exact this
 |
  some q =>
  have hp:=FC.2 q.den_pos;have e:(Q.raw (some q)).den.isEmpty=false:=by
   show (mk q.den).isEmpty=false
   cases hm:mk q.den with
   |nil=>rw [hm]at hp;simp at hp
   |cons x l=>rfl
  rw [e]at this;exact this
theorem sK{T:Tb}(h:pW T){q:Rat}:PF T 132 [kW (Q.raw (some q))] (.bool true):=abd h (a:=some q)
theorem zi{T:Tb}(h:pW T):PF T 132 [kW (Q.raw none)] (.bool false):=abd h (a:=none)
theorem UK{T:Tb}(h:xw T){n d:Int}(ln:(mk n.natAbs).length<=60:=by exact tX)(ld:(mk d.natAbs).length<=60:=by exact tX) :
  PF T 144 [Wu (bi n),Wu (bi d)] (kW (Q.raw (RJ n d))):=by
 by_cases hd:d=0
 ·subst hd;have e:RJ n 0=none:=rfl;rw [e];refine kS nR h.hT ?_;simp only [uY,Lz];refine ev ?_;have c1:(((mk (0:Int).natAbs).length:Nat):Int)=0:=by
   show (((mk 0).length:Nat):Int)=0;rw [aa8];rfl
  refine ev1 @c1 ?_;exact uo
 rw [abb hd];have hg:0<Nat.gcd n.natAbs d.natAbs:=jy _ (by omega);have cg:=XM h.GU (m:=n.natAbs) (n:=d.natAbs) (by omega) (by omega);have lg:(mk (Nat.gcd n.natAbs d.natAbs)).length<=60:=dw (Nh (Nat.le_of_dvd (by omega) (Nat.gcd_dvd_right _ _))) ld;have l1:=UJ n.natAbs (Nat.gcd n.natAbs d.natAbs);have l2:=UJ d.natAbs (Nat.gcd n.natAbs d.natAbs);have cn:=XL h.yL (m:=n.natAbs) hg (by omega) (by omega);have cd:=XL h.yL (m:=d.natAbs) hg (by omega) (by omega);have c1:¬(((mk d.natAbs).length:Nat):Int)=0:=by have:=@ai1 d.natAbs;omega
 clear hg lg;generalize n.natAbs / Nat.gcd n.natAbs d.natAbs=u at *;generalize d.natAbs / Nat.gcd n.natAbs d.natAbs=v at *;have cm:=Dj h.lU (neg:=!decide (decide (n<0)=decide (d<0))) (n:=u) (by omega);refine kS nR h.hT ?_;simp only [uY,Lz];refine ev ?_;refine ev1 @c1 ?_;refine jM cg ?_;refine ev ?_;refine jM cn ?_;refine ev ?_;refine jM cd ?_;refine ev ?_;by_cases k1:(24:Int)<((mk u).length:Nat)
 ·refine ev1 @k1 ?_;rw [aO (by omega)];exact uo
 by_cases k2:(24:Int)<((mk v).length:Nat)
 ·refine zf @k1 @k2 ?_;rw [aO (by omega)];exact uo
 refine zf @k1 @k2 ?_;refine jM cm ?_;refine ev ?_;rw [aQ (by omega),SQ];rw [LM];exact kM _
theorem KF{q:Rat}(h:Q.ok (some q)):(mk q.num.natAbs).length<=24/\(mk q.den).length<=24:=SS.1 h
theorem adb{T:Tb}(h:oO T){a b:Q}(ha:a.ok:=by assumption)(hb:b.ok:=by assumption):PF T 131 [kW (Q.raw a),kW (Q.raw b)] (kW (Q.raw (Om a b))):=by
 cases a with
 |
  none =>
  refine kS nR h.hT ?_;simp only [sF,Lz];refine ev ?_;refine jM (zi h.kU) ?_;refine ev ?_;exact uo
 |
  some q=>cases b with
  |
   none =>
   refine kS nR h.hT ?_;simp only [sF,Lz];refine ev ?_;refine jM (sK h.kU) ?_;refine ev ?_;refine jM (zi h.kU) ?_;refine ev ?_;exact uo
  |
   some s =>
   obtain⟨l1,l2⟩:=KF ha;obtain⟨l3,l4⟩:=KF hb;have e:Om (some q) (some s)=RJ (q.num*s.den+s.num*q.den) (q.den*s.den):=(aaR q s).symm;rw [e];have t1:=qI q.num s.den;have t2:=qI s.num q.den;have t3:=qI q.den s.den;have t5:=qI q.num s.num;have t4:=JR (q.num*s.den) (s.num*q.den);have n1:(mk (q.den:Int).natAbs).length<=24:=by rw [dB];exact l2
   have n2:(mk (s.den:Int).natAbs).length<=24:=by rw [dB];exact l4
   refine kS nR h.hT ?_;simp only [sF,Lz];refine ev ?_;refine jM (sK h.kU) ?_;refine ev ?_;refine jM (sK h.kU) ?_;refine ev ?_;refine jM (AU h.mQ (q:=s)) ?_;refine ev ?_;refine jM (vP h.nC (x:=q.num) (y:=s.den) (by omega) (by omega)) ?_;refine ev ?_;refine jM (AU h.mQ (q:=q)) ?_;refine ev ?_;refine jM (vP h.nC (x:=s.num) (y:=q.den) (by omega) (by omega)) ?_;refine ev ?_;refine jM (ac8 h.Qr (x:=q.num*s.den) (y:=s.num*q.den) (by omega) (by omega)) ?_;refine ev ?_;refine⟨by unfold rO;decide +kernel,?_⟩;refine jM (AU h.mQ (q:=q)) ?_;refine ev ?_;refine jM (AU h.mQ (q:=s)) ?_;refine ev ?_;refine jM (vP h.nC (x:=q.den) (y:=s.den) (by omega) (by omega)) ?_;refine ev ?_;refine jM (UK h.tH (n:=q.num*s.den+s.num*q.den) (d:=q.den*s.den) (by omega) (by omega)) ?_;refine ev ?_;refine⟨by unfold rO;decide +kernel,?_⟩;exact kM _
theorem alr{T:Tb}(h:qL T){a b:Q}(ha:a.ok:=by assumption)(hb:b.ok:=by assumption):PF T 157 [kW (Q.raw a),kW (Q.raw b)] (kW (Q.raw (VL a b))):=by
 cases a with
 |
  none =>
  refine kS nR h.hT ?_;simp only [sH,Lz];refine ev ?_;refine jM (zi h.kU) ?_;refine ev ?_;exact uo
 |
  some q=>cases b with
  |
   none =>
   refine kS nR h.hT ?_;simp only [sH,Lz];refine ev ?_;refine jM (sK h.kU) ?_;refine ev ?_;refine jM (zi h.kU) ?_;refine ev ?_;exact uo
  |
   some s =>
   obtain⟨l1,l2⟩:=KF ha;obtain⟨l3,l4⟩:=KF hb;have e:VL (some q) (some s)=RJ (q.num*s.num) (q.den*s.den):=(aaS q s).symm;rw [e];have t1:=qI q.num s.den;have t2:=qI s.num q.den;have t3:=qI q.den s.den;have t5:=qI q.num s.num;have t4:=JR (q.num*s.den) (s.num*q.den);have n1:(mk (q.den:Int).natAbs).length<=24:=by rw [dB];exact l2
   have n2:(mk (s.den:Int).natAbs).length<=24:=by rw [dB];exact l4
   refine kS nR h.hT ?_;simp only [sH,Lz];refine ev ?_;refine jM (sK h.kU) ?_;refine ev ?_;refine jM (sK h.kU) ?_;refine ev ?_;refine jM (vP h.nC (x:=q.num) (y:=s.num) (by omega) (by omega)) ?_;refine ev ?_;refine jM (AU h.mQ (q:=q)) ?_;refine ev ?_;refine jM (AU h.mQ (q:=s)) ?_;refine ev ?_;refine jM (vP h.nC (x:=q.den) (y:=s.den) (by omega) (by omega)) ?_;refine ev ?_;refine jM (UK h.tH (n:=q.num*s.num) (d:=q.den*s.den) (by omega) (by omega)) ?_;refine ev ?_;refine⟨by unfold rO;decide +kernel,?_⟩;exact kM _
theorem als{T:Tb}(h:uM T){a b:Q}(ha:a.ok:=by assumption)(hb:b.ok:=by assumption):PF T 156 [kW (Q.raw a),kW (Q.raw b)] (kW (Q.raw (VN a b))):=by
 cases a with
 |
  none =>
  refine kS nR h.hT ?_;simp only [sJ,Lz];refine ev ?_;refine jM (zi h.kU) ?_;refine ev ?_;exact uo
 |
  some q=>cases b with
  |
   none =>
   refine kS nR h.hT ?_;simp only [sJ,Lz];refine ev ?_;refine jM (sK h.kU) ?_;refine ev ?_;refine jM (zi h.kU) ?_;refine ev ?_;exact uo
  |
   some s =>
   obtain⟨l1,l2⟩:=KF ha;obtain⟨l3,l4⟩:=KF hb;have e:VN (some q) (some s)=RJ (q.num*s.den) (s.num*q.den):=(aaT q s).symm;rw [e];have t1:=qI q.num s.den;have t2:=qI s.num q.den;have t3:=qI q.den s.den;have t5:=qI q.num s.num;have t4:=JR (q.num*s.den) (s.num*q.den);have n1:(mk (q.den:Int).natAbs).length<=24:=by rw [dB];exact l2
   have n2:(mk (s.den:Int).natAbs).length<=24:=by rw [dB];exact l4
   refine kS nR h.hT ?_;simp only [sJ,Lz];refine ev ?_;refine jM (sK h.kU) ?_;refine ev ?_;refine jM (sK h.kU) ?_;refine ev ?_;refine jM (AU h.mQ (q:=s)) ?_;refine ev ?_;refine jM (vP h.nC (x:=q.num) (y:=s.den) (by omega) (by omega)) ?_;refine ev ?_;refine jM (AU h.mQ (q:=q)) ?_;refine ev ?_;refine jM (vP h.nC (x:=s.num) (y:=q.den) (by omega) (by omega)) ?_;refine ev ?_;refine jM (UK h.tH (n:=q.num*s.den) (d:=s.num*q.den) (by omega) (by omega)) ?_;refine ev ?_;refine⟨by unfold rO;decide +kernel,?_⟩;exact kM _
theorem XV{T:Tb}(h:uJ T){a:Q}(ha:a.ok:=by assumption):PF T 161 [kW (Q.raw a)] (kW (Q.raw (negQ a))):=by
 cases a with
 |
  none =>
  refine kS nR h.hT ?_;simp only [yO,Lz];refine ev ?_;refine jM (zi h.kU) ?_;refine ev ?_;exact uo
 |
  some q =>
  obtain⟨l1,l2⟩:=KF ha;refine kS nR h.hT ?_;simp only [yO,Lz];refine ev ?_;refine jM (sK h.kU) ?_;refine ev ?_;refine jM (QY h.qE (l:=mk q.num.natAbs) (by omega)) ?_;refine ev ?_;refine jM (Dj h.lU (neg:=!decide (q.num<0)) (n:=q.num.natAbs) (by omega)) ?_;refine ev ?_;refine jM (QY h.qE (l:=mk q.den) (by omega)) ?_;refine ev ?_;refine⟨by unfold rO;decide +kernel,?_⟩;have e:Q.raw (negQ (some q))=⟨(bi (sg (!decide (q.num<0)) q.num.natAbs)).neg,mk q.num.natAbs,mk q.den⟩:=by
   simp only [negQ,Q.raw,Rat.neg_num,Rat.neg_den,Int.natAbs_neg,R.mk.injEq,and_true];have e2:sg (!decide (q.num<0)) q.num.natAbs = -q.num:=by
    by_cases h1:q.num<0
    ·simp [sg,h1];omega
    simp [sg,h1];omega
   rw [e2]
  rw [e,LM];exact kM _
theorem alu{T:Tb}(h:sG T){a b:Q}(ha:a.ok:=by assumption)(hb:b.ok:=by assumption):PF T 159 [kW (Q.raw a),kW (Q.raw b)] (kW (Q.raw (ae9 a b))):=by
 have hn:=Sv hb;refine kS nR h.hT ?_;simp only [Bq,Lz];refine ev ?_;refine jM (XV h.uK hb) ?_;refine ev ?_;refine jM (adb h.lN ha hn) ?_;refine ev ?_;refine⟨by unfold rO;decide +kernel,?_⟩;exact kM _
theorem ZV{T:Tb}(h:zL T){a:Q}:PF T 124 [kW (Q.raw a)] (iv (xO a)):=by
 cases a with
 |
  none =>
  refine lQ nR h.hT ?_;simp only [zK,Lz];refine ev ?_;refine jM (zi h.kU) ?_;refine ev ?_;rfl
 |
  some q =>
  refine lQ nR h.hT ?_;simp only [zK,Lz];refine ev ?_;refine jM (sK h.kU) ?_;refine ev ?_;have e:((((mk q.num.natAbs).length:Nat):Int)=0)↔q.num=0:=by have:=@ai1 q.num.natAbs;omega
  refine kY (fun h1=>?_) fun h1=>?_<;>(refine ev1 @h1 ?_;try with_reducible exact aC)
  ·have:=e.1 h1;simp [xO,ZL,this]
  have h2:¬q.num=0:=fun k=>h1 (e.2 k);by_cases h3:q.num<0
  ·have e3:(Q.raw (some q)).neg=true:=by simp [Q.raw,h3]
   refine ev1 @e3 ?_;simp [xO,ZL,h3]
  have e3:(Q.raw (some q)).neg=false:=by simp [Q.raw,h3]
  refine ev1 @e3 ?_;simp [xO,ZL,h3,h2]
theorem PW{T:Tb}(h:Ap T){r:R}(hw:r.wf:=by exact tX):PF T 102 [kW r] (.bool r.ok):=by
 obtain⟨neg,mag,den⟩:=r;have w1:mag.length<=9223372036854775807:=hw.1;have w2:den.length<=9223372036854775807:=hw.2;clear hw;have cb:=afs h.N7 (z:=⟨neg,mag⟩) w1;have cn:=ag5 h.N7.Nj (l:=den) w2;dsimp only at cb;unfold R.ok;dsimp only
 cases h1:(yx mag && !(neg&&mag.isEmpty))
 ·rw [h1]at cb;refine lQ nR h.hT ?_;simp only [uG,Lz];refine ev ?_;refine jM cb ?_
  (refine ev ?_;try with_reducible exact aC)
 rw [h1]at cb
 cases h2:yx den
 ·rw [h2]at cn;refine lQ nR h.hT ?_;simp only [uG,Lz];refine ev ?_;refine jM cb ?_;refine ev ?_;refine jM cn ?_
  (refine ev ?_;try with_reducible exact aC)
 rw [h2]at cn;by_cases h3:((den.length:Nat):Int)=0
 ·have:den=[]:=aY (by omega);refine lQ nR h.hT ?_;simp only [uG,Lz];refine ev ?_;refine jM cb ?_;refine ev ?_;refine jM cn ?_;refine ev1 @h3 ?_;subst this;rfl
 have h3':den.isEmpty=false:=by cases den with|nil=>simp at h3|cons=>rfl
 by_cases h4:(24:Int)<((mag.length:Nat):Int)
 ·have h4':¬mag.length<=24:=by omega
  refine lQ nR h.hT ?_;simp only [uG,Lz];refine ev ?_;refine jM cb ?_;refine ev ?_;refine jM cn ?_;refine zf @h3 @h4 ?_;simp [h4']
 by_cases h5:(24:Int)<((den.length:Nat):Int)
 ·have h5':¬den.length<=24:=by omega
  refine lQ nR h.hT ?_;simp only [uG,Lz];refine ev ?_;refine jM cb ?_;refine ev ?_;refine jM cn ?_;refine EG @h3 @h4 @h5 ?_;simp [h5']
 have h4':mag.length<=24:=by omega
 have h5':den.length<=24:=by omega
 have h6:yx mag=true:=by simp only [aH]at h1;exact h1.1
 have em:=LD h6;have ed:=LD h2;have cg:=XM h.GU (m:=val mag) (n:=val den) (by rw [<-em];omega) (by rw [<-ed];omega);rw [<-em,<-ed]at cg;obtain⟨g,hg⟩:∃g,Nat.gcd (val mag) (val den)=g:=⟨_,rfl⟩;have hdec:∀(inst:Decidable (Nat.gcd (val mag) (val den)=1)),@decide _ inst=decide (g=1):=by
  intro inst;subst hg
  congr
 rw [hg]at cg;have key:(decide (((mk g).length:Int)=1)&&(decide ((mk g).getD 0 0=1)))=decide (g=1):=by
  by_cases g1:g=1
  ·subst g1;rw [mk_one (by omega) (by omega)];rfl
  simp only [g1,decide_false,jS,decide_eq_false_iff_not];by_cases k:(mk g).length=1
  ·right;intro e;have:=val_mk g
   cases hm:mk g with
   |nil=>rw [hm]at k;simp at k
   |
    cons x l =>
    rw [hm]at k e this;have:l=[]:=by simpa using k
    subst this;simp [val]at *;omega
  left;omega
 simp only [h3',h4',h5',decide_true,dI,ku,cZ];rw [hdec,<-key];clear key;refine lQ nR h.hT ?_;simp only [uG,Lz];refine ev ?_;refine jM cb ?_;refine ev ?_;refine jM cn ?_;refine EG @h3 @h4 @h5 ?_;refine jM cg ?_;refine ev ?_;by_cases k:(((mk g).length:Nat):Int)=1
 ·(refine ev1 @k ?_;try with_reducible exact aC)
 (refine ev1 @k ?_;try with_reducible exact aC)
def uH:Fn:=⟨1,39,[.tmp 2],(.seq (rf 1 [oN 1 (.box (.t 0)),oK 2 1 mF]) (.seq (sr [oN 3 (fd 0 1),oN 4 (lT 2 3),oN 5 (cl 120 [4]),oN 6 (nt 5),oW 7 6,oG 7 false 8 (fd 2 1),oG 7 false 9 (lF 1 8),oG 7 false 10 (cl 121 [9]),oG 7 false 11 (nt 10),oN 12 (.pick (.t 7) (.c (.bool true)) (.t 11)),oW 13 12,oG 13 false 14 (fd 2 1),oG 13 false 15 (lF 1 14),oG 13 false 16 (ln 15),oG 13 false 17 (bc .eql 16 0),oN 18 (.pick (.t 13) (.c (.bool true)) (.t 17)),oW 19 18,oG 19 false 20 (fd 2 1),oG 19 false 21 (lF 1 20),oG 19 false 22 (ln 21),oG 19 false 23 (bc .gtr 22 24),oN 24 (.pick (.t 19) (.c (.bool true)) (.t 23)),oW 25 24,oG 25 false 26 (fd 0 1),oG 25 false 27 (fd 1 26),oG 25 false 28 (lF 1 27),oG 25 false 29 (ln 28),oG 25 false 30 (bc .gtr 29 24),oN 31 (.pick (.t 25) (.c (.bool true)) (.t 30))] (cd 31 (sr [oN 2 mF] .ret) .skip)) (sr [oN 32 (fd 0 1),oN 33 (fd 1 32),oN 34 (lF 1 33),oN 35 (fd 2 1),oN 36 (lF 1 35),oN 37 (cl 123 [34,36]),oN 38 (cl 122 [37]),oW 2 38] .ret)))⟩
structure sN (T:Tb):Prop where
 hT:T 100=some uH
 N8:Ip T
 DJ:DF T
 wH:Bo T
 KG:GI T
def wI:Fn:=⟨3,55,[.cell 6 3 true],(.seq (rf 1 [oN 6 (.alloc uz)]) (sr [oW 10 1,oN 11 (cl 71 [10]),oW 7 11] (sr [oW 12 2,oN 13 (cl 71 [12]),oW 8 13] (.seq (sr [oW 14 8,oN 15 (ln 14),oN 16 (bc .eql 15 0)] (cd 16 (sr [oN 17 (.build uz []),oS (.store 3 (.t 6) (.t 17))] .ret) .skip)) (.seq (sr [oW 18 8,oN 19 (cl 122 [18]),oN 20 (nt 19)] (cd 20 (sr [oW 21 7,oW 22 8,oN 23 (cl 123 [21,22]),oW 9 23] (sr [oW 24 9,oN 25 (cl 122 [24]),oN 26 (nt 25)] (cd 26 (sr [oW 28 7,oW 29 9,oN 30 (cl 136 [28,29]),oW 27 30,oN 31 (ex 0 27),oN 32 (ex 1 27),oW 7 31] (rg [oW 34 8,oW 35 9,oN 36 (cl 136 [34,35]),oW 33 36,oN 37 (ex 0 33),oN 38 (ex 1 33),oW 8 37])) .skip))) .skip)) (.seq (sr [oW 39 7,oN 40 (ln 39),oN 41 (bc .gtr 40 24),oW 42 41,oG 42 false 43 (oV 8),oG 42 false 44 (ln 43),oG 42 false 45 (bc .gtr 44 24),oN 46 (.pick (.t 42) (.c (.bool true)) (.t 45))] (cd 46 (sr [oN 47 (.build uz []),oS (.store 3 (.t 6) (.t 47))] .ret) .skip)) (.seq (rf 2 [oK 48 2 (oV 0),oK 49 2 (oV 7),oK 50 2 (cl 66 [48,49]),oN 51 (.nM 1 Oo 0 []),oK 52 2 (oV 8),oK 53 1 (.app 1 8 (.t 51) (.t 52)),oK 54 2 (.build uz [(0,2,(.t 50)),(2,1,(.t 53))]),⟨none,none,2,.store 3 (.t 6) (.t 54),[]⟩]) .ret)))))))⟩
structure Bv (T:Tb):Prop where
 hT:T 206=some wI
 nU:uX T
 nS:tC T
 wH:Bo T
 KG:GI T
 GK:Gy T
def GV:Fn:=⟨2,25,[.cell 4 3 true],(.seq (rf 3 [oN 2 (.box (.t 0)),oK 3 1 (.box (.t 1)),oK 4 2 (.alloc uz)]) (.seq (rt 0 [oN 5 (fd 0 2),oA 6 0 (fd 0 5) [0],oA 7 0 (lF 1 6) [1],oN 8 (fd 0 3),oA 9 0 (fd 0 8) [3],oA 10 0 (lF 1 9) [4],oA 11 0 (.beq true (.t 7) (.t 10)) [2,5],oN 12 (fd 0 2),oA 13 0 (fd 1 12) [7],oA 14 0 (lF 1 13) [8],oN 15 (fd 0 3),oA 16 0 (fd 1 15) [10],oA 17 0 (lF 1 16) [11],oA 18 0 (cl 150 [14,17]) [9,12],oN 19 (fd 2 2),oA 20 0 (lF 1 19) [14],oN 21 (fd 2 3),oA 22 0 (lF 1 21) [16],oA 23 0 (cl 150 [20,22]) [15,17,13],oA 24 0 (cl 206 [11,18,23]) [6,13,18,18],⟨none,none,0,.store 3 (.t 4) (.t 24),[19,19,0,1,2,3,4,5,6,7,8,9,10,11,12,13,14,15,16,17,18,19]⟩]) .ret))⟩
structure KH (T:Tb):Prop where
 hT:T 207=some GV
 oM:wF T
 yP:Bv T
def yQ:Fn:=⟨2,61,[.cell 4 3 true],(.seq (rf 3 [oN 2 (.box (.t 0)),oK 3 1 (.box (.t 1)),oK 4 2 (.alloc uz)]) (.seq (sr [oN 9 (fd 2 2),oN 10 (lF 1 9),oN 11 (cl 122 [10]),oW 12 11,oG 12 true 13 (fd 2 3),oG 12 true 14 (lF 1 13),oG 12 true 15 (cl 122 [14]),oN 16 (.pick (.t 12) (.t 15) (.c (.bool false)))] (cd 16 (.seq (rf 1 [oK 17 1 (fd 0 2),oK 18 1 (lT 2 17),oK 19 1 (fd 0 3),oK 20 1 (lT 2 19),oK 21 1 (cl 205 [18,20]),oN 5 (.alloc ZO),⟨none,none,1,.store 2 (.t 5) (.t 21),[]⟩]) (.seq (rf 1 [oK 22 1 (fd 0 5),oK 23 1 (lF 1 22),oK 24 1 (fd 1 5),oK 25 1 (lF 1 24),oN 26 (.nM 1 Oo 1 [(0,(cI 1))]),oK 27 1 (cl 206 [23,25,26]),⟨none,none,1,.store 3 (.t 4) (.t 27),[]⟩]) .ret)) .skip)) (.seq (rt 1 [oK 28 1 (fd 0 2),oA 29 1 (fd 0 28) [0],oA 30 1 (lF 1 29) [1],oK 31 1 (fd 0 2),oA 32 1 (fd 1 31) [3],oA 33 1 (lF 1 32) [4],oK 34 1 (fd 2 3),oA 35 1 (lF 1 34) [6],oA 36 1 (cl 150 [33,35]) [5,7],oA 37 1 (cl 66 [30,36]) [2,8,8],oN 6 (.alloc ZO),⟨none,none,1,.store 2 (.t 6) (.t 37),[10,9,9,0,1,2,3,4,5,6,7,8,9,10]⟩]) (.seq (rt 1 [oK 38 1 (fd 0 3),oA 39 1 (fd 0 38) [0],oA 40 1 (lF 1 39) [1],oK 41 1 (fd 0 3),oA 42 1 (fd 1 41) [3],oA 43 1 (lF 1 42) [4],oK 44 1 (fd 2 2),oA 45 1 (lF 1 44) [6],oA 46 1 (cl 150 [43,45]) [5,7],oA 47 1 (cl 66 [40,46]) [2,8,8],oN 7 (.alloc ZO),⟨none,none,1,.store 2 (.t 7) (.t 47),[10,9,9,0,1,2,3,4,5,6,7,8,9,10]⟩]) (.seq (rf 1 [oK 48 1 (lT 2 6),oK 49 1 (lT 2 7),oK 50 1 (cl 205 [48,49]),oN 8 (.alloc ZO),⟨none,none,1,.store 2 (.t 8) (.t 50),[]⟩]) (.seq (rt 0 [oN 51 (fd 0 8),oA 52 0 (lF 1 51) [0],oN 53 (fd 1 8),oA 54 0 (lF 1 53) [2],oN 55 (fd 2 2),oA 56 0 (lF 1 55) [4],oN 57 (fd 2 3),oA 58 0 (lF 1 57) [6],oA 59 0 (cl 150 [56,58]) [5,7],oA 60 0 (cl 206 [52,54,59]) [1,3,8,8],⟨none,none,0,.store 3 (.t 4) (.t 60),[9,9,0,1,2,3,4,5,6,7,8,9]⟩]) .ret))))))⟩
structure GX (T:Tb):Prop where
 hT:T 198=some yQ
 nU:uX T
 wH:Bo T
 oM:wF T
 Qs:KE T
 yP:Bv T
def GY:Fn:=⟨1,16,[.cell 2 3 true],(.seq (rf 2 [oN 1 (.box (.t 0)),oK 2 1 (.alloc uz)]) (.seq (rt 2 [oK 3 2 (fd 0 1),oA 4 2 (fd 0 3) [0],oA 5 2 (lF 1 4) [1],oA 6 2 (nt 5) [2],oK 7 2 (fd 0 1),oA 8 2 (fd 1 7) [4],oA 9 2 (lF 1 8) [5],oA 10 2 (cl 66 [6,9]) [3,6],oN 11 (.nM 1 Oo 0 []),oK 12 2 (fd 2 1),oA 13 2 (lF 1 12) [9],oA 14 1 (.app 1 8 (.t 11) (.t 13)) [8,10,7],oA 15 2 (.build uz [(0,2,(.t 10)),(2,1,(.t 14))]) [7,11],⟨none,none,2,.store 3 (.t 2) (.t 15),[12,11,0,1,2,3,4,5,6,7,8,9,10,11,12]⟩]) .ret))⟩
structure KI (T:Tb):Prop where
 hT:T 208=some GY
 nU:uX T
def yR:Fn:=⟨2,17,[.cell 4 3 true],(.seq (rf 3 [oN 2 (.box (.t 0)),oK 3 1 (.box (.t 1)),oK 4 2 (.alloc uz)]) (.seq (sr [oN 5 (lT 3 2),oN 6 (cl 100 [5]),oN 7 (nt 6),oW 8 7,oG 8 false 9 (lT 3 3),oG 8 false 10 (cl 100 [9]),oG 8 false 11 (nt 10),oN 12 (.pick (.t 8) (.c (.bool true)) (.t 11))] (cd 12 (sr [oN 13 (.build uz []),oS (.store 3 (.t 4) (.t 13))] .ret) .skip)) (sr [oN 14 (lT 3 2),oN 15 (lT 3 3),oN 16 (cl 198 [14,15]),oS (.store 3 (.t 4) (.t 16))] .ret)))⟩
structure Bz (T:Tb):Prop where
 hT:T 189=some yR
 l7:sN T
 KJ:GX T
def yS:Fn:=⟨2,18,[.cell 4 3 true],(.seq (rf 3 [oN 2 (.box (.t 0)),oK 3 1 (.box (.t 1)),oK 4 2 (.alloc uz)]) (.seq (sr [oN 5 (lT 3 2),oN 6 (cl 100 [5]),oN 7 (nt 6),oW 8 7,oG 8 false 9 (lT 3 3),oG 8 false 10 (cl 100 [9]),oG 8 false 11 (nt 10),oN 12 (.pick (.t 8) (.c (.bool true)) (.t 11))] (cd 12 (sr [oN 13 (.build uz []),oS (.store 3 (.t 4) (.t 13))] .ret) .skip)) (.seq (rt 0 [oN 14 (lT 3 2),oN 15 (lT 3 3),oA 16 0 (cl 208 [15]) [1],oA 17 0 (cl 198 [14,16]) [0,2,2],⟨none,none,0,.store 3 (.t 4) (.t 17),[3,3,0,1,2,3]⟩]) .ret)))⟩
structure KL (T:Tb):Prop where
 hT:T 203=some yS
 l7:sN T
 KJ:GX T
 Zc:KI T
def yT:Fn:=⟨2,17,[.cell 4 3 true],(.seq (rf 3 [oN 2 (.box (.t 0)),oK 3 1 (.box (.t 1)),oK 4 2 (.alloc uz)]) (.seq (sr [oN 5 (lT 3 2),oN 6 (cl 100 [5]),oN 7 (nt 6),oW 8 7,oG 8 false 9 (lT 3 3),oG 8 false 10 (cl 100 [9]),oG 8 false 11 (nt 10),oN 12 (.pick (.t 8) (.c (.bool true)) (.t 11))] (cd 12 (sr [oN 13 (.build uz []),oS (.store 3 (.t 4) (.t 13))] .ret) .skip)) (sr [oN 14 (lT 3 2),oN 15 (lT 3 3),oN 16 (cl 207 [14,15]),oS (.store 3 (.t 4) (.t 16))] .ret)))⟩
structure GZ (T:Tb):Prop where
 hT:T 201=some yT
 l7:sN T
 Zd:KH T
def yU:Fn:=⟨2,34,[.cell 4 3 true],(.seq (rf 3 [oN 2 (.box (.t 0)),oK 3 1 (.box (.t 1)),oK 4 2 (.alloc uz)]) (.seq (sr [oN 5 (lT 3 2),oN 6 (cl 100 [5]),oN 7 (nt 6),oW 8 7,oG 8 false 9 (lT 3 3),oG 8 false 10 (cl 100 [9]),oG 8 false 11 (nt 10),oN 12 (.pick (.t 8) (.c (.bool true)) (.t 11))] (cd 12 (sr [oN 13 (.build uz []),oS (.store 3 (.t 4) (.t 13))] .ret) .skip)) (.seq (rt 0 [oN 14 (fd 0 2),oA 15 0 (fd 0 14) [0],oA 16 0 (lF 1 15) [1],oN 17 (fd 0 3),oA 18 0 (fd 0 17) [3],oA 19 0 (lF 1 18) [4],oA 20 0 (.beq true (.t 16) (.t 19)) [2,5],oN 21 (fd 0 2),oA 22 0 (fd 1 21) [7],oA 23 0 (lF 1 22) [8],oN 24 (fd 2 3),oA 25 0 (lF 1 24) [10],oA 26 0 (cl 150 [23,25]) [9,11],oN 27 (fd 2 2),oA 28 0 (lF 1 27) [13],oN 29 (fd 0 3),oA 30 0 (fd 1 29) [15],oA 31 0 (lF 1 30) [16],oA 32 0 (cl 150 [28,31]) [14,17,12],oA 33 0 (cl 206 [20,26,32]) [6,12,18,18],⟨none,none,0,.store 3 (.t 4) (.t 33),[19,19,0,1,2,3,4,5,6,7,8,9,10,11,12,13,14,15,16,17,18,19]⟩]) .ret)))⟩
structure KN (T:Tb):Prop where
 hT:T 200=some yU
 l7:sN T
 oM:wF T
 yP:Bv T
def zM:Fn:=⟨1,18,[.tmp 2],(.seq (rf 1 [oN 1 (.box (.t 0)),oK 2 1 (.qw (cI 0))]) (.seq (.block 0 (sr [oN 4 (lT 3 1),oN 5 (cl 100 [4]),oN 6 (nt 5),oW 7 6,oG 7 false 8 (fd 0 1),oG 7 false 9 (fd 1 8),oG 7 false 10 (lF 1 9),oG 7 false 11 (ln 10),oG 7 false 12 (bc .eql 11 0),oN 13 (.pick (.t 7) (.c (.bool true)) (.t 12)),oW 3 13] (cd 3 (sr [oN 2 (.qw (cI 0))] .ret) (sr [oN 15 (fd 0 1),oN 16 (fd 0 15),oN 17 (lF 1 16),oW 14 17] (cd 14 (sr [oN 2 (.qw (cI (-1)))] .ret) .skip))))) (sr [oN 2 (.qw (cI 1))] .ret)))⟩
structure Jk (T:Tb):Prop where
 hT:T 99=some zM
 l7:sN T
theorem xA{T:Tb}(h:sN T){r:R}(hw:r.wf:=by exact tX):PF T 100 [kW r] (.bool r.ok):=by
 obtain⟨neg,mag,den⟩:=r;have w1:mag.length<=9223372036854775807:=hw.1;have w2:den.length<=9223372036854775807:=hw.2;clear hw;have cb:=ada h.N8 (z:=⟨neg,mag⟩) w1;have cn:=XP h.N8.DJ (l:=den) w2;dsimp only at cb;unfold R.ok;dsimp only
 cases h1:(yx mag && !(neg&&mag.isEmpty))
 ·rw [h1]at cb;refine lQ nR h.hT ?_;simp only [uH,Lz];refine ev ?_;refine jM cb ?_
  (refine ev ?_;try with_reducible exact aC)
 rw [h1]at cb
 cases h2:yx den
 ·rw [h2]at cn;refine lQ nR h.hT ?_;simp only [uH,Lz];refine ev ?_;refine jM cb ?_;refine ev ?_;refine jM cn ?_
  (refine ev ?_;try with_reducible exact aC)
 rw [h2]at cn;by_cases h3:((den.length:Nat):Int)=0
 ·have:den=[]:=aY (by omega);refine lQ nR h.hT ?_;simp only [uH,Lz];refine ev ?_;refine jM cb ?_;refine ev ?_;refine jM cn ?_;refine ev1 @h3 ?_;subst this;rfl
 have h3':den.isEmpty=false:=by cases den with|nil=>simp at h3|cons=>rfl
 by_cases h5:(24:Int)<((den.length:Nat):Int)
 ·have h5':¬den.length<=24:=by omega
  refine lQ nR h.hT ?_;simp only [uH,Lz];refine ev ?_;refine jM cb ?_;refine ev ?_;refine jM cn ?_;refine zf @h3 @h5 ?_;simp [h5']
 by_cases h4:(24:Int)<((mag.length:Nat):Int)
 ·have h4':¬mag.length<=24:=by omega
  refine lQ nR h.hT ?_;simp only [uH,Lz];refine ev ?_;refine jM cb ?_;refine ev ?_;refine jM cn ?_;refine EG @h3 @h4 @h5 ?_;simp [h4']
 have h4':mag.length<=24:=by omega
 have h5':den.length<=24:=by omega
 have h6:yx mag=true:=by simp only [aH]at h1;exact h1.1
 have em:=LD h6;have ed:=LD h2;have cg:=ac7 h.KG (m:=val mag) (n:=val den) (by rw [<-em];omega) (by rw [<-ed];omega);rw [<-em,<-ed]at cg;obtain⟨g,hg⟩:∃g,Nat.gcd (val mag) (val den)=g:=⟨_,rfl⟩;have hdec:∀(inst:Decidable (Nat.gcd (val mag) (val den)=1)),@decide _ inst=decide (g=1):=by
  intro inst;subst hg
  congr
 rw [hg]at cg;have co:=OY h.wH (n:=g);simp only [h3',h4',h5',decide_true,dI,ku,cZ];rw [hdec];refine lQ nR h.hT ?_;simp only [uH,Lz];refine ev ?_;refine jM cb ?_;refine ev ?_;refine jM cn ?_;refine EG @h3 @h4 @h5 ?_;refine jM cg ?_;refine ev ?_;refine jM co ?_
 (refine ev ?_;try with_reducible exact aC)
def R.cn(r:R):Prop:=Q.raw r.q=r
abbrev R0:R:=⟨false,[],[]⟩
theorem QZ{q:Q}(h:q.ok):(Q.raw q).cn:=by unfold R.cn;rw [Dp h]
theorem EO{r:R}(h:r.ok=true):r.cn:=axv h
theorem afu:R0.cn:=QZ (q:=none) trivial
def qm(r s:R):R:=Q.raw (Om r.q s.q)
def vS(r s:R):R:=Q.raw (ae9 r.q s.q)
def mulR(r s:R):R:=Q.raw (VL r.q s.q)
def uZ(r s:R):R:=Q.raw (VN r.q s.q)
def negR(r:R):R:=Q.raw (negQ r.q)
def kZ(n:Int):R:=Q.raw (ati n)
def wQ(r:R):Int:=xO r.q
theorem UL(r s:R):(qm r s).q=Om r.q s.q:=Dp (aaQ _ _)
theorem XW(r s:R):(vS r s).q=ae9 r.q s.q:=Dp (agR _ _)
theorem XY(r s:R):(mulR r s).q=VL r.q s.q:=Dp (agS _ _)
theorem XZ(r s:R):(uZ r s).q=VN r.q s.q:=Dp (agT _ _)
theorem afv(r:R):(negR r).q=negQ r.q:=Dp (Sv (Kt r))
theorem Jl{n:Int}(h:n.natAbs<1000000000 ^ 24):(kZ n).q=ati n:=Dp (agU h)
theorem DK(r s:R):(qm r s).cn:=QZ (aaQ _ _)
theorem JW(r s:R):(vS r s).cn:=QZ (agR _ _)
theorem JX(r s:R):(mulR r s).cn:=QZ (agS _ _)
theorem Nk(r s:R):(uZ r s).cn:=QZ (agT _ _)
theorem Wy(r:R):(negR r).cn:=QZ (Sv (Kt r))
theorem zl{n:Int}(h:n.natAbs<1000000000 ^ 24):(kZ n).cn:=QZ (agU h)
theorem wJ{r:R}:r.ok=true↔r.q≠none:=by
 rw [<-afb];cases r.q<;>simp
theorem DL{r:R}:r.ok=false↔r.q=none:=by
 rw [<-afb];cases r.q<;>simp
theorem apD{r:R}(h:r.cn)(hq:r.q=none):r=R0:=by
 unfold R.cn at h;rw [hq]at h;exact h.symm
theorem atS{r s:R}(hr:r.cn)(hs:s.cn)(h:r.q=s.q):r=s:=by
 rw [<-hr,<-hs,h]
theorem OZ{r:R}(h:r.cn):r.mag.length<=24/\r.den.length<=24:=by
 cases hq:r.q with
 |none=>rw [apD h hq];simp
 |
  some q =>
  have hk:Q.ok (some q):=by rw [<-hq];exact Kt r
  have:=SS.1 hk;rw [<-h,hq];exact this
theorem uq{r:R}(h:r.cn):r.wf:=by have:=OZ h;exact⟨by omega,by omega⟩
theorem ade(a:Q):Om none a=none:=rfl
theorem adf(a:Q):Om a none=none:=by cases a<;>rfl
theorem VD(a:Q):VL a none=none:=by cases a<;>rfl
theorem VE(a:Q):VN a none=none:=by cases a<;>rfl
theorem VF(a:Q):ae9 a none=none:=by cases a<;>rfl
theorem ai2(a b:Q):Om a b=Om b a:=by
 cases a<;>cases b<;>first|rfl|(simp only [Om];rw [Rat.add_comm])
theorem ai3(a b:R):qm a b=qm b a:=by unfold qm;rw [ai2]
theorem alv(x:Int):[[V.int .i64 x]]=kR [x]:=rfl
theorem atT(neg:Bool)(m k:Nat)(h:m=0->k=0):bi (sg (decide (sg neg m<0)) k)=bi (sg neg k):=by
 by_cases hm:m=0
 ·rw [h hm,SN,SN]
 have e:decide (sg neg m<0)=neg:=by
  cases neg
  ·simp [sg]
  simp [sg];omega
 rw [e]
theorem SV{T:Tb}(h:Bv T){neg:Bool}{m n:Nat}(la:(mk m).length<=60:=by exact tX)(lb:(mk n).length<=60:=by exact tX) :
  PF T 206 [.bool neg,ints (mk m),ints (mk n)] (kW (Q.raw (RJ (sg neg m) n))):=by
 have ct1:=Di h.nS (l:=mk m) (by omega);have ct2:=Di h.nS (l:=mk n) (by omega);rw [Xv (wC m)]at ct1;rw [Xv (wC n)]at ct2;by_cases hn:n=0
 ·subst hn;have e:RJ (sg neg m) ((0:Nat):Int)=none:=rfl;rw [e];have c1:(((mk 0).length:Nat):Int)=0:=by rw [aa8];rfl
  refine kS nR h.hT ?_;simp only [wI,Lz];refine ev ?_;refine jM ct1 ?_;refine ev ?_;refine jM ct2 ?_;refine ev1 @c1 ?_;exact uo
 have hd:(n:Int)≠0:=by omega
 rw [abb hd];have hpos:¬((n:Int)<0):=by omega
 have e0:(decide (sg neg m<0) != decide ((n:Int)<0))=decide (sg neg m<0):=by simp [hpos]
 rw [e0,LM,dB];have hg:0<Nat.gcd m n:=jy _ (by omega);have c1:¬(((mk n).length:Nat):Int)=0:=by have:=@ai1 n;omega
 have hz:m=0->m / Nat.gcd m n=0:=fun e=>by rw [e];simp
 rw [atT neg m _ hz];have fin:∀(u v:Nat),u=m / Nat.gcd m n->v=n / Nat.gcd m n->(mk u).length<=60/\(mk v).length<=60:=by
  intro u v hu hv;have l1:=UJ m (Nat.gcd m n);have l2:=UJ n (Nat.gcd m n);rw [hu,hv];omega
 have co:=OY h.wH (n:=n);have cg:=ac7 h.KG (m:=m) (n:=n) (by omega) (by omega);have lg:(mk (Nat.gcd m n)).length<=60:=dw (Nh (Nat.le_of_dvd (by omega) (Nat.gcd_dvd_right _ _))) lb;have co2:=OY h.wH (n:=Nat.gcd m n);have cd1:=XT h.GK (m:=m) hg (by omega) (by omega);have cd2:=XT h.GK (m:=n) hg (by omega) (by omega);obtain⟨g,hgd⟩:∃g,Nat.gcd m n=g:=⟨_,rfl⟩;obtain⟨u,hu⟩:∃u,m / Nat.gcd m n=u:=⟨_,rfl⟩;obtain⟨v,hv⟩:∃v,n / Nat.gcd m n=v:=⟨_,rfl⟩;obtain⟨lu,lv⟩:=fin u v hu.symm hv.symm;have cm:=Ak h.nU (neg:=neg) (n:=u) (by omega);have ecm:Wu (bi (sg neg u))=.agg [.bool (bi (sg neg u)).neg,ints (mk u)]:=by
  show V.agg [.bool (bi (sg neg u)).neg,ints (mk (sg neg u).natAbs)]=_;rw [LM]
 rw [ecm]at cm;have un:n=1->u=m/\v=n:=by
  intro e;subst e;rw [Nat.gcd_one_right]at hu hv;simp at hu hv;omega
 have ug:g=1->u=m/\v=n:=by
  intro e;rw [hgd,e]at hu hv;simp at hu hv;omega
 rw [hu,hv];rw [hgd]at cg co2;rw [hu]at cd1;rw [hv]at cd2;rw [hgd]at cd1 cd2;have fin2:mP (kW (if (mk u).length<=24/\(mk v).length<=24 then⟨(bi (sg neg u)).neg,mk u,mk v⟩else⟨false,[],[]⟩))
   (if (mk u).length<=24/\(mk v).length<=24 then kW ⟨(bi (sg neg u)).neg,mk u,mk v⟩else .agg [.bool false,.jZ,.jZ]):=by
  split
  ·exact kM _
  exact uo
 have v0:v≠0:=by
  rw [<-hv];exact Nat.ne_of_gt (Nat.div_pos (Nat.le_of_dvd (by omega) (Nat.gcd_dvd_right _ _)) hg)
 have ne:kR (mk v)≠[]:=by
  have hp:=FC.2 (jQ v0);intro e;rw [<-Fb,e]at hp;simp at hp
 clear fin hz hg e0 hpos hd hgd hu hv;by_cases n1:n=1
 ·rw [show decide (n=1)=true from aT n1]at co;obtain⟨rfl,rfl⟩:=un n1;refine kS nR h.hT ?_;simp only [wI,Lz];refine ev ?_;refine jM ct1 ?_;refine ev ?_;refine jM ct2 ?_;refine ev1 @c1 ?_;refine jM co ?_;refine ev ?_;by_cases k1:(24:Int)<((mk u).length:Nat)
  ·refine ev1 @k1 ?_;rw [aO (by omega)];exact uo
  by_cases k2:(24:Int)<((mk v).length:Nat)
  ·refine zf @k1 @k2 ?_;rw [aO (by omega)];exact uo
  refine zf @k1 @k2 ?_;refine jM cm ?_;refine ev1 @ne ?_;rw [aQ (by omega)];exact⟨by omega,kM _⟩
 rw [show decide (n=1)=false from bI n1]at co;by_cases g1:g=1
 ·rw [show decide (g=1)=true from aT g1]at co2;obtain⟨rfl,rfl⟩:=ug g1;refine kS nR h.hT ?_;simp only [wI,Lz];refine ev ?_;refine jM ct1 ?_;refine ev ?_;refine jM ct2 ?_;refine ev1 @c1 ?_;refine jM co ?_;refine ev ?_;refine jM cg ?_;refine ev ?_;refine jM co2 ?_;refine ev ?_;by_cases k1:(24:Int)<((mk u).length:Nat)
  ·refine ev1 @k1 ?_;rw [aO (by omega)];exact uo
  by_cases k2:(24:Int)<((mk v).length:Nat)
  ·refine zf @k1 @k2 ?_;rw [aO (by omega)];exact uo
  refine zf @k1 @k2 ?_;refine jM cm ?_;refine ev1 @ne ?_;rw [aQ (by omega)];exact⟨by omega,kM _⟩
 rw [show decide (g=1)=false from bI g1]at co2;refine kS nR h.hT ?_;simp only [wI,Lz];refine ev ?_;refine jM ct1 ?_;refine ev ?_;refine jM ct2 ?_;refine ev1 @c1 ?_;refine jM co ?_;refine ev ?_;refine jM cg ?_;refine ev ?_;refine jM co2 ?_;refine ev ?_;refine jM cd1 ?_;refine ev ?_;refine jM cd2 ?_;refine ev ?_;by_cases k1:(24:Int)<((mk u).length:Nat)
 ·refine ev1 @k1 ?_;rw [aO (by omega)];exact uo
 by_cases k2:(24:Int)<((mk v).length:Nat)
 ·refine zf @k1 @k2 ?_;rw [aO (by omega)];exact uo
 refine zf @k1 @k2 ?_;refine jM cm ?_;refine ev1 @ne ?_;rw [aQ (by omega)];exact⟨by omega,kM _⟩
def zN:Fn:=⟨1,8,[.tmp 2],(.seq (rf 1 [oN 1 (.box (.t 0)),oK 2 1 (.qw (cI 0))]) (.seq (sr [oN 3 (lT 3 1),oN 4 (cl 102 [3]),oN 5 (nt 4)] (cd 5 (sr [oN 2 (.qw (cI 0))] .ret) .skip)) (sr [oN 6 (lT 3 1),oN 7 (cl 124 [6]),oW 2 7] .ret)))⟩
structure DN (T:Tb):Prop where
 hT:T 101=some zN
 uI:Ap T
 Jo:zL T
def G5:Fn:=⟨1,9,[.tmp 2],(sr [oN 2 mF] (sr [oW 3 0,oN 4 (bc .geq 3 0),oW 5 4,oG 5 true 6 (oV 0),oG 5 true 7 (bc .lss 6 10),oN 8 (.pick (.t 5) (.t 7) (.c (.bool false))),oW 2 8] .ret))⟩
structure G6 (T:Tb):Prop where
 hT:T 37=some G5
def DR:Fn:=⟨1,5,[.tmp 2],(sr [oN 2 mF] (sr [oW 3 0,oN 4 (.call 35 [(.t 3),(cI 0),(cI 9)]),oW 2 4] .ret))⟩
structure DT (T:Tb):Prop where
 hT:T 34=some DR
 xU:DC T
def xW:Fn:=⟨1,34,[.tmp 2],(.seq (rf 1 [oN 1 (.box (.t 0)),oK 2 1 mF]) (sr [oN 3 (fd 0 1),oN 4 (lF 1 3),oN 5 (cl 37 [4]),oW 6 5,oG 6 true 7 (fd 1 1),oG 6 true 8 (lF 1 7),oG 6 true 9 (cl 37 [8]),oN 10 (.pick (.t 6) (.t 9) (.c (.bool false))),oW 11 10,oG 11 true 12 (fd 0 1),oG 11 true 13 (lF 1 12),oG 11 true 14 (fd 1 1),oG 11 true 15 (lF 1 14),oG 11 true 16 (bt .lss 13 15),oN 17 (.pick (.t 11) (.t 16) (.c (.bool false))),oW 18 17,oG 18 true 19 (fd 2 1),oG 18 true 20 (lT 3 19),oG 18 true 21 (cl 101 [20]),oG 18 true 22 (bc .gtr 21 0),oN 23 (.pick (.t 18) (.t 22) (.c (.bool false))),oW 24 23,oG 24 true 25 (fd 5 1),oG 24 true 26 (lT 3 25),oG 24 true 27 (cl 102 [26]),oN 28 (.pick (.t 24) (.t 27) (.c (.bool false))),oW 29 28,oG 29 true 30 (fd 8 1),oG 29 true 31 (lT 3 30),oG 29 true 32 (cl 102 [31]),oN 33 (.pick (.t 29) (.t 32) (.c (.bool false))),oW 2 33] .ret))⟩
structure xX (T:Tb):Prop where
 hT:T 84=some xW
 G7:G6 T
 DU:DN T
 uI:Ap T
def xY:Fn:=⟨1,34,[.tmp 2],(.seq (rf 1 [oN 1 (.box (.t 0)),oK 2 1 mF]) (sr [oN 3 (fd 0 1),oN 4 (lF 1 3),oN 5 (cl 34 [4]),oW 6 5,oG 6 true 7 (fd 1 1),oG 6 true 8 (lF 1 7),oG 6 true 9 (cl 34 [8]),oN 10 (.pick (.t 6) (.t 9) (.c (.bool false))),oW 11 10,oG 11 true 12 (fd 0 1),oG 11 true 13 (lF 1 12),oG 11 true 14 (fd 1 1),oG 11 true 15 (lF 1 14),oG 11 true 16 (bt .lss 13 15),oN 17 (.pick (.t 11) (.t 16) (.c (.bool false))),oW 18 17,oG 18 true 19 (fd 2 1),oG 18 true 20 (lT 3 19),oG 18 true 21 (cl 99 [20]),oG 18 true 22 (bc .gtr 21 0),oN 23 (.pick (.t 18) (.t 22) (.c (.bool false))),oW 24 23,oG 24 true 25 (fd 5 1),oG 24 true 26 (lT 3 25),oG 24 true 27 (cl 100 [26]),oN 28 (.pick (.t 24) (.t 27) (.c (.bool false))),oW 29 28,oG 29 true 30 (fd 8 1),oG 29 true 31 (lT 3 30),oG 29 true 32 (cl 100 [31]),oN 33 (.pick (.t 29) (.t 32) (.c (.bool false))),oW 2 33] .ret))⟩
structure vg (T:Tb):Prop where
 hT:T 83=some xY
 zO:DT T
 X0:Jk T
 l7:sN T
theorem afw{T:Tb}(h:Jk T){r:R}(hw:r.wf:=by exact tX):PF T 99 [kW r] (iv (xO r.q)):=by
 have co:=xA h.l7 hw
 cases ho:r.ok
 ·rw [ho]at co;have e:r.q=none:=by unfold R.q;rw [aO (by simp [ho])]
  rw [e];refine lQ nR h.hT ?_;simp only [zM,Lz];refine ev ?_;refine jM co ?_;refine ev ?_;rfl
 rw [ho]at co;obtain⟨q,hq,rfl⟩:=H9 ho;rw [Dp (q:=some q) hq];refine lQ nR h.hT ?_;simp only [zM,Lz];refine ev ?_;refine jM co ?_;refine ev ?_;have e:((((mk q.num.natAbs).length:Nat):Int)=0)↔q.num=0:=by have:=@ai1 q.num.natAbs;omega
 refine kY (fun h1=>?_) fun h1=>?_<;>(refine ev1 @h1 ?_;try with_reducible exact aC)
 ·have:=e.1 h1;simp [xO,ZL,this]
 have h2:¬q.num=0:=fun k=>h1 (e.2 k);by_cases h3:q.num<0
 ·have e3:(Q.raw (some q)).neg=true:=by simp [Q.raw,h3]
  refine ev1 @e3 ?_;simp [xO,ZL,h3]
 have e3:(Q.raw (some q)).neg=false:=by simp [Q.raw,h3]
 refine ev1 @e3 ?_;simp [xO,ZL,h3,h2]
theorem Q5{T:Tb}(h:DN T){r:R}(hw:r.wf:=by exact tX):PF T 101 [kW r] (iv (xO r.q)):=by
 have co:=PW h.uI hw
 cases ho:r.ok
 ·rw [ho]at co;have e:r.q=none:=by unfold R.q;rw [aO (by simp [ho])]
  rw [e];refine lQ nR h.hT ?_;simp only [zN,Lz];refine ev ?_;refine jM co ?_;refine ev ?_;rfl
 rw [ho]at co;obtain⟨q,hq,rfl⟩:=H9 ho;rw [Dp (q:=some q) hq];have cs:=ZV h.Jo (a:=some q);refine lQ nR h.hT ?_;simp only [zN,Lz];refine ev ?_;refine jM co ?_;refine ev ?_;refine jM cs ?_
 (refine ev ?_;try with_reducible exact aC)
def nd(a:Int):Bool:=decide (0<=a)&&decide (a<=9)
theorem PY{T:Tb}(h:DT T){a:Int}:PF T 34 [iv a] (.bool (nd a)):=by
 refine lQ nR h.hT ?_;simp only [DR,Lz];refine ev ?_;refine jM (SL h.xU) ?_;refine ev ?_;rfl
theorem X3{T:Tb}(h:G6 T){a:Int}:PF T 37 [iv a] (.bool (nd a)):=by
 unfold nd;have e:decide (a<=9)=decide (a<10):=by simp;omega
 rw [e];refine lQ nR h.hT ?_;simp only [G5,Lz];refine ev ?_;by_cases h1:0<=a
 ·(refine ev1 @h1 ?_;try with_reducible exact aC)
 (refine ev1 @h1 ?_;try with_reducible exact aC)
def pJ(l:Lk):Bool:=nd l.a&&nd l.b&&decide (l.a<l.b)&&decide (0<xO l.w.q)&&l.dx.ok&&l.dy.ok
theorem zQ{T:Tb}(h:vg T){l:Lk}(hw:l.wf:=by exact tX):PF T 83 [RN l] (.bool (pJ l)):=by
 have c1:=PY h.zO (a:=l.a);have c2:=PY h.zO (a:=l.b);have c3:=afw h.X0 hw.1;have c4:=xA h.l7 hw.2.1;have c5:=xA h.l7 hw.2.2;unfold pJ;refine lQ nR h.hT ?_;simp only [xY,Lz];refine ev ?_;refine jM c1 ?_
 cases nd l.a
 ·(refine ev ?_;try with_reducible exact aC)
 refine ev ?_;refine jM c2 ?_
 cases nd l.b
 ·(refine ev ?_;try with_reducible exact aC)
 refine ev ?_;by_cases h3:l.a<l.b
 rotate_left
 ·(refine ev1 @h3 ?_;try with_reducible exact aC)
 refine ev1 @h3 ?_;refine jM c3 ?_;by_cases h6:0<xO l.w.q
 rotate_left
 ·(refine zf @h3 @h6 ?_;try with_reducible exact aC)
 refine zf @h3 @h6 ?_;refine jM c4 ?_
 cases l.dx.ok
 ·(refine zf @h3 @h6 ?_;try with_reducible exact aC)
 refine zf @h3 @h6 ?_;refine jM c5 ?_
 cases l.dy.ok
 ·(refine zf @h3 @h6 ?_;try with_reducible exact aC)
 (refine zf @h3 @h6 ?_;try with_reducible exact aC)
theorem O4{T:Tb}(h:xX T){l:Lk}(hw:l.wf:=by exact tX):PF T 84 [RN l] (.bool (pJ l)):=by
 have c1:=X3 h.G7 (a:=l.a);have c2:=X3 h.G7 (a:=l.b);have c3:=Q5 h.DU hw.1;have c4:=PW h.uI hw.2.1;have c5:=PW h.uI hw.2.2;unfold pJ;refine lQ nR h.hT ?_;simp only [xW,Lz];refine ev ?_;refine jM c1 ?_
 cases nd l.a
 ·(refine ev ?_;try with_reducible exact aC)
 refine ev ?_;refine jM c2 ?_
 cases nd l.b
 ·(refine ev ?_;try with_reducible exact aC)
 refine ev ?_;by_cases h3:l.a<l.b
 rotate_left
 ·(refine ev1 @h3 ?_;try with_reducible exact aC)
 refine ev1 @h3 ?_;refine jM c3 ?_;by_cases h6:0<xO l.w.q
 rotate_left
 ·(refine zf @h3 @h6 ?_;try with_reducible exact aC)
 refine zf @h3 @h6 ?_;refine jM c4 ?_
 cases l.dx.ok
 ·(refine zf @h3 @h6 ?_;try with_reducible exact aC)
 refine zf @h3 @h6 ?_;refine jM c5 ?_
 cases l.dy.ok
 ·(refine zf @h3 @h6 ?_;try with_reducible exact aC)
 (refine zf @h3 @h6 ?_;try with_reducible exact aC)
theorem ai4{n d k:Int}(hk:k≠0):RJ (n*k) (d*k)=RJ n d:=by
 unfold RJ;by_cases hd:d=0
 ·subst hd;simp
 have:d*k≠0:=fun e=>by rcases Int.mul_eq_zero.1 e with h|h<;>omega
 rw [aO hd,aO this,Rat.divInt_mul_right hk]
theorem afx(q:Rat):Q.raw (some q)=⟨decide (q.num<0),mk q.num.natAbs,mk q.den⟩:=rfl
theorem ag9(x:Int):sg (decide (x<0)) x.natAbs=x:=by
 by_cases h:x<0
 ·simp only [sg,h,decide_true,if_true];omega
 simp only [sg,h,decide_false,bG,if_false];omega
theorem atU(x:Int):sg (!decide (x<0)) x.natAbs = -x:=by
 by_cases h:x<0
 ·simp only [sg,h,decide_true,Bool.not_true,bG,if_false];omega
 simp only [sg,h,decide_false,ku,if_true];omega
theorem alx{n:Nat}(h:0<n):kR (mk n)≠[]:=by
 have hp:=FC.2 h;intro e;rw [<-Fb,e]at hp;simp at hp
theorem aly{T:Tb}(h:KI T){q:Rat}(hq:Q.ok (some q)):PF T 208 [kW (Q.raw (some q))] (kW (Q.raw (negQ (some q)))):=by
 obtain⟨l1,l2⟩:=KF hq;have cm:=Ak h.nU (neg:=!decide (q.num<0)) (n:=q.num.natAbs) (by omega);rw [atU]at cm;have ne:=alx q.den_pos;rw [afx];have e:Q.raw (negQ (some q))=⟨decide (-q.num<0),mk (-q.num).natAbs,mk q.den⟩:=rfl;rw [e];generalize q.num.natAbs=m at *;refine kS nR h.hT ?_;simp only [GY,Lz];refine ev ?_;refine jM cm ?_;refine ev1 @ne ?_;refine⟨by omega,?_⟩;refine⟨by unfold rO;decide +kernel,?_⟩;exact kM _
theorem alz{T:Tb}(h:KH T){a b:Rat}(ha:Q.ok (some a))(hb:Q.ok (some b)):PF T 207 [kW (Q.raw (some a)),kW (Q.raw (some b))] (kW (Q.raw (VL (some a) (some b)))):=by
 obtain⟨l1,l2⟩:=KF ha;obtain⟨l3,l4⟩:=KF hb;have e:VL (some a) (some b)=RJ (a.num*b.num) (a.den*b.den):=(aaS a b).symm;rw [e,afx,afx];have c1:=DI h.oM (m:=a.num.natAbs) (n:=b.num.natAbs) (by omega) (by omega);have c2:=DI h.oM (m:=a.den) (n:=b.den) (by omega) (by omega);have t1:=KC a.num.natAbs b.num.natAbs;have t2:=KC a.den b.den;have c3:=SV h.yP (neg:=decide (a.num<0) != decide (b.num<0)) (m:=a.num.natAbs*b.num.natAbs) (n:=a.den*b.den) (by omega) (by omega);rw [XQ,Int.natCast_mul,<-SQ]at c3;refine kS nR h.hT ?_;simp only [GV,Lz];refine ev ?_;refine jM c1 ?_;refine ev ?_;refine jM c2 ?_;refine ev ?_;refine jM c3 ?_;refine ev ?_;refine⟨by unfold rO;decide +kernel,?_⟩;exact kM _
theorem adg{T:Tb}(h:GX T){a b:Rat}(ha:Q.ok (some a))(hb:Q.ok (some b)):PF T 198 [kW (Q.raw (some a)),kW (Q.raw (some b))] (kW (Q.raw (Om (some a) (some b)))):=by
 obtain⟨l1,l2⟩:=KF ha;obtain⟨l3,l4⟩:=KF hb;have e:Om (some a) (some b)=RJ (a.num*b.den+b.num*a.den) (a.den*b.den):=(aaR a b).symm;rw [e,afx,afx];have o1:=OY h.wH (n:=a.den);have o2:=OY h.wH (n:=b.den);by_cases hd:a.den=1/\b.den=1
 ·have m1:mk 1=[1]:=mk_one (by omega) (by omega);have c1:=ac9 h.Qs (x:=a.num) (y:=b.num) (by omega) (by omega);have t1:=JR a.num b.num;have c2:=SV h.yP (neg:=decide (a.num+b.num<0)) (m:=(a.num+b.num).natAbs) (n:=1) (by omega) (by rw [m1];simp);rw [ag9,m1]at c2;have e2:RJ (a.num*b.den+b.num*a.den) (a.den*b.den)=RJ (a.num+b.num) ((1:Nat):Int):=by
   rw [hd.1,hd.2];simp
  rw [e2];rw [show decide (a.den=1)=true from aT hd.1]at o1;rw [show decide (b.den=1)=true from aT hd.2]at o2;refine kS nR h.hT ?_;simp only [yQ,Lz];refine ev ?_;refine jM o1 ?_;refine ev ?_;refine jM o2 ?_;refine ev ?_;refine jM c1 ?_;refine ev ?_;simp only [alv];refine ev ?_;refine jM c2 ?_;refine ev ?_;exact kM _
 have c1:=DI h.oM (m:=a.num.natAbs) (n:=b.den) (by omega) (by omega);have c2:=DI h.oM (m:=b.num.natAbs) (n:=a.den) (by omega) (by omega);have c3:=DI h.oM (m:=a.den) (n:=b.den) (by omega) (by omega);have t1:=KC a.num.natAbs b.den;have t2:=KC b.num.natAbs a.den;have t3:=KC a.den b.den;have c4:=Ak h.nU (neg:=decide (a.num<0)) (n:=a.num.natAbs*b.den) (by omega);have c5:=Ak h.nU (neg:=decide (b.num<0)) (n:=b.num.natAbs*a.den) (by omega);have e4:∀(x:Int) (n:Nat),sg (decide (x<0)) (x.natAbs*n)=x*n:=by
  intro x n;have:=XQ x n;rw [show decide ((n:Int)<0)=false from bI (by omega),Bool.bne_false,dB]at this;exact this
 rw [e4]at c4 c5;have t4:(mk (a.num*b.den).natAbs).length<=48:=by rw [iP,dB];omega
 have t5:(mk (b.num*a.den).natAbs).length<=48:=by rw [iP,dB];omega
 have c6:=ac9 h.Qs (x:=a.num*b.den) (y:=b.num*a.den) (by omega) (by omega);have t6:=JR (a.num*b.den) (b.num*a.den);have c7:=SV h.yP (neg:=decide (a.num*b.den+b.num*a.den<0)) (m:=(a.num*b.den+b.num*a.den).natAbs) (n:=a.den*b.den) (by omega) (by omega);rw [ag9,Int.natCast_mul]at c7;clear t1 t2 t3 t4 t5 t6 e4 e l1 l2 l3 l4;have fin:∀{P:Prop},(a.den=1->¬b.den=1->P)->(¬a.den=1->P)->P:=by
  intro P p1 p2;by_cases k:a.den=1
  ·exact p1 k fun k2=>hd ⟨k,k2⟩
  exact p2 k
 refine fin (fun k1 k2=>?_) (fun k1=>?_)
 ·rw [show decide (a.den=1)=true from aT k1]at o1;rw [show decide (b.den=1)=false from bI k2]at o2;refine kS nR h.hT ?_;simp only [yQ,Lz];refine ev ?_;refine jM o1 ?_;refine ev ?_;refine jM o2 ?_;refine ev ?_;refine jM c1 ?_;refine ev ?_;refine jM c4 ?_;refine ev ?_;refine⟨by unfold rO;decide +kernel,?_⟩;refine jM c2 ?_;refine ev ?_;refine jM c5 ?_;refine ev ?_;refine⟨by unfold rO;decide +kernel,?_⟩;refine jM c6 ?_;refine ev ?_;refine jM c3 ?_;refine ev ?_;refine jM c7 ?_;refine ev ?_;refine⟨by unfold rO;decide +kernel,?_⟩;exact kM _
 rw [show decide (a.den=1)=false from bI k1]at o1;refine kS nR h.hT ?_;simp only [yQ,Lz];refine ev ?_;refine jM o1 ?_;refine ev ?_;refine jM c1 ?_;refine ev ?_;refine jM c4 ?_;refine ev ?_;refine⟨by unfold rO;decide +kernel,?_⟩;refine jM c2 ?_;refine ev ?_;refine jM c5 ?_;refine ev ?_;refine⟨by unfold rO;decide +kernel,?_⟩;refine jM c6 ?_;refine ev ?_;refine jM c3 ?_;refine ev ?_;refine jM c7 ?_;refine ev ?_;refine⟨by unfold rO;decide +kernel,?_⟩;exact kM _
theorem LP{T:Tb}(h:Bz T){r s:R}(hr:r.wf:=by exact tX)(hs:s.wf:=by exact tX):PF T 189 [kW r,kW s] (kW (qm r s)):=by
 have o1:=xA h.l7 hr;have o2:=xA h.l7 hs
 cases hro:r.ok
 ·have e:qm r s=R0:=by unfold qm;rw [DL.1 hro];rfl
  rw [e];rw [hro]at o1;refine kS nR h.hT ?_;simp only [yR,Lz];refine ev ?_;refine jM o1 ?_;refine ev ?_;exact uo
 cases hso:s.ok
 ·have e:qm r s=R0:=by unfold qm;rw [DL.1 hso,adf];rfl
  rw [e];rw [hro]at o1;rw [hso]at o2;refine kS nR h.hT ?_;simp only [yR,Lz];refine ev ?_;refine jM o1 ?_;refine ev ?_;refine jM o2 ?_;refine ev ?_;exact uo
 rw [hro]at o1;rw [hso]at o2;obtain⟨a,ha,rfl⟩:=H9 hro;obtain⟨b,hb,rfl⟩:=H9 hso;have e:qm (Q.raw (some a)) (Q.raw (some b))=Q.raw (Om (some a) (some b)):=by unfold qm;rw [Dp (q:=some a) ha,Dp (q:=some b) hb]
 have c:=adg h.KJ (a:=a) (b:=b) ha hb;rw [e];refine kS nR h.hT ?_;simp only [yR,Lz];refine ev ?_;refine jM o1 ?_;refine ev ?_;refine jM o2 ?_;refine ev ?_;refine jM c ?_;refine ev ?_;exact kM _
def yC:Fn:=⟨1,16,[.cell 2 2 true],(.seq (rf 1 [oN 2 (.alloc ZO)]) (.seq (sr [oW 3 0,oN 4 (.bin .eql (.t 3) (cI (-9223372036854775808)))] (cd 4 (.seq (rf 1 [oN 5 (.nM 1 Oo 3 [(0,(cI 854775808)),(1,(cI 223372036)),(2,(cI 9))]),oK 6 1 (.call 66 [(.c (.bool true)),(.t 5)]),⟨none,none,1,.store 2 (.t 2) (.t 6),[]⟩]) .ret) .skip)) (.seq (sr [oW 7 0,oN 8 (bc .lss 7 0)] (cd 8 (sr [oW 9 0,oN 10 (.un .neg (.t 9)),oN 11 (cl 67 [10]),oN 12 (.call 66 [(.c (.bool true)),(.t 11)]),oS (.store 2 (.t 2) (.t 12))] .ret) .skip)) (sr [oW 13 0,oN 14 (cl 67 [13]),oN 15 (.call 66 [(.c (.bool false)),(.t 14)]),oS (.store 2 (.t 2) (.t 15))] .ret))))⟩
structure Ir (T:Tb):Prop where
 hT:T 53=some yC
 nU:uX T
 uF:Ai T
def zn:Fn:=⟨1,7,[.cell 2 3 true],(.seq (rf 1 [oN 2 (.alloc uz)]) (.seq (rf 1 [oK 3 1 (oV 0),oK 4 1 (cl 53 [3]),oN 5 (.nM 1 Oo 1 [(0,(cI 1))]),oK 6 1 (.build uz [(0,2,(.t 4)),(2,1,(.t 5))]),⟨none,none,1,.store 3 (.t 2) (.t 6),[]⟩]) .ret))⟩
structure vT (T:Tb):Prop where
 hT:T 36=some zn
 VX:Ir T
def uj:Fn:=⟨1,16,[.cell 2 2 true],(.seq (rf 1 [oN 2 (.alloc ZO)]) (.seq (sr [oW 3 0,oN 4 (bc .lss 3 0)] (cd 4 (sr [oW 5 0,oN 6 (bc .add 5 1),oN 7 (.un .neg (.t 6)),oN 8 (.conv .u64 (.t 7)),oN 9 (.bin .add (.t 8) (.c (.int .u64 1))),oN 10 (cl 69 [9]),oN 11 (.call 68 [(.c (.bool true)),(.t 10)]),oS (.store 2 (.t 2) (.t 11))] .ret) .skip)) (sr [oW 12 0,oN 13 (.conv .u64 (.t 12)),oN 14 (cl 69 [13]),oN 15 (.call 68 [(.c (.bool false)),(.t 14)]),oS (.store 2 (.t 2) (.t 15))] .ret)))⟩
structure Ci (T:Tb):Prop where
 hT:T 54=some uj
 lU:nT T
 nH:uP T
def vU:Fn:=⟨1,7,[.cell 2 3 true],(.seq (rf 1 [oN 2 (.alloc uz)]) (.seq (rf 1 [oK 3 1 (oV 0),oK 4 1 (cl 54 [3]),oN 5 (.nM 1 Oo 1 [(0,(cI 1))]),oK 6 1 (.build uz [(0,2,(.t 4)),(2,1,(.t 5))]),⟨none,none,1,.store 3 (.t 2) (.t 6),[]⟩]) .ret))⟩
structure nX (T:Tb):Prop where
 hT:T 39=some vU
 N9:Ci T
theorem Dk{T:Tb}(h:GZ T){r s:R}(hr:r.wf:=by exact tX)(hs:s.wf:=by exact tX):PF T 201 [kW r,kW s] (kW (mulR r s)):=by
 have o1:=xA h.l7 hr;have o2:=xA h.l7 hs
 cases hro:r.ok
 ·have e:mulR r s=R0:=by unfold mulR;rw [DL.1 hro];rfl
  rw [e];rw [hro]at o1;refine kS nR h.hT ?_;simp only [yT,Lz];refine ev ?_;refine jM o1 ?_;refine ev ?_;exact uo
 cases hso:s.ok
 ·have e:mulR r s=R0:=by unfold mulR;rw [DL.1 hso,VD];rfl
  rw [e];rw [hro]at o1;rw [hso]at o2;refine kS nR h.hT ?_;simp only [yT,Lz];refine ev ?_;refine jM o1 ?_;refine ev ?_;refine jM o2 ?_;refine ev ?_;exact uo
 rw [hro]at o1;rw [hso]at o2;obtain⟨a,ha,rfl⟩:=H9 hro;obtain⟨b,hb,rfl⟩:=H9 hso;have e:mulR (Q.raw (some a)) (Q.raw (some b))=Q.raw (VL (some a) (some b)):=by unfold mulR;rw [Dp (q:=some a) ha,Dp (q:=some b) hb]
 rw [e];have c:=alz h.Zd (a:=a) (b:=b) ha hb;refine kS nR h.hT ?_;simp only [yT,Lz];refine ev ?_;refine jM o1 ?_;refine ev ?_;refine jM o2 ?_;refine ev ?_;refine jM c ?_;refine ev ?_;exact kM _
theorem ZW{T:Tb}(h:KL T){r s:R}(hr:r.wf:=by exact tX)(hs:s.wf:=by exact tX):PF T 203 [kW r,kW s] (kW (vS r s)):=by
 have o1:=xA h.l7 hr;have o2:=xA h.l7 hs
 cases hro:r.ok
 ·have e:vS r s=R0:=by unfold vS;rw [DL.1 hro];rfl
  rw [e];rw [hro]at o1;refine kS nR h.hT ?_;simp only [yS,Lz];refine ev ?_;refine jM o1 ?_;refine ev ?_;exact uo
 cases hso:s.ok
 ·have e:vS r s=R0:=by unfold vS;rw [DL.1 hso,VF];rfl
  rw [e];rw [hro]at o1;rw [hso]at o2;refine kS nR h.hT ?_;simp only [yS,Lz];refine ev ?_;refine jM o1 ?_;refine ev ?_;refine jM o2 ?_;refine ev ?_;exact uo
 rw [hro]at o1;rw [hso]at o2;obtain⟨a,ha,rfl⟩:=H9 hro;obtain⟨b,hb,rfl⟩:=H9 hso;have e:vS (Q.raw (some a)) (Q.raw (some b))=Q.raw (ae9 (some a) (some b)):=by unfold vS;rw [Dp (q:=some a) ha,Dp (q:=some b) hb]
 rw [e];have c:=aly h.Zc (q:=b) hb;have c2:=adg h.KJ (a:=a) (b:=-b) ha (Sv (a:=some b) hb);refine kS nR h.hT ?_;simp only [yS,Lz];refine ev ?_;refine jM o1 ?_;refine ev ?_;refine jM o2 ?_;refine ev ?_;refine jM c ?_;refine ev ?_;refine jM c2 ?_;refine ev ?_;refine⟨by unfold rO;decide +kernel,?_⟩;exact kM _
theorem UM{T:Tb}(h:KN T){r s:R}(hr:r.wf:=by exact tX)(hs:s.wf:=by exact tX):PF T 200 [kW r,kW s] (kW (uZ r s)):=by
 have o1:=xA h.l7 hr;have o2:=xA h.l7 hs
 cases hro:r.ok
 ·have e:uZ r s=R0:=by unfold uZ;rw [DL.1 hro];rfl
  rw [e];rw [hro]at o1;refine kS nR h.hT ?_;simp only [yU,Lz];refine ev ?_;refine jM o1 ?_;refine ev ?_;exact uo
 cases hso:s.ok
 ·have e:uZ r s=R0:=by unfold uZ;rw [DL.1 hso,VE];rfl
  rw [e];rw [hro]at o1;rw [hso]at o2;refine kS nR h.hT ?_;simp only [yU,Lz];refine ev ?_;refine jM o1 ?_;refine ev ?_;refine jM o2 ?_;refine ev ?_;exact uo
 rw [hro]at o1;rw [hso]at o2;obtain⟨a,ha,rfl⟩:=H9 hro;obtain⟨b,hb,rfl⟩:=H9 hso;have e:uZ (Q.raw (some a)) (Q.raw (some b))=Q.raw (VN (some a) (some b)):=by unfold uZ;rw [Dp (q:=some a) ha,Dp (q:=some b) hb]
 rw [e];obtain⟨l1,l2⟩:=KF (q:=a) ha;obtain⟨l3,l4⟩:=KF (q:=b) hb;have c1:=DI h.oM (m:=a.num.natAbs) (n:=b.den) (by omega) (by omega);have c2:=DI h.oM (m:=a.den) (n:=b.num.natAbs) (by omega) (by omega);have t1:=KC a.num.natAbs b.den;have t2:=KC a.den b.num.natAbs;have c3:=SV h.yP (neg:=decide (a.num<0) != decide (b.num<0)) (m:=a.num.natAbs*b.den) (n:=a.den*b.num.natAbs) (by omega) (by omega);have e3:RJ (sg (decide (a.num<0) != decide (b.num<0)) (a.num.natAbs*b.den)) ((a.den*b.num.natAbs:Nat):Int)=VN (some a) (some b):=by
  have e4:VN (some a) (some b)=RJ (a.num*b.den) (b.num*a.den):=(aaT a b).symm;rw [e4];have hden:0<b.den:=b.den_pos;rcases Int.lt_trichotomy b.num 0 with k|k|k
  ·have e5:((a.den*b.num.natAbs:Nat):Int)=(b.num*a.den)*(-1):=by
    rw [Int.natCast_mul,Int.mul_comm b.num,Int.mul_assoc];congr 1;omega
   have e6:sg (decide (a.num<0) != decide (b.num<0)) (a.num.natAbs*b.den)=(a.num*b.den)*(-1):=by
    have:=XQ a.num (-(b.den:Int));rw [show decide (-(b.den:Int)<0)=true from aT (by omega),Int.natAbs_neg,dB]at this;rw [show decide (b.num<0)=true from aT k,this,Int.mul_neg,Int.mul_neg,Int.mul_one]
   rw [e5,e6,ai4 (by omega)]
  ·rw [k];simp [RJ]
  have e5:((a.den*b.num.natAbs:Nat):Int)=b.num*a.den:=by
   rw [Int.natCast_mul,Int.mul_comm b.num];congr 1;omega
  have e6:sg (decide (a.num<0) != decide (b.num<0)) (a.num.natAbs*b.den)=a.num*b.den:=by
   have:=XQ a.num (b.den:Int);rw [show decide ((b.den:Int)<0)=false from bI (by omega),dB]at this;rw [show decide (b.num<0)=false from bI (by omega),this]
  rw [e5,e6]
 rw [e3,<-SQ]at c3;clear e3 l1 l2 l3 l4 t1 t2;rw [afx]at *;rw [afx]at *;refine kS nR h.hT ?_;simp only [yU,Lz];refine ev ?_;refine jM o1 ?_;refine ev ?_;refine jM o2 ?_;refine ev ?_;refine jM c1 ?_;refine ev ?_;refine jM c2 ?_;refine ev ?_;refine jM c3 ?_;refine ev ?_;refine⟨by unfold rO;decide +kernel,?_⟩;exact kM _
theorem X4{n:Nat}(h:n<1000000000000000000):(mk n).length<=2:=lS.2 (by simpa using h)
theorem X5(n:Int):kZ n=⟨decide (n<0),mk n.natAbs,[1]⟩:=by
 show (⟨decide ((n:Rat).num<0),mk (n:Rat).num.natAbs,mk (n:Rat).den⟩:R)=_;have m1:mk 1=[1]:=mk_one (by omega) (by omega);rw [Rat.num_intCast,Rat.den_intCast,m1]
theorem adh{T:Tb}(h:Ir T){n:Int}(hn : -1000000000000000000<n/\n<1000000000000000000:=by exact tX):PF T 53 [iv n] (Wu (bi n)):=by
 have hl:(mk n.natAbs).length<=2:=X4 (by omega);by_cases hneg:n<0
 ·have c1:=PV h.uF (n:=-n) (by omega);have c2:=Ak h.nU (neg:=true) (n:=n.natAbs) (by omega);rw [show (-n).toNat=n.natAbs by omega]at c1;rw [show sg true n.natAbs=n by simp only [sg,if_true];omega]at c2;have c0:¬n = -9223372036854775808:=by omega
  refine kS nR h.hT ?_;simp only [yC,Lz];refine ev ?_;refine zf @c0 @hneg ?_;rw [show (0:Int)-n = -n by omega];refine jM c1 ?_;refine ev ?_;refine jM c2 ?_;refine ev ?_;exact kM _
 have c1:=PV h.uF (n:=n) (by omega);have c2:=Ak h.nU (neg:=false) (n:=n.natAbs) (by omega);rw [show n.toNat=n.natAbs by omega]at c1;rw [show sg false n.natAbs=n by simp only [sg,bG,if_false];omega]at c2;have c0:¬n = -9223372036854775808:=by omega
 refine kS nR h.hT ?_;simp only [yC,Lz];refine ev ?_;refine zf @c0 @hneg ?_;refine jM c1 ?_;refine ev ?_;refine jM c2 ?_;refine ev ?_;exact kM _
theorem adi{T:Tb}(h:Ci T){n:Int}(hn : -1000000000000000000<n/\n<1000000000000000000:=by exact tX):PF T 54 [iv n] (Wu (bi n)):=by
 have hl:(mk n.natAbs).length<=2:=X4 (by omega);by_cases hneg:n<0
 ·have c1:=zI h.nH (n:=-(n+1)+1) (by omega);have c2:=Dj h.lU (neg:=true) (n:=n.natAbs) (by omega);rw [show (-(n+1)+1).toNat=n.natAbs by omega]at c1;rw [show sg true n.natAbs=n by simp only [sg,if_true];omega]at c2;refine kS nR h.hT ?_;simp only [uj,Lz];refine ev ?_;refine ev1 @hneg ?_;rw [show (0:Int)-(n+1)+1 = -(n+1)+1 by omega];refine jM c1 ?_;refine ev ?_;refine jM c2 ?_;refine ev ?_;exact kM _
 have c1:=zI h.nH (n:=n) (by omega);have c2:=Dj h.lU (neg:=false) (n:=n.natAbs) (by omega);rw [show n.toNat=n.natAbs by omega]at c1;rw [show sg false n.natAbs=n by simp only [sg,bG,if_false];omega]at c2;refine kS nR h.hT ?_;simp only [uj,Lz];refine ev ?_;refine ev1 @hneg ?_;refine jM c1 ?_;refine ev ?_;refine jM c2 ?_;refine ev ?_;exact kM _
theorem qM{T:Tb}(h:vT T){n:Int}(hn : -1000000000000000000<n/\n<1000000000000000000:=by exact tX):PF T 36 [iv n] (kW (kZ n)):=by
 have c:=adh h.VX hn;rw [X5];refine kS nR h.hT ?_;simp only [zn,Lz];refine ev ?_;refine jM c ?_;refine ev ?_;simp only [alv];refine ev ?_;exact kM _
theorem KO{T:Tb}(h:nX T){n:Int}(hn : -1000000000000000000<n/\n<1000000000000000000:=by exact tX):PF T 39 [iv n] (kW (kZ n)):=by
 have c:=adi h.N9 hn;rw [X5];refine kS nR h.hT ?_;simp only [vU,Lz];refine ev ?_;refine jM c ?_;refine ev ?_;simp only [alv];refine ev ?_;exact kM _
theorem Qu{r:R}(h:r.cn:=by
 first|with_reducible assumption|with_reducible exact DK _ _|with_reducible exact JW _ _|with_reducible exact JX _ _|with_reducible exact Nk _ _|with_reducible exact Wy _|with_reducible exact afu|with_reducible exact zl (by decide)):r.cn:=h
theorem FH{T:Tb}(h:oO T){r s:R}(hr:r.cn:=by exact Qu)(hs:s.cn:=by exact Qu):PF T 131 [kW r,kW s] (kW (qm r s)):=by
 have:=adb h (a:=r.q) (b:=s.q) (Kt r) (Kt s);rw [hr,hs]at this;exact this
theorem PZ{T:Tb}(h:sG T){r s:R}(hr:r.cn:=by exact Qu)(hs:s.cn:=by exact Qu):PF T 159 [kW r,kW s] (kW (vS r s)):=by
 have:=alu h (a:=r.q) (b:=s.q) (Kt r) (Kt s);rw [hr,hs]at this;exact this
theorem vN{T:Tb}(h:qL T){r s:R}(hr:r.cn:=by exact Qu)(hs:s.cn:=by exact Qu):PF T 157 [kW r,kW s] (kW (mulR r s)):=by
 have:=alr h (a:=r.q) (b:=s.q) (Kt r) (Kt s);rw [hr,hs]at this;exact this
theorem ZX{T:Tb}(h:uM T){r s:R}(hr:r.cn:=by exact Qu)(hs:s.cn:=by exact Qu):PF T 156 [kW r,kW s] (kW (uZ r s)):=by
 have:=als h (a:=r.q) (b:=s.q) (Kt r) (Kt s);rw [hr,hs]at this;exact this
theorem ZY{T:Tb}(h:uJ T){r:R}(hr:r.cn:=by exact Qu):PF T 161 [kW r] (kW (negR r)):=by
 have:=XV h (a:=r.q) (Kt r);rw [hr]at this;exact this
theorem afy{T:Tb}(h:zL T){r:R}(hr:r.cn:=by exact Qu):PF T 124 [kW r] (iv (wQ r)):=by
 have:=ZV h (a:=r.q);rw [hr]at this;exact this
theorem P5{T:Tb}(h:pW T){r:R}(hr:r.cn:=by exact Qu):PF T 132 [kW r] (.bool r.ok):=by
 have:=abd h (a:=r.q);rw [hr,afb]at this;exact this
def rQ:Fn:=⟨2,24,[.tmp 4],(.seq (rf 2 [oN 2 (.box (.t 0)),oK 3 1 (.box (.t 1)),oK 4 2 mF]) (sr [oN 5 (fd 0 2),oN 6 (lF 1 5),oN 7 (fd 0 3),oN 8 (lF 1 7),oN 9 (bt .lss 6 8),oW 10 9,oG 10 false 11 (fd 0 2),oG 10 false 12 (lF 1 11),oG 10 false 13 (fd 0 3),oG 10 false 14 (lF 1 13),oG 10 false 15 (bt .eql 12 14),oG 10 false 16 (oV 15),oG 16 true 17 (fd 1 2),oG 16 true 18 (lF 1 17),oG 16 true 19 (fd 1 3),oG 16 true 20 (lF 1 19),oG 16 true 21 (bt .lss 18 20),oG 10 false 22 (.pick (.t 16) (.t 21) (.c (.bool false))),oN 23 (.pick (.t 10) (.c (.bool true)) (.t 22)),oW 4 23] .ret))⟩
structure xZ (T:Tb):Prop where
 hT:T 111=some rQ
def Aq:Fn:=⟨1,30,[.tmp 2],(sr [oN 2 mF] (.seq (sr [oW 5 0,oN 6 (ln 5),oN 7 (.qw (cI 0))] (.block 0 (.loop (sr [oN 8 (bt .lss 7 6)] (.seq (cd 8 .skip (.exit 0)) (.seq (.block 1 (.seq (rf 1 [oK 9 1 (oV 7),oK 10 1 (ix 11 5 7),oK 11 1 (lT 11 10),oN 4 (.alloc Hr),oK 3 1 (oV 9),⟨none,none,1,.store 11 (.t 4) (.t 11),[]⟩]) (.seq (rt 0 [oN 12 (lT 11 4),oA 13 0 (cl 84 [12]) [0],oA 14 0 (nt 13) [1],oA 15 0 (oV 14) [2,1],oH 15 false 16 0 (oV 3) [3],oH 15 false 17 0 (bc .gtr 16 0) [4,3],oH 15 false 18 0 (oV 17) [5,3,3],oH 18 true 19 0 (oV 0) [6],oH 18 true 20 0 (oV 3) [6],oH 18 true 21 0 (bc .sub 20 1) [8,6],oH 18 true 22 0 (ix 11 19 21) [7,9,6],oH 18 true 23 0 (lT 11 22) [10,6],oH 18 true 24 0 (lT 11 4) [6],oH 18 true 25 0 (cl 111 [23,24]) [11,12,6,6],oH 18 true 26 0 (nt 25) [13,6],oH 15 false 27 0 (.pick (.t 18) (.t 26) (.c (.bool false))) [6,14,3],oA 28 0 (.pick (.t 15) (.c (.bool true)) (.t 27)) [3,15]]) (cd 28 (sr [oN 2 mF] .ret) .skip)))) (rg [oN 29 (bc .add 7 1),oW 7 29]))))))) (sr [oN 2 mT] .ret)))⟩
structure rU (T:Tb):Prop where
 hT:T 89=some Aq
 CV:xX T
 yc:xZ T
def xB:Fn:=⟨2,24,[.tmp 4],(.seq (rf 2 [oN 2 (.box (.t 0)),oK 3 1 (.box (.t 1)),oK 4 2 mF]) (sr [oN 5 (fd 0 2),oN 6 (lF 1 5),oN 7 (fd 0 3),oN 8 (lF 1 7),oN 9 (bt .lss 6 8),oW 10 9,oG 10 false 11 (fd 0 2),oG 10 false 12 (lF 1 11),oG 10 false 13 (fd 0 3),oG 10 false 14 (lF 1 13),oG 10 false 15 (bt .eql 12 14),oG 10 false 16 (oV 15),oG 16 true 17 (fd 1 2),oG 16 true 18 (lF 1 17),oG 16 true 19 (fd 1 3),oG 16 true 20 (lF 1 19),oG 16 true 21 (bt .lss 18 20),oG 10 false 22 (.pick (.t 16) (.t 21) (.c (.bool false))),oN 23 (.pick (.t 10) (.c (.bool true)) (.t 22)),oW 4 23] .ret))⟩
structure DV (T:Tb):Prop where
 hT:T 195=some xB
def Au:Fn:=⟨1,30,[.tmp 2],(sr [oN 2 mF] (.seq (sr [oW 5 0,oN 6 (ln 5),oN 7 (.qw (cI 0))] (.block 0 (.loop (sr [oN 8 (bt .lss 7 6)] (.seq (cd 8 .skip (.exit 0)) (.seq (.block 1 (.seq (rf 1 [oK 9 1 (oV 7),oK 10 1 (ix 11 5 7),oK 11 1 (lT 11 10),oN 4 (.alloc Hr),oK 3 1 (oV 9),⟨none,none,1,.store 11 (.t 4) (.t 11),[]⟩]) (.seq (rt 0 [oN 12 (lT 11 4),oA 13 0 (cl 83 [12]) [0],oA 14 0 (nt 13) [1],oA 15 0 (oV 14) [2,1],oH 15 false 16 0 (oV 3) [3],oH 15 false 17 0 (bc .gtr 16 0) [4,3],oH 15 false 18 0 (oV 17) [5,3,3],oH 18 true 19 0 (oV 0) [6],oH 18 true 20 0 (oV 3) [6],oH 18 true 21 0 (bc .sub 20 1) [8,6],oH 18 true 22 0 (ix 11 19 21) [7,9,6],oH 18 true 23 0 (lT 11 22) [10,6],oH 18 true 24 0 (lT 11 4) [6],oH 18 true 25 0 (cl 195 [23,24]) [11,12,6,6],oH 18 true 26 0 (nt 25) [13,6],oH 15 false 27 0 (.pick (.t 18) (.t 26) (.c (.bool false))) [6,14,3],oA 28 0 (.pick (.t 15) (.c (.bool true)) (.t 27)) [3,15]]) (cd 28 (sr [oN 2 mF] .ret) .skip)))) (rg [oN 29 (bc .add 7 1),oW 7 29]))))))) (sr [oN 2 mT] .ret)))⟩
structure FI (T:Tb):Prop where
 hT:T 193=some Au
 qG:vg T
 DW:DV T
def Cj:Fn:=⟨2,33,[.tmp 4],(sr [oN 4 mF] (.seq (sr [oW 9 0,oN 10 (ln 9),oN 11 (bc .gtr 10 10)] (cd 11 (sr [oN 4 mF] .ret) .skip)) (.seq (sr [oW 12 0,oN 13 (ln 12),oN 14 (.qw (cI 0))] (.block 0 (.loop (sr [oN 15 (bt .lss 14 13)] (.seq (cd 15 .skip (.exit 0)) (.seq (.block 1 (sr [oN 16 (ix 1 12 14),oN 17 (lF 1 16),oW 6 17] (.seq (sr [oW 18 6,oN 19 (ln 18),oW 20 1,oN 21 (bt .neq 19 20)] (cd 21 (sr [oN 4 mF] .ret) .skip)) (sr [oW 22 6,oN 23 (ln 22),oN 24 (.qw (cI 0))] (.block 2 (.loop (sr [oN 25 (bt .lss 24 23)] (.seq (cd 25 .skip (.exit 2)) (.seq (.block 3 (.seq (rf 1 [oK 26 1 (ix 3 22 24),oK 27 1 (lT 3 26),oN 8 (.alloc uz),⟨none,none,1,.store 3 (.t 8) (.t 27),[]⟩]) (sr [oN 28 (lT 3 8),oN 29 (cl 102 [28]),oN 30 (nt 29)] (cd 30 (sr [oN 4 mF] .ret) .skip)))) (rg [oN 31 (bc .add 24 1),oW 24 31])))))))))) (rg [oN 32 (bc .add 14 1),oW 14 32]))))))) (sr [oN 4 mT] .ret))))⟩
structure CB (T:Tb):Prop where
 hT:T 93=some Cj
 uI:Ap T
def lK(k l:Lk):Bool:=decide (k.a<l.a)||(decide (k.a=l.a)&&decide (k.b<l.b))
theorem KP{T:Tb}(h:xZ T){k l:Lk}:PF T 111 [RN k,RN l] (.bool (lK k l)):=by
 unfold lK;by_cases h1:k.a<l.a
 ·simp only [h1,decide_true,fM];refine lQ nR h.hT ?_;simp only [rQ,Lz];refine ev ?_
  (refine ev1 @h1 ?_;try with_reducible exact aC)
 by_cases h2:k.a=l.a
 ·simp only [h2,Int.lt_irrefl,decide_true,decide_false,cZ,dW];refine lQ nR h.hT ?_;simp only [rQ,Lz];refine ev ?_
  (refine zf @h2 @Int.lt_irrefl ?_;try with_reducible exact aC)
 simp only [h1,h2,decide_false,dK,dW];refine lQ nR h.hT ?_;simp only [rQ,Lz];refine ev ?_
 (refine zf @h1 @h2 ?_;try with_reducible exact aC)
theorem UN{T:Tb}(h:DV T){k l:Lk}:PF T 195 [RN k,RN l] (.bool (lK k l)):=by
 unfold lK;by_cases h1:k.a<l.a
 ·simp only [h1,decide_true,fM];refine lQ nR h.hT ?_;simp only [xB,Lz];refine ev ?_
  (refine ev1 @h1 ?_;try with_reducible exact aC)
 by_cases h2:k.a=l.a
 ·simp only [h2,Int.lt_irrefl,decide_true,decide_false,cZ,dW];refine lQ nR h.hT ?_;simp only [xB,Lz];refine ev ?_
  (refine zf @h2 @Int.lt_irrefl ?_;try with_reducible exact aC)
 simp only [h1,h2,decide_false,dK,dW];refine lQ nR h.hT ?_;simp only [xB,Lz];refine ev ?_
 (refine zf @h1 @h2 ?_;try with_reducible exact aC)
def allB(n:Nat)(p:Nat->Bool):Bool:=decide (∀i,i<n->p i=true)
theorem Q7{n:Nat}{p:Nat->Bool}(h:∀i,i<n->p i=true):allB n p=true:=aT h
theorem Q8{n:Nat}{p:Nat->Bool}{i:Nat}(hi:i<n)(h:p i=false):allB n p=false:=bI fun k=>by rw [k i hi]at h;cases h
theorem O5{n:Nat}{p:Nat->Bool}:allB n p=true↔∀i,i<n->p i=true:=by simp [allB]
def JY(l:List Lk)(i:Nat):Bool:=pJ (l.getD i default)&&(decide (i=0)||lK (l.getD (i-1) default) (l.getD i default))
def lI(l:List Lk):Bool:=allB l.length (JY l)
theorem DX{T:Tb}(h:rU T){l:List Lk}(hw:Iz Lk.wf l:=by exact tX):PF T 89 [nY l] (.bool (lI l)):=by
 have hlen:=hw.1;refine lQ nR h.hT ?_;simp only [Aq,Lz];refine ev ?_;refine kV (fun _ _=>false) (α:=Nat) (fun i=>⟨mM [nY l,.any,.bool false,.any,.any,nY l,iv (l.length:Nat),iv (i:Nat)],[],0,0,[],[]⟩) (fun i=>i<=l.length/\∀j,j<i->JY l j=true) (fun i=>l.length-i) rfl 0 ?_ ?_ ?_
 ·exact⟨by omega,by intro j hj;omega⟩
 ·exact Ky
 rintro i ⟨hi,hj⟩;refine ev ?_;refine kY (fun hc=>?_) fun hc=>?_<;>(refine zf @hc @mg ?_;try with_reducible exact aC)
 ·have hil:i<l.length:=by omega
  have cv:=O4 h.CV (l:=l.getD i default) (hw.at_ hil);have cb:=KP h.yc (k:=l.getD (i-1) default) (l:=l.getD i default)
  cases hv:pJ (l.getD i default)
  ·rw [hv]at cv;refine jM cv ?_;refine ev ?_;have:lI l=false:=Q8 hil (by simp only [JY,hv,dK]);rw [this]
  rw [hv]at cv;refine jM cv ?_;by_cases h0:i=0
  ·have h0':¬(0:Int)<(i:Nat):=by omega
   refine ev1 @h0' ?_;refine⟨i+1,by omega,⟨by omega,fun j hj'=>?_⟩,by exact Ky⟩;have:j=i:=by omega
   subst this;unfold JY;rw [hv,aT h0];rfl
  have h0':(0:Int)<(i:Nat):=by omega
  have e1:((i:Int)-1).toNat=i-1:=by omega
  cases hb:lK (l.getD (i-1) default) (l.getD i default)
  ·rw [hb]at cb;refine EG @h0' @mg @e1 ?_;refine jM cb ?_;refine ev ?_;have:lI l=false:=Q8 hil (by simp only [JY,hv,hb,h0,decide_false,Bool.or_self,jI]);rw [this]
  rw [hb]at cb;refine EG @h0' @mg @e1 ?_;refine jM cb ?_;refine ev ?_;refine⟨i+1,by omega,⟨by omega,fun j hj'=>?_⟩,by exact Ky⟩;by_cases e:j=i
  ·subst e;simp only [JY,hv,hb,Bool.or_true,Bool.and_self]
  exact hj j (by omega)
 have:lI l=true:=Q7 fun j hj'=>hj j (by omega);rw [this]
theorem abe{T:Tb}(h:FI T){l:List Lk}(hw:Iz Lk.wf l:=by exact tX):PF T 193 [nY l] (.bool (lI l)):=by
 have hlen:=hw.1;refine lQ nR h.hT ?_;simp only [Au,Lz];refine ev ?_;refine kV (fun _ _=>false) (α:=Nat) (fun i=>⟨mM [nY l,.any,.bool false,.any,.any,nY l,iv (l.length:Nat),iv (i:Nat)],[],0,0,[],[]⟩) (fun i=>i<=l.length/\∀j,j<i->JY l j=true) (fun i=>l.length-i) rfl 0 ?_ ?_ ?_
 ·exact⟨by omega,by intro j hj;omega⟩
 ·exact Ky
 rintro i ⟨hi,hj⟩;refine ev ?_;refine kY (fun hc=>?_) fun hc=>?_<;>(refine zf @hc @mg ?_;try with_reducible exact aC)
 ·have hil:i<l.length:=by omega
  have cv:=zQ h.qG (l:=l.getD i default) (hw.at_ hil);have cb:=UN h.DW (k:=l.getD (i-1) default) (l:=l.getD i default)
  cases hv:pJ (l.getD i default)
  ·rw [hv]at cv;refine jM cv ?_;refine ev ?_;have:lI l=false:=Q8 hil (by simp only [JY,hv,dK]);rw [this]
  rw [hv]at cv;refine jM cv ?_;by_cases h0:i=0
  ·have h0':¬(0:Int)<(i:Nat):=by omega
   refine ev1 @h0' ?_;refine⟨i+1,by omega,⟨by omega,fun j hj'=>?_⟩,by exact Ky⟩;have:j=i:=by omega
   subst this;unfold JY;rw [hv,aT h0];rfl
  have h0':(0:Int)<(i:Nat):=by omega
  have e1:((i:Int)-1).toNat=i-1:=by omega
  cases hb:lK (l.getD (i-1) default) (l.getD i default)
  ·rw [hb]at cb;refine EG @h0' @mg @e1 ?_;refine jM cb ?_;refine ev ?_;have:lI l=false:=Q8 hil (by simp only [JY,hv,hb,h0,decide_false,Bool.or_self,jI]);rw [this]
  rw [hb]at cb;refine EG @h0' @mg @e1 ?_;refine jM cb ?_;refine ev ?_;refine⟨i+1,by omega,⟨by omega,fun j hj'=>?_⟩,by exact Ky⟩;by_cases e:j=i
  ·subst e;simp only [JY,hv,hb,Bool.or_true,Bool.and_self]
  exact hj j (by omega)
 have:lI l=true:=Q7 fun j hj'=>hj j (by omega);rw [this]
def Qv(m:List (List R))(cols:Int)(i:Nat):Bool:=decide (((m.getD i default).length:Int)=cols)&&allB (m.getD i default).length (fun j=>((m.getD i default).getD j default).ok)
def BA(m:List (List R))(cols:Int):Bool:=allB m.length (Qv m cols)&&decide (m.length<=10)
theorem aha{m:List (List R)}{cols:Int}{i:Nat}(hi:i<m.length)(h:Qv m cols i=false):BA m cols=false:=by
 unfold BA;rw [Q8 hi h,dK]
theorem abf{m:List (List R)}{cols:Int}(h:∀j,j<m.length->Qv m cols j=true):BA m cols=decide (m.length<=10):=by
 unfold BA;rw [Q7 h,cZ]
theorem VG{T:Tb}(h:CB T){m:List (List R)}{cols:Int}(hw:Iz (Iz R.wf) m:=by exact tX)(hcw:cols<=9223372036854775807:=by exact tX):PF T 93 [rG m,iv cols] (.bool (BA m cols)):=by
 have hlen:=hw.1;refine lQ nR h.hT ?_;simp only [Cj,Lz];refine ev ?_;refine kY (fun h10=>?_) fun h10=>?_<;>(refine ev1 @h10 ?_;try with_reducible exact aC)
 ·have:BA m cols=false:=by unfold BA;rw [bI (by omega),jI]
  rw [this]
 refine kV (fun _ _=>false) (α:=Nat) (fun i=>⟨mM [rG m,iv cols,.any,.any,.bool false,.any,.any,.any,.any,.any,.any,.any,rG m,iv (m.length:Nat),iv (i:Nat)],[],0,0,[],[]⟩) (fun i=>i<=m.length/\∀j,j<i->Qv m cols j=true) (fun i=>m.length-i) rfl 0 ?_ ?_ ?_
 ·exact⟨by omega,by intro j hj;omega⟩
 ·exact Ky
 rintro i ⟨hi,hj⟩;refine ev ?_;refine kY (fun hc=>?_) fun hc=>?_<;>(refine zf @hc @mg ?_;try with_reducible exact aC)
 ·have hil:i<m.length:=by omega
  have hwr:=hw.at_ hil;have hrl:=hwr.1;obtain⟨row,hrow⟩:∃row,m.getD i default=row:=⟨_,rfl⟩;rw [hrow]at hwr hrl ⊢;refine ev ?_;refine kY (fun hn=>?_) fun hn=>?_<;>(refine ev1 @hn ?_;try with_reducible exact aC)
  ·refine kV (fun _ _=>false) (α:=Nat) (fun k=>⟨mM [rG m,iv cols,.any,.any,.bool false,.any,.any,.any,.any,.any,.any,.any,rG m,iv (m.length:Nat),iv (i:Nat),.any,.any,.any,.any,.any,.any,.any,oZ row,iv (row.length:Nat),iv (k:Nat)],[],0,0,[],[]⟩) (fun k=>k<=row.length/\∀j,j<k->(row.getD j default).ok=true) (fun k=>row.length-k) rfl 0 ?_ ?_ ?_
   ·exact⟨by omega,by intro j hj;omega⟩
   ·exact Ky
   rintro k ⟨hk,hkj⟩;refine ev ?_;refine kY (fun hd=>?_) fun hd=>?_<;>(refine zf @hd @mg ?_;try with_reducible exact aC)
   ·have hkl:k<row.length:=by omega
    have co:=PW h.uI (r:=row.getD k default) (hwr.at_ hkl)
    cases hv:(row.getD k default).ok
    ·rw [hv]at co;refine jM co ?_;refine ev ?_;have:BA m cols=false:=aha hil (by unfold Qv;rw [hrow,Q8 hkl hv,jI]);rw [this]
    rw [hv]at co;refine jM co ?_;refine ev ?_;refine⟨k+1,by omega,⟨by omega,fun j hj'=>?_⟩,by exact Ky⟩;by_cases e:j=k
    ·subst e;exact hv
    exact hkj j (by omega)
   refine⟨i+1,by omega,⟨by omega,fun j hj'=>?_⟩,by exact Ky⟩;by_cases e:j=i
   ·subst e;unfold Qv;rw [hrow,aT (by omega),Q7 fun j hj=>hkj j (by omega)];rfl
   exact hj j (by omega)
  have:BA m cols=false:=aha hil (by unfold Qv;rw [hrow,bI (by omega),dK]);rw [this]
 rw [abf fun j hj'=>hj j (by omega),aT (by omega)]
def UO:List Int->Int->List Int
 | [],n=>[n]
 |x::l,n=>if x<n then x::UO l n else if x=n then x::l else n::x::l
def Asc(l:List Int):Prop:=l.Pairwise (· < ·)
theorem X6{l:List Int}{n a:Int}:a∈UO l n↔a=n\/a∈l:=by
 induction l with
 |nil=>simp [UO]
 |
  cons x l ih =>
  unfold UO;split
  ·rw [aI,ih,aI];constructor
   ·rintro(h|h|h)<;>simp [h]
   rintro(h|h|h)<;>simp [h]
  split
  ·rename_i e;subst e;constructor
   ·intro h;exact .inr h
   rintro(h|h)
   ·rw [h];simp
   exact h
  simp
theorem SX{l:List Int}{n:Int}(h:Asc l):Asc (UO l n):=by
 unfold Asc at *
 induction l with
 |nil=>simp [UO]
 |
  cons x l ih =>
  rw [dZ]at h;unfold UO;split
  ·rename_i hx;rw [dZ];refine⟨fun a ha=>?_,ih h.2⟩;rcases X6.1 ha with rfl|ha
   ·exact hx
   exact h.1 a ha
  split
  ·rw [dZ];exact h
  rename_i h1 h2;have:n<x:=by omega
  rw [dZ,dZ];refine⟨fun a ha=>?_,h⟩;rcases aI.1 ha with rfl|ha
  ·exact this
  have:=h.1 a ha;omega
theorem abg:∀{l m:List Int},Asc l->Asc m->(∀a,a∈l↔a∈m)->l=m
 | [],[],_,_,_=>rfl
 | [],y::m,_,_,h=>absurd ((h y).2 (by simp)) (by simp)
 |x::l,[],_,_,h=>absurd ((h x).1 (by simp)) (by simp)
 |
  x::l,y::m,hl,hm,h=>by
  unfold Asc at hl hm;rw [dZ]at hl hm;have e:x=y:=by
   rcases aI.1 ((h x).1 (by simp))with h1|h1
   ·exact h1
   rcases aI.1 ((h y).2 (by simp))with h2|h2
   ·exact h2.symm
   have:=hl.1 y h2;have:=hm.1 x h1;omega
  subst e
  congr 1
  refine abg hl.2 hm.2 fun a=>?_;constructor
  ·intro ha;rcases aI.1 ((h a).1 (by simp [ha]))with h1|h1
   ·have:=hl.1 a ha;omega
   exact h1
  intro ha;rcases aI.1 ((h a).2 (by simp [ha]))with h1|h1
  ·have:=hm.1 a ha;omega
  exact h1
theorem zS:∀{a b:List Int},a.Nodup->(∀x∈a,x∈b)->a.length<=b.length
 | [],b,_,_=>by simp
 |
  x::a,b,hn,h=>by
  rw [dX]at hn;have hx:=h x (by simp);have:=zS (a:=a) (b:=b.erase x) hn.2 fun y hy=>by
   have hyx:y≠x:=fun e=>hn.1 (e▸hy);exact(List.mem_erase_of_ne hyx).2 (h y (by simp [hy]))
  rw [List.length_erase_of_mem hx]at this;have:=List.length_pos_of_mem hx;simp only [ak];omega
theorem UQ{a b:List Int}(hn:a.Nodup)(h:∀x∈a,x∈b)(hl:b.length<=a.length):∀x∈b,x∈a:=by
 intro x hx;refine ig fun hxa=>?_;have:=zS (a:=x::a) (b:=b) (dX.2 ⟨hxa,hn⟩) fun y hy=>by
  rcases aI.1 hy with rfl|hy
  ·exact hx
  exact h y hy
 simp at this;omega
theorem adk:∀{a b:List Int},a.Nodup->(∀x∈a,x∈b)->b.length<=a.length->b.Nodup
 |a,[],_,_,_=>List.nodup_nil
 |
  a,y::b,hn,h,hl=>by
  have hya:y∈a:=UQ hn h hl y (by simp);have h2:=adk (a:=a.erase y) (b:=b) (hn.erase y) (fun x hx=>by
   have hxy:x≠y:=fun e=>by rw [e]at hx;exact(List.Nodup.not_mem_erase hn) hx
   have:=h x (List.mem_of_mem_erase hx);rcases aI.1 this with e|k
   ·exact absurd e hxy
   exact k) (by rw [List.length_erase_of_mem hya];simp only [ak]at hl;omega)
  refine dX.2 ⟨fun hyb=>?_,h2⟩;have:=zS (a:=a) (b:=b) hn fun x hx=>by
   rcases aI.1 (h x hx)with e|k
   ·rw [e];exact hyb
   exact k
  simp only [ak]at hl;omega
theorem FK{l:List Int}(h:Asc l):l.Nodup:=by
 unfold Asc at h;exact h.imp fun h e=>by omega
def DY:Fn:=⟨1,34,[.tmp 2],(sr [oN 2 mN] (.seq (rf 1 [oN 7 (.nM 1 Oo 0 []),oK 3 1 (oV 7)]) (.seq (sr [oN 4 (.qw (cI 1))] (.block 0 (.loop (.seq (sr [oW 8 4,oN 9 (bc .lss 8 10)] (cd 9 .skip (.exit 0))) (.seq (.block 1 (sr [oW 12 0,oN 13 (ln 12),oN 14 (.qw (cI 0))] (.block 2 (.loop (sr [oN 15 (bt .lss 14 13)] (.seq (cd 15 .skip (.exit 2)) (.seq (.block 3 (.seq (rf 1 [oK 16 1 (ix 11 12 14),oK 17 1 (lT 11 16),oN 6 (.alloc Hr),⟨none,none,1,.store 11 (.t 6) (.t 17),[]⟩]) (sr [oN 18 (fd 0 6),oN 19 (lF 1 18),oW 20 4,oN 21 (bt .eql 19 20),oW 22 21,oG 22 false 23 (fd 1 6),oG 22 false 24 (lF 1 23),oG 22 false 25 (oV 4),oG 22 false 26 (bt .eql 24 25),oN 27 (.pick (.t 22) (.c (.bool true)) (.t 26))] (cd 27 (.seq (rf 2 [oK 28 2 (oV 3),oK 29 2 (oV 4),oN 30 (.nM 1 Oo 1 [(0,(.t 29))]),oK 31 1 (.app 1 8 (.t 28) (.t 30)),oK 3 2 (oV 31)]) (.exit 2)) .skip)))) (rg [oN 32 (bc .add 14 1),oW 14 32])))))))) (rg [oW 10 4,oN 11 (bc .add 10 1),oW 4 11])))))) (sr [oW 33 3,oW 2 33] .ret))))⟩
structure xC (T:Tb):Prop where
 hT:T 180=some DY
def zT:Fn:=⟨1,8,[.tmp 2],(sr [oN 2 mN] (.seq (sr [oW 3 0,oN 4 (cl 89 [3]),oN 5 (nt 4)] (cd 5 (sr [oN 2 mN] .ret) .skip)) (sr [oW 6 0,oN 7 (cl 180 [6]),oW 2 7] .ret)))⟩
structure Jp (T:Tb):Prop where
 hT:T 172=some zT
 pK:rU T
 vk:xC T
def ends(l:List Lk)(v:Int):Bool:=l.any fun x=>decide (x.a=v)||decide (x.b=v)
def CW(l:List Lk)(v:Nat):List Int:=((List.range v).filter fun (u:Nat)=>decide (1<=u)&&ends l u).map fun u=>((u:Nat):Int)
theorem alA(l:List Lk):CW l 1=[]:=by simp [CW]
theorem alB(l:List Lk){v:Nat}(h:1<=v):CW l (v+1)=CW l v++(if ends l v=true then [((v:Nat):Int)]else []):=by
 unfold CW;rw [iY,List.filter_append,bT]
 congr 1
 simp only [List.filter_cons,List.filter_nil,aT h,cZ];split<;>rfl
theorem X7(l:List Lk)(v:Nat):(CW l v).length<=v:=by
 unfold CW;rw [aU];have:=jW (fun (u:Nat)=>decide (1<=u)&&ends l u) (List.range v);rw [jG]at this;exact this
theorem X8{l:List Lk}{v:Int}{k:Nat}(hk:k<l.length)(h:(l.getD k default).a=v\/(l.getD k default).b=v):ends l v=true:=by
 unfold ends;rw [List.any_eq_true];exact⟨_,getD_mem hk,by simpa using h⟩
theorem afz{l:List Lk}{v:Int}(h:∀k,k<l.length->(l.getD k default).a≠v/\(l.getD k default).b≠v):ends l v=false:=by
 unfold ends;rw [List.any_eq_false];intro x hx;obtain⟨k,hk⟩:=bQ.1 hx;have hlt:=(aP.1 hk).1;have:=h k hlt;rw [aj,hk]at this;simpa using this
theorem WA{r:R}(h:0<wQ r):r.ok=true:=by
 rw [wJ];intro e;unfold wQ at h;rw [e]at h;simp [xO]at h
def inB(a lo hi:Int):Bool:=decide (lo<=a)&&decide (a<=hi)
def O6(c:Cd)(i:Nat):Bool :=
 inB (c.ps.getD i default).node 0 9 && !decide ((c.ps.getD i default).node=c.node)&&(decide (i=0)||decide ((c.ps.getD (i-1) default).node<(c.ps.getD i default).node)) &&
  decide (0<wQ (c.ps.getD i default).share)&&(c.ps.getD i default).dx.ok&&(c.ps.getD i default).dy.ok
def Nl(l:List Pa)(n:Nat):R:=(l.take n).foldl (fun s p=>qm s p.share) (kZ 0)
theorem abh(l:List Pa):Nl l 0=kZ 0:=by simp [Nl]
theorem abj(l:List Pa){i:Nat}(h:i<l.length):Nl l (i+1)=qm (Nl l i) (l.getD i default).share:=by
 unfold Nl;rw [jf,au h,aj,au h];simp only [Option.toList,Option.getD,List.foldl_append,iH,jg]
theorem adl{α:Type}{f:α->R}:∀(l:List α) (a:R),a.cn->(l.foldl (fun s p=>qm s (f p)) a).cn
 | [],_,h=>h
 |_::l,_,_=>adl l _ (DK _ _)
theorem SY(l:List Pa)(i:Nat):(Nl l i).cn:=adl _ _ (zl (by decide))
def apE(c:Cd):Prop:=∀i,i<c.ps.length->O6 c i=true
instance (c:Cd):Decidable (apE c):=inferInstanceAs (Decidable (∀i,i<c.ps.length->O6 c i=true))
def zB(c:Cd):Bool:=decide (apE c)&&inB c.node 1 9&&decide (0<wQ c.total) && !c.ps.isEmpty&&decide (Nl c.ps c.ps.length=kZ 1)
theorem Np{c:Cd}{i:Nat}(hi:i<c.ps.length)(h:O6 c i=false):zB c=false:=by
 unfold zB;rw [bI (fun k=>by rw [k i hi]at h;cases h)];rfl
theorem alC{c:Cd}(h:apE c):zB c=(inB c.node 1 9&&decide (0<wQ c.total) && !c.ps.isEmpty&&decide (Nl c.ps c.ps.length=kZ 1)):=by
 unfold zB;rw [aT h,cZ]
end Go.Ml
end
