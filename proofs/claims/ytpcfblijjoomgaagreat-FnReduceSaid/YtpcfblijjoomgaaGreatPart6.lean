/- Contracts of functions. -/
import Derived.Test.YtpcfblijjoomgaaGreatPart5
set_option linter.unusedSimpArgs false
set_option linter.unusedVariables false
set_option maxRecDepth 100000
set_option maxHeartbeats 16000000
section
namespace Go.Ml
theorem arL{S:List Lk}{D:Int}{N B DB K:Nat}(hS:lI S=true)(hC:∀x∈S,Cm D N B x)(hD1:1<=D)(hD:Ab D DB)(hK:S.length<=K)(hF:Ft (K*N) DB=true)(v u:Int) :
  ∀k,k<=S.length->∃z:Int,Ab z (k*N)/\Fq (imP S v u k) z D/\tot (imq v u) (S.take k)=(z:Rat) / (D:Rat)
 |0,_=>⟨0,fV _,V6.to hD1 (by simp),by simp only [List.take_zero,tot];rw [Rat.intCast_zero,fK,iU]⟩
 |
  k+1,hk=>by
  obtain⟨z,z1,z2,z3⟩:=arL hS hC hD1 hD hK hF v u k (by omega);have hm:=getD_mem (l:=S) (i:=k) (by omega);obtain⟨n,p,q,h1,h2,h4,h5,h6⟩:=(hC _ hm).ex;have hab:=qF (nZ hS hm);have hpw:=(ru.1 hS).2;have hne:∀j,j<k->¬((S.getD j default).a=(S.getD k default).a/\(S.getD j default).b=(S.getD k default).b):=fun j hj=>amZ hpw hj (by omega);have hle:(k+1)*N<=K*N:=dG _ (by omega);rw [Yu _ (by omega),z3];show ∃z:Int,Ab z ((k+1)*N)/\Fq (Ve v u (imP S v u k) (S.getD k default)) z D/\_;have hzero:((S.getD k default).a=v/\(S.getD k default).b=u)\/((S.getD k default).a=u/\(S.getD k default).b=v)->tot (imq v u) (S.take k)=0:=fun hc=>by
   have hvu:v≠u:=by omega
   have e:tot (imq v u) (S.take k)=tot (fun _=>0) (S.take k):=FX fun x hx=>by
    obtain⟨j,hj,rfl⟩:=List.mem_iff_getElem.1 hx;have hj2:j<k:=by simp at hj;omega
    have ej:(S.take k)[j]=S.getD j default:=by
     rw [List.getElem_take,aj,au (by omega)];rfl
    rw [ej];have h3:=hne j hj2;have n3:=qF (nZ hS (getD_mem (l:=S) (i:=j) (by omega)));unfold imq;rw [aO (by omega),aO (by omega)]
   rw [e];have:∀l:List Lk,tot (fun _=>0) l=0:=fun l=>by
    induction l with
    |nil=>rfl
    |cons x l ih=>simp only [tot];rw [ih,dU]
   exact this _
  generalize S.getD k default=x at *;unfold Ve imq;by_cases c1:(x.a=v/\x.b=u)\/(x.a=u/\x.b=v)
  ·rw [aQ c1,aQ c1,<-z3,hzero c1];refine⟨-n,(agj h1.2).mono (by rw [eH];omega),h4.neg,?_⟩;rw [h4.v,iO,Rat.intCast_neg,ad9]
  rw [aO c1,aO c1];by_cases c2:v=u/\(x.a=v\/x.b=v)
  ·rw [aQ c2,aQ c2];have hb:Ab (z+n) ((k+1)*N):=by rw [eH];exact AY z1 h1.2
   refine⟨z+n,hb,z2.add h4 (by grind) hD1 (hb.mono hle) hD hF,?_⟩;rw [h4.v];exact abN hD1 hD1 hD1 (by grind)
  rw [aO c2,aO c2];exact⟨z,z1.mono (by rw [eH];omega),z2,by rw [dU]⟩
theorem arM{S:List Lk}{D:Int}{N B DB K:Nat}(hC:∀x∈S,Cm D N B x)(hD1:1<=D)(hD:Ab D DB)(hK:S.length<=K)(hF:Ft (K*B) DB=true)(hF2:Ft B DB=true)(v:Int) :
  ∀k,k<=S.length->(∃z:Int,Ab z (k*B)/\Fq (EH S v k).1 z D/\tot (VK mX v) (S.take k)=(z:Rat) / (D:Rat))/\∃z:Int,Ab z (k*B)/\Fq (EH S v k).2 z D/\tot (VK mY v) (S.take k)=(z:Rat) / (D:Rat)
 |
  0,_=>by
  have h0:∀f:Lk->Rat,tot f (S.take 0)=((0:Int):Rat) / (D:Rat):=fun f=>by simp only [List.take_zero,tot];rw [Rat.intCast_zero,fK,iU]
  exact⟨⟨0,fV _,V6.to hD1 (by simp),h0 _⟩,⟨0,fV _,V6.to hD1 (by simp),h0 _⟩⟩
 |
  k+1,hk=>by
  obtain⟨⟨z,z1,z2,z3⟩,y,y1,y2,y3⟩:=arM hC hD1 hD hK hF hF2 v k (by omega);have hm:=getD_mem (l:=S) (i:=k) (by omega);obtain⟨n,p,q,h1,h2,h4,h5,h6⟩:=(hC _ hm).ex;have hle:(k+1)*B<=K*B:=dG _ (by omega);rw [Yu _ (by omega),Yu _ (by omega),z3,y3];show (∃z:Int,Ab z ((k+1)*B)/\Fq (Rk v (EH S v k) (S.getD k default)).1 z D/\_)/\∃z:Int,Ab z ((k+1)*B)/\Fq (Rk v (EH S v k) (S.getD k default)).2 z D/\_;generalize S.getD k default=x at *;have wx:Fq (mulR x.w x.dx) p D:=h4.mul h5 (by grind) hD1 h2.1 hD hF2;have wy:Fq (mulR x.w x.dy) q D:=h4.mul h6 (by grind) hD1 h2.2 hD hF2;have k1:∀n p d:Rat,n≠0->n / d*(p / n)=p / d:=fun n p d h=>by rw [fK,fK,fK];grind
  have vx:mX x=(p:Rat) / (D:Rat):=by unfold mX;rw [h4.v,h5.v,k1 _ _ _ (nD h1.1)]
  have vy:mY x=(q:Rat) / (D:Rat):=by unfold mY;rw [h4.v,h6.v,k1 _ _ _ (nD h1.1)]
  have bz:=fun (b:Ab (z+p) (k*B+B))=>b;unfold Rk VK;by_cases c1:x.b=v
  ·rw [aQ c1,aQ c1,aQ c1,vx,vy];have b1:Ab (z+p) ((k+1)*B):=by rw [eH];exact AY z1 h2.1
   have b2:Ab (y+q) ((k+1)*B):=by rw [eH];exact AY y1 h2.2
   exact⟨⟨z+p,b1,z2.add wx (by grind) hD1 (b1.mono hle) hD hF,abN hD1 hD1 hD1 (by grind)⟩,⟨y+q,b2,y2.add wy (by grind) hD1 (b2.mono hle) hD hF,abN hD1 hD1 hD1 (by grind)⟩⟩
  rw [aO c1,aO c1,aO c1];by_cases c2:x.a=v
  ·rw [aQ c2,aQ c2,aQ c2,vx,vy,<-Rat.sub_eq_add_neg,<-Rat.sub_eq_add_neg];have b1:Ab (z-p) ((k+1)*B):=by rw [eH];exact Lc z1 h2.1
   have b2:Ab (y-q) ((k+1)*B):=by rw [eH];exact Lc y1 h2.2
   exact⟨⟨z-p,b1,z2.sub wx (by grind) hD1 (b1.mono hle) hD hF,agk hD1 hD1 hD1 (by grind)⟩,⟨y-q,b2,y2.sub wy (by grind) hD1 (b2.mono hle) hD hF,agk hD1 hD1 hD1 (by grind)⟩⟩
  rw [aO c2,aO c2,aO c2,dU,dU];exact⟨⟨z,z1.mono (by rw [eH];omega),z2,rfl⟩,⟨y,y1.mono (by rw [eH];omega),y2,rfl⟩⟩
structure Big (S:List Lk) (D:Int) (N B DB K:Nat):Prop where
 ok:lI S=true
 cm:∀x∈S,Cm D N B x
 d:1<=D/\Ab D DB
 len:S.length<=K
 f:Ft (K*N) DB=true/\Ft (K*B) DB=true/\Ft B DB=true
 g:gF DB (K*N+K*B) (kC S).length=true
 cn:∀u∈kC S,Cn S u
theorem WX{S:List Lk}(h:lI S=true):Nds S (kC S):=by
 refine⟨FK (CX S),fun u hu=>by have:=vC hu;omega,fun x hx=>?_⟩;have hab:=qF (nZ h hx);obtain⟨k,hk⟩:=bQ.1 hx;have hkl:=(aP.1 hk).1;have hg:S.getD k default=x:=by rw [aj,hk];rfl
 have hm:∀u:Int,1<=u->u<10->(x.a=u\/x.b=u)->u∈kC S:=fun u h1 h2 h3=>by
  rw [Hy h,Jq];exact⟨h1,h2,O7.2 ⟨k,hkl,by rw [hg];exact h3⟩⟩
 refine⟨?_,?_,by omega⟩
 ·by_cases e:x.a=0
  ·exact .inl e
  exact .inr (hm _ (by omega) (by omega) (.inl rfl))
 exact .inr (hm _ (by omega) (by omega) (.inr rfl))
def aqC(ns:List Int)(y:Nat->Rat)(u:Int):Rat:=if u∈ns then y (ns.idxOf u)else 0
theorem aqD{ns:List Int}(h:ns.Nodup){i:Nat}(hi:i<ns.length):ns.idxOf (ns.getD i 0)=i:=by
 have e:ns.getD i 0=ns[i]:=by rw [aj,au hi];rfl
 have hm:ns.getD i 0∈ns:=zY hi;have hlt:ns.idxOf (ns.getD i 0)<ns.length:=List.idxOf_lt_length_iff.2 hm;have hg:ns.getD (ns.idxOf (ns.getD i 0)) 0=ns.getD i 0:=by
  rw [aj (i:=ns.idxOf _),au hlt];exact List.getElem_idxOf hlt
 rcases Nat.lt_trichotomy (ns.idxOf (ns.getD i 0)) i with k|k|k
 ·exact absurd hg.symm (Md h k hi)
 ·exact k
 exact absurd hg (Md h k hlt)
theorem WY{ns:List Int}(h:ns.Nodup){y:Nat->Rat}{i:Nat}(hi:i<ns.length):aqC ns y (ns.getD i 0)=y i:=by
 unfold aqC;rw [aQ (zY hi),aqD h hi]
theorem agx{ns:List Int}(h:∀u∈ns,u≠0)(y:Nat->Rat):aqC ns y 0=0:=aO fun e=>h 0 e rfl
theorem anm(ns:List Int)(i:Nat):ns.getD i default=ns.getD i 0:=rfl
theorem agy{S:List Lk}{D:Int}{N B DB K:Nat}(h:Big S D N B DB K):dsB S=true/\∃f g:Int->Rat,(f 0=0/\g 0=0) /\
  (∀i,i<(kC S).length->((Qx (J9 S) (Rl S)).getD i default).q=some (f ((kC S).getD i 0))/\((Qx (J9 S) (Rn S)).getD i default).q=some (g ((kC S).getD i 0))) /\
  (∀v∈kC S,tot (VK (fun l=>l.w.v*(f l.b-f l.a)) v) S=tot (VK mX v) S)/\∀v∈kC S,tot (VK (fun l=>l.w.v*(g l.b-g l.a)) v) S=tot (VK mY v) S:=by
 have hN:=WX h.ok;have hnl:=zU S;have hd:=h.d;have him:=arL h.ok h.cm hd.1 hd.2 h.len h.f.1;have hiv:=arM h.cm hd.1 hd.2 h.len h.f.2.1 h.f.2.2;have hle1:S.length*N<=K*N+K*B:=dw (dG _ h.len) (by omega);have hle2:S.length*B<=K*N+K*B:=dw (dG _ h.len) (by omega);have hrow:∀i,i<(kC S).length->(YJ S (kC S).length).getD i default=V8 S ((kC S).getD i 0) (kC S).length:=fun i hi=>by
  unfold YJ;rw [bK,aj,bM,au hi,aj,au hi];rfl
 have hel:∀i,i<(kC S).length->∀j,j<(kC S).length->mEl (YJ S (kC S).length) i j=imP S ((kC S).getD i 0) ((kC S).getD j 0) S.length:=fun i hi j hj=>by
  unfold mEl;rw [hrow i hi];unfold V8;rw [bK,aj,bM,au hj,aj (i:=j),au hj];rfl
 have hG:imG S=true:=by
  unfold imG;rw [h.ok,cZ,aX];intro r hr;unfold YJ at hr;obtain⟨v,_,rfl⟩:=bC.1 hr;rw [aX];intro e he;unfold V8 at he;obtain⟨u,_,rfl⟩:=bC.1 he;obtain⟨z,_,z2,_⟩:=him v u S.length (aK _);exact z2.ok
 have eM:=YK hG;have hvG:ivG S=true:=by
  unfold ivG;rw [aX];intro v _;obtain⟨⟨z,_,z2,_⟩,y,_,y2,_⟩:=hiv v S.length (aK _);rw [z2.ok,y2.ok];rfl
 have eX:Rl S=(kC S).map fun v=>(EH S v S.length).1:=aQ hvG;have eY:Rn S=(kC S).map fun v=>(EH S v S.length).2:=aQ hvG;have hml:(J9 S).length=(kC S).length:=by rw [eM,WW (aK _)]
 have hpos:∀x∈S,0<x.w.v:=fun x hx=>TK (nZ h.ok hx);have hinj:∀y:Nat->Rat,(∀i,i<(kC S).length->AA (fun j=>tot (imq ((kC S).getD i 0) ((kC S).getD j 0)) S*y j) (kC S).length=0)->∀i,i<(kC S).length->y i=0:=fun y hy i hi=>by
  have h0:=agx (y:=y) hN.n0;have:=au2 hN hpos h.cn h0 (fun v hv=>?_) _ (zY hi)
  ·rw [WY hN.nd hi]at this;exact this
  rw [<-anl hN h0 hv,aaq];obtain⟨k,hk,rfl⟩:=List.mem_iff_getElem.1 hv;have ek:(kC S)[k]=(kC S).getD k 0:=by rw [aj,au hk];rfl
  rw [ek,<-hy k hk];exact Eo fun j hj=>by rw [WY hN.nd hj]
 have sol:∀(b:List R) (m:Lk->Rat),b.length=(kC S).length->(∀i,i<(kC S).length->∃z:Int,Ab z (K*N+K*B)/\Fq (b.getD i default) z D/\tot (VK m ((kC S).getD i 0)) S=(z:Rat) / (D:Rat)) ->
   Yi (J9 S) b=true/\∃f:Int->Rat,f 0=0/\(∀i,i<(kC S).length->((Qx (J9 S) b).getD i default).q=some (f ((kC S).getD i 0)))/\∀v∈kC S,tot (VK (fun l=>l.w.v*(f l.b-f l.a)) v) S=tot (VK m v) S:=fun b m hbl hb=>by
  obtain⟨s1,s2,y,y1,y2⟩:=ayK (n:=(kC S).length) (N:=K*N+K*B) (m:=J9 S) (a:=fun i j=>tot (imq ((kC S).getD i 0) ((kC S).getD j 0)) S) (b:=b) (v:=fun i=>tot (VK m ((kC S).getD i 0)) S) hml
   (fun i hi=>by rw [eM,hrow i hi,WV (aK _)]) hbl (by omega)
   (fun i hi j hj=>by
    obtain⟨z,z1,z2,z3⟩:=him ((kC S).getD i 0) ((kC S).getD j 0) S.length (aK _);rw [bK]at z3;exact⟨z,z1.mono hle1,by rw [eM,hel i hi j hj];exact z2,z3⟩) hb hd.1 hd.2 h.g hinj
  refine⟨s1,aqC (kC S) y,agx hN.n0 y,fun i hi=>by rw [WY hN.nd hi];exact y1 i hi,fun v hv=>?_⟩;rw [<-anl hN (agx hN.n0 y) hv,aaq];obtain⟨k,hk,rfl⟩:=List.mem_iff_getElem.1 hv;have ek:(kC S)[k]=(kC S).getD k 0:=by rw [aj,au hk];rfl
  rw [ek,<-y2 k hk];exact Eo fun j hj=>by rw [WY hN.nd hj]
 have hget:∀(F:Int->R) i,i<(kC S).length->((kC S).map F).getD i default=F ((kC S).getD i 0):=fun F i hi=>by
  rw [aj,bM,au hi,aj,au hi];rfl
 obtain⟨a1,f,a2,a3,a4⟩:=sol (Rl S) mX (by rw [eX,aU]) fun i hi=>by
  obtain⟨z,z1,z2,z3⟩:=(hiv ((kC S).getD i 0) S.length (aK _)).1;rw [bK]at z3;exact⟨z,z1.mono hle2,by rw [eX,hget _ i hi];exact z2,z3⟩
 obtain⟨b1,g,b2,b3,b4⟩:=sol (Rn S) mY (by rw [eY,aU]) fun i hi=>by
  obtain⟨z,z1,z2,z3⟩:=(hiv ((kC S).getD i 0) S.length (aK _)).2;rw [bK]at z3;exact⟨z,z1.mono hle2,by rw [eY,hget _ i hi];exact z2,z3⟩
 refine⟨?_,f,g,⟨a2,b2⟩,fun i hi=>⟨a3 i hi,b3 i hi⟩,a4,b4⟩;unfold dsB dsC;rw [h.ok,a1,b1,hml,eX,eY,aU,aU,aT rfl];rfl
theorem ah8{x:Lk}(h:Jn 7 x):Cm 1 63 1260 x:=by
 obtain⟨n,p,q,h1,h2,h3,e1,e2,e3⟩:=h.ex;have k:∀a:Rat,a / 1=a:=fun a=>by grind
 exact⟨n,p,q,⟨h1.1,by unfold Ab;omega⟩,⟨by unfold Ab;omega,by unfold Ab;omega⟩,⟨by rw [Rat.intCast_one,k];exact e1,by decide⟩,⟨e2,h1.1⟩,⟨e3,h1.1⟩⟩
theorem abV{n:Nat}{S:List Lk}(h:Oe n S):∀m:Nat,∀u:Int,0<=u->u<=n->u.toNat<=m->Cn S u
 |0,u,h0,_,hm=>by rw [show u=0 by omega];exact .z
 |
  m+1,u,h0,hn,hm=>by
  by_cases e:u=0
  ·rw [e];exact .z
  obtain⟨x,hx,h1,h2⟩:=h.base (u.toNat-1) (by omega);have:=h.ab x hx;exact .s hx (.inr ⟨rfl,by omega⟩) (abV h m x.a (by omega) (by omega) (by omega))
theorem aek{n:Nat}{S:List Lk}(h:Oe n S){o:List Int}(hO:ahd S o=true):Dr S o/\1<=o.length:=by
 have hrn:=h.rn;have hp:=of_decide_eq_true hO;obtain⟨⟨_,hlen⟩,hin,hnd⟩:=ado.1 hp;have hmem:∀u:Int,u∈kC S↔1<=u/\u<10/\∃k,k<S.length/\((S.getD k default).a=u\/(S.getD k default).b=u):=fun u=>by
  rw [Hy h.ok,Jq,O7];rfl
 have afH:∀u∈kC S,1<=u/\u<=(n:Int)+1:=fun u hu=>by
  obtain⟨h1,h2,k,hk,h3⟩:=(hmem u).1 hu;have:=h.ab _ (getD_mem hk);omega
 have hto:∀x∈S,(x.a=0\/x.a∈o)/\(x.b=0\/x.b∈o):=fun x hx=>by
  have hab:=h.ab x hx;obtain⟨k,hk⟩:=bQ.1 hx;have hkl:=(aP.1 hk).1;have hg:S.getD k default=x:=by rw [aj,hk];rfl
  constructor
  ·by_cases e:x.a=0
   ·exact .inl e
   exact .inr (hp.2.2 _ ((hmem _).2 ⟨by omega,by omega,k,hkl,.inl (by rw [hg])⟩))
  exact .inr (hp.2.2 _ ((hmem _).2 ⟨by omega,by omega,k,hkl,.inr (by rw [hg])⟩))
 refine⟨⟨h.ok,fun x hx=>ah8 (ad8 h x hx),?_,hto,fun u hu=>?_,hnd,fun u hu=>?_⟩,by rw [hlen];exact RI h⟩
 ·have:=zS (a:=o) (b:=[1,2,3,4,5]) hnd fun u hu=>by
   have:=afH u (hin u hu);simp only [aI,dD,or_false];omega
  simpa using this
 ·have hr:=afH u (hin u hu);by_cases e:u<=n
  ·exact abV h u.toNat u (by omega) e (aK _)
  obtain⟨h1,h2,k,hk,h3⟩:=(hmem u).1 (hin u hu);have hx:=getD_mem (l:=S) hk;have:=h.ab _ hx;exact .s hx (.inr ⟨rfl,by omega⟩) (abV h (S.getD k default).a.toNat _ (by omega) (by omega) (aK _))
 have hr:=afH u (hin u hu);omega
theorem au3{P:List Pt}{S:List Lk}{o:List Int}:∀k,(∀j,j<k->dsq P (o.getD j 0) (cA S o j)=0)->cQ P S o k=0
 |0,_=>rfl
 |
  k+1,h=>by
  simp only [cQ];rw [au3 k fun j hj=>h j (by omega),h k (by omega),Rat.mul_zero,dU]
structure Least (L:List Lk) (at':List Pt) (e:R):Prop where
 te:atY L at'=true
 en:e=teV L at'
 eok:e.ok=true
 len:2<=at'.length/\at'.length<=10
 v:∃v:Nat,1<=v/\v<at'.length/\(at'.getD v default).x.ok=true
 mv:∀(v:Nat) (m d:Int) (r:R),(-10<=m/\m<=10)->(1<=d/\d<=3)->Fq r m d->(at'.getD v default).x.ok=true->v<at'.length ->
  atY L (at'.set v ⟨qm (at'.getD v default).x r,(at'.getD v default).y⟩)=true/\e.v<=(teV L (at'.set v ⟨qm (at'.getD v default).x r,(at'.getD v default).y⟩)).v/\(teV L (at'.set v ⟨qm (at'.getD v default).x r,(at'.getD v default).y⟩)).ok=true
theorem ah9(p q:Lk->Rat)(v:Int)(S:List Lk):tot (VK (fun l=>p l-q l) v) S=tot (VK p v) S-tot (VK q v) S:=by
 rw [<-abT];refine FX fun x _=>?_;unfold VK;split
 ·rfl
 split
 ·grind
 grind
theorem ael{S:List Lk}{h:Int->Rat}(h0:h 0=0)(he:∀x∈S,h x.b=h x.a):∀u,Cn S u->h u=0:=fun u hu=>by
 induction hu with
 |z=>exact h0
 |
  @s u w x hx hxe _ ih =>
  have:=he x hx;rcases hxe with ⟨e1,e2⟩|⟨e1,e2⟩
  ·rw [<-e1,<-this,e2];exact ih
  rw [<-e2,this,e1];exact ih
theorem au4(w mx my mz a b c d:Rat):w*(a*a+b*b)-2*(a*mx)-2*(b*my)+mz-(w*(c*c+d*d)-2*(c*mx)-2*(d*my)+mz)=w*(a-c)*(a-c)+w*(b-d)*(b-d)+2*((w*c-mx)*(a-c))+2*((w*d-my)*(b-d)):=by grind
theorem ano(a b c d:Lk->Rat)(S:List Lk):tot (fun l=>a l+b l+2*c l+2*d l) S=tot a S+tot b S+2*tot c S+2*tot d S:=by
 induction S with
 |nil=>simp only [tot];grind
 |cons x S ih=>simp only [tot];rw [ih];grind
theorem aem{S:List Lk}{ns:List Int}(hN:Nds S ns)(hok:lI S=true)(hc:∀u∈ns,Cn S u){f g p q:Int->Rat}(f0:f 0=0/\g 0=0/\p 0=0/\q 0=0)
  (ef:∀v∈ns,tot (VK (fun l=>l.w.v*(f l.b-f l.a)) v) S=tot (VK mX v) S) (eg:∀v∈ns,tot (VK (fun l=>l.w.v*(g l.b-g l.a)) v) S=tot (VK mY v) S)
  {P Q:List Pt} (hP:∀u,u=0\/u∈ns->(P.getD u.toNat default).x.v=p u/\(P.getD u.toNat default).y.v=q u) (hQ:∀u,u=0\/u∈ns->(Q.getD u.toNat default).x.v=f u/\(Q.getD u.toNat default).y.v=g u)
  (hle:tot (TP P) S<=tot (TP Q) S):∀u∈ns,p u=f u/\q u=g u:=by
 have hpos:∀x∈S,0<x.w.v:=fun x hx=>TK (nZ hok hx);have hd:tot (TP P) S-tot (TP Q) S=tot (fun l=>l.w.v*((p l.b-f l.b)-(p l.a-f l.a))*((p l.b-f l.b)-(p l.a-f l.a))+l.w.v*((q l.b-g l.b)-(q l.a-g l.a))*((q l.b-g l.b)-(q l.a-g l.a)) +
   2*((l.w.v*(f l.b-f l.a)-mX l)*((p l.b-f l.b)-(p l.a-f l.a)))+2*((l.w.v*(g l.b-g l.a)-mY l)*((q l.b-g l.b)-(q l.a-g l.a)))) S:=by
  rw [<-abT];refine FX fun x hx=>?_;have hl:=hN.l x hx;unfold TP;rw [TS,TS,(hP _ hl.1).1,(hP _ hl.1).2,(hP _ hl.2.1).1,(hP _ hl.2.1).2,(hQ _ hl.1).1,(hQ _ hl.1).2,(hQ _ hl.2.1).1,(hQ _ hl.2.1).2,au4];have e1:p x.b-p x.a-(f x.b-f x.a)=(p x.b-f x.b)-(p x.a-f x.a):=by grind
  have e2:q x.b-q x.a-(g x.b-g x.a)=(q x.b-g x.b)-(q x.a-g x.a):=by grind
  rw [e1,e2];rfl
 rw [ano]at hd;have z1:=agw hN (f:=fun u=>p u-f u) (by show p 0-f 0=0;rw [f0.1,f0.2.2.1];grind) fun l=>l.w.v*(f l.b-f l.a)-mX l;have z2:=agw hN (f:=fun u=>q u-g u) (by show q 0-g 0=0;rw [f0.2.1,f0.2.2.2];grind) fun l=>l.w.v*(g l.b-g l.a)-mY l;rw [Ac (g:=fun _=>0) fun v hv=>by rw [ah9,ef v hv];grind,Vh]at z1;rw [Ac (g:=fun _=>0) fun v hv=>by rw [ah9,eg v hv];grind,Vh]at z2;rw [<-z1,<-z2]at hd;obtain⟨n1,k1⟩:=abU (f:=fun l=>l.w.v*((p l.b-f l.b)-(p l.a-f l.a))*((p l.b-f l.b)-(p l.a-f l.a))) (S:=S) fun x hx=>by
  have:=Rat.mul_nonneg (Rat.le_of_lt (hpos x hx)) (aef ((p x.b-f x.b)-(p x.a-f x.a)))
  rwa [<-Rat.mul_assoc]at this
 obtain⟨n2,k2⟩:=abU (f:=fun l=>l.w.v*((q l.b-g l.b)-(q l.a-g l.a))*((q l.b-g l.b)-(q l.a-g l.a))) (S:=S) fun x hx=>by
  have:=Rat.mul_nonneg (Rat.le_of_lt (hpos x hx)) (aef ((q x.b-g x.b)-(q x.a-g x.a)))
  rwa [<-Rat.mul_assoc]at this
 have k1:=k1 (by grind);have k2:=k2 (by grind);have zero:∀w d:Rat,0<w->w*d*d=0->d=0:=fun w d h2 h1=>by
  have hw0:w≠0:=fun e=>by rw [e]at h2;exact absurd h2 Rat.lt_irrefl
  grind
 have c1:=ael (S:=S) (h:=fun u=>p u-f u) (by show p 0-f 0=0;rw [f0.1,f0.2.2.1];grind) fun x hx=>by
  have:=zero _ _ (hpos x hx) (k1 x hx);show p x.b-f x.b=p x.a-f x.a
  grind
 have c2:=ael (S:=S) (h:=fun u=>q u-g u) (by show q 0-g 0=0;rw [f0.2.1,f0.2.2.2];grind) fun x hx=>by
  have:=zero _ _ (hpos x hx) (k2 x hx);show q x.b-g x.b=q x.a-g x.a
  grind
 intro u hu;have h1:p u-f u=0:=c1 u (hc u hu);have h2:q u-g u=0:=c2 u (hc u hu);exact⟨by grind,by grind⟩
theorem agz{ns:List Int}(hn:ns.Nodup)(xs ys:List R){i:Nat}{j:Nat}:∀k,i<k->k<=ns.length->(j:Int)=ns.getD i 0->MC ns xs ys k j=⟨xs.getD i default,ys.getD i default⟩
 |0,h,_,_=>absurd h (dA _)
 |
  k+1,h,hk,e=>by
  simp only [MC];rw [anm];by_cases e2:i=k
  ·subst e2;rw [aQ e]
  rw [aO fun c=>Md hn (i:=i) (j:=k) (by omega) (by omega) (c.symm.trans e)];exact agz hn xs ys k (by omega) (by omega) e
theorem abW{ns:List Int}(xs ys:List R){j:Nat}(h:(j:Int)∉ns):∀k,k<=ns.length->MC ns xs ys k j=MC ns xs ys 0 j
 |0,_=>rfl
 |
  k+1,hk=>by
  have:=abW xs ys h k (by omega);rw [<-this];show (if (j:Int)=ns.getD k default then _ else MC ns xs ys k j)=_;rw [anm,aO fun c=>h (by rw [c];exact zY (by omega))]
theorem anp{S:List Lk}{o:List Int}(h:Dr S o){j:Nat}(hj:(j:Int)∉o):∀k,k<=o.length->(Ql (cN S o o.length) k).getD j default=(Ql (cN S o o.length) 0).getD j default
 |0,_=>rfl
 |
  k+1,hk=>by
  have hn:(svC (cN S o o.length) k).node=o.getD (o.length-1-k) 0:=by
   unfold svC;rw [Iy,VJ h (by omega)];rfl
  have hm:o.getD (o.length-1-k) 0∈o:=zY (by omega);have hr:=h.o.2 _ hm;rw [<-anp h hj k (by omega)];show ((Ql _ k).set (svC _ k).node.toNat _).getD j default=_;rw [hn,aj (l:=List.set _ _ _),List.getElem?_set_ne (fun e=>hj (by rw [<-e,Int.toNat_of_nonneg (by omega)];exact hm)),<-aj]
theorem arN(N:List Cd)(j:Nat)(hj:j<svM N N.length+1):(Ql N 0).getD j default=if j=0 then⟨kZ 0,kZ 0⟩else⟨R0,R0⟩:=by
 unfold Ql svP;by_cases e:j=0
 ·rw [aQ e,e,aj,List.getElem?_set_self (by simp)];rfl
 rw [aO e,aj,List.getElem?_set_ne (by omega),jD,aQ (by omega)];rfl
theorem anq{P Q:List Pt}(hl:P.length=Q.length)(h:∀j,j<P.length->P.getD j default=Q.getD j default):P=Q:=by
 refine List.ext_getElem hl fun i h1 h2=>?_;have:=h i h1;rw [aj,au h1,aj,au h2]at this;exact this
theorem aia{S:List Lk}(hn:1<=(kC S).length):∀u∈kC S,u<=(kC S).getD ((kC S).length-1) 0:=fun u hu=>by
 have ha:=CX S;obtain⟨i,hi,rfl⟩:=List.mem_iff_getElem.1 hu;rw [aj,au (by omega)];show (kC S)[i]<=(kC S)[(kC S).length-1];rcases dV i ((kC S).length-1)with k|k
 ·exact Int.le_of_lt (fO.1 ha i _ hi (by omega) k)
 have:i=(kC S).length-1:=by omega
 simp only [this];exact Int.le_refl _
theorem au5{S:List Lk}{D:Int}{N B DB K:Nat}{o:List Int}(hB:Big S D N B DB K)(h:Dr S o)(ho:∀u,u∈o↔u∈kC S)(hn:1<=(kC S).length):dsB S=true/\Wi S=svV (cN S o o.length):=by
 obtain⟨hd,f,g,f0,hx,ef,eg⟩:=agy hB;refine⟨hd,?_⟩;have hN:=WX hB.ok;obtain⟨hsv,hpk⟩:=ana h;obtain⟨hCK,hCs⟩:=FY h o.length (aK _);have hb:∀j,j<o.length->NQ (cS S o j) (o.getD j 0)=true:=fun j hj=>(hCs j hj).b;have hc0:cQ (svV (cN S o o.length)) S o o.length=0:=au3 _ fun j hj=>hpk.dq j (by omega) hj;have en:∀P:List Pt,tot (TP P) S=cV S o o.length+cQ P S o o.length:=fun P=>by
  rw [TW (P:=P) o.length hb,agn hCK];simp only [tot,iO]
 obtain⟨E,fx,fy,hE1,hE,hps⟩:=hpk.ps;rw [kH,bZ]at hps;have hlenS:(svV (cN S o o.length)).length=svM (cN S o o.length) (cN S o o.length).length+1:=by rw [TM hsv,WT]
 have hD:Wi S=Qh S:=ah3 hd;have hH:Wh (kC S) (kC S).length=((kC S).getD ((kC S).length-1) 0).toNat+1:=by
  obtain⟨m,hm⟩:∃m,(kC S).length=m+1:=⟨(kC S).length-1,by omega⟩;rw [hm];rfl
 have hlast:(kC S).getD ((kC S).length-1) 0∈kC S:=zY (by omega);have hmax:=aia hn;generalize hle:(kC S).getD ((kC S).length-1) 0=last at *;have hM:svM (cN S o o.length) (cN S o o.length).length=last.toNat:=by
  refine Nat.le_antisymm ?_ ?_
  ·have key:∀k,k<=o.length->svM (cN S o o.length) k<=last.toNat:=fun k=>by
    induction k with
    |zero=>intro _;exact fV _
    |
     succ k ih =>
     intro hk;have h1:=ih (by omega);have h2:=hmax _ ((ho _).1 (zY (l:=o) (i:=k) (by omega)));have e:((cN S o o.length).getD k default).node=o.getD k 0:=by rw [VJ h (by omega)];rfl
     unfold svM;rw [e];omega
   have:=key o.length (aK _);rw [Iy];exact this
  obtain⟨i,_,hi,e⟩:=ED.1 (show last∈o.drop 0 by rw [bZ];exact(ho _).2 hlast);have:=agd (l:=cN S o o.length) (cN S o o.length).length i (by rw [Iy];exact hi);rw [VJ h hi]at this;rw [<-e];exact this
 have hdl:(Qh S).length=last.toNat+1:=by unfold Qh;rw [aU,jG,hH]
 have hdg:∀j,j<last.toNat+1->(Qh S).getD j default=MC (kC S) (Qx (J9 S) (Rl S)) (Qx (J9 S) (Rn S)) (kC S).length j:=fun j hj=>by
  unfold Qh;rw [hH,U2 hj]
 have hr:∀u∈kC S,1<=u/\u.toNat<last.toNat+1:=fun u hu=>by
  have:=vC hu;have:=hmax u hu;omega
 have hdn:∀i,i<(kC S).length->(Qh S).getD ((kC S).getD i 0).toNat default=⟨(Qx (J9 S) (Rl S)).getD i default,(Qx (J9 S) (Rn S)).getD i default⟩:=fun i hi=>by
  have:=hr _ (zY (l:=kC S) hi);rw [hdg _ this.2];exact agz hN.nd _ _ _ hi (aK _) (by omega)
 have h0n:((0:Nat):Int)∉kC S:=fun e=>by have:=hr _ e;omega
 have h0o:((0:Nat):Int)∉o:=fun e=>h0n ((ho _).1 e);have hd0:(Qh S).getD 0 default=⟨kZ 0,kZ 0⟩:=by
  rw [hdg 0 (by omega),abW _ _ h0n _ (aK _)];rfl
 have hs0:(svV (cN S o o.length)).getD 0 default=⟨kZ 0,kZ 0⟩:=by
  rw [TM hsv,Iy,anp h h0o _ (aK _),arN _ _ (by omega),aQ rfl]
 have i0:(kZ 0).v=0:=R.FV (a:=((0:Int):Rat)) (Jl (n:=0) (by decide));have hQ:∀u,u=0\/u∈kC S->((Qh S).getD u.toNat default).x.v=f u/\((Qh S).getD u.toNat default).y.v=g u:=fun u hu=>by
  rcases hu with rfl|hu
  ·rw [show (0:Int).toNat=0 from rfl,hd0,f0.1,f0.2];exact⟨i0,i0⟩
  obtain⟨i,_,hi,rfl⟩:=ED.1 (show u∈(kC S).drop 0 by rw [bZ];exact hu);rw [hdn i hi];exact⟨R.FV (hx i hi).1,R.FV (hx i hi).2⟩
 have heq:=aem hN hB.ok hB.cn (f:=f) (g:=g) (p:=fun u=>((svV (cN S o o.length)).getD u.toNat default).x.v) (q:=fun u=>((svV (cN S o o.length)).getD u.toNat default).y.v)
  ⟨f0.1,f0.2,by show ((svV _).getD 0 default).x.v=0;rw [hs0];exact i0,by show ((svV _).getD 0 default).y.v=0;rw [hs0];exact i0⟩ ef eg (P:=svV (cN S o o.length)) (Q:=Qh S) (fun u _=>⟨rfl,rfl⟩) hQ (by
   rw [en,en,hc0];have:=arE (P:=Qh S) (S:=S) (o:=o) o.length hb
   grind)
 rw [hD];refine anq (by rw [hdl,hlenS,hM]) fun j hj=>?_;rw [hdl]at hj;by_cases e0:j=0
 ·rw [e0,hd0,hs0]
 by_cases hjn:(j:Int)∈kC S
 ·obtain⟨i,_,hi,e⟩:=ED.1 (show (j:Int)∈(kC S).drop 0 by rw [bZ];exact hjn);have hji:((kC S).getD i 0).toNat=j:=by omega
  have hq:=heq _ hjn;have hu:(j:Int)∈(0:Int)::o:=fH _ ((ho _).2 hjn);have px:=(hps.x _ hu).1;have py:=(hps.y _ hu).1;have g1:=(hx i hi).1;have g2:=(hx i hi).2;rw [e]at g1 g2;have hdj:=hdn i hi;rw [hji]at hdj;rw [fQ]at px py hq;rw [hdj];have a1:(Qx (J9 S) (Rl S)).getD i default=((svV (cN S o o.length)).getD j default).x:=R.adW (by rw [wJ,g1];simp) px.ok (by rw [R.FV g1];exact hq.1.symm);have a2:(Qx (J9 S) (Rn S)).getD i default=((svV (cN S o o.length)).getD j default).y:=R.adW (by rw [wJ,g2];simp) py.ok (by rw [R.FV g2];exact hq.2.symm);rw [a1,a2]
 rw [hdg j hj,abW _ _ hjn _ (aK _),TM hsv,Iy,anp h (fun e=>hjn ((ho _).1 e)) _ (aK _),arN _ _ (by rw [hM];exact hj)];rfl
theorem aDG:∀n,n<6->gF 1 (15*63+15*1260) n=true:=by decide +kernel
theorem Ua{n:Nat}{S:List Lk}(h:Oe n S):Big S 1 63 1260 1 15:=by
 have hO:ahd S (mdV S [])=true:=aqr h.ok;obtain⟨hD,_⟩:=aek h hO;obtain⟨⟨_,hlen⟩,hin,hnd⟩:=ado.1 (of_decide_eq_true hO);have hto:=(of_decide_eq_true hO:apG S (mdV S [])).2.2;have hl:=hD.len;refine⟨h.ok,fun x hx=>ah8 (ad8 h x hx),⟨by decide,aK 1⟩,?_,⟨by decide +kernel,by decide +kernel,by decide +kernel⟩,aDG _ (by omega),fun u hu=>hD.cn u (hto u hu)⟩;have l0:=agp hD (mdV S []).length 0 (by omega);have e:(cS S (mdV S []) 0).length=S.length:=rfl;rw [e,iL]at l0;have:∀i,i<6->tL i<=15:=by decide
 have:=this (5-(mdV S []).length) (by omega);omega
theorem aib{P:List Pt}{S:List Lk}{o:List Int}{j:Nat}:∀k,j<=k->(∀i,i<k->NQ (cS S o i) (o.getD i 0)=true)->cQ P S o j<=cQ P S o k
 |0,h,_=>by rw [Nat.le_zero.1 h];exact Rat.le_refl
 |
  k+1,h,hb=>by
  by_cases e:j=k+1
  ·rw [e];exact Rat.le_refl
  have h1:=aib (P:=P) (S:=S) (o:=o) (j:=j) k (by omega) fun i hi=>hb i (by omega);have h2:=(amQ (P:=P) (hb k (by omega))).2.1;have h3:=Rat.mul_nonneg (Rat.le_of_lt h2) (am9 P (o.getD k 0) (cA S o k));simp only [cQ]
  grind
theorem ayS:∀n,n<5->gF 315 (10*n1 63 5+10*b1 63 1260 5) n=true:=by decide +kernel
theorem arO{S:List Lk}{D:Int}{N B DB K:Nat}(h:Big S D N B DB K){f g:Int->Rat}(f0:f 0=0/\g 0=0)
  (hx:∀i,i<(kC S).length->((Qx (J9 S) (Rl S)).getD i default).q=some (f ((kC S).getD i 0))/\((Qx (J9 S) (Rn S)).getD i default).q=some (g ((kC S).getD i 0))) :
  (∀u,u=0\/u∈kC S->(((Qh S).getD u.toNat default).x.v=f u/\((Qh S).getD u.toNat default).y.v=g u)/\(((Qh S).getD u.toNat default).x.ok=true/\((Qh S).getD u.toNat default).y.ok=true)/\u.toNat<(Qh S).length):=by
 have hN:=WX h.ok;have i0:(kZ 0).v=0:=R.FV (a:=((0:Int):Rat)) (Jl (n:=0) (by decide));have hrn:=fun u hu=>vC (l:=S) (a:=u) hu;have hlen:(Qh S).length=Wh (kC S) (kC S).length:=by unfold Qh;rw [aU,jG]
 have hdg:∀j,j<Wh (kC S) (kC S).length->(Qh S).getD j default=MC (kC S) (Qx (J9 S) (Rl S)) (Qx (J9 S) (Rn S)) (kC S).length j:=fun j hj=>by
  unfold Qh;rw [U2 hj]
 have hH:∀u∈kC S,u.toNat<Wh (kC S) (kC S).length:=fun u hu=>by
  obtain⟨m,hm⟩:∃m,(kC S).length=m+1:=⟨(kC S).length-1,by have:=List.length_pos_of_mem hu;omega⟩;have e:Wh (kC S) (kC S).length=((kC S).getD ((kC S).length-1) 0).toNat+1:=by rw [hm];rfl
  have:=aia (S:=S) (by omega) u hu;omega
 have h0n:((0:Nat):Int)∉kC S:=fun e=>by have:=hrn _ e;omega
 intro u hu;rcases hu with rfl|hu
 ·have h1:=(agv S _ (aK _)).1;rw [show (0:Int).toNat=0 from rfl,hdg 0 (by omega),abW _ _ h0n _ (aK _),f0.1,f0.2,hlen];exact⟨⟨i0,i0⟩,⟨V6.ok,V6.ok⟩,by omega⟩
 obtain⟨i,_,hi,rfl⟩:=ED.1 (show u∈(kC S).drop 0 by rw [bZ];exact hu);have h1:=hH _ hu;have h2:=hrn _ hu;rw [hdg _ h1,agz hN.nd _ _ _ hi (aK _) (by omega),hlen];exact⟨⟨R.FV (hx i hi).1,R.FV (hx i hi).2⟩,⟨by rw [wJ,(hx i hi).1];simp,by rw [wJ,(hx i hi).2];simp⟩,h1⟩
structure Red (S:List Lk) (v:Int):Prop where
 b:NQ S v=true
 d1:dsB S=true
 d2:dsB (H6 S v)=true
 len:(kC (H6 S v)).length+1=(kC S).length
 at_:∀u∈kC (H6 S v),u≠v/\0<=u/\u.toNat<(Wi S).length/\u.toNat<(Wi (H6 S v)).length/\(Wi S).getD u.toNat default=(Wi (H6 S v)).getD u.toNat default
theorem aqE{n:Nat}{S:List Lk}(h:Oe n S){v:Int}(hv:v∈kC S):Red S v:=by
 have hn:=FK (CX S);have hmem:∀u,u∈v::(kC S).erase v↔u∈kC S:=fun u=>by
  rw [aI,List.Nodup.mem_erase_iff hn];constructor
  ·rintro(e|e)
   ·rw [e];exact hv
   exact e.2
  intro e;by_cases e2:u=v
  ·exact .inl e2
  exact .inr ⟨e2,e⟩
 have hlo:(v::(kC S).erase v).length=(kC S).length:=by
  rw [ak,List.length_erase_of_mem hv];have:=List.length_pos_of_mem hv;omega
 have hO:ahd S (v::(kC S).erase v)=true:=aT ⟨h.ok,hlo,fun x hx=>(hmem x).2 hx⟩;obtain⟨hD,ho1⟩:=aek h hO;obtain⟨t1,t2⟩:=au5 (Ua h) hD hmem (RI h);obtain⟨hsv,hpk⟩:=ana hD;generalize ho:v::(kC S).erase v=o at *;have hov:o.getD 0 0=v:=by rw [<-ho];rfl
 have hdr:o.drop 1=(kC S).erase v:=by rw [<-ho];rfl
 obtain⟨hCK,hCs⟩:=FY hD o.length (aK _);have hb:∀j,j<o.length->NQ (cS S o j) (o.getD j 0)=true:=fun j hj=>(hCs j hj).b;have hB:NQ S v=true:=by have:=hb 0 (by omega);rw [hov]at this;exact this
 have eS1:cS S o 1=H6 S v:=by show H6 S (o.getD 0 0)=_;rw [hov]
 have hC1:=(FY hD 1 ho1).1;have hl5:=hD.len;have hvr:=hD.o.2 v (by rw [<-ho];simp);have hcA:cA S o 0=oP S v:=by unfold cA;rw [hov];rfl
 have hal:=(hCs 0 (by omega)).ar.len;rw [hcA]at hal;obtain⟨hAr,_,hCm⟩:=arB (D:=1) (N:=63) (B:=1260) (m:=5) (DB:=1) h.ok (Ua h).cm (by decide) (aK 1) hvr ⟨hal.1,by omega⟩ (aK 5) (by decide) (arD 0 (by decide));have hT:=hAr.t;have hok1:=hC1.ok;have hnd1:=hC1.nd;have aqF:=hC1.cn;have au6:=agp hD (o.length-1) 1 (by omega);rw [eS1]at hok1 hnd1 aqF au6;rw [hdr]at hnd1 aqF;have au6:(H6 S v).length<=10:=by
  have:∀i,i<5->tL (i+1)<=10:=by decide
  have:=this (5-o.length) (by omega);omega
 have hns:∀u,u∈kC (H6 S v)↔u∈(kC S).erase v:=fun u=>by
  rw [Hy hok1,Jq];constructor
  ·rintro⟨h1,_,h3⟩;obtain⟨k,hk,h4⟩:=O7.1 h3;have:=hnd1 _ (getD_mem hk);rcases h4 with h4|h4
   ·rw [<-h4];exact this.1.resolve_left (by omega)
   rw [<-h4];exact this.2.resolve_left (by omega)
  intro hu;have hr:=vC (List.mem_of_mem_erase hu);obtain⟨w,x,hx,hxe⟩:=(aqF u hu).adj (by omega);obtain⟨k,hk⟩:=bQ.1 hx;have hkl:=(aP.1 hk).1;refine⟨by omega,by omega,O7.2 ⟨k,hkl,?_⟩⟩;rw [aj,hk];show x.a=u\/x.b=u;omega
 have hn1:=FK (CX (H6 S v));have hne:=hn.erase v;have hlen:(kC (H6 S v)).length=((kC S).erase v).length:=Nat.le_antisymm (zS hn1 fun u hu=>(hns u).1 hu) (zS hne fun u hu=>(hns u).2 hu);have hel:((kC S).erase v).length+1=(kC S).length:=by rw [<-hlo,<-ho,ak]
 have hBig:Big (H6 S v) (1*YU 1 (oP S v)) (n1 63 5) (b1 63 1260 5) 315 10:=by
  refine⟨hok1,hCm,⟨by omega,by have:=hT.2;unfold Ab at *;omega⟩,au6,⟨by decide +kernel,by decide +kernel,by decide +kernel⟩,ayS _ (by omega),fun u hu=>aqF u ((hns u).1 hu)⟩
 obtain⟨hd2,f,g,f0,hx,ef,eg⟩:=agy hBig;have hat:=arO hBig f0 hx;have hD2:Wi (H6 S v)=Qh (H6 S v):=ah3 hd2;obtain⟨E,fx,fy,hE1,hE,hps⟩:=hpk.ps;rw [kH,bZ,<-t2]at hps;have hdq:=hpk.dq;rw [<-t2]at hdq;have hc0:∀k,k<=o.length->cQ (Wi S) S o k=0:=fun k hk=>au3 _ fun j hj=>hdq j (by omega) (by omega);have en1:∀P:List Pt,tot (TP P) (H6 S v)=cV S o o.length-cV S o 1+(cQ P S o o.length-cQ P S o 1):=fun P=>by
  have h1:=TW (P:=P) o.length hb;have h2:=TW (P:=P) (S:=S) (o:=o) 1 fun j hj=>hb j (by omega);rw [agn hCK]at h1;rw [eS1]at h2;simp only [tot]at h1
  grind
 have z0:((Wi S).getD (0:Int).toNat default).x.v=0/\((Wi S).getD (0:Int).toNat default).y.v=0:=by
  obtain⟨_,f',g',f0',hx',_,_⟩:=agy (Ua h);have:=(arO (Ua h) f0' hx' 0 (.inl rfl)).1;rw [f0'.1,f0'.2]at this;rw [ah3 t1];exact this
 have heq:=aem (WX hok1) hok1 hBig.cn (f:=f) (g:=g) (p:=fun u=>((Wi S).getD u.toNat default).x.v) (q:=fun u=>((Wi S).getD u.toNat default).y.v)
  ⟨f0.1,f0.2,z0.1,z0.2⟩ ef eg (P:=Wi S) (Q:=Qh (H6 S v)) (fun u _=>⟨rfl,rfl⟩) (fun u hu=>(hat u hu).1) (by
   rw [en1,en1,hc0 _ (aK _),hc0 1 ho1];have:=aib (P:=Qh (H6 S v)) (S:=S) (o:=o) (j:=1) o.length ho1 hb
   grind)
 refine⟨hB,t1,hd2,by omega,fun u hu=>?_⟩;have hue:=(hns u).1 hu;have hum:=List.mem_of_mem_erase hue;have hr:=vC hum;have huo:u∈(0:Int)::o:=fH _ ((hmem u).2 hum);have px:=(hps.x _ huo).1;have py:=(hps.y _ huo).1;have ha:=hat u (.inr hu);have hq:=heq u hu;have hlt:=(hps.n _ huo).2;rw [hD2];refine⟨fun e=>(List.Nodup.not_mem_erase hn) (e▸hue),by omega,by omega,ha.2.2,?_⟩;have a1:((Wi S).getD u.toNat default).x=((Qh (H6 S v)).getD u.toNat default).x:=R.adW px.ok ha.2.1.1 (by rw [ha.1.1];exact hq.1);have a2:((Wi S).getD u.toNat default).y=((Qh (H6 S v)).getD u.toNat default).y:=R.adW py.ok ha.2.1.2 (by rw [ha.1.2];exact hq.2)
 revert a1 a2
 generalize (Wi S).getD u.toNat default=P1;generalize (Qh (H6 S v)).getD u.toNat default=P2;intro a1 a2
 cases P1
 cases P2
 dsimp only at a1 a2;rw [a1,a2]
def Ue(n0:List V)(ns:List Int)(z:List V)(cx cy:Nat->List V):Nat->Nat->List V
 |0,j=>if j=0 then z else n0
 |k+1,j=>if (j:Int)=ns.getD k default then cx k++cy k else Ue n0 ns z cx cy k j
def Zl(ns:List Int)(oz:List Nat)(fx fy:Nat->List Nat):Nat->Nat->List Nat
 |0,j=>if j=0 then oz else []
 |k+1,j=>if (j:Int)=ns.getD k default then fx k++fy k else Zl ns oz fx fy k j
theorem aqG{n0:List V}{ns:List Int}{z:List V}{cx cy:Nat->List V}{k D v:Nat}(hv:ns.getD k default=(v:Int)):((List.range D).map (Ue n0 ns z cx cy k)).set v (cx k++cy k)=(List.range D).map (Ue n0 ns z cx cy (k+1)):=by
 apply fP
 intro x;rw [fB];simp only [aU,jG,bM];by_cases h:v=x
 ·subst h;by_cases hn:v<D
  ·rw [aQ rfl,aQ hn,dJ hn];simp only [dh,Ue];rw [aQ hv.symm]
  rw [aQ rfl,aO hn,aZ (by simpa using hn)];rfl
 rw [aO h];by_cases hn:x<D
 ·rw [dJ hn];simp only [dh,Ue];rw [aO (by omega)]
 rw [aZ (by simpa using hn)];rfl
section
variable {σ : Store} {ns : List Int} {xs ys : List R} {z : List V} {cx cy : Nat -> List V} {oz : List Nat} {fx fy : Nat -> List Nat}
theorem abX:∀k j,∀o∈Zl ns oz fx fy k j,o∈oz\/∃i,i<k/\(o∈fx i\/o∈fy i)
 |
  0,j,o,h=>by
  simp only [Zl]at h;split at h
  ·exact .inl h
  cases h
 |
  k+1,j,o,h=>by
  simp only [Zl]at h;split at h
  ·rcases aN.1 h with h|h
   ·exact .inr ⟨k,by omega,.inl h⟩
   exact .inr ⟨k,by omega,.inr h⟩
  rcases abX k j o h with h|⟨i,hi,h⟩
  ·exact .inl h
  exact .inr ⟨i,by omega,h⟩
variable {n : Nat} (hz : ni σ z (⟨kZ 0,kZ 0⟩ : Pt).cells oz) (hx : ∀ i,i < n -> ni σ (cx i) (xs.getD i default).cells (fx i)) (hy : ∀ i,i < n -> ni σ (cy i) (ys.getD i default).cells (fy i))
include hz hx hy in
theorem anr:∀k,k<=n->∀j,ni σ (Ue (⟨R0,R0⟩:Pt).cells ns z cx cy k j) (MC ns xs ys k j).cells (Zl ns oz fx fy k j)
 |
  0,_,j=>by
  simp only [Ue,MC,Zl];by_cases h:j=0
  ·rw [aQ h,aQ h,aQ h];exact hz
  rw [aO h,aO h,aO h];exact auE
 |
  k+1,hk,j=>by
  simp only [Ue,MC,Zl];by_cases h:(j:Int)=ns.getD k default
  ·rw [aQ h,aQ h,aQ h];exact nG (hx k (by omega)) (hy k (by omega))
  rw [aO h,aO h,aO h];exact anr k (by omega) j
variable (nz : oz.Nodup) (nx : ∀ i,i < n -> (fx i).Nodup) (ny : ∀ i,i < n -> (fy i).Nodup) (axx : ∀ i j,i < n -> j < n -> i ≠ j -> ∀ o ∈ fx i,o ∉ fx j) (ayy : ∀ i j,i < n -> j < n -> i ≠ j -> ∀ o ∈ fy i,o ∉ fy j)
 (axy:∀i j,i<n->j<n->∀o∈fx i,o∉fy j) (azx:∀i,i<n->∀o∈oz,o∉fx i) (azy:∀i,i<n->∀o∈oz,o∉fy i)
include nz nx ny axy in
theorem ant:∀k,k<=n->∀j,(Zl ns oz fx fy k j).Nodup
 |
  0,_,j=>by
  simp only [Zl];split
  ·exact nz
  exact .nil
 |
  k+1,hk,j=>by
  simp only [Zl];split
  ·rw [bF];exact⟨nx k (by omega),ny k (by omega),fun x h1 y h2 e=>axy k k (by omega) (by omega) x h1 (e▸h2)⟩
  exact ant k (by omega) j
include axx ayy axy azx azy in
theorem anu:∀k,k<=n->∀i j,i≠j->∀o∈Zl ns oz fx fy k i,o∉Zl ns oz fx fy k j
 |
  0,_,i,j,hne,o,h1,h2=>by
  simp only [Zl]at h1 h2;split at h1
  ·split at h2
   ·omega
   cases h2
  cases h1
 |
  k+1,hk,i,j,hne,o,h1,h2=>by
  have key:∀o,o∈fx k++fy k->∀j,o∉Zl ns oz fx fy k j:=fun o h j hm=>by
   rcases abX k j o hm with hm|⟨i,hi,hm⟩
   ·rcases aN.1 h with h|h
    ·exact azx k (by omega) o hm h
    exact azy k (by omega) o hm h
   rcases aN.1 h with h|h
   ·rcases hm with hm|hm
    ·exact axx k i (by omega) (by omega) (by omega) o h hm
    exact axy k i (by omega) (by omega) o h hm
   rcases hm with hm|hm
   ·exact axy i k (by omega) (by omega) o hm h
   exact ayy k i (by omega) (by omega) (by omega) o h hm
  simp only [Zl]at h1 h2;by_cases c1:(i:Int)=ns.getD k default
  ·rw [aQ c1]at h1;rw [aO (by omega)]at h2;exact key o h1 j h2
  rw [aO c1]at h1;by_cases c2:(j:Int)=ns.getD k default
  ·rw [aQ c2]at h2;exact key o h2 i h1
  rw [aO c2]at h2;exact anu k (by omega) i j hne o h1 h2
end
theorem WZ{σ:Store}{c:List V}{x:R}{os os2:List Nat}{p n:Nat}(h:ni σ c x.cells os)(hm:∀o∈os,o∈os2/\o≠p):Ad (keepW σ p n os2) σ c c:=by
 obtain⟨cs,rfl,b⟩:=h.xg;obtain⟨v1,cs,o1,o2,rfl,rfl,c1,d⟩:=b.inv;obtain⟨v2,cs,o3,o4,rfl,rfl,e,f⟩:=d.inv;obtain⟨rfl,rfl⟩:=f.Dt;have k1:=TN (n:=n) c1 fun o ho=>hm o (by simp [ho]);have k2:=TN (n:=n) e fun o ho=>hm o (by simp [ho]);simp only [Ad];exact⟨_,_,rfl,Je rfl,_,_,rfl,k1,_,_,rfl,k2,rfl⟩
theorem YM{W:PD}{σ:Store}:∀{a a2 b b2:List V},Ad W σ a a2->Ad W σ b b2->Ad W σ (a++b) (a2++b2)
 | [],a2,b,b2,h,k=>by simp only [Ad]at h;subst h;exact k
 |
  v::a,a2,b,b2,h,k=>by
  simp only [Ad]at h;obtain⟨y,ys,rfl,h1,h2⟩:=h;simp only [dL,Ad];exact⟨y,ys++b2,rfl,h1,YM h2 k⟩
theorem aqH{W:PD}{σ:Store}:Ad W σ ptz (⟨R0,R0⟩:Pt).cells:=by
 show Ad W σ [.bool false,.jZ,.jZ,.bool false,.jZ,.jZ] [.bool false,.sl 1 [],.sl 1 [],.bool false,.sl 1 [],.sl 1 []];simp only [Ad,yu];exact⟨_,_,rfl,rfl,_,_,rfl,.inr ⟨1,rfl⟩,_,_,rfl,.inr ⟨1,rfl⟩,_,_,rfl,rfl,_,_,rfl,.inr ⟨1,rfl⟩,_,_,rfl,.inr ⟨1,rfl⟩,rfl⟩
theorem aic{σ:Store}{ns:List Int}{xs ys:List R}{z1 z2:List V}{cx cy:Nat->List V}{oz1 oz2:List Nat}{fx fy:Nat->List Nat}{n p m:Nat}{os2:List Nat}
  (hz1:ni σ z1 (kZ 0).cells oz1) (hz2:ni σ z2 (kZ 0).cells oz2) (hx:∀i,i<n->ni σ (cx i) (xs.getD i default).cells (fx i)) (hy:∀i,i<n->ni σ (cy i) (ys.getD i default).cells (fy i)) :
  ∀k,k<=n->∀j,(∀o∈Zl ns (oz1++oz2) fx fy k j,o∈os2/\o≠p)->Ad (keepW σ p m os2) σ (Ue ptz ns (z1++z2) cx cy k j) (Ue (⟨R0,R0⟩:Pt).cells ns (z1++z2) cx cy k j)
 |
  0,_,j,hm=>by
  simp only [Zl]at hm;simp only [Ue];by_cases h:j=0
  ·rw [aQ h,aQ h];rw [aQ h]at hm;exact YM (WZ hz1 fun o ho=>hm o (iw _ ho)) (WZ hz2 fun o ho=>hm o (eP _ ho))
  rw [aO h,aO h];exact aqH
 |
  k+1,hk,j,hm=>by
  simp only [Zl]at hm;simp only [Ue];by_cases h:(j:Int)=ns.getD k default
  ·rw [aQ h,aQ h];rw [aQ h]at hm;exact YM (WZ (hx k (by omega)) fun o ho=>hm o (iw _ ho)) (WZ (hy k (by omega)) fun o ho=>hm o (eP _ ho))
  rw [aO h,aO h];rw [aO h]at hm;exact aic hz1 hz2 hx hy k (by omega) j hm
theorem anv{σ:Store}{ns:List Int}{xs ys:List R}{z1 z2:List V}{cx cy:Nat->List V}{oz1 oz2:List Nat}{fx fy:Nat->List Nat}{n D p:Nat}{b:Bool}(hp:jX σ p=some ⟨6,(List.range D).map (Ue ptz ns (z1++z2) cx cy n)⟩)
  (hz1:ni σ z1 (kZ 0).cells oz1) (hz2:ni σ z2 (kZ 0).cells oz2) (hx:∀i,i<n->ni σ (cx i) (xs.getD i default).cells (fx i)) (hy:∀i,i<n->ni σ (cy i) (ys.getD i default).cells (fy i))
  (nz:(oz1++oz2).Nodup) (nx:∀i,i<n->(fx i).Nodup) (ny:∀i,i<n->(fy i).Nodup) (axx:∀i j,i<n->j<n->i≠j->∀o∈fx i,o∉fx j) (ayy:∀i j,i<n->j<n->i≠j->∀o∈fy i,o∉fy j)
  (axy:∀i j,i<n->j<n->∀o∈fx i,o∉fy j) (azx:∀i,i<n->∀o∈oz1++oz2,o∉fx i) (azy:∀i,i<n->∀o∈oz1++oz2,o∉fy i) :
  ayQ σ (.oJ [.lG p 0 D,.bool b]) (.oJ [VO ((List.range D).map (MC ns xs ys n)),.bool b]):=by
 have hpl:=kX hp;have hz:ni σ (z1++z2) (⟨kZ 0,kZ 0⟩:Pt).cells (oz1++oz2):=nG hz1 hz2;have kinds:∀i,i<n->(∀o∈fx i,∃l,jX σ o=some ⟨1,kR l⟩)/\∀o∈fy i,∃l,jX σ o=some ⟨1,kR l⟩:=fun i hi=>⟨(Nw (hx i hi)).2,(Nw (hy i hi)).2⟩;have kz:∀o∈oz1++oz2,∃l,jX σ o=some ⟨1,kR l⟩:=fun o ho=>by
  rcases aN.1 ho with h|h
  ·exact(Nw hz1).2 o h
  exact(Nw hz2).2 o h
 have hkind:∀j,∀o∈Zl ns (oz1++oz2) fx fy n j,(∃l,jX σ o=some ⟨1,kR l⟩)/\o≠p:=fun j o ho=>by
  have h1:∃l,jX σ o=some ⟨1,kR l⟩:=by
   rcases abX n j o ho with h|⟨i,hi,h|h⟩
   ·exact kz o h
   ·exact(kinds i hi).1 o h
   exact(kinds i hi).2 o h
  refine⟨h1,fun e=>?_⟩;obtain⟨l,hl⟩:=h1;rw [e,hp]at hl
  cases hl
 obtain⟨os,k1,k2,k3⟩:=ah2 (σ:=σ) (f:=Zl ns (oz1++oz2) fx fy n) D (fun j _=>anr hz hx hy n (aK _) j) (fun j _=>ant nz nx ny axy n (aK _) j) (fun i j _ _=>anu axx ayy axy azx azy n (aK _) i j);have hk2:∀j,j<D->∀o∈Zl ns (oz1++oz2) fx fy n j,o∈os/\o≠p:=fun j hj o ho=>⟨(k3 o).2 ⟨j,hj,ho⟩,(hkind j o ho).2⟩;have hpo:p∉os:=fun h=>by
  obtain⟨j,_,h⟩:=(k3 p).1 h;exact(hkind j p h).2 rfl
 have hst:∀o∈os,∀ob,jX σ o=some ob->nN ob.rows:=fun o ho ob e=>by
  obtain⟨j,_,h⟩:=(k3 o).1 ho;obtain⟨l,hl⟩:=(hkind j o h).1;rw [hl]at e
  cases e
  exact wX _
 have hR:=aqB (A':=(List.range D).map (Ue (⟨R0,R0⟩:Pt).cells ns (z1++z2) cx cy n)) hp (by simp) hst (fun i r r2 h1 h2=>by
  rw [bM]at h1 h2;by_cases hi:i<D
  ·rw [dJ hi]at h1 h2;simp only [dh,aB]at h1 h2;subst h1;subst h2;exact aic hz1 hz2 hx hy n (aK _) i (hk2 i hi)
  rw [aZ (by simpa using hi)]at h1
  cases h1)
 refine⟨_,_,.oJ [.lG p 0 D,.bool b],p::os,hR,?_,?_,dX.2 ⟨hpo,k2⟩⟩
 ·simp only [yu,Ad];refine⟨_,rfl,_,_,rfl,.inl ⟨p,0,((List.range D).map (Ue ptz ns (z1++z2) cx cy n)).length,?_,aK _,by simp,by rw [Nat.sub_zero]⟩,_,_,rfl,rfl,rfl⟩;rw [HY hpl,aQ rfl]
 have hv:mJ (J8 σ p ⟨6,(List.range D).map (Ue (⟨R0,R0⟩:Pt).cells ns (z1++z2) cx cy n)⟩ os) (.lG p 0 D) (VO ((List.range D).map (MC ns xs ys n))) (p::os):=by
  unfold VO;simp only [mJ];refine .inr ⟨p,(List.range D).map (Ue (⟨R0,R0⟩:Pt).cells ns (z1++z2) cx cy n),os,by simp,by rw [zW hpl,aQ rfl],rfl,?_⟩;rw [fG];exact k1.frame fun o ho=>by rw [zW (k1.lt o ho),aO (fun e:o=p=>hpo (by rw [<-e];exact ho)),aQ ho]
 have:=JO (qJ hv (rM (b:=b) qB))
 rwa [aW]at this
theorem anw{ns:List Int}{z:List V}{cx cy:Nat->List V}{n:Nat}(hHl:∀k,k<n->(Wh ns k:Int)<=ns.getD k default):∀k,k<=n->∀j,Wh ns k<=j->Ue ptz ns z cx cy k j=ptz
 |0,_,j,hj=>by simp only [Wh]at hj;simp only [Ue];rw [aO (by omega)]
 |
  k+1,hk,j,hj=>by
  have h1:=hHl k (by omega);simp only [Wh]at hj;simp only [Ue];rw [aO (by omega)];exact anw hHl k (by omega) j (by omega)
theorem aen{ns:List Int}{n:Nat}(hHl:∀k,k<n->(Wh ns k:Int)<=ns.getD k default):∀j,j<=n->∀i,i<=j->Wh ns i<=Wh ns j
 |0,_,i,hi=>by
           have:i=0:=by omega
           subst this;exact aK _
 |
  j+1,hj,i,hi=>by
  by_cases e:i=j+1
  ·subst e;exact aK _
  have h1:=aen hHl j (by omega) i (by omega);have h2:=hHl j (by omega);have h3:Wh ns (j+1)=(ns.getD j default).toNat+1:=rfl;omega
theorem arQ{ns:List Int}{z:List V}{cx cy:Nat->List V}{d:Nat}:(List.range (d+1)).map (Ue ptz ns z cx cy 0)=z::List.replicate d ptz:=by
 rw [List.range_succ_eq_map,bV,fG];simp only [Ue,if_true]
 congr 1
 apply fP
 intro i;rw [bM,jD];by_cases h:i<d
 ·rw [dJ h,aQ h];simp [Ue]
 rw [aZ (by simpa using h),aO h];rfl
theorem Ko{T:Tb}(h:Aa T){S:List Lk}(hw:Iz Lk.wf S)(hl:S.length<=1048576):PO T 269 [nY S] (.oJ [VO (Wi S),.bool (dsB S)]):=by
 have ci:=DX h.pK hw;obtain⟨x,hb⟩:∃x,lI S=x:=⟨_,rfl⟩;rw [hb]at ci;have hx:x=false\/x=true:=by cases x<;>simp
 rcases hx with hx|hx
 ·have hf:dsB S=false:=by unfold dsB dsC;rw [hb,hx];rfl
  rw [anj hf,hf];refine lW nR h.hT ?_;simp only [pI,Lz,St.enter,ak,aG,aV];refine ew ?_;refine jM ci ?_;refine y8 @hx ?_;exact(qC (sz:=6)).Ic
 have hb:lI S=true:=by rw [hb,hx]
 have cn:=(JZ h.vk (l:=S) hw).Wn (kJ _ _);rw [<-Hy hb]at cn;have cm:=(Oy h.Ld hw hl).Wn (aiU _ _);have cv:=(Nv h.JF hw hl).Wn (OX (Hw _ _) (Hw _ _));have wm:=(au0 S).2;have wx:=alM (abm S).1.1 (by have:=(abm S).1.2;omega);have wy:=alM (abm S).2.1 (by have:=(abm S).2.2;omega);have PX':=Og h.JC (m:=J9 S) (b:=Rl S) wm wx;have PY':=Og h.JC (m:=J9 S) (b:=Rn S) wm wy;have hnl:=zU S
 cases hc:dsC S
 ·have hf:dsB S=false:=by unfold dsB;rw [hc];rfl
  rw [anj hf,hf];have hc':¬((J9 S).length=(kC S).length/\(Rl S).length=(kC S).length/\(Rn S).length=(kC S).length):=fun ⟨a,b,c⟩=>by
   unfold dsC at hc;rw [hb,aT a,aT b,aT c]at hc
   cases hc
  clear PX' PY' hc hf wm wx wy;generalize J9 S=m at *;generalize Rl S=bx at *;generalize Rn S=b2 at *;refine lW nR h.hT ?_;simp only [pI,Lz,St.enter,ak,aG,aV];refine ew ?_;refine jM ci ?_;refine y8 @hx ?_;refine jM cn ?_;refine ew ?_;refine jM cm ?_;refine ew ?_;refine jM cv ?_;by_cases h1:m.length=(kC S).length
  ·have h1':((m.length:Int)=((kC S).length:Nat))=True:=gZ (by omega);by_cases h2:bx.length=(kC S).length
   ·have h2':((bx.length:Int)=((kC S).length:Nat))=True:=gZ (by omega);have h3':((b2.length:Int)=((kC S).length:Nat))=False:=iy fun e=>hc' ⟨h1,h2,by omega⟩;refine EN @h1' @h2' @h3' ?_;exact(qC (sz:=6)).Ic
   have h2':((bx.length:Int)=((kC S).length:Nat))=False:=iy (by omega);refine Af @h1' @h2' ?_;exact(qC (sz:=6)).Ic
  have h1':((m.length:Int)=((kC S).length:Nat))=False:=iy (by omega);refine y8 @h1' ?_;exact(qC (sz:=6)).Ic
 have hcc:=hc;unfold dsC at hcc;simp only [aH,bf]at hcc;obtain⟨⟨⟨_,lm⟩,lx⟩,ly⟩:=hcc;have h1':(((J9 S).length:Int)=((kC S).length:Nat))=True:=gZ (by omega);have h2':(((Rl S).length:Int)=((kC S).length:Nat))=True:=gZ (by omega);have h3':(((Rn S).length:Int)=((kC S).length:Nat))=True:=gZ (by omega)
 cases hB:dsB S
 ·rw [anj hB];have hB':¬(Yi (J9 S) (Rl S)=true/\Yi (J9 S) (Rn S)=true):=fun ⟨a,b⟩=>by
   unfold dsB at hB;rw [hc,a,b]at hB
   cases hB
  have px:=PX'.Wn (OX (Hw _ _) (uU _ _));have py:=PY'.Wn (OX (Hw _ _) (uU _ _));clear hc hB PX' PY' wm wx wy;generalize Qx (J9 S) (Rl S)=X at *;generalize Qx (J9 S) (Rn S)=Y at *;obtain⟨bx,hbx⟩:∃b,Yi (J9 S) (Rl S)=b:=⟨_,rfl⟩;obtain⟨b2,hby⟩:∃b,Yi (J9 S) (Rn S)=b:=⟨_,rfl⟩;rw [hbx]at px hB';rw [hby]at py hB';generalize J9 S=m at *;generalize Rl S=vx at *;generalize Rn S=vy at *;refine lW nR h.hT ?_;simp only [pI,Lz,St.enter,ak,aG,aV];refine ew ?_;refine jM ci ?_;refine y8 @hx ?_;refine jM cn ?_;refine ew ?_;refine jM cm ?_;refine ew ?_;refine jM cv ?_;refine EN @h1' @h2' @h3' ?_;refine jM px ?_;refine ew ?_;refine jM py ?_;have hbb:bx=false\/(bx=true/\b2=false):=by cases bx<;>cases b2<;>simp_all
  rcases hbb with hbb|⟨hbb,hb2⟩
  ·refine y8 @hbb ?_;exact(qC (sz:=6)).Ic
  refine Af @hbb @hb2 ?_;exact(qC (sz:=6)).Ic
 rw [ah3 hB];have hB2:=hB;unfold dsB at hB2;simp only [aH]at hB2;have lX:=ah4 hB2.1.2;have lY:=ah4 hB2.2;rw [hB2.1.2]at PX';rw [hB2.2]at PY';have hH:=agv S;have hHl:=fun k (hk:k<(kC S).length)=>au1 S hk;unfold Qh;have afH:=fun i (hi:i<(kC S).length)=>vC (l:=S) (getD_mem (l:=kC S) (i:=i) hi);clear hc hB hB2 wm wx wy;generalize Qx (J9 S) (Rl S)=X at *;generalize Qx (J9 S) (Rn S)=Y at *;generalize J9 S=m at *;generalize Rl S=vx at *;generalize Rn S=vy at *;generalize kC S=ns at *;refine aqA (fun x d=>x == 231||x == 186) h.hT ?_;simp only [pI,Lz,St.enter,ak,aG,aV];refine ew ?_;refine jM ci ?_;refine y8 @hx ?_;refine jM cn ?_;refine ew ?_;refine jM cm ?_;refine ew ?_;refine jM cv ?_;refine EN @h1' @h2' @h3' ?_;refine nK PX' (by (refine ew ?_;try with_reducible exact aC)) ?_;intro r s1 o1 G;obtain⟨v1,rfl,G1⟩:=G.Ic;clear G;refine ew ?_;refine nK PY' (by (refine ew ?_;try with_reducible exact aC)) ?_;intro r s2 o2 G;obtain⟨v2,rfl,G2⟩:=G.Ic;clear G;refine ew ?_;rcases gU ns.length with h0|h0
 ·have hpos:(0<(ns.length:Int))=False:=iy (by omega);have hres:(List.range (Wh ns ns.length)).map (MC ns X Y ns.length)=(List.range 1).map (MC ns X Y 0):=by rw [h0];rfl
  rw [hres];clear G1 G2 PX' PY' hres;refine y8 @hpos ?_;refine⟨by decide,?_⟩;generalize hp:s2.length=p;refine nK (Tf h.Me) (by (refine ew ?_;try with_reducible exact aC)) ?_;intro r q3 o3 G3;obtain⟨_,rfl,hQ3⟩:=G3.ow.lJ;obtain⟨x1,x2,x3,x4,rfl⟩:=hQ3.pt;have gl:p+1<=q3.length:=by have:=G3.len;simp at this;omega
  have Lp:jX q3 p=some ⟨6,List.replicate 1 [.bool false,.jZ,.jZ,.bool false,.jZ,.jZ]⟩:=(G3.old p (by simp;omega)).trans (by rw [<-hp];exact tZ _ _);have LF:=ni.leaf hQ3 rfl;simp only [dF,dS,dI,aH]at LF;have fz:∀o∈o3,p+1<=o:=fun o ho=>by have:=G3.fresh o ho;simp at this;omega
  have nz:=G3.nd;obtain⟨w1,w2,oz1,oz2,au9,rfl,hz1,hz2⟩:=pF (ts:=(kZ 0).cells) (ts':=(kZ 0).cells) hQ3;have hw1:w1.length=3:=hz1.len;obtain⟨e1,e2⟩:=fJ (show [V.bool (kZ 0).neg,x1,x2]++[V.bool (kZ 0).neg,x3,x4]=w1++w2 from au9) (by rw [hw1];rfl);subst e1;subst e2;clear G3 hQ3;refine EN @Lp @LF @hp ?_;have hql:p<q3.length:=by omega
  refine kV (fun x d=>x == 231||x == 186) (α:=Nat) (fun k=>⟨mM [.any,.any,.any,.any,ints ns,.any,.any,.any,.any,.any,.any,.any,.any,.lG p 0 1,.any,.any,.any,.any,.any,.any,.any,.any,.any,.any,.any,.any,.any,.any,.any,.any,.any,.any,.any,.any,.any,.any,.any,.any,.any,.any,.any,.any,.any,.any,.any,.any,.any,.any,.any,.any,.any,.any,.any,.any,.any,.any,.any,.any,.any,.any,.any,.any,.any,.any,.any,.any,.any,.any,.any,.any,.any,.any,.any,.any,.any,.any,.any,.any,.any,.any,ints ns,iv (ns.length:Nat),iv (k:Nat)],q3.set p (some ⟨6,[[V.bool (kZ 0).neg,x1,x2]++[V.bool (kZ 0).neg,x3,x4]]⟩),0,0,[],[]⟩) (fun k=>k=0) (fun k=>1-k) rfl 0 ?_ ?_ ?_
  ·rfl
  ·(refine kN ?_;exact uT)
  rintro k hk;have hck:¬((k:Int)<(ns.length:Nat)):=by omega
  refine y8 @hck ?_;have hup:jX (q3.set p (some ⟨6,[[V.bool (kZ 0).neg,x1,x2]++[V.bool (kZ 0).neg,x3,x4]]⟩)) p=some ⟨6,(List.range 1).map (Ue ptz ns ([V.bool (kZ 0).neg,x1,x2]++[V.bool (kZ 0).neg,x3,x4]) (fun _=>[]) (fun _=>[]) 0)⟩:=by
   rw [show (1:Nat)=0+1 from rfl,arQ];exact kT hql
  have up1:∀o∈oz1++oz2,jX (q3.set p (some ⟨6,[[V.bool (kZ 0).neg,x1,x2]++[V.bool (kZ 0).neg,x3,x4]]⟩)) o=jX q3 o:=fun o ho=>kK (by have:=fz o ho;omega);exact anv (n:=0) (D:=1) (fx:=fun _=>[]) (fy:=fun _=>[]) hup (hz1.frame fun o ho=>up1 o (iw _ ho)) (hz2.frame fun o ho=>up1 o (eP _ ho)) (fun i hi=>absurd hi (dA _)) (fun i hi=>absurd hi (dA _)) nz (fun i hi=>absurd hi (dA _)) (fun i hi=>absurd hi (dA _))
   (fun i j hi=>absurd hi (dA _)) (fun i j hi=>absurd hi (dA _)) (fun i j hi=>absurd hi (dA _)) (fun i hi=>absurd hi (dA _)) (fun i hi=>absurd hi (dA _))
 obtain⟨n',hn'⟩:∃n',ns.length=n'+1:=⟨ns.length-1,by omega⟩;have hD:Wh ns ns.length=(ns.getD n' default).toNat+1:=by rw [hn'];rfl
 obtain⟨d,hd⟩:∃d:Nat,ns.getD n' 0=(d:Int):=⟨(ns.getD n' 0).toNat,by have:=afH n' (by omega);rw [show ns.getD n' default=ns.getD n' 0 from rfl]at this;omega⟩;rw [show ns.getD n' default=(d:Int)from hd,fQ]at hD;have hd9:=(hH ns.length (aK _)).2;have hpos:(0<(ns.length:Int))=True:=gZ (by omega);have tn:((ns.length:Int)-1).toNat=n':=by omega
 have t1:((d:Int)+1).toNat=d+1:=by omega
 have hge:(0:Int)<=(ns.length:Int)-1:=by omega
 have hv1:=G1.ow;have hv2:=G2.ow;unfold oZ at hv1 hv2;rcases hv1.XE with ⟨e,_,_⟩|⟨px,rX,oX,rfl,hpx,hrX,hoX,hRX⟩
 ·have:=congrArg List.length e;simp at this;rw [this]at lX;simp at lX;omega
 rcases hv2.XE with ⟨e,_,_⟩|⟨py,rY,oY,rfl,hpy,hrY,hoY,hRY⟩
 ·have:=congrArg List.length e;simp at this;rw [this]at lY;simp at lY;omega
 have nd1:=G1.nd;rw [hoX,dX]at nd1;have nd2:=G2.nd;rw [hoY,dX]at nd2;obtain⟨fx,kx1,kx2⟩:=Vg hRX nd1.2;obtain⟨fy,ky1,ky2⟩:=Vg hRY nd2.2;have fr2:=G2.fresh;have aqx:=G2.old;rw [aU]at hrX hrY;simp only [aU]at kx1 kx2 ky1 ky2;rw [aU]at *;have hlX:X.length=ns.length:=by omega
 have hlY:Y.length=ns.length:=by omega
 refine Du @hpos @tn @hd @t1 ?_;refine⟨⟨by omega,by omega,by omega⟩,?_⟩;have auZ:∀o,o<s1.length->jX s2 o=jX s1 o:=aqx;have aH3:s1.length<=s2.length:=G2.len;have aH4:jX s2 px=some ⟨3,rX⟩:=(auZ px (kX hpx)).trans hpx;have aDK:=kX hpx;have aDL:=kX hpy;have kxl:∀i,i<X.length->∀o∈fx i,o<s1.length:=fun i hi=>(kx1 i hi).1.lt;have kyl:∀i,i<Y.length->∀o∈fy i,o<s2.length:=fun i hi=>(ky1 i hi).1.lt;have kyf:∀i,i<Y.length->∀o∈fy i,s1.length<=o:=fun i hi o ho=>fr2 o (by rw [hoY];exact fH _ ((ky1 i hi).2.2 o ho));clear hv1 hv2 hRX hRY nd1 nd2 fr2 hoX hoY aqx PX' PY' G1 G2;generalize hp:s2.length=p;refine nK (Tf h.Me) (by (refine ew ?_;try with_reducible exact aC)) ?_;intro r q3 o3 G3;obtain⟨_,rfl,hQ3⟩:=G3.ow.lJ;obtain⟨x1,x2,x3,x4,rfl⟩:=hQ3.pt;have gl:p+1<=q3.length:=by have:=G3.len;simp at this;omega
 have Lp:jX q3 p=some ⟨6,List.replicate (d+1) [.bool false,.jZ,.jZ,.bool false,.jZ,.jZ]⟩:=(G3.old p (by simp;omega)).trans (by rw [<-hp];exact tZ _ _);have LF:=ni.leaf hQ3 rfl;simp only [dF,dS,dI,aH]at LF;have hq3:∀o,o<s2.length->jX q3 o=jX s2 o:=fun o ho=>(G3.old o (by simp;omega)).trans (kQ ho);have fz:∀o∈o3,p+1<=o:=fun o ho=>by have:=G3.fresh o ho;simp at this;omega
 have nz:=G3.nd;have hzl:=hQ3.lt;obtain⟨w1,w2,oz1,oz2,au9,rfl,hz1,hz2⟩:=pF (ts:=(kZ 0).cells) (ts':=(kZ 0).cells) hQ3;have hw1:w1.length=3:=hz1.len;obtain⟨e1,e2⟩:=fJ (show [V.bool (kZ 0).neg,x1,x2]++[V.bool (kZ 0).neg,x3,x4]=w1++w2 from au9) (by rw [hw1];rfl);subst e1;subst e2;clear G3 hQ3;refine Du @t1 @Lp @LF @hp ?_;have hql:p<q3.length:=by omega
 have hDd:d+1=Wh ns ns.length:=hD.symm;obtain⟨z,hzz⟩:∃z,z=[V.bool (kZ 0).neg,x1,x2]++[V.bool (kZ 0).neg,x3,x4]:=⟨_,rfl⟩;have hz6:[V.bool (kZ 0).neg,x1,x2,V.bool (kZ 0).neg,x3,x4]=z:=hzz.symm;rw [hz6];refine kV (fun x d=>x == 231||x == 186) (α:=Nat×Store) (fun q=>⟨mM [.any,.any,.any,.any,ints ns,.any,.any,.any,.lG px 0 X.length,.any,.lG py 0 Y.length,.any,.any,.lG p 0 (d+1),.any,.any,.any,.any,.any,.any,.any,.any,.any,.any,.any,.any,.any,.any,.any,.any,.any,.any,.any,.any,.any,.any,.any,.any,.any,.any,.any,.any,.any,.any,.any,.any,.any,.any,.any,.any,.any,.any,.any,.any,.any,.any,.any,.any,.any,.any,.any,.any,.any,.any,.any,.any,.any,.any,.any,.any,.any,.any,.any,.any,.any,.any,.any,.any,.any,.any,ints ns,iv (ns.length:Nat),iv (q.1:Nat)],q.2,0,0,[],[]⟩) (fun q=>q.1<=ns.length/\jX q.2 p=some ⟨6,(List.range (d+1)).map (Ue ptz ns z (fun i=>rX.getD i []) (fun i=>rY.getD i []) q.1)⟩/\(∀o,o<q3.length->o≠p->jX q.2 o=jX q3 o)/\q3.length<=q.2.length) (fun q=>ns.length-q.1) rfl (0,q3.set p (some ⟨6,z::List.replicate d ptz⟩)) ?_ ?_ ?_
 ·exact⟨fV _,by rw [arQ];exact kT hql,fun o _ h=>kK h,by simp⟩
 ·(refine kN ?_;exact uT)
 clear Lp LF;rintro⟨k,u⟩ ⟨hk,hup,huo,hul⟩;dsimp only at hk hup huo hul;have hus:∀o,o<s2.length->jX u o=jX s2 o:=fun o ho=>(huo o (by omega) (by omega)).trans (hq3 o ho);have ayV:∀o,o<s1.length->jX u o=jX s1 o:=fun o ho=>(hus o (by omega)).trans (auZ o ho);by_cases hck:(k:Int)<(ns.length:Nat)
 ·have hkl:k<ns.length:=by omega
  have hkX:(k:Int)<(X.length:Nat):=by omega
  have hkY:(k:Int)<(Y.length:Nat):=by omega
  have hr:=afH k hkl;obtain⟨v,hv⟩:∃v:Nat,ns.getD k 0=(v:Int):=⟨(ns.getD k 0).toNat,by rw [show ns.getD k default=ns.getD k 0 from rfl]at hr;omega⟩;have hm:=aen hHl ns.length (aK _) (k+1) (by omega);have hk1:Wh ns (k+1)=(ns.getD k default).toNat+1:=rfl;have hlo:=hHl k hkl;rw [show ns.getD k default=(v:Int)from hv]at hk1 hlo;rw [fQ]at hk1;have hvd:v<d+1:=by omega
  have aH7:(v:Int)<((d+1:Nat):Int):=by omega
  have hrow:((List.range (d+1)).map (Ue ptz ns z (fun i=>rX.getD i []) (fun i=>rY.getD i []) k))[v]? = some [.bool false,.jZ,.jZ,.bool false,.jZ,.jZ]:=by
   rw [bM,dJ hvd];simp only [dh];rw [anw hHl k hk v (by omega)];rfl
  have hset:=aqG (n0:=ptz) (z:=z) (cx:=fun i=>rX.getD i []) (cy:=fun i=>rY.getD i []) (D:=d+1) (show ns.getD k default=(v:Int)from hv);have hrl:((List.range (d+1)).map (Ue ptz ns z (fun i=>rX.getD i []) (fun i=>rY.getD i []) k)).length=d+1:=by simp
  have okx:=(kx1 k (by omega)).1;have oky:=(ky1 k (by omega)).1;rw [mg (by omega)]at okx oky;have gX:rX[k]? = some (rX.getD k []):=al0 (by omega);have gY:rY[k]? = some (rY.getD k []):=al0 (by omega);obtain⟨a1,a2,ex⟩:=okx.rat
  obtain⟨b1,b2,ey⟩:=oky.rat
  have lx:=okx.leaf rfl;have ly:=oky.leaf rfl;rw [ex]at gX lx;rw [ey]at gY ly;simp only [dF,dS,dI,aH]at lx ly;rw [ex,ey]at hset;have hux:=(ayV px aDK).trans hpx;have huy:=(hus py aDL).trans hpy;have hpu:p<u.length:=by omega
  generalize (List.range (d+1)).map (Ue ptz ns z (fun i=>rX.getD i []) (fun i=>rY.getD i []) k)=rows at *;generalize (X.getD k default).neg=n1 at *;generalize (Y.getD k default).neg=n2 at *;refine Ia (ah hck hv) (ah hux (ah huy hup)) (ah gX (ah gY hrow)) (ah lx ly) @kP @lH ?_;refine⟨by unfold rO;rfl,?_⟩;refine⟨(k+1,?st),?c1,⟨?c2,?c4,?c5,?c6⟩,?c3⟩
  case c3=>dsimp only;(refine kN ?_;exact uT)
  case c1=>dsimp only;omega
  case c2=>dsimp only;omega
  case c4 =>
   dsimp only;rw [<-hset];exact kT hpu
  case c5 =>
   dsimp only;intro o h1 h2;rw [kK h2];exact huo o h1 h2
  case c6=>simp;omega
 have hke:k=ns.length:=by omega
 subst hke;refine y8 @hck ?_;rw [hD];rw [hzz]at hup;have up1:∀o∈oz1++oz2,jX u o=jX q3 o:=fun o ho=>huo o (hzl o ho) (by have:=fz o ho;omega);refine anv hup (hz1.frame fun o ho=>up1 o (iw _ ho)) (hz2.frame fun o ho=>up1 o (eP _ ho)) (fx:=fx) (fy:=fy) (fun i hi=>?_) (fun i hi=>?_) nz (fun i hi=>(kx1 i (by omega)).2.1) (fun i hi=>(ky1 i (by omega)).2.1)
  (fun i j hi hj=>kx2 i j (by omega) (by omega)) (fun i j hi hj=>ky2 i j (by omega) (by omega)) (fun i j hi hj o h1 h2=>?_) (fun i hi o h1 h2=>?_) (fun i hi o h1 h2=>?_)
 ·have:=(kx1 i (by omega)).1;rw [mg (by omega)]at this;exact this.frame fun o ho=>ayV o (kxl i (by omega) o ho)
 ·have:=(ky1 i (by omega)).1;rw [mg (by omega)]at this;exact this.frame fun o ho=>hus o (kyl i (by omega) o ho)
 ·have:=kxl i (by omega) o h1;have:=kyf j (by omega) o h2;omega
 ·have:=fz o h1;have:=kxl i (by omega) o h2;omega
 have:=fz o h1;have:=kyl i (by omega) o h2;omega
def IsA(s:Store)(v:V)(xs:List Int):Prop:=(xs=[]/\v=.jZ)\/∃p,v=.lG p 0 xs.length/\jX s p=some ⟨1,kR xs⟩/\p≠0/\0<xs.length
theorem IsA.fr{s s2:Store}{v:V}{xs:List Int}(h:IsA s v xs)(hf:∀p,p≠0->p<s.length->jX s2 p=jX s p):IsA s2 v xs:=by
 rcases h with h|⟨p,h1,h2,h3,h4⟩
 ·exact .inl h
 exact .inr ⟨p,h1,(hf p h3 (kX h2)).trans h2,h3,h4⟩
structure OrI (ns:List Int) (k:Nat) (o:List Int):Prop where
 len:o.length=k
 sub:∀a∈o,a∈ns.take k
 nd:o.Nodup
def CO:Fn:=⟨1,110,[.tmp 2],(sr [oN 2 mF] (.seq (sr [oW 16 0,oN 17 (ln 16),oN 18 (bc .gtr 17 1048576)] (cd 18 (sr [oN 2 mT] .ret) .skip)) (sr [oW 19 0,oN 20 (cl 171 [19]),oW 3 20] (sr [oW 21 3,oN 22 (cl 172 [21]),oW 4 22] (.seq (sr [oW 23 4,oN 24 (ln 23),oN 25 (bc .eql 24 0)] (cd 25 (sr [oN 2 mF] .ret) .skip)) (sr [oW 26 4,oW 27 0,oN 28 (.call 173 [(.t 27),(cI 1)]),oW 29 4,oN 30 (ln 29),oN 31 (bt .rem 28 30),oN 32 (ix 1 26 31),oN 33 (lF 1 32),oW 5 33] (.seq (rf 2 [oK 35 2 (oV 3),oK 36 2 (oV 5),oK 37 2 (cl 268 [35,36]),oK 34 2 (oV 37),oK 38 2 (ex 0 34),oK 39 2 (ex 1 34),oK 40 2 (ex 2 34),oK 41 2 (ex 3 34),oN 6 (.alloc zz4),oK 8 1 (.alloc uz),⟨none,none,2,.store 5 (.t 6) (.t 38),[]⟩,oK 7 2 (oV 39),⟨none,none,2,.store 3 (.t 8) (.t 40),[]⟩,oK 9 2 (oV 41)]) (sr [oW 43 3,oN 44 (cl 269 [43]),oW 42 44,oN 45 (ex 0 42),oN 46 (ex 1 42),oW 10 45,oW 11 46] (sr [oW 48 7,oN 49 (cl 269 [48]),oW 47 49,oN 50 (ex 0 47),oN 51 (ex 1 47),oW 12 50,oW 13 51] (.seq (sr [oW 52 9,oN 53 (nt 52),oW 54 53,oG 54 false 55 (oV 11),oG 54 false 56 (nt 55),oN 57 (.pick (.t 54) (.c (.bool true)) (.t 56)),oW 58 57,oG 58 false 59 (oV 13),oG 58 false 60 (nt 59),oN 61 (.pick (.t 58) (.c (.bool true)) (.t 60))] (cd 61 (sr [oN 2 mF] .ret) .skip)) (.seq (sr [oW 62 7,oN 63 (cl 172 [62]),oN 64 (ln 63),oN 65 (.qw (cI 0))] (.block 0 (.loop (sr [oN 66 (bt .lss 65 64)] (.seq (cd 66 .skip (.exit 0)) (.seq (.block 1 (sr [oN 67 (ix 1 63 65),oN 68 (lF 1 67),oW 15 68] (.seq (rt 0 [oW 69 15,oW 70 5,oA 71 0 (bt .eql 69 70) [0,1],oA 72 0 (oV 71) [2],oH 72 false 73 0 (oV 15) [3],oH 72 false 74 0 (bc .lss 73 0) [4,3],oA 75 0 (.pick (.t 72) (.c (.bool true)) (.t 74)) [3,5],oA 76 0 (oV 75) [6,3],oH 76 false 77 0 (oV 15) [7],oH 76 false 78 0 (oV 10) [7],oH 76 false 79 0 (ln 78) [9,7],oH 76 false 80 0 (bt .geq 77 79) [8,10,7],oA 81 0 (.pick (.t 76) (.c (.bool true)) (.t 80)) [7,11],oA 82 0 (oV 81) [12,7],oH 82 false 83 0 (oV 15) [13],oH 82 false 84 0 (oV 12) [13],oH 82 false 85 0 (ln 84) [15,13],oH 82 false 86 0 (bt .geq 83 85) [14,16,13],oA 87 0 (.pick (.t 82) (.c (.bool true)) (.t 86)) [13,17],oA 88 0 (oV 87) [18,13],oH 88 false 89 0 (oV 10) [19],oH 88 false 90 0 (oV 15) [19],oH 88 false 91 0 (oV 15) [19],oH 88 false 92 0 (bc .add 91 1) [22,19],oH 88 false 93 0 (.slice 6 (.t 89) (some (.t 90)) (some (.t 92))) [20,21,23,19],oH 88 false 94 0 (oV 12) [19],oH 88 false 95 0 (oV 15) [19],oH 88 false 96 0 (oV 15) [19],oH 88 false 97 0 (bc .add 96 1) [27,19],oH 88 false 98 0 (.slice 6 (.t 94) (some (.t 95)) (some (.t 97))) [25,26,28,19],oH 88 false 99 0 (cl 12 [93,98]) [24,29,19,19],oH 88 false 100 0 (nt 99) [30,19],oA 101 0 (.pick (.t 88) (.c (.bool true)) (.t 100)) [19,31]]) (cd 101 (sr [oN 2 mF] .ret) .skip)))) (rg [oN 102 (bc .add 65 1),oW 65 102]))))))) (sr [oW 103 7,oN 104 (cl 172 [103]),oN 105 (ln 104),oW 106 4,oN 107 (ln 106),oN 108 (bc .sub 107 1),oN 109 (bt .eql 105 108),oW 2 109] .ret))))))))))))⟩
structure Oh (T:Tb):Prop where
 hT:T 266=some CO
 Ub:Dw T
 YN:JA T
 Py:Jp T
 YO:Jt T
 Uc:EC T
 H7:Aa T
theorem Zm{T:Tb}(h:Oh T)(x:List UInt8)(wx:x.length<=9223372036854775807):PF T 266 [bytesV x] (.bool true):=by
 refine kS nR h.hT ?_;simp only [CO,Lz];refine ev ?_;refine kY (fun hb=>?_) fun hb=>?_
 ·refine ev ?_;exact kM _
 have hx:x.length<=1048576:=by omega
 obtain⟨n,S,hS,cm⟩:=ajq h.YN hx;have hw:=hS.wf;have hlen:=hS.len;have hz:PS Lk.sz S<=1048576:=by have:=hS.sz;omega
 have hsl:S.length<=1048576:=by omega
 have c1:=(S9 h.Py (l:=S) hw).Wn (kJ _ _);have hn1:=RI hS;have hn2:=zU S;obtain⟨m,hm,c2⟩:=ajj h.YO (n:=1) (by omega) hx;have ht:0<=m.tmod ((kC S).length:Int)/\m.tmod ((kC S).length:Int)<(kC S).length:=⟨Int.tmod_nonneg _ hm.1,Int.tmod_lt_of_pos _ (by omega)⟩;obtain⟨t,htt⟩:∃t:Nat,m.tmod ((kC S).length:Int)=(t:Int):=⟨(m.tmod ((kC S).length:Int)).toNat,by omega⟩;have htl:t<(kC S).length:=by omega
 obtain⟨v,hv⟩:∃v,(kC S).getD t 0=v:=⟨_,rfl⟩;have hvm:v∈kC S:=by rw [<-hv];exact zY htl
 have hR:=aqE hS hvm;have ava:=amI S v;have wM:=ava.2.2.1;have hMl:(H6 S v).length<=1048576:=by have:=QU Lk.sz (H6 S v);have:=ava.1.2.2.1;omega
 have cr:=(YD h.Uc (S:=S) (v:=v) hw).Wn (ala (atL _ _) (aps _ _) (apu _ _) (uU _ _));rw [hR.b]at cr;have cd1:=(Ko h.H7 (S:=S) hw hsl).Wn (OX (agY _ _) (uU _ _));rw [hR.d1]at cd1;have cd2:=(Ko h.H7 (S:=H6 S v) wM hMl).Wn (OX (agY _ _) (uU _ _));rw [hR.d2]at cd2;have c3:=(S9 h.Py (l:=H6 S v) wM).Wn (kJ _ _);have hn3:=zU (H6 S v);have hat:=hR.at_;have hlen2:=hR.len;have wA:=(ank S).2;have wB:=(ank (H6 S v)).2;have hrn:=fun u hu=>vC (l:=H6 S v) (a:=u) hu;clear ava hR hvm;generalize kC S=ns at *;generalize kC (H6 S v)=ms at *;generalize Wi S=P at *;generalize Wi (H6 S v)=Q at *;generalize Zj S v=c at *;generalize H6 S v=M at *;generalize rnE S v=e at *;refine ev ?_;refine jM cm ?_;refine ev ?_;refine jM c1 ?_;refine ev ?_;have hne:¬((ns.length:Nat):Int)=0:=by omega
 refine ev1 @hne ?_;refine jM c2 ?_;refine zf @htt @hv ?_;refine jM cr ?_;refine ev ?_;refine jM cd1 ?_;refine ev ?_;refine jM cd2 ?_;refine ev ?_;refine jM c3 ?_;refine ev ?_;refine kV (fun _ _=>false) (α:=Nat) (fun i=>⟨mM [.any,.any,.any,.any,ints ns,iv v,.any,nY M,.any,.any,VO P,.any,VO Q,.any,.any,.any,.any,.any,.any,.any,.any,.any,.any,.any,.any,.any,.any,.any,.any,.any,.any,.any,.any,.any,.any,.any,.any,.any,.any,.any,.any,.any,.any,.any,.any,.any,.any,.any,.any,.any,.any,.any,.any,.any,.any,.any,.any,.any,.any,.any,.any,.any,.any,ints ms,iv (ms.length:Nat),iv (i:Nat)],[],0,0,[],[]⟩) (fun i=>i<=ms.length) (fun i=>ms.length-i) rfl 0 ?_ ?_ ?_
 ·exact fV _
 ·exact Ky
 rintro i hi;by_cases hc:(i:Int)<(ms.length:Nat)
 ·have hil:i<ms.length:=by omega
  have hmi:=zY (l:=ms) hil;obtain⟨k1,k2,k3,k4,k5⟩:=hat _ hmi;have hr9:=hrn _ hmi;generalize hu:ms.getD i 0=u at *;obtain⟨d,rfl⟩:∃d:Nat,u=(d:Int):=⟨u.toNat,by omega⟩;rw [fQ]at k3 k4 k5;have g1:decide ((d:Int)=v)=false:=bI k1;have g2:decide ((d:Int)<0)=false:=bI (by omega);have g3:decide (((P.length:Nat):Int)<=(d:Int))=false:=bI (by omega);have g4:decide (((Q.length:Nat):Int)<=(d:Int))=false:=bI (by omega);have hw1:IntKind.i64.wrap ((d:Int)+1)=((d+1:Nat):Int):=by rw [w64 (by omega)];omega
  have hs:∀R:List Pt,d<R.length->List.drop d (List.take (d+1) (R.map Pt.cells))=[R.getD d default].map Pt.cells:=fun R hR=>by
   have hl:d<(R.map Pt.cells).length:=by simpa using hR
   rw [List.drop_take,show d+1-d=1 by omega,dH hl,jK,List.take_zero,List.getElem_map,aj,au hR];rfl
  have wp:Iz Pt.wf [P.getD d default]:=⟨by simp,fun q hq=>by rw [bD.1 hq];exact wA.2 _ (getD_mem k3)⟩;have cs:=UH h.Ub (a:=[P.getD d default]) (b:=[P.getD d default]) wp wp;rw [aT rfl]at cs;simp (disch:=first|omega|assumption|(simp;done)|(simp;omega)) only [↓EVp,EVq,splice,Nat.reduceAdd,Nat.reduceEqDiff,Nat.reduceMul,Nat.reduceLT,Nat.reduceLeDiff,reduceIte,V.leaf,JD,Kq,MN,cZ,dK,eF,dW,fM,reduceCtorEq,hc,hu,g1,g2,g3,g4,hw1];rw [hs P k3,hs Q k4,<-k5];refine jM cs ?_;simp (disch:=first|omega|assumption|(simp;done)|(simp;omega)) only [↓EVp,EVq,splice,Nat.reduceAdd,Nat.reduceEqDiff,Nat.reduceMul,Nat.reduceLT,Nat.reduceLeDiff,reduceIte,V.leaf,JD,Kq,MN,cZ,dK,eF,dW,fM,reduceCtorEq,hc,hu,g1,g2,g3,g4,hw1];refine⟨i+1,by omega,by omega,?_⟩;exact Ky
 refine ev1 @hc ?_;refine jM c3 ?_;refine ev1 @hc ?_;rw [aT (by omega)];exact kM _
def anx(P:Program)(fid:Nat)(o:aeG):Prop :=
 ∀args σ r σ',o.sem args σ r σ'->∀w M D (vals:Array Value),qh w D (XS M D) args vals.toList->uy w D M σ->Calls P fid vals w (Post M D w σ.length r σ')
def Fits(P:Program)(ν:Nat->Option Nat)(T:Tb):Prop :=
 ∀fid f F,ν fid=some f->T f=some F->(∃fn,P.funcs[fid]? = some fn/\aeP P ν fn=some F)\/∃o,F.body=.lib o/\anx P fid o
theorem avb{T:Tb}{j:Job}{x:Out}(h:Run T j x):∀o st,j≠.code (.lib o) st:=by
 induction h with
 |gc ρ hn hρ h ih=>intro o st e;cases e;exact ih o _ rfl
 |forget he ho hk h ih=>intro o st e;cases e;exact ih o _ rfl
 |re W h h' ih=>intro o st e;cases e;exact ih o _ rfl
 |_=>intro o st e;cases e
theorem aqJ{P:Program}{ν:Nat->Option Nat}{nt:Nat}{o:aeG}:∀c:Code,Uk P ν nt c≠some (.lib o):=by
 intro c h;unfold Uk at h
 cases c<;>simp at h
 all_goals (try (split at h<;>simp at h))
theorem anz{P:Program}{ν:Nat->Option Nat}{fn:Func}{F:Fn}{o:aeG}(h:aeP P ν fn=some F)(hb:F.body=.lib o):False:=by
 unfold aeP at h;split at h<;>first|(cases h;done)|skip
 split at h<;>first|(cases h;done)|skip
 rename_i b rs' hb' ayW;split at h<;>first|(cases h;done)|skip
 simp only [aB]at h;subst h;simp only []at hb;subst hb;exact aqJ _ hb'
section
variable {P : Program} {ν : Nat -> Option Nat} {T : Tb}
theorem aeo{m:Nat}{x:ql}{l:List ql}(h:okK m (x::l)=true):okK m l=true/\∀y∈l,y.i.makes=true->y.k≠x.k/\y.k<m:=by
 have hm:∀(l:List ql),okK m l=true->∀y∈l,y.i.makes=true->y.k<m:=by
  intro l
  induction l with
  |nil=>intro _ y hy;cases hy
  |
   cons z l ih =>
   intro h y hy hmk;simp only [okK,aH]at h;rcases aI.1 hy with rfl|hy
   ·have:=h.1;rw [aQ hmk]at this;simp only [aH,bf]at this;exact this.1
   exact ih h.2 y hy hmk
 simp only [okK,aH]at h;refine⟨h.2,fun y hy hmk=>⟨?_,hm l h.2 y hy hmk⟩⟩;by_cases hx:x.i.makes=true
 ·have:=h.1;rw [aQ hx]at this;simp only [aH,bf,aX]at this;have:=this.2 y hy;simpa [hmk]using this
 have:=h.1;rw [aO hx]at this;simp only [beq_iff_eq]at this;have:=hm l h.2 y hy hmk;omega
theorem agA{m:Nat}:∀(l:List ql),okK m l=true->∀x∈l,x.i.makes=true->x.k<m
 | [],_,y,hy,_=>by cases hy
 |
  z::l,h,y,hy,hmk=>by
  simp only [okK,aH]at h;rcases aI.1 hy with rfl|hy
  ·have:=h.1;rw [aQ hmk]at this;simp only [aH,bf]at this;exact this.1
  exact agA l h.2 y hy hmk
theorem anA{m:Nat}:∀(l:List ql),okK m l=true->∀(i j:Nat) (x y:ql),l[i]? = some x->l[j]? = some y->i≠j->x.i.makes=true->x.k≠y.k
 | [],_,i,j,x,y,hx,_,_,_=>by simp at hx
 |
  z::l,h,i,j,x,y,hx,hy,hij,hmk=>by
  obtain⟨k1,k2⟩:=aeo h
  cases i with
  |
   zero =>
   simp at hx;subst hx
   cases j with
   |zero=>exact absurd rfl hij
   |
    succ j =>
    have hy':y∈l:=bg (by simpa using hy);by_cases hmy:y.i.makes=true
    ·exact fun e=>(k2 y hy' hmy).1 e.symm
    -- one that makes none has the number m
    have hm:∀(l:List ql),okK m l=true->∀y∈l,y.i.makes≠true->y.k=m:=by
     intro l
     induction l with
     |nil=>intro _ y hy;cases hy
     |
      cons z l ih =>
      intro h y hy hn;simp only [okK,aH]at h;rcases aI.1 hy with rfl|hy
      ·have:=h.1;rw [aO hn]at this;simpa using this
      exact ih h.2 y hy hn
    have:=hm l k1 y hy' hmy;have h3:=agA _ h z (by simp) hmk;omega
  |
   succ i =>
   have hx':x∈l:=bg (by simpa using hx)
   cases j with
   |
    zero =>
    simp at hy;subst hy;exact(k2 x hx' hmk).1
   |succ j=>exact anA l k1 i j x y (by simpa using hx) (by simpa using hy) (by omega) hmk
theorem agB{o:ql}{l:List ql}{st st1 st2:St}(h1:acj P ν o st st1)(h2:aj9 P ν l st1 st2):aj9 P ν (o::l) st st2:=by
 obtain⟨a1,a2,a3,a4⟩:=h1;obtain⟨b1,b2,b3,b4⟩:=h2;refine⟨b1.trans a1,b2.trans a2,dw a3 b3,?_⟩;intro ops dr nt m k rest htr hk M w0 D0 D a w hs hid Q hQ
 cases rest with
 |nil=>simp [NS]at htr
 |
  cons r rest =>
  simp only [NS]at htr;split at htr<;>first|(cases htr;done)|skip
  rename_i x hx;split at htr<;>first|(cases htr;done)|skip
  rename_i l' hl';simp only [aB,jH]at htr;obtain⟨rfl,rfl⟩:=htr;obtain⟨k1,k2⟩:=aeo hk;have key:=a4 ops dr nt m k r hx M w0 D0 D a w hs (hid x (by simp)) (wpList P ops Q rest) Q (fun D' a' w' hs' hun=>by
   refine b4 ops dr nt m _ rest hl' k1 M w0 D0 D' a' w' hs' (fun y hy hmk=>?_) Q hQ;rw [a1];obtain⟨e1,e2⟩:=hid y (by simp [hy]) hmk;exact⟨bn e1 a3,hun _ (Nat.le_add_right _ _) e1 e2 (fun h=>(k2 y hy hmk).1 (by omega))⟩)
  unfold wpList;split
  ·rename_i hw;rw [aQ hw]at key;exact .inl key
  rename_i hw;rw [aO hw]at key;exact key
theorem Hg{nt:Nat}{cc:Code}{c:C}(h:Uk P ν nt cc=some c):match c with
  |.skip=>cc=.skip
  |.reg d m l=>∃id ops,cc=.region id ops d/\NS P ν ops d nt m 0 ops.toList=some l
  |.seq x y=>∃a b,cc=.seq a b/\Uk P ν nt a=some x/\Uk P ν nt b=some y
  |.cond s x y=>∃o a b,cc=.cond o a b/\Lh o=some s/\Uk P ν nt a=some x/\Uk P ν nt b=some y
  |.block id x=>∃a,cc=.block id a/\Uk P ν nt a=some x
  |.loop x=>∃a,cc=.loop a/\Uk P ν nt a=some x
  |.exit id=>cc=.exit id
  |.ret=>cc=.ret
  |.lib _=>False:=by
 cases cc with
 |skip=>simp only [Uk,aB]at h;subst h;rfl
 |
  region id ops d =>
  simp only [Uk,aJ]at h;obtain⟨l,h1,rfl⟩:=h;exact⟨id,ops,rfl,h1⟩
 |
  seq a b =>
  simp only [Uk]at h;split at h<;>first|(cases h;done)|skip
  rename_i x y h1 h2;simp only [aB]at h;subst h;exact⟨a,b,rfl,h1,h2⟩
 |
  cond o a b =>
  simp only [Uk]at h;split at h<;>first|(cases h;done)|skip
  rename_i s x y h1 h2 h3;simp only [aB]at h;subst h;exact⟨o,a,b,rfl,h1,h2,h3⟩
 |
  block id a =>
  simp only [Uk,aJ]at h;obtain⟨x,h1,rfl⟩:=h;exact⟨a,rfl,h1⟩
 |
  loop a =>
  simp only [Uk,aJ]at h;obtain⟨x,h1,rfl⟩:=h;exact⟨a,rfl,h1⟩
 |exit id=>simp only [Uk,aB]at h;subst h;rfl
 |ret=>simp only [Uk,aB]at h;subst h;rfl
 |_=>simp [Uk]at h
theorem aie{c:C}{e:Ex}{st st':St}(hk:st'.keep=st.keep)(h:aaA P ν c e st st'):aeQ P ν (.loop c) e st st':=by
 refine⟨hk,?_⟩;intro nt cc htr M w0 D0 D a w hs Q hQ;obtain⟨cb,rfl,hb⟩:=Hg htr;intro b k cs;obtain⟨x,a',w',q,harr⟩:=h nt cb hb M w0 D0 D a w hs Q hQ b k cs;exact⟨x,a',w',q,.of_steps (.one step_loop) harr⟩
theorem aqK{e:Ex}(h:e≠.normal):acf e≠.normal:=by cases e<;>simp [acf]at h ⊢
theorem aqL{next:Act->World->Prop}{Q:Exit->Act->World->Prop}{e:Ex}(h:e≠.normal){a:Act}{w:World}(hq:Q (acf e) a w):Exit.then next Q (acf e) a w:=by
 cases e<;>first|(simp at h;done)|exact hq
def Vk(tmps:Array Value):ResultVar->Sem Value
 |.tmp t=>pure (tmps.getD t undef)
 |.cell q t=>do loadVar t (<-asAddr (tmps.getD q undef))
theorem agC(fn:Func)(tmps:Array Value):results fn tmps=(do let vs <-fn.results.mapM (Vk tmps);pure (if h:vs.size=1 then vs[0]else .tuple vs)):=rfl
theorem anB(hT:Fits P ν T){f:Nat}{args:List V}{σ:Store}{F:Fn}{o:aeG}{r:V}{σ':Store}(hf:T f=some F)(hb:F.body=.lib o)(h:o.sem args σ r σ'):QI P ν f args σ r σ':=by
 intro fid avc w M D vals hv hS;rcases hT fid f F avc hf with ⟨fn,hfn,htr⟩|⟨o',e,hO⟩
 ·exact(anz htr hb).elim
 rw [hb]at e
 cases e
 exact hO args σ r σ' h w M D vals hv hS
theorem aqM(hT:Fits P ν T){f:Nat}{args:List V}{σ:Store}{F:Fn}{e:Ex}{st':St}{rs:List V}(hf:T f=some F)(hl:args.length=F.nargs)(hnl:∀o,F.body≠.lib o)
  (ih:aeQ P ν F.body e (St.enter args σ) st') (he:e=.normal\/e=.ret) (hr:F.res.mapM (Oj.get st')=some rs):QI P ν f args σ (vG rs) st'.objs:=by
 intro fid avc w M D vals hv hS;rcases hT fid f F avc hf with ⟨fn,hfn,htr⟩|⟨o,e,_⟩
 case inr=>exact(hnl o e).elim
 unfold aeP at htr;split at htr<;>first|(cases htr;done)|skip
 rename_i body hbody;split at htr<;>first|(cases htr;done)|skip
 rename_i b rs' hb ayW;split at htr<;>first|(cases htr;done)|skip
 rename_i hle;simp only [aB]at htr;subst htr;have hvl:vals.size=args.length:=by simpa using (qP _ _ hv).symm
 refine calls_of_wp hfn hbody ?_;have hs0:SR fn.ntmps M w D (St.enter args σ) D { tmps:=vals++Array.replicate (fn.ntmps-vals.size) undef,defers:=[] } w:=by
  refine⟨?_,?_,rfl,hS,Gr.refl _ _,fun o d h=>.inl ⟨o,d,h,rfl⟩,fun o _=>uS.refl _⟩
  ·intro t;simp only [St.enter];by_cases ht:t<args.length
   ·obtain⟨y,h1,h2⟩:=FZ _ _ hv t args[t] (by simp [ht]);have e1:mM args t=args[t]:=by simp [mM,ht]
    rw [e1];have e2:(vals++Array.replicate (fn.ntmps-vals.size) undef).getD t undef=y:=by
     rw [dO,Array.getElem?_append_left (by omega)];rw [<-iE,h1];rfl
    rw [e2];exact h2
   have e1:mM args t=.any:=by simp [mM,List.getD,aZ (Nat.le_of_not_lt ht)]
   rw [e1];simp only [rd]
  simp only [Array.size_append,Array.size_replicate];simp only []at hl;omega
 refine ih.2 fn.ntmps body hb M w D D _ w hs0 _ ?_;intro D' a' w' hs';have hres:∃v,(results fn a'.tmps).run P w'=.ok v w'/\rd w' D' (XS M D') (vG rs) v:=by
  have hlist:∀(vars:List ResultVar) (rl:List Oj) (vl:List V),vars.mapM (agN P)=some rl->rl.mapM (Oj.get st')=some vl ->
    ∃ys:List Value,(vars.mapM (Vk a'.tmps)).run P w'=.ok ys w'/\qh w' D' (XS M D') vl ys:=by
   intro vars
   induction vars with
   |nil=>intro rl vl h1 h2;simp at h1;subst h1;simp at h2;subst h2;exact⟨[],by simp,by simp [qh]⟩
   |
    cons x vars ihv =>
    intro rl vl h1 h2;simp only [bU,jh,iF,eu,aB]at h1;obtain⟨r,hr1,rl',hr2,rfl⟩:=h1;simp only [bU,jh,iF,eu,aB]at h2;obtain⟨z,hz1,vl',hz2,rfl⟩:=h2;obtain⟨ys,k1,k2⟩:=ihv rl' vl' hr2 hz2
    cases x with
    |
     tmp t =>
     simp only [agN,aB]at hr1;subst hr1;simp only [Oj.get,aB]at hz1;subst hz1;refine⟨a'.tmps.getD t undef::ys,?_,by simp only [qh];exact⟨_,_,rfl,hs'.env t,k2⟩⟩;have hg:(Vk a'.tmps (.tmp t)).run P w'=.ok (a'.tmps.getD t undef) w':=rfl;simp only [bU,Sem.run_bind,Sem.run_pure,bP,k1,hg]
    |
     cell q t =>
     simp only [agN,aJ]at hr1;obtain⟨⟨n,g⟩,hg,rfl⟩:=hr1;simp only [Oj.get]at hz1;split at hz1<;>first|(cases hz1;done)|skip
     rename_i row off hrow;obtain⟨u,j1,j2⟩:=RX hs'.store hg hrow (hs'.env q) hz1;obtain⟨bl,oo,ayX,_⟩:=acd hs'.store hrow (hs'.env q);refine⟨u::ys,?_,by simp only [qh];exact⟨_,_,rfl,j2,k2⟩⟩;have j1':(loadVar t ⟨bl,oo+off,none⟩).run P w'=.ok u w':=by
      rw [ayX]at j1;simpa [Instr.loadAt,Instr.sureAddr]using j1
     have hg:(Vk a'.tmps (.cell q t)).run P w'=.ok u w':=by
      simp only [Vk,ayX,asAddr,Sem.run_bind,Sem.run_pure,bP,j1']
     simp only [bU,Sem.run_bind,Sem.run_pure,bP,k1,hg]
  obtain⟨ys,k1,k2⟩:=hlist fn.results.toList rs' rs ayW hr;refine⟨if h:ys.toArray.size=1 then ys.toArray[0]else .tuple ys.toArray,?_,?_⟩
  ·have:(fn.results.mapM (Vk a'.tmps)).run P w'=.ok ys.toArray w':=by
    rw [<-iT (xs:=fn.results),List.mapM_toArray,Sem.run_map,k1];rfl
   rw [agC];simp only [Sem.run_bind,this,bP,Sem.run_pure]
  have hlen:=qP _ _ k2;have gen:∀(rs:List V) (ys:List Value),qh w' D' (XS M D') rs ys->rs.length=ys.length->rd w' D' (XS M D') (vG rs) (if h:ys.toArray.size=1 then ys.toArray[0]else .tuple ys.toArray):=by
   intro rs ys h hl
   cases rs with
   |
    nil =>
    cases ys with
    |nil=>simp only [vG];rw [dif_neg (by simp)];simp only [rd];exact⟨_,rfl,h⟩
    |cons y ys=>simp at hl
   |
    cons x xs =>
    cases ys with
    |nil=>simp at hl
    |
     cons y ys =>
     cases xs with
     |
      nil =>
      cases ys with
      |
       nil =>
       simp only [qh]at h;obtain⟨y',ys',h0,h1,h2⟩:=h
       cases h0
       simpa [vG]using h1
      |cons y' ys=>simp at hl
     |
      cons x' xs =>
      cases ys with
      |nil=>simp at hl
      |
       cons y' ys =>
       simp only [vG];rw [dif_neg (by simp)];simp only [rd];exact⟨_,rfl,h⟩
  exact gen rs ys k2 hlen
 obtain⟨v,hv1,hv2⟩:=hres;have hfin:bodyPost P fn (Post M D w σ.length (vG rs) st'.objs) .ret a' w' :=
  ⟨hs'.df,v,hv1,v,D',rfl,hv2,hs'.store,hs'.gr,hs'.fr,fun o ho=>hs'.kp o (by rw [ih.1];exact ho)⟩
 rcases he with rfl|rfl<;>exact hfin
theorem Vl{ops:Array Oper}{dr:Bool}{nt m:Nat}:∀{k:Nat} {rest:List Oper} {l:List ql},NS P ν ops dr nt m k rest=some l ->
  l.length=rest.length/\∀(i:Nat) (x:ql),l[i]? = some x->∃o k',rest[i]? = some o/\aeO P ν ops dr nt m k' o=some x
 |k,[],l,h=>by simp only [NS,aB]at h;subst h;simp
 |
  k,o::rest,l,h=>by
  simp only [NS]at h;split at h<;>first|(cases h;done)|skip
  rename_i x hx;split at h<;>first|(cases h;done)|skip
  rename_i l' hl';simp only [aB]at h;subst h;obtain⟨e1,e2⟩:=Vl hl';refine⟨by simp [e1],fun i y hi=>?_⟩
  cases i with
  |zero=>simp at hi;subst hi;exact⟨o,k,rfl,hx⟩
  |succ i=>simpa using e2 i y (by simpa using hi)
theorem aep{ops:Array Oper}{nt m k:Nat}{o:Oper}{x:ql}(h:aeO P ν ops true nt m k o=some x):x.aft=agM o:=by
 unfold aeO at h;split at h<;>first|(cases h;done)|skip
 split at h<;>first|(cases h;done)|skip
 simp only [aB]at h;subst h;rfl
theorem aar{ops:Array Oper}{nt m:Nat}{l:List ql}(h:NS P ν ops true nt m 0 ops.toList=some l){done:List Nat}{listed:Array Bool}(hs:listed.size=ops.size)
  (hl:∀i,listed.getD i false=true↔i∈done) {i:Nat}:i∈Region.ready .any ops listed↔yX l done i=true:=by
 obtain⟨e1,e2⟩:=Vl h;rw [mem_ready];have hlt:∀{i:Nat},i<ops.size->(listed.getD i true=false↔i∉done):=by
  intro i hi;have:listed.getD i true=listed.getD i false:=by
   rw [dO,dO,Array.getElem?_eq_getElem (by omega)];rfl
  rw [this];constructor
  ·intro h1 h2;rw [(hl i).2 h2]at h1;cases h1
  intro h1
  cases hb:listed.getD i false with
  |false=>rfl
  |true=>exact absurd ((hl i).1 hb) h1
 constructor
 ·rintro⟨h1,o,ho,h2⟩;have hi:=(jl.1 ho).1;have hil:i<l.length:=by rw [e1];simpa using hi
  obtain⟨o',k',ho',hx⟩:=e2 i l[i] (by simp [hil]);have:o'=o:=by rw [iE]at ho';rw [ho]at ho';exact(Option.some.inj ho').symm
  subst this;unfold yX;rw [au hil];simp only [aH,iI,aX];refine⟨?_,?_⟩
  ·have:=(hlt hi).1 h1;simpa using this
  intro e he;rw [aep hx]at he;simp only [agM,bC,eU]at he;obtain⟨ed,⟨h3,h4⟩,rfl⟩:=he;have:=h2 ed (by simpa using h3) h4;simpa using (hl _).1 this
 intro hr;unfold yX at hr;split at hr<;>first|(cases hr;done)|skip
 rename_i x hx;simp only [aH,iI,aX]at hr;obtain⟨o,k',ho,htr⟩:=e2 i x hx;have ho':ops[i]? = some o:=by rwa [iE]at ho
 have hi:=(jl.1 ho').1;refine⟨(hlt hi).2 (by simpa using hr.1),o,ho',?_⟩;intro e he hb;refine(hl _).2 ?_;have:=hr.2 e.on (by rw [aep htr];simp only [agM,bC,eU];exact⟨e,⟨by simpa using he,hb⟩,rfl⟩);simpa using this
theorem sound(hm:P.follows .mixedOrders=true)(hT:Fits P ν T){j:Job}{o:Out}(h:Run T j o):Sound P ν j o:=by
 induction h with
 |
  skip st =>
  refine⟨⟨rfl,?_⟩,fun x h=>by cases h⟩;intro nt cc htr M w0 D0 D a w hs Q hQ;have hc:cc=.skip:=Hg htr;subst hc;exact Go.wp_skip (hQ D a w hs)
 |
  @reg m l st st' hk h ih =>
  obtain⟨_,i1,i2,i3,i4⟩:=ih;refine⟨⟨i2,?_⟩,fun x h=>by cases h⟩;intro nt cc htr M w0 D0 D a w hs Q hQ;obtain⟨id,ops,rfl,hops⟩:=Hg htr;refine wp_region_list ?_;refine i4 ops false nt m 0 ops.toList hops hk M w0 D0 D a w ⟨hs.env,hs.tm,hs.df,hs.mem m,hs.gr,hs.fr,hs.kp⟩ (fun x hx hmk=>?_) Q (fun D' a' w' h=>hQ D' a' w' h);have hkm:x.k<m:=by
   have:∀(l:List ql),okK m l=true->∀x∈l,x.i.makes=true->x.k<m:=by
    intro l
    induction l with
    |nil=>intro _ y hy;cases hy
    |
     cons z l ih =>
     intro h y hy hmk;simp only [okK,aH]at h;rcases aI.1 hy with rfl|hy
     ·have:=h.1;rw [aQ hmk]at this;simp only [aH,bf]at this;exact this.1
     exact ih h.2 y hy hmk
   exact this l hk x hx hmk
  simp only [aS,List.length_replicate];exact⟨by omega,hs.store.far _ (by omega)⟩
 |
  @arU m l st st' hk h ih =>
  obtain⟨_,i1,i2,i3,i4⟩:=ih;refine⟨⟨i2,?_⟩,fun x h=>by cases h⟩;intro nt cc htr M w0 D0 D a w hs Q hQ;obtain⟨id,ops,rfl,hops⟩:=Hg htr;refine wp_region_any hm ?_;have hsd:SR nt M w0 D0 st D a { w with drawn:=w.drawn+1 }:=by
   have hE:Ext w D (XS M D) { w with drawn:=w.drawn+1 } D (XS M D):=⟨aK _,fun _ _ _=>rfl,fun _ _ h=>h,fun _=>uS.refl _⟩;refine⟨fun t=>oq _ _ hE (hs.env t),hs.tm,hs.df,?_,⟨hs.gr.size,hs.gr.os,hs.gr.tape,hs.gr.output,hs.gr.block⟩,hs.fr,hs.kp⟩;refine⟨fun o d ho=>?_,hs.store.alive,hs.store.inj,hs.store.far,hs.store.mlt⟩;obtain⟨ob,c,e,g1,g2,g3,g4,g5,g6,g7,g8,g9,g10,g11⟩:=hs.store.live o d ho;refine⟨ob,c,e,g1,g2,g3,g4,g5,g6,g7,g8,g9,g10,fun i x hi=>?_⟩;obtain⟨k0,y,k1,k2⟩:=g11 i x hi;exact⟨k0,y,k1,oq _ _ hE k2⟩
  refine i4 ops nt m hops hk M w0 D0 D a _ ⟨hsd.env,hsd.tm,hsd.df,hsd.mem m,hsd.gr,hsd.fr,hsd.kp⟩ (fun i x hx _ hmk=>?_) Q (fun D' a' w' h=>hQ D' a' w' h) _ _ (by simp) (fun i=>?_) ?_
  ·have hkm:x.k<m:=agA l hk x (bg hx) hmk;simp only [aS,List.length_replicate];exact⟨by omega,hsd.store.far _ (by omega)⟩
  ·simp only [dO,Array.getElem?_replicate];split<;>simp
  simp
 |
  @av8 l done st h =>
  refine⟨rfl,rfl,rfl,aK _,?_⟩;intro ops nt m htr hk M w0 D0 D a w hs hid Q hQ fuel listed h1 h2 h3;refine wpAny_done ?_ (hQ D a w hs) fuel
  apply List.eq_nil_iff_forall_not_mem.2
  intro i hi;rw [aar htr h1 h2,h i]at hi
  cases hi
 |
  @av9 l done st st' i0 h0 f h h' ih ih' =>
  obtain⟨_,b1,b2,b3,_⟩:=ih' i0 h0;obtain⟨x0,hx0⟩:∃x0,l[i0]? = some x0:=by
   unfold yX at h0;split at h0<;>first|(cases h0;done)|skip
   exact⟨_,by assumption⟩
  obtain⟨_,a1,a2,a3,_⟩:=ih i0 x0 hx0 h0;refine⟨rfl,b1.trans a1,b2.trans a2,dw a3 b3,?_⟩;intro ops nt m htr hk M w0 D0 D a w hs hid Q hQ fuel listed h1 h2 h3;have agD:∀i,i∈Region.ready .any ops listed↔yX l done i=true:=fun i=>aar htr h1 h2;have hpos:fuel≠0:=by
   rintro rfl;have hi:=(agD i0).2 h0;have:=(mem_ready.1 hi).1;obtain⟨_,o,ho,_⟩:=mem_ready.1 hi;have hlt:=(jl.1 ho).1;have hmem:false∈listed.toList:=by
    have:listed[i0]'(by omega)=false:=by
     rw [dO,Array.getElem?_eq_getElem (by omega)]at this;simpa using this
    rw [<-this];simp
   have:=List.count_pos_iff.2 hmem;omega
  obtain⟨fuel,rfl⟩:=Nat.exists_eq_succ_of_ne_zero hpos;refine⟨fun hnil=>?_,fun i hi=>?_⟩
  ·have:=(agD i0).2 h0;rw [hnil]at this;cases this
  have hr:=(agD i).1 hi;obtain⟨e1,e2⟩:=Vl htr;obtain⟨_,o,ho,_⟩:=mem_ready.1 hi;have hlt:=(jl.1 ho).1;have hil:i<l.length:=by rw [e1];simpa using hlt
  obtain⟨o',k',ho',hx⟩:=e2 i l[i] (by simp [hil]);have:o'=o:=by rw [iE]at ho';rw [ho]at ho';exact(Option.some.inj ho').symm
  subst this;have hli:l[i]? = some l[i]:=by simp [hil]
  have hnd:i∉done:=by
   unfold yX at hr;rw [hli]at hr;simp only [aH,iI]at hr;simpa using hr.1
  obtain⟨_,c1,c2,c3,c4⟩:=ih i l[i] hli hr;obtain⟨_,d1,d2,d3,d4⟩:=ih' i hr;have key:=c4 ops true nt m k' o' hx M w0 D0 D a w hs (fun hmk=>hid i l[i] hli hnd hmk) (wpAny P .any ops Q fuel (listed.setIfInBounds i true)) Q (fun D' a' w' hs' hun=>by
   refine d4 ops nt m htr hk M w0 D0 D' a' w' hs' (fun j y hy hj hmk=>?_) Q hQ fuel _ (by simpa using h1) (fun j=>?_) ?_
   ·simp only [aI,not_or]at hj;rw [c1];obtain⟨g1,g2⟩:=hid j y hy hj.2 hmk;refine⟨bn g1 c3,hun _ (Nat.le_add_right _ _) g1 g2 ?_⟩;intro he;have hne:=anA l hk j i y l[i] hy hli hj.1 hmk;omega
   ·rw [dO,Array.getElem?_setIfInBounds];by_cases hij:i=j
    ·subst hij;simp [h1,hlt]
    rw [aO hij,<-dO,h2 j];simp only [aI];constructor
    ·exact .inr
    rintro(h|h)
    ·exact absurd h.symm hij
    exact h
   have hfi:listed[i]'(by omega)=false:=by
    have:=(mem_ready.1 hi).1;rw [dO,Array.getElem?_eq_getElem (by omega)]at this;simpa using this
   rw [Array.toList_setIfInBounds,List.count_set (by simpa using (by omega:i<listed.size))];have h4:listed.toList[i]'(by simpa using (by omega:i<listed.size))=false:=by simpa using hfi
   have h5:0<listed.toList.count false:=List.count_pos_iff.2 (by rw [<-h4];exact jO _);simp only [h4,beq_self_eq_true,if_true];have:(true == false)=false:=rfl;simp only [this,bG,if_false];omega)
  unfold wpOp;simp only [ho];split
  ·rename_i hw;rw [aQ hw]at key;exact .inl key
  rename_i hw;rw [aO hw]at key;exact key
 |
  @awc a b st st1 o h h' ih ih' =>
  cases o with
  |fn r σ=>trivial
  |code e st2 =>
  obtain⟨⟨i1,i2⟩,_⟩:=ih;obtain⟨⟨j1,j2⟩,_⟩:=ih';refine⟨⟨j1.trans i1,?_⟩,fun x h=>by cases h⟩;intro nt cc htr M w0 D0 D a w hs Q hQ;obtain⟨ca,cb,rfl,ha,hb⟩:=Hg htr;refine Go.wp_seq (i2 nt ca ha M w0 D0 D a w hs _ fun D' a' w' hs'=>?_);exact j2 nt cb hb M w0 D0 D' a' w' hs' Q hQ
 |
  @arV a b st e st1 he h ih =>
  obtain⟨⟨i1,i2⟩,_⟩:=ih;refine⟨⟨i1,?_⟩,fun x h=>by cases h⟩;intro nt cc htr M w0 D0 D a w hs Q hQ;obtain⟨ca,cb,rfl,ha,hb⟩:=Hg htr;exact Go.wp_seq (i2 nt ca ha M w0 D0 D a w hs _ fun D' a' w' hs'=>aqL he (hQ D' a' w' hs'))
 |
  @cond x a b st t o hx h ih =>
  cases o with
  |fn r σ=>trivial
  |code e st2 =>
  obtain⟨⟨i1,i2⟩,_⟩:=ih;refine⟨⟨i1,?_⟩,fun x h=>by cases h⟩;intro nt cc htr M w0 D0 D a w hs Q hQ;obtain⟨oc,ca,cb,rfl,h1,ha,hb⟩:=Hg htr;have hv:=ou hs.env h1;rw [hx]at hv;simp only [rd]at hv;refine Go.wp_cond hv (i2 nt _ ?_ M w0 D0 D _ w hs Q hQ)
  cases t
  ·exact hb
  exact ha
 |
  @block id c st e st1 h ih =>
  obtain⟨⟨i1,i2⟩,_⟩:=ih;refine⟨⟨i1,?_⟩,fun x h=>by cases h⟩;intro nt cc htr M w0 D0 D a w hs Q hQ;obtain⟨ca,rfl,ha⟩:=Hg htr;refine Go.wp_block (i2 nt ca ha M w0 D0 D a w hs _ fun D' a' w' hs'=>?_);have:=hQ D' a' w' hs'
  cases e with
  |normal=>exact this
  |ret=>exact this
  |
   exit id' =>
   simp only [acf,ab4,Exit.inBlock]at this ⊢;by_cases hid:id'=id
   ·simp only [hid,if_true]at this ⊢;exact this
   simp only [hid,if_false]at this ⊢;exact this
 |
  @ajO c st st1 o h h' ih ih' =>
  cases o with
  |fn r σ=>trivial
  |code e st2 =>
  obtain⟨⟨i1,i2⟩,_⟩:=ih;obtain⟨⟨j1,_⟩,j2⟩:=ih';have key:aaA P ν c e st st2:=by
   intro nt cc htr M w0 D0 D a w hs Q hQ b k cs;obtain⟨x,a1,w1,⟨D1,hx,hs1⟩,harr⟩:=i2 nt cc htr M w0 D0 D a w hs (fun x a' w'=>∃D',x=.normal/\SR nt M w0 D0 st1 D' a' w') (fun D' a' w' h=>⟨D',rfl,h⟩) b (.inLoop cc::k) cs;subst hx;obtain⟨x2,a2,w2,q2,ayY⟩:=j2 c rfl nt cc htr M w0 D0 D1 a1 w1 hs1 Q hQ b k cs;exact⟨x2,a2,w2,q2,.of_steps (Steps.trans harr (.one step_inLoop)) ayY⟩
  exact⟨aie (j1.trans i1) key,fun x hx=>by cases hx;exact key⟩
 |
  @ab5 c st e st1 he h ih =>
  obtain⟨⟨i1,i2⟩,_⟩:=ih;have key:aaA P ν c e st st1:=by
   intro nt cc htr M w0 D0 D a w hs Q hQ b k cs;obtain⟨x,a1,w1,⟨D1,hx,hs1⟩,harr⟩:=i2 nt cc htr M w0 D0 D a w hs (fun x a' w'=>∃D',x=acf e/\SR nt M w0 D0 st1 D' a' w') (fun D' a' w' h=>⟨D',rfl,h⟩) b (.inLoop cc::k) cs;subst hx;exact⟨_,a1,w1,hQ D1 a1 w1 hs1,.pass (x:=.inLoop cc) rfl (fun _ _=>.inl (aqK he)) harr⟩
  exact⟨aie i1 key,fun x hx=>by cases hx;exact key⟩
 |
  exit id st =>
  refine⟨⟨rfl,?_⟩,fun x h=>by cases h⟩;intro nt cc htr M w0 D0 D a w hs Q hQ;have hc:cc=.exit id:=Hg htr;subst hc;exact Go.wp_exit (hQ D a w hs)
 |
  ret st =>
  refine⟨⟨rfl,?_⟩,fun x h=>by cases h⟩;intro nt cc htr M w0 D0 D a w hs Q hQ;have hc:cc=.ret:=Hg htr;subst hc;exact Go.wp_ret (hQ D a w hs)
 |
  @gc c st o ρ hn hρ h ih =>
  cases o with
  |fn r σ=>trivial
  |code e st2 =>
  obtain⟨⟨i1,i2⟩,i3⟩:=ih;refine⟨⟨i1,?_⟩,?_⟩
  ·intro nt cc htr M w0 D0 D a w hs Q hQ;exact i2 nt cc htr M w0 D0 _ a w (hs.gc hn hρ) Q hQ
  intro x hx nt cc htr M w0 D0 D a w hs Q hQ;exact i3 x hx nt cc htr M w0 D0 _ a w (hs.gc hn hρ) Q hQ
 |
  nil st =>
  refine⟨rfl,rfl,rfl,aK _,?_⟩;intro ops dr nt m k rest htr hk M w0 D0 D a w hs hid Q hQ
  cases rest with
  |nil=>exact hQ D a w hs
  |
   cons r rest =>
   simp only [NS]at htr;split at htr<;>first|(cases htr;done)|skip
   split at htr<;>first|(cases htr;done)|skip
 |
  @cons o l st st1 out h h' ih ih' =>
  cases out with
  |fn r σ=>trivial
  |code e st2=>exact⟨ih'.1,agB ih.2 ih'.2⟩
 |off hg he=>exact⟨rfl,akc hg he⟩
 |op hg h=>exact⟨rfl,an4 hg h⟩
 |ab6 hg hi ha h hR ih=>exact⟨rfl,aeR hg hi ha ih hR⟩
 |ajP ρ hn hρ hg hi h ih=>exact⟨rfl,aeT hn hρ hg hi ih⟩
 |ajQ hg hi ha h hR ih=>exact⟨rfl,afj hg hi ha ih hR⟩
 |ajR hg hi h hl hb ih=>exact⟨rfl,afk hg hi ih hl hb⟩
 | @fn f args σ F e st' rs hf hl h he hr ih=>exact aqM hT hf hl (fun o e=>avb h o (St.enter args σ) (by rw [e])) ih.1 he hr
 |lib hf hb h=>exact anB hT hf hb h
 |Wn h hr ih=>exact akf hr ih
 |gcF ρ hn hρ h ih=>exact ake hn hρ ih
 |
  @forget c st st2 o he ho hk h' ih =>
  cases o with
  |fn r σ=>trivial
  |code e st3 =>
  obtain⟨⟨i1,i2⟩,i3⟩:=ih;refine⟨⟨i1.trans hk,?_⟩,?_⟩
  ·intro nt cc htr M w0 D0 D a w hs Q hQ;exact i2 nt cc htr M w0 D0 _ a w (hs.forget he ho hk) Q hQ
  intro x hx nt cc htr M w0 D0 D a w hs Q hQ;exact i3 x hx nt cc htr M w0 D0 _ a w (hs.forget he ho hk) Q hQ
 |
  @re c st st2 o W h h' ih =>
  cases o with
  |fn r σ=>trivial
  |code e st3 =>
  obtain⟨⟨i1,i2⟩,i3⟩:=ih;refine⟨⟨i1.trans h.keep,?_⟩,?_⟩
  ·intro nt cc htr M w0 D0 D a w hs Q hQ;exact i2 nt cc htr M w0 D0 _ a w (hs.re h) Q hQ
  intro x hx nt cc htr M w0 D0 D a w hs Q hQ;exact i3 x hx nt cc htr M w0 D0 _ a w (hs.re h) Q hQ
 |reF W ha h hs hr ih=>exact ak3 ha hs hr ih
 |aau ha h hr ih=>exact aiR ha hr ih
end
open Go.ChangeShapes Go.WideShapes Go.ChangeAt Go.RowKit
def Vm:List (Nat×Nat×Fn)->Nat->Option Nat
 | [],_=>none
 |x::l,i=>if x.1=i then some x.2.1 else Vm l i
def YP:List (Nat×Nat×Fn)->Tb
 | [],_=>none
 |x::l,k=>if x.2.1=k then some x.2.2 else YP l k
theorem aer:∀{l:List (Nat×Nat×Fn)} {i k:Nat},Vm l i=some k->∃x∈l,x.1=i/\x.2.1=k
 | [],_,_,h=>by simp [Vm]at h
 |
  x::l,i,k,h=>by
  simp only [Vm]at h;split at h
  ·rename_i e;exact⟨x,by simp,e,by simpa using h⟩
  obtain⟨y,hy,e⟩:=aer h;exact⟨y,by simp [hy],e⟩
theorem aes:∀{l:List (Nat×Nat×Fn)} {k:Nat} {F:Fn},YP l k=some F->∃x∈l,x.2.1=k/\x.2.2=F
 | [],_,_,h=>by simp [YP]at h
 |
  x::l,i,k,h=>by
  simp only [YP]at h;split at h
  ·rename_i e;exact⟨x,by simp,e,by simpa using h⟩
  obtain⟨y,hy,e⟩:=aes h;exact⟨y,by simp [hy],e⟩
theorem Oi{α β:Type}{f:α->β}:∀{l:List α},(l.map f).Nodup->∀{x y},x∈l->y∈l->f x=f y->x=y
 | [],_,_,_,h,_,_=>by cases h
 |
  a::l,hn,x,y,hx,hy,e=>by
  simp only [bV,dX]at hn;rcases aI.1 hx with rfl|hx'<;>rcases aI.1 hy with rfl|hy'
  ·rfl
  ·exact absurd (e▸iZ hy') hn.1
  ·exact absurd (e▸iZ hx') hn.1
  exact Oi hn.2 hx' hy' e
theorem aqN{P:Program}{l:List (Nat×Nat×Fn)}(hnd:(l.map (·.2.1)).Nodup)(h:∀x∈l,(∃fn,P.funcs[x.1]? = some fn/\aeP P (Vm l) fn=some x.2.2)\/∃o,x.2.2.body=.lib o/\anx P x.1 o):Fits P (Vm l) (YP l):=by
 intro fid f F h1 h2;obtain⟨x,hx,e1,e2⟩:=aer h1;obtain⟨y,hy,e3,e4⟩:=aes h2;have:x=y:=Oi hnd hx hy (e2.trans e3.symm);subst this;rw [<-e1,<-e4];exact h x hx
theorem anC{P:Program}{l:List (Nat×Nat×Fn)}(hm:P.follows .mixedOrders=true)(hT:Fits P (Vm l) (YP l)){f fid:Nat}{args:List V}{r:V}(h:PF (YP l) f args r)(hf:Vm l fid=some f)
  {w:World} {vals:Array Value} (hr:qh w DM.none (fun _=>False) args vals.toList) :
  Calls P fid vals w fun e w'=>(∃v D X,e=.returned v/\rd w' D X r v)/\Below w.heap.size w w':=by
 have hs:=sound hm hT h;have hX:XS (fun _=>False) DM.none=fun _=>False:=by
  funext b;simp [XS,DM.none]
 refine(hs fid hf w (fun _=>False) DM.none vals (by rw [hX];exact hr) ⟨?_,?_,?_,?_,?_⟩).mono fun e w' hp=>?_
 ·intro o d h;cases h
 ·intro o ob h;simp [jX]at h
 ·intro o o' d d' h;cases h
 ·intro o _;rfl
 ·intro b h;exact h.elim
 obtain⟨v,D',e1,e2,e3,e4,_⟩:=hp;refine⟨⟨v,D',_,e1,e2⟩,⟨e4.os,e4.tape,e4.output,e4.size,fun k hk=>e4.block k hk ?_⟩⟩;rintro⟨o,d,h,_⟩;cases h
theorem agE{P:Program}{l:List (Nat×Nat×Fn)}(hm:P.follows .mixedOrders=true)(hT:Fits P (Vm l) (YP l)){f fid:Nat}{args:List V}(h:PF (YP l) f args (.bool true))(hf:Vm l fid=some f)
  {w:World} {vals:Array Value} (hr:qh w DM.none (fun _=>False) args vals.toList) :
  Calls P fid vals w fun e w'=>e=.returned (.bool true)/\Below w.heap.size w w' :=
 (anC hm hT h hf hr).mono fun e w' hp=>by
  obtain⟨⟨v,D,X,rfl,e2⟩,hb⟩:=hp;have:v=.bool true:=by simpa [rd]using e2
  exact⟨by rw [this],hb⟩
end Go.Ml
end
section
namespace Go.Ml
open Go.ChangeShapes Go.WideShapes Go.ChangeAt Go.RowKit
inductive Lf where
 |int (k:IntKind)
 |bool
 |str
 |sl (row:List Lf)
mutual
def Mt:Lf->V->Prop
 |.int k,v=>∃n,v=.int k n/\(Lit.int k n).wf=true
 |.bool,v=>∃b,v=.bool b
 |.str,v=>∃s,v=.str s/\s.length<=maxLen
 |.sl row,v=>∃rows:List (List V),v=.sl row.length rows/\rows.length<=maxLen/\∀r∈rows,RS row r
def RS:List Lf->List V->Prop
 | [],vs=>vs=[]
 |l::ls,vs=>∃v vs',vs=v::vs'/\Mt l v/\RS ls vs'
end
def anD(P:Program)(sh:TypeId->Option (List Lf)):List Field->Nat->Option (List Lf)
 | [],_=>some []
 |
  f::fs,off=>match sh f.type,anD P sh fs (off+P.cellsOf f.type)with
  |some r,some rs=>if f.offset=off/\r.length=P.cellsOf f.type then some (r++rs)else none
  |_,_=>none
def shapeOf(P:Program):Nat->TypeId->Option (List Lf)
 |0,_=>none
 |
  n+1,t=>match P.underlying t with
  |some (.int k)=>some [.int k]
  |some .bool=>some [.bool]
  |some .string=>some [.str]
  |
   some (.slice e)=>match shapeOf P n e with
   |some r=>if r.length=P.cellsOf e/\0<r.length then some [.sl r]else none
   |none=>none
  |
   some (.struct fs)=>match anD P (shapeOf P n) fs.toList 0 with
   |some r=>if r.length=P.cellsOf t then some r else none
   |none=>none
  |_=>none
theorem agF{l1 l2:List Lf}{v1 v2:List V}(h1:RS l1 v1)(h2:RS l2 v2):RS (l1++l2) (v1++v2):=by
 induction l1 generalizing v1 with
 |nil=>simp only [RS]at h1;subst h1;simpa using h2
 |
  cons l l1 ih =>
  simp only [RS]at h1;obtain⟨v,vs,rfl,a,b⟩:=h1;simp only [dL,RS];exact⟨v,vs++v2,rfl,a,ih b⟩
theorem aif{l:List Lf}{v:List V}(h:RS l v):v.length=l.length:=by
 induction l generalizing v with
 |nil=>simp only [RS]at h;subst h;rfl
 |
  cons x l ih =>
  simp only [RS]at h;obtain⟨v,vs,rfl,a,b⟩:=h;simp [ih b]
theorem aqO:∀{l:Lf} {v:V},Mt l v->v.leaf=true:=by
 intro l v h
 cases l<;>simp only [Mt]at h
 ·obtain⟨n,rfl,_⟩:=h;rfl
 ·obtain⟨b,rfl⟩:=h;rfl
 ·obtain⟨s,rfl,_⟩:=h;rfl
 obtain⟨rows,rfl,_⟩:=h;rfl
theorem anE{l:List Lf}{v:List V}(h:RS l v):∀x∈v,x.leaf=true:=by
 induction l generalizing v with
 |nil=>simp only [RS]at h;subst h;intro x hx;cases hx
 |
  cons y l ih =>
  simp only [RS]at h;obtain⟨v,vs,rfl,a,b⟩:=h;intro x hx;rcases aI.1 hx with rfl|hx
  ·exact aqO a
  exact ih b x hx
theorem aas{w:World}{D:DM}{X:Nat->Prop}{b sz:Nat}:∀(off:Nat) (rows:List (List V)),
  (∀i r,rows[i]? = some r->r.length=sz/\oU w D X b (off+i*sz) r)->rF w D X b sz off rows
 |_,[],_=>by simp [rF]
 |
  off,r::rows,h=>by
  simp only [rF];have h0:=h 0 r rfl;refine⟨h0.1,by simpa using h0.2,aas (off+sz) rows fun i r' hi=>?_⟩;have:=h (i+1) r' (by simpa using hi)
  rwa [show off+(i+1)*sz=off+sz+i*sz by rw [eH];omega]at this
theorem Pz{w:World}{D:DM}{X:Nat->Prop}{b:Nat}:∀(off:Nat) (vs:List V) (cs:List Value),qh w D X vs cs->(∀x∈vs,x.leaf=true) ->
  (∀i,i<cs.length->w.cell? ⟨b,off+i,none⟩=cs[i]?)->oU w D X b off vs
 |_,[],_,_,_,_=>by simp [oU]
 |
  off,v::vs,cs,h,hl,hc=>by
  simp only [qh]at h;obtain⟨y,ys,rfl,h1,h2⟩:=h;simp only [oU];refine⟨hl v (by simp),⟨y,by simpa using hc 0 (by simp),h1⟩,Pz (off+1) vs ys h2 (fun x hx=>hl x (by simp [hx])) fun i hi=>?_⟩;have:=hc (i+1) (by simpa using hi);rw [show off+1+i=off+(i+1) by omega,this];simp
section
variable {H : Type} {enc : TypeId × Value -> H} {P : Program} {w : World}
theorem YQ:∀(n:Nat) {t:TypeId} {L:List Lf} {fuel:Nat} {cs:List Value} {x:DataW H×List MemPlace},shapeOf P n t=some L ->
  DataW.trod enc P w 0 (fun _=>true) true fuel t cs=some x->∃vs,RS L vs/\qh w DM.none (fun _=>False) vs cs
 |0,t,L,fuel,cs,x,h,_=>by simp [shapeOf]at h
 |
  n+1,t,L,fuel,cs,x,h,hx=>by
  cases fuel with
  |zero=>simp [DataW.trod]at hx
  |succ fuel =>
  simp only [shapeOf]at h;split at h
  ·rename_i k hu;simp only [aB]at h;subst h;obtain⟨m,rfl,_,hw⟩:=DataW.trod_int hu hx;exact⟨[.int k m],by simp [RS,Mt,hw],by simp [qh,rd]⟩
  ·rename_i hu;simp only [aB]at h;subst h;rw [DataW.trod_step]at hx;unfold DataW.trodStep at hx;rw [hu]at hx;split at hx<;>simp_all;rename_i b;exact⟨[.bool b],by simp [RS,Mt],by simp [qh,rd]⟩
  ·rename_i hu;simp only [aB]at h;subst h;rw [DataW.trod_step]at hx;unfold DataW.trodStep at hx;rw [hu]at hx;split at hx<;>simp_all;rename_i s;exact⟨[.str s.data.toList],by simp [RS,Mt];exact hx.1,by simp [qh,rd]⟩
  ·rename_i e hu;split at h<;>first|(cases h;done)|skip
   rename_i r hr;split at h<;>first|(cases h;done)|skip
   rename_i hsz;simp only [aB]at h;subst h;rcases DataW.trod_slice hu hx with ⟨rfl,_⟩|⟨a,len,cap,elems,rest,m,_,rfl,_,hb,hl,hm,hlen,hel,_,_⟩
   ·exact⟨[.sl r.length []],by simp [RS,Mt],by simp only [qh,rd];exact⟨_,[],rfl,⟨none,0,rfl,aK _,.inl (by trivial)⟩,rfl⟩⟩
   have aDQ:∀i,i<len->∃cs',w.cells? 0 (a.add (i*P.cellsOf e)) (P.cellsOf e)=some cs'/\∃vs,RS r vs/\qh w DM.none (fun _=>False) vs cs':=by
    intro i hi;have h1:=hel i hi;have h2:elems[i]? = some (elems[i]'(by omega)):=au (by omega);rw [h2,eu]at h1;obtain⟨cs',k1,k2⟩:=h1;exact⟨cs',k1,YQ n hr k2⟩
   have hch:∀i,∃p:List Value×List V,i<len->w.cells? 0 (a.add (i*P.cellsOf e)) (P.cellsOf e)=some p.1/\RS r p.2/\qh w DM.none (fun _=>False) p.2 p.1:=by
    intro i;by_cases hi:i<len
    ·obtain⟨cs',k1,vs,k2,k3⟩:=aDQ i hi;exact⟨(cs',vs),fun _=>⟨k1,k2,k3⟩⟩
    exact⟨([],[]),fun h=>absurd h hi⟩
   obtain⟨f,hf⟩:=Classical.axiomOfChoice hch;have hrow:∀i vs,((List.range len).map fun i=>(f i).2)[i]? = some vs->i<len/\vs=(f i).2:=by
    intro i vs hi;rw [bM,aJ]at hi;obtain⟨j,h1,h2⟩:=hi;obtain⟨h3,h4⟩:=aP.1 h1;rw [List.getElem_range]at h4;subst h4;exact⟨by simpa using h3,h2.symm⟩
   refine⟨[.sl r.length ((List.range len).map fun i=>(f i).2)],?_,?_⟩
   ·simp only [RS,Mt];refine⟨_,[],rfl,⟨_,rfl,by simp;exact dw hl hm,fun rr hrr=>?_⟩,rfl⟩;obtain⟨i,hi⟩:=bQ.1 hrr;obtain⟨h1,rfl⟩:=hrow i rr hi;exact(hf i h1).2.1
   simp only [qh,rd];refine⟨_,[],rfl,⟨some a,cap,by simp,by simpa using hl,?_⟩,rfl⟩;by_cases h0:len=0
   ·left;subst h0;rfl
   right;obtain⟨b,off,spot⟩:=a;have hspot:spot=none:=by
    obtain⟨_,_,hc⟩:=World.cells?_some (hf 0 (by omega)).1;have hlen0:=(World.cells?_some (hf 0 (by omega)).1).2.1;have hc0:=hc 0 (by omega);have hlt0:0<(f 0).1.length:=by omega
    rw [au hlt0]at hc0;simpa [Addr.add]using World.cell?_spot hc0
   subst hspot;have hb':b<w.heap.size:=by
    have:=World.cells?_block (hf 0 (by omega)).1 (by omega);simpa [Addr.add]using this
   refine⟨b,off,rfl,hb',fun h=>h,aas _ _ fun i rr hi=>?_⟩;obtain⟨h1,rfl⟩:=hrow i rr hi;obtain⟨g1,g2,g3⟩:=hf i h1;obtain⟨_,hl2,hc⟩:=World.cells?_some g1;refine⟨aif g2,Pz _ _ _ g3 (anE g2) fun j hj=>?_⟩;have:=hc j (by omega);rw [<-this,hsz.1]
   congr 1
   simp only [addr_add]
  ·rename_i fs hu;split at h<;>first|(cases h;done)|skip
   rename_i r hr;split at h<;>first|(cases h;done)|skip
   rename_i hsz;simp only [aB]at h;subst h;rw [DataW.trod_step]at hx;unfold DataW.trodStep at hx;rw [hu]at hx;simp only []at hx;split at hx<;>first|(cases hx;done)|skip
   rename_i hlen;rw [aJ]at hx;obtain⟨xs,hxs,_⟩:=hx;have key:∀(fl:List Field) (off:Nat) (r:List Lf) (xs:List (DataW H×List MemPlace)),anD P (shapeOf P n) fl off=some r ->
     (fl.mapM fun f=>DataW.trod enc P w 0 (fun _=>true) true fuel f.type ((cs.drop f.offset).take (P.cellsOf f.type)))=some xs ->
     ∃vs,RS r vs/\qh w DM.none (fun _=>False) vs ((cs.drop off).take r.length):=by
    intro fl
    induction fl with
    |
     nil =>
     intro off r xs h _;simp only [anD,aB]at h;subst h;exact⟨[],by simp [RS],by simp [qh]⟩
    |
     cons f fl ih =>
     intro off r xs h hm;simp only [anD]at h;split at h<;>first|(cases h;done)|skip
     rename_i r1 rs h1 h2;split at h<;>first|(cases h;done)|skip
     rename_i hc;simp only [aB]at h;subst h;simp only [bU,jh,iF,eu,aB]at hm;obtain⟨y,hy,ys,hys,rfl⟩:=hm;obtain⟨v1,a1,a2⟩:=YQ n h1 hy;obtain⟨v2,b1,b2⟩:=ih _ rs ys h2 hys;refine⟨v1++v2,agF a1 b1,?_⟩;have e:(cs.drop off).take (r1++rs).length=(cs.drop off).take r1.length++(cs.drop (off+P.cellsOf f.type)).take rs.length:=by
      rw [aS,List.take_add,List.drop_drop,hc.2]
     rw [e];rw [hc.1,<-hc.2]at a2;exact ET _ _ _ _ a2 b2
   obtain⟨vs,a1,a2⟩:=key fs.toList 0 r xs hr hxs;refine⟨vs,a1,?_⟩;rw [bZ,bH (by omega)]at a2;exact a2
  cases h
theorem anF(n:Nat){t:TypeId}{L:List Lf}{v:Value}{d:DataW H}{ps:List MemPlace}(hs:shapeOf P n t=some L)(h:DataW.Trod enc P w 0 (fun _=>true) true t v d ps) :
  ∃vs,RS L vs/\qh w DM.none (fun _=>False) vs v.cells.toList:=by
 obtain⟨fuel,hf⟩:=h;exact YQ n hs hf
end
end Go.Ml
namespace Go.Ml
open Go.ChangeShapes Go.WideShapes Go.ChangeAt Go.RowKit
def anG(g:Bool)(vs:List V):V:=if g=true then .agg vs else vs.headD .any
def agG:List (Bool×List Lf)->List V->Prop
 | [],vs=>vs=[]
 |s::ss,vs=>∃cs rest,vs=anG s.1 cs::rest/\RS s.2 cs/\agG ss rest
def arR(P:Program)(t:TypeId)(s:Bool×List Lf):Bool :=
 match P.underlying t with
 |some (.struct _)=>s.1
 |some (.int _)|some .bool|some .string|some (.slice _)=>!s.1
 |_=>false
def YR(P:Program):List TypeId->List (Bool×List Lf)->Prop
 | [],ss=>ss=[]
 |t::ts,ss=>∃s rest,ss=s::rest/\shapeOf P 20 t=some s.2/\arR P t s=true/\YR P ts rest
theorem aii{H:Type}{enc:TypeId×Value->H}{P:Program}{w:World}{r:Reach}{b:Nat}:∀{ts:List TypeId} {ss:List (Bool×List Lf)} {vs:List Value} {ds:List (DataW H)} {ps:List MemPlace},
  YR P ts ss->(∀(j:Nat) t v,ts[j]? = some t->vs[j]? = some v->Value.okWide P w r b t v)->DataW.TrodAll enc P w 0 (fun _=>true) true ts vs ds ps ->
  ∃Vs,agG ss Vs/\qh w DM.none (fun _=>False) Vs vs
 | [],ss,[],ds,ps,h,_,_=>by simp only [YR]at h;subst h;exact⟨[],rfl,by simp [qh]⟩
 | [],_,_::_,ds,ps,_,_,ht=>by cases ds<;>exact ht.elim
 |_::_,_,[],ds,ps,_,_,ht=>by cases ds<;>exact ht.elim
 |t::ts,ss,v::vs,[],ps,_,_,ht=>ht.elim
 |
  t::ts,ss,v::vs,d::ds,ps,h,hw,ht=>by
  simp only [YR]at h;obtain⟨s,rest,rfl,h1,h2,h3⟩:=h;obtain⟨p,q,k1,k2,_⟩:=ht;obtain⟨Vs,a1,a2⟩:=aii h3 (fun j t' v' hj hv=>hw (j+1) t' v' (by simpa using hj) (by simpa using hv)) k2;obtain⟨cs,c1,c2⟩:=anF 20 h1 k1;have hok:=hw 0 t v rfl rfl;refine⟨anG s.1 cs::Vs,⟨cs,Vs,rfl,c1,a1⟩,?_⟩;simp only [qh];refine⟨v,vs,rfl,?_,a2⟩;unfold arR at h2;have one:(∀cs',v≠.agg cs')->s.1=false->s.2.length=1->rd w DM.none (fun _=>False) (anG s.1 cs) v:=by
   intro hv hs hl;have hvc:v.cells.toList=[v]:=by cases v<;>first|rfl|(exact absurd rfl (hv _))
   rw [hvc]at c2;have:=aif c1;rw [hl]at this
   cases cs with
   |nil=>simp at this
   |
    cons x xs =>
    simp only [qh]at c2;obtain⟨y,ys,e,e2,_⟩:=c2;simp only [jH]at e;rw [hs];simp only [anG,bG,if_false,List.headD_cons];rw [e.1];exact e2
  unfold shapeOf at h1;split at h2
  ·rename_i fs hu;rw [h2];simp only [Value.okWide,hu]at hok;obtain⟨cs',rfl,_⟩:=hok;simp only [anG,if_true,rd];exact⟨cs',rfl,c2⟩
  ·rename_i k hu;rw [hu]at h1;simp only [aB]at h1;obtain⟨n,rfl⟩:=okWide_int hu hok;exact one (by intro cs' e;cases e) (by simpa using h2) (by rw [<-h1];rfl)
  ·rename_i hu;rw [hu]at h1;simp only [aB]at h1;obtain⟨n,rfl⟩:=okWide_bool hu hok;exact one (by intro cs' e;cases e) (by simpa using h2) (by rw [<-h1];rfl)
  ·rename_i hu;rw [hu]at h1;simp only [aB]at h1;obtain⟨n,rfl⟩:=okWide_string hu hok;exact one (by intro cs' e;cases e) (by simpa using h2) (by rw [<-h1];rfl)
  ·rename_i e hu;rw [hu]at h1;simp only []at h1;obtain⟨a0,l0,c0,rfl⟩:=okWide_slice hu hok;refine one (by intro cs' e;cases e) (by simpa using h2) ?_;split at h1<;>first|(cases h1;done)|skip
   split at h1<;>first|(cases h1;done)|skip
   simp only [aB]at h1;rw [<-h1];rfl
  cases h2
theorem QC{H:Type}{enc:TypeId×Value->H}{P:Program}(hl:laidOutB P=true){W W':World}(hb:Below W.heap.size W W'):∀{ts:List TypeId} {vs:List Value} {ds:List (DataW H)} {ps:List MemPlace},
  (ts.all fun t=>P.readableRec t&&decide (t<P.types.size))=true->DataW.TrodAll enc P W 0 (fun _=>true) true ts vs ds ps->(∀x∈ps,x.block<W.heap.size) ->
  DataW.TrodAll enc P W' 0 (fun b=>decide (b<W.heap.size)) true ts vs ds ps
 | [],[],[],ps,_,h,_=>h
 | [],_::_,ds,ps,_,ht,_=>by cases ds<;>exact ht.elim
 | [],[],_::_,ps,_,ht,_=>ht.elim
 |_::_,[],ds,ps,_,ht,_=>by cases ds<;>exact ht.elim
 |t::ts,v::vs,[],ps,_,ht,_=>ht.elim
 |
  t::ts,v::vs,d::ds,ps,h,ht,hlt=>by
  simp only [dF,aH,bf]at h;obtain⟨p,q,k1,k2,rfl⟩:=ht;exact⟨p,q,Below.trod hl h.1.1 h.1.2 k1 hb fun x hx=>hlt x (by simp [hx]),QC hl hb (by simpa using h.2) k2 fun x hx=>hlt x (by simp [hx]),rfl⟩
end Go.Ml
end
section
namespace Go.Ml
theorem anH{α:Type}{row:List Lf}{f:α->List V}{W:α->Prop}(h:∀r,RS row r->∃x,r=f x/\W x){v:V}(hv:Mt (.sl row) v):∃l:List α,v=.sl row.length (l.map f)/\Iz W l:=by
 simp only [Mt]at hv;obtain⟨rows,rfl,hl,hr⟩:=hv;have key:∀rows:List (List V),(∀r∈rows,RS row r)->∃l:List α,rows=l.map f/\∀x∈l,W x:=by
  intro rows
  induction rows with
  |nil=>intro _;exact⟨[],rfl,by simp⟩
  |
   cons r rows ih =>
   intro hr;obtain⟨x,rfl,hx⟩:=h r (hr r (by simp));obtain⟨l,rfl,hl⟩:=ih fun r hr'=>hr r (by simp [hr']);exact⟨x::l,rfl,by simpa using ⟨hx,hl⟩⟩
 obtain⟨l,rfl,hw⟩:=key rows hr;exact⟨l,rfl,by simpa [maxLen]using hl,hw⟩
theorem aij{l:Lf}{r:List V}(h:RS [l] r):∃v,r=[v]/\Mt l v:=by
 simp only [RS]at h;obtain⟨v,vs,rfl,h1,rfl⟩:=h;exact⟨v,rfl,h1⟩
theorem ajy{v:V}(h:Mt (.sl [.int .u8]) v):∃l:List UInt8,v=.sl 1 (l.map fun b=>[.int .u8 b.toNat])/\l.length<=9223372036854775807:=by
 obtain⟨l,rfl,hl⟩:=anH (f:=fun b:UInt8=>[V.int .u8 b.toNat]) (W:=fun _=>True) (fun r hr=>by
  obtain⟨v,rfl,g⟩:=aij hr;simp only [Mt]at g;obtain⟨n,rfl,hn⟩:=g;simp only [Lit.wf,aH,bf]at hn;have h1:IntKind.u8.min=0:=by decide
  have h2:IntKind.u8.max=255:=by decide
  rw [h1,h2]at hn;refine⟨UInt8.ofNat n.toNat,?_,trivial⟩;have e:(((UInt8.ofNat n.toNat).toNat:Nat):Int)=n:=by
   rw [UInt8.toNat_ofNat',Nat.mod_eq_of_lt (by omega)];omega
  rw [e]) h
 exact⟨l,rfl,hl.1⟩
def anI{α:Type}(P:α->Prop):List α->Prop
 | []=>True
 |x::l=>P x/\anI P l
theorem anI.mem{α:Type}{P:α->Prop}:∀{l:List α},anI P l->∀x∈l,P x
 | [],_,x,hx=>by cases hx
 |
  y::l,h,x,hx=>by
  rcases aI.1 hx with rfl|hx
  ·exact h.1
  exact anI.mem h.2 x hx
end Go.Ml
namespace Go.Ml
theorem aeu{H:Type}{enc:TypeId×Value->H}{P:Program}{w:World}{b:Nat}{sp:Nat->Bool}{hd:Bool}:∀{ts:List TypeId} {vs:List Value} {ds:List (DataW H)} {ps:List MemPlace},
  DataW.TrodAll enc P w b sp hd ts vs ds ps->ds.length=ts.length
 | [],[],[],_,_=>rfl
 | [],[],_::_,_,h=>h.elim
 | [],_::_,ds,_,h=>by cases ds<;>exact h.elim
 |_::_,[],ds,_,h=>by cases ds<;>exact h.elim
 |_::_,_::_,[],_,h=>h.elim
 |
  t::ts,v::vs,d::ds,ps,h=>by
  obtain⟨p,q,_,h2,_⟩:=h;simp [aeu h2]
end Go.Ml
end
