/- Contracts of functions. -/
import Derived.Test.YtfkmednjaknmgaaGreatPart5
set_option linter.unusedSimpArgs false
set_option linter.unusedVariables false
set_option maxRecDepth 100000
set_option maxHeartbeats 16000000
section
namespace Go.Ml
theorem att{S:List Lk}{D:Int}{N B DB K:Nat}(hS:lN S=true)(hC:∀x∈S,Cm D N B x)(hD1:1<=D)(hD:Ab D DB)(hK:S.length<=K)(hF:Ft (K*N) DB=true)(v u:Int) :
  ∀k,k<=S.length->∃z:Int,Ab z (k*N)/\Fq (imP S v u k) z D/\tot (imq v u) (S.take k)=(z:Rat) / (D:Rat)
 |0,_=>⟨0,eH _,aaf.to hD1 (by simp),by simp only [List.take_zero,tot];rw [Rat.intCast_zero,eF,iT]⟩
 |
  k+1,hk=>by
  obtain⟨z,z1,z2,z3⟩:=att hS hC hD1 hD hK hF v u k (by omega);have hm:=getD_mem (l:=S) (i:=k) (by omega);obtain⟨n,p,q,h1,h2,h4,h5,h6⟩:=(hC _ hm).ex;have hab:=qp (oL hS hm);have hpw:=(rU.1 hS).2;have hne:∀j,j<k->¬((S.getD j default).a=(S.getD k default).a/\(S.getD j default).b=(S.getD k default).b):=fun j hj=>aoq hpw hj (by omega);have hle:(k+1)*N<=K*N:=dG _ (by omega);rw [Zd _ (by omega),z3];show ∃z:Int,Ab z ((k+1)*N)/\Fq (VW v u (imP S v u k) (S.getD k default)) z D/\_;have hzero:((S.getD k default).a=v/\(S.getD k default).b=u)\/((S.getD k default).a=u/\(S.getD k default).b=v)->tot (imq v u) (S.take k)=0:=fun hc=>by
   have hvu:v≠u:=by omega
   have e:tot (imq v u) (S.take k)=tot (fun _=>0) (S.take k):=BG fun x hx=>by
    obtain⟨j,hj,rfl⟩:=List.mem_iff_getElem.1 hx;have hj2:j<k:=by simp at hj;omega
    have ej:(S.take k)[j]=S.getD j default:=by
     rw [List.getElem_take,aj,ak (by omega)];rfl
    rw [ej];have h3:=hne j hj2;have n3:=qp (oL hS (getD_mem (l:=S) (i:=j) (by omega)));unfold imq;rw [aN (by omega),aN (by omega)]
   rw [e];have:∀l:List Lk,tot (fun _=>0) l=0:=fun l=>by
    induction l with
    |nil=>rfl
    |cons x l ih=>simp only [tot];rw [ih,dY]
   exact this _
  generalize S.getD k default=x at *;unfold VW imq;by_cases c1:(x.a=v/\x.b=u)\/(x.a=u/\x.b=v)
  ·rw [aQ c1,aQ c1,<-z3,hzero c1];refine⟨-n,(ahs h1.2).mono (by rw [fA];omega),h4.neg,?_⟩;rw [h4.v,iR,Rat.intCast_neg,afd]
  rw [aN c1,aN c1];by_cases c2:v=u/\(x.a=v\/x.b=v)
  ·rw [aQ c2,aQ c2];have hb:Ab (z+n) ((k+1)*N):=by rw [fA];exact yx z1 h1.2
   refine⟨z+n,hb,z2.add h4 (by grind) hD1 (hb.mono hle) hD hF,?_⟩;rw [h4.v];exact VU hD1 hD1 hD1 (by grind)
  rw [aN c2,aN c2];exact⟨z,z1.mono (by rw [fA];omega),z2,by rw [dY]⟩
theorem atu{S:List Lk}{D:Int}{N B DB K:Nat}(hC:∀x∈S,Cm D N B x)(hD1:1<=D)(hD:Ab D DB)(hK:S.length<=K)(hF:Ft (K*B) DB=true)(hF2:Ft B DB=true)(v:Int) :
  ∀k,k<=S.length->(∃z:Int,Ab z (k*B)/\Fq (FB S v k).1 z D/\tot (WO mX v) (S.take k)=(z:Rat) / (D:Rat))/\∃z:Int,Ab z (k*B)/\Fq (FB S v k).2 z D/\tot (WO mY v) (S.take k)=(z:Rat) / (D:Rat)
 |
  0,_=>by
  have h0:∀f:Lk->Rat,tot f (S.take 0)=((0:Int):Rat) / (D:Rat):=fun f=>by simp only [List.take_zero,tot];rw [Rat.intCast_zero,eF,iT]
  exact⟨⟨0,eH _,aaf.to hD1 (by simp),h0 _⟩,⟨0,eH _,aaf.to hD1 (by simp),h0 _⟩⟩
 |
  k+1,hk=>by
  obtain⟨⟨z,z1,z2,z3⟩,y,y1,y2,y3⟩:=atu hC hD1 hD hK hF hF2 v k (by omega);have hm:=getD_mem (l:=S) (i:=k) (by omega);obtain⟨n,p,q,h1,h2,h4,h5,h6⟩:=(hC _ hm).ex;have hle:(k+1)*B<=K*B:=dG _ (by omega);rw [Zd _ (by omega),Zd _ (by omega),z3,y3];show (∃z:Int,Ab z ((k+1)*B)/\Fq (SX v (FB S v k) (S.getD k default)).1 z D/\_)/\∃z:Int,Ab z ((k+1)*B)/\Fq (SX v (FB S v k) (S.getD k default)).2 z D/\_;generalize S.getD k default=x at *;have wx:Fq (mulR x.w x.dx) p D:=h4.mul h5 (by grind) hD1 h2.1 hD hF2;have wy:Fq (mulR x.w x.dy) q D:=h4.mul h6 (by grind) hD1 h2.2 hD hF2;have k1:∀n p d:Rat,n≠0->n / d*(p / n)=p / d:=fun n p d h=>by rw [eF,eF,eF];grind
  have vx:mX x=(p:Rat) / (D:Rat):=by unfold mX;rw [h4.v,h5.v,k1 _ _ _ (mD h1.1)]
  have vy:mY x=(q:Rat) / (D:Rat):=by unfold mY;rw [h4.v,h6.v,k1 _ _ _ (mD h1.1)]
  have bz:=fun (b:Ab (z+p) (k*B+B))=>b;unfold SX WO;by_cases c1:x.b=v
  ·rw [aQ c1,aQ c1,aQ c1,vx,vy];have b1:Ab (z+p) ((k+1)*B):=by rw [fA];exact yx z1 h2.1
   have b2:Ab (y+q) ((k+1)*B):=by rw [fA];exact yx y1 h2.2
   exact⟨⟨z+p,b1,z2.add wx (by grind) hD1 (b1.mono hle) hD hF,VU hD1 hD1 hD1 (by grind)⟩,⟨y+q,b2,y2.add wy (by grind) hD1 (b2.mono hle) hD hF,VU hD1 hD1 hD1 (by grind)⟩⟩
  rw [aN c1,aN c1,aN c1];by_cases c2:x.a=v
  ·rw [aQ c2,aQ c2,aQ c2,vx,vy,<-Rat.sub_eq_add_neg,<-Rat.sub_eq_add_neg];have b1:Ab (z-p) ((k+1)*B):=by rw [fA];exact IV z1 h2.1
   have b2:Ab (y-q) ((k+1)*B):=by rw [fA];exact IV y1 h2.2
   exact⟨⟨z-p,b1,z2.sub wx (by grind) hD1 (b1.mono hle) hD hF,aht hD1 hD1 hD1 (by grind)⟩,⟨y-q,b2,y2.sub wy (by grind) hD1 (b2.mono hle) hD hF,aht hD1 hD1 hD1 (by grind)⟩⟩
  rw [aN c2,aN c2,aN c2,dY,dY];exact⟨⟨z,z1.mono (by rw [fA];omega),z2,rfl⟩,⟨y,y1.mono (by rw [fA];omega),y2,rfl⟩⟩
structure Big (S:List Lk) (D:Int) (N B DB K:Nat):Prop where
 ok:lN S=true
 cm:∀x∈S,Cm D N B x
 d:1<=D/\Ab D DB
 len:S.length<=K
 f:Ft (K*N) DB=true/\Ft (K*B) DB=true/\Ft B DB=true
 g:gF DB (K*N+K*B) (kF S).length=true
 cn:∀u∈kF S,Cn S u
theorem ajm{S:List Lk}(h:lN S=true):Nds S (kF S):=by
 refine⟨Jw (Gh S),fun u hu=>by have:=DC hu;omega,fun x hx=>?_⟩;have hab:=qp (oL h hx);obtain⟨k,hk⟩:=bJ.1 hx;have hkl:=(aP.1 hk).1;have hg:S.getD k default=x:=by rw [aj,hk];rfl
 have hm:∀u:Int,1<=u->u<10->(x.a=u\/x.b=u)->u∈kF S:=fun u h1 h2 h3=>by
  rw [JW h,JV];exact⟨h1,h2,Ux.2 ⟨k,hkl,by rw [hg];exact h3⟩⟩
 refine⟨?_,?_,by omega⟩
 ·by_cases e:x.a=0
  ·exact .inl e
  exact .inr (hm _ (by omega) (by omega) (.inl rfl))
 exact .inr (hm _ (by omega) (by omega) (.inr rfl))
def asb(ns:List Int)(y:Nat->Rat)(u:Int):Rat:=if u∈ns then y (ns.idxOf u)else 0
theorem ase{ns:List Int}(h:ns.Nodup){i:Nat}(hi:i<ns.length):ns.idxOf (ns.getD i 0)=i:=by
 have e:ns.getD i 0=ns[i]:=by rw [aj,ak hi];rfl
 have hm:ns.getD i 0∈ns:=Fv hi;have hlt:ns.idxOf (ns.getD i 0)<ns.length:=List.idxOf_lt_length_iff.2 hm;have hg:ns.getD (ns.idxOf (ns.getD i 0)) 0=ns.getD i 0:=by
  rw [aj (i:=ns.idxOf _),ak hlt];exact List.getElem_idxOf hlt
 rcases Nat.lt_trichotomy (ns.idxOf (ns.getD i 0)) i with k|k|k
 ·exact absurd hg.symm (Nz h k hi)
 ·exact k
 exact absurd hg (Nz h k hlt)
theorem XW{ns:List Int}(h:ns.Nodup){y:Nat->Rat}{i:Nat}(hi:i<ns.length):asb ns y (ns.getD i 0)=y i:=by
 unfold asb;rw [aQ (Fv hi),ase h hi]
theorem ahE{ns:List Int}(h:∀u∈ns,u≠0)(y:Nat->Rat):asb ns y 0=0:=aN fun e=>h 0 e rfl
theorem aoN(ns:List Int)(i:Nat):ns.getD i default=ns.getD i 0:=rfl
theorem awL{S:List Lk}{D:Int}{N B DB K:Nat}(h:Big S D N B DB K):dsB S=true/\∃f g:Int->Rat,(f 0=0/\g 0=0) /\
  (∀i,i<(kF S).length->((Xb (O4 S) (U3 S)).getD i default).q=some (f ((kF S).getD i 0))/\((Xb (O4 S) (U4 S)).getD i default).q=some (g ((kF S).getD i 0))) /\
  (∀v∈kF S,tot (WO (fun l=>l.w.v*(f l.b-f l.a)) v) S=tot (WO mX v) S)/\∀v∈kF S,tot (WO (fun l=>l.w.v*(g l.b-g l.a)) v) S=tot (WO mY v) S:=by
 have hN:=ajm h.ok;have hnl:=yR S;have hd:=h.d;have him:=att h.ok h.cm hd.1 hd.2 h.len h.f.1;have hiv:=atu h.cm hd.1 hd.2 h.len h.f.2.1 h.f.2.2;have hle1:S.length*N<=K*N+K*B:=dw (dG _ h.len) (by omega);have hle2:S.length*B<=K*N+K*B:=dw (dG _ h.len) (by omega);have hrow:∀i,i<(kF S).length->(Zu S (kF S).length).getD i default=Xh S ((kF S).getD i 0) (kF S).length:=fun i hi=>by
  unfold Zu;rw [bI,aj,bP,ak hi,aj,ak hi];rfl
 have hel:∀i,i<(kF S).length->∀j,j<(kF S).length->mEl (Zu S (kF S).length) i j=imP S ((kF S).getD i 0) ((kF S).getD j 0) S.length:=fun i hi j hj=>by
  unfold mEl;rw [hrow i hi];unfold Xh;rw [bI,aj,bP,ak hj,aj (i:=j),ak hj];rfl
 have hG:imG S=true:=by
  unfold imG;rw [h.ok,cZ,bg];intro r hr;unfold Zu at hr;obtain⟨v,_,rfl⟩:=bF.1 hr;rw [bg];intro e he;unfold Xh at he;obtain⟨u,_,rfl⟩:=bF.1 he;obtain⟨z,_,z2,_⟩:=him v u S.length (aJ _);exact z2.ok
 have eM:=Zv hG;have hvG:ivG S=true:=by
  unfold ivG;rw [bg];intro v _;obtain⟨⟨z,_,z2,_⟩,y,_,y2,_⟩:=hiv v S.length (aJ _);rw [z2.ok,y2.ok];rfl
 have eX:U3 S=(kF S).map fun v=>(FB S v S.length).1:=aQ hvG;have eY:U4 S=(kF S).map fun v=>(FB S v S.length).2:=aQ hvG;have hml:(O4 S).length=(kF S).length:=by rw [eM,XV (aJ _)]
 have hpos:∀x∈S,0<x.w.v:=fun x hx=>UQ (oL h.ok hx);have hinj:∀y:Nat->Rat,(∀i,i<(kF S).length->Bv (fun j=>tot (imq ((kF S).getD i 0) ((kF S).getD j 0)) S*y j) (kF S).length=0)->∀i,i<(kF S).length->y i=0:=fun y hy i hi=>by
  have h0:=ahE (y:=y) hN.n0;have:=awK hN hpos h.cn h0 (fun v hv=>?_) _ (Fv hi)
  ·rw [XW hN.nd hi]at this;exact this
  rw [<-aoM hN h0 hv,abo];obtain⟨k,hk,rfl⟩:=List.mem_iff_getElem.1 hv;have ek:(kF S)[k]=(kF S).getD k 0:=by rw [aj,ak hk];rfl
  rw [ek,<-hy k hk];exact EY fun j hj=>by rw [XW hN.nd hj]
 have sol:∀(b:List R) (m:Lk->Rat),b.length=(kF S).length->(∀i,i<(kF S).length->∃z:Int,Ab z (K*N+K*B)/\Fq (b.getD i default) z D/\tot (WO m ((kF S).getD i 0)) S=(z:Rat) / (D:Rat)) ->
   Z7 (O4 S) b=true/\∃f:Int->Rat,f 0=0/\(∀i,i<(kF S).length->((Xb (O4 S) b).getD i default).q=some (f ((kF S).getD i 0)))/\∀v∈kF S,tot (WO (fun l=>l.w.v*(f l.b-f l.a)) v) S=tot (WO m v) S:=fun b m hbl hb=>by
  obtain⟨s1,s2,y,y1,y2⟩:=aAu (n:=(kF S).length) (N:=K*N+K*B) (m:=O4 S) (a:=fun i j=>tot (imq ((kF S).getD i 0) ((kF S).getD j 0)) S) (b:=b) (v:=fun i=>tot (WO m ((kF S).getD i 0)) S) hml
   (fun i hi=>by rw [eM,hrow i hi,XU (aJ _)]) hbl (by omega)
   (fun i hi j hj=>by
    obtain⟨z,z1,z2,z3⟩:=him ((kF S).getD i 0) ((kF S).getD j 0) S.length (aJ _);rw [bI]at z3;exact⟨z,z1.mono hle1,by rw [eM,hel i hi j hj];exact z2,z3⟩) hb hd.1 hd.2 h.g hinj
  refine⟨s1,asb (kF S) y,ahE hN.n0 y,fun i hi=>by rw [XW hN.nd hi];exact y1 i hi,fun v hv=>?_⟩;rw [<-aoM hN (ahE hN.n0 y) hv,abo];obtain⟨k,hk,rfl⟩:=List.mem_iff_getElem.1 hv;have ek:(kF S)[k]=(kF S).getD k 0:=by rw [aj,ak hk];rfl
  rw [ek,<-y2 k hk];exact EY fun j hj=>by rw [XW hN.nd hj]
 have hget:∀(F:Int->R) i,i<(kF S).length->((kF S).map F).getD i default=F ((kF S).getD i 0):=fun F i hi=>by
  rw [aj,bP,ak hi,aj,ak hi];rfl
 obtain⟨a1,f,a2,a3,a4⟩:=sol (U3 S) mX (by rw [eX,aV]) fun i hi=>by
  obtain⟨z,z1,z2,z3⟩:=(hiv ((kF S).getD i 0) S.length (aJ _)).1;rw [bI]at z3;exact⟨z,z1.mono hle2,by rw [eX,hget _ i hi];exact z2,z3⟩
 obtain⟨b1,g,b2,b3,b4⟩:=sol (U4 S) mY (by rw [eY,aV]) fun i hi=>by
  obtain⟨z,z1,z2,z3⟩:=(hiv ((kF S).getD i 0) S.length (aJ _)).2;rw [bI]at z3;exact⟨z,z1.mono hle2,by rw [eY,hget _ i hi];exact z2,z3⟩
 refine⟨?_,f,g,⟨a2,b2⟩,fun i hi=>⟨a3 i hi,b3 i hi⟩,a4,b4⟩;unfold dsB dsC;rw [h.ok,a1,b1,hml,eX,eY,aV,aV,aT rfl];rfl
theorem awM(n:Nat)(l:List Pa):AP (n+3) (QX l):=by
 simp only [AP];intro r hr c hc;obtain⟨x,_,rfl⟩:=bF.1 hr
 revert c
 simp only [fM];exact⟨acB _ _ _,Ig _ _,xK _ _,xK _ _,Ig _ _,xK _ _,xK _ _,Ig _ _,xK _ _,xK _ _,by simp⟩
theorem aAC(n:Nat)(x:Cd):AP (n+4) (cdV x):=by
 refine anC ?_;simp only [fM];exact⟨acB _ _ _,Ig _ _,xK _ _,xK _ _,awM _ _,by simp⟩
theorem ac7{σ:Store}:Fin σ (.oU [.kC,.agg [.bool false,.kC,.kC],.bool false]) (.oU [Uc [],lD R0,.bool false]) :=
 ⟨.oU [Uc [],lD R0,.bool false],[],arR,I7 (qQ (o1:=[]) (by simp [mP]) (qQ (o1:=[]) amR (qV qm))),.nil⟩
theorem V4{T:Tb}(h:BM T){S:List Lk}{o:List Int}(hw:DR Lk.wf S)(hz:NS Lk.sz S<=1048576)(ho:o.length<=1048576):PO T 270 [nZ S,ints o] (.oU [Uc (eaN S o),lD (eaE S o),.bool (akK S o)]):=by
 have ci:=agK h.Zm (l:=S) (o:=o) hw ho
 cases hb:JX S o
 ·rw [hb]at ci;have hg:eaG S o=none:=by unfold eaG;rw [hb];rfl
  obtain⟨e1,e2,e3⟩:=UW hg;rw [e1,e2,e3];refine mM nR h.hT ?_;simp only [uN,Lz,St.enter,au,aG,aX];refine ew ?_;refine jK ci ?_;refine ew ?_;exact ac7
 rw [hb]at ci;have hok:=an7 hb;have hol:=acR hb;refine mM (fun x d=>(x == 39&&d == 21)||(x == 131&&d == 38)||(x == 183&&d == 49)) h.hT ?_;simp only [uN,Lz,St.enter,au,aG,aX];refine ew ?_;refine jK ci ?_;refine ew ?_;refine nH (qM h.lK (n:=0)) (by (refine ew ?_;try with_reducible exact aC)) ?_;intro r q1 o1 G;obtain⟨_,rfl,Rt⟩:=G.ow.lU;obtain⟨x1,x2,rfl⟩:=Rt.rat
 have E:Ep [some ⟨3,[[.bool false,.kC,.kC]]⟩] [] [] [] [(0,⟨3,[[.bool false,.kC,.kC]]⟩)]:=⟨Sl,by simp [jQ]⟩;have E2:=E.got (s1:=[some ⟨3,[[.bool false,.kC,.kC]]⟩]++[none,none]) (fun q hq=>by first|exact nX hq|(simp only [cO];exact nX hq)) (by simp) Rt G.nd G.fresh G.old;have F0:=E.free (s1:=[some ⟨3,[[.bool false,.kC,.kC]]⟩]++[none,none]) (p:=2) G.fresh (by simp) (by simp);have hq:3<=q1.length:=by simpa using G.len
 clear E G;have E:Ep q1 [.bool (lC 0).neg,x1,x2] [.bool (lC 0).neg,ints (lC 0).mag,ints (lC 0).den] _ [(0,⟨3,[[.bool false,.kC,.kC]]⟩)]:=E2;clear E2
 replace E:=E.JG (p:=2) (ob:=⟨3,[[.bool (lC 0).neg,x1,x2]]⟩) (L':=[(0,⟨3,[[.bool false,.kC,.kC]]⟩),(2,⟨3,[[.bool (lC 0).neg,x1,x2]]⟩)]) F0 (by omega) (by simp)
 have LF:=ah (E.leaf 1 rfl rfl) (E.leaf 2 rfl rfl);refine D6 @LF @kQ @lI @List.set_set.{0} ?_;clear LF;refine kZ (fun x d=>(x == 39&&d == 21)||(x == 131&&d == 38)||(x == 183&&d == 49)) (α:=Nat×Store×List Lk×List Cd×R×V×List (List V)×V×V×List Nat) (fun q=>⟨mJ [nZ q.2.2.1,.any,.any,.any,.any,.ptr 0 0 0,.any,q.2.2.2.2.2.1,.ptr 2 0 0,.any,.any,.any,.any,.any,.any,.any,.any,.any,.any,.any,.any,.any,ints o,iv (o.length:Nat),iv (q.1:Nat)],q.2.1,0,0,[],[]⟩) (fun q=>((q.1<=o.length/\Xf S o q.1=some (q.2.2.1,q.2.2.2.1,q.2.2.2.2.1)/\q.2.2.2.2.1.ok=true)/\q.2.2.2.2.2.2.1.length=q.1/\∀r∈q.2.2.2.2.2.2.1,r.length=5)/\∃M,LAt 5 q.2.2.2.2.2.1 q.2.2.2.2.2.2.1 M/\Ep q.2.1 ([.bool q.2.2.2.2.1.neg,q.2.2.2.2.2.2.2.1,q.2.2.2.2.2.2.2.2.1]++q.2.2.2.2.2.2.1.flatten) ([.bool q.2.2.2.2.1.neg,ints q.2.2.2.2.1.mag,ints q.2.2.2.2.1.den]++(q.2.2.2.1.map Cd.cells).flatten) q.2.2.2.2.2.2.2.2.2 ([(0,⟨3,[[.bool false,.kC,.kC]]⟩),(2,⟨3,[[.bool q.2.2.2.2.1.neg,q.2.2.2.2.2.2.2.1,q.2.2.2.2.2.2.2.2.1]]⟩)]++M)) (fun q=>o.length-q.1) rfl (0,(q1.set 2 (some ⟨3,[[.bool (lC 0).neg,x1,x2]]⟩)),S,[],lC 0,.kC,[],x1,x2,[]++o1) ?_ ?_ ?_
 ·exact⟨⟨⟨eH _,rfl,show (lC 0).ok=true by decide +kernel⟩,rfl,fun r hr=>by cases hr⟩,[],.inl ⟨rfl,rfl,rfl⟩,by simpa using E⟩
 ·(refine kS ?_;exact uw)
 clear E;rintro⟨k,s,L,N,e,pv,A,x1,x2,os⟩ ⟨⟨⟨hk,hf,he⟩,hAl,hA5⟩,M,hLA,E⟩;dsimp only at hk hf he hAl hA5 hLA E;obtain⟨⟨i1,i2,i3⟩,i4,i5,i6⟩:=acU hok hw hz hf;dsimp only at i1 i2 i3 i4 i5 i6;have L0:=E.at0 (p:=0) (ob:=⟨3,[[.bool false,.kC,.kC]]⟩) (by simp);have L1:=E.at0 (p:=2) (ob:=⟨3,[[.bool e.neg,x1,x2]]⟩) (by simp);have LFx:=ah (E.leaf 1 rfl rfl) (E.leaf 2 rfl rfl);by_cases hc:(k:Int)<(o.length:Nat)
 ·have hkl:k<o.length:=by omega
  have hs:Xf S o (k+1)=if OZ L (o.getD k 0)=true then some (XR L (o.getD k 0),N++[XQ L (o.getD k 0)],oC e (rnE L (o.getD k 0)))else none:=by simp only [Xf,hf]
  have hbad:Xf S o (k+1)=none->eaG S o=none:=fun h=>aff h (by omega);have hbd2:∀p,Xf S o (k+1)=some p->p.2.2.ok=false->eaG S o=none:=fun p h h2=>ahq h h2 (by omega);obtain⟨v,hv⟩:∃v,o.getD k 0=v:=⟨_,rfl⟩;rw [hv]at hs;have ca:=(aae h.UU (S:=L) (v:=v) i1 i2).XZ (by
   intro p hp;simp only [rnT,aI,bY,or_false]at hp;rcases hp with rfl|rfl|rfl|rfl
   ·exact aAC _ _
   ·exact anE _ _
   ·exact anD _ _
   exact Ig _ _)
  simp only [rnT,bT,iQ]at ca;have hen:=awh L v;have hgd:=@an8 L v;have hNl:N.length<=10:=by omega
  generalize XR L v=S' at *;generalize XQ L v=c at *;generalize rnE L v=e' at *;generalize OZ L v=b at *;refine Dy @hc @hkl @hv ?_;refine jK ca ?_;have hp2:¬(s.length+1=s.length):=by omega
  refine Ku @L0 @L1 @LFx @kQ @lI ?_;obtain⟨S1,hS1⟩:∃S1:Store,(((s++[some (⟨5,[[.int .i64 0,.bool false,.kC,.kC,.kC]]⟩:Obj)]++[none]).set (s.length+1) (some ⟨3,[[.bool false,.kC,.kC]]⟩)).set s.length (some ⟨5,[c.cells]⟩)).set (s.length+1) (some ⟨3,[e'.cells]⟩)=S1:=⟨_,rfl⟩;have h1:∀o,o<s.length->jQ S1 o=jQ s o:=fun o ho=>by
   rw [<-hS1,kN (by omega),kN (by omega),kN (by omega),cO,nX ho]
  have hl1:S1.length=s.length+2:=by rw [<-hS1];simp
  have hcd:jQ S1 s.length=some ⟨5,[c.cells]⟩:=by rw [<-hS1,kN (by omega),kY (by simp)]
  rw [hS1];clear hS1;have E1:=E.fr h1;have R:=ah (E1.res1 1 rfl rfl (kM _ _)) (E1.res1 2 rfl rfl (kM _ _));refine nH (yT h.lJ i4 hen) (by (refine Dy @R @kQ @lI ?_;try with_reducible exact aC)) ?_;intro r q2 o2 G;have gl:s.length+2<=q2.length:=by have:=G.len;omega
  obtain⟨_,rfl,hQ⟩:=G.ow.lU;obtain⟨y1,y2,rfl⟩:=hQ.rat
  have F1:2∉os:=(E.l (2,⟨3,[[.bool e.neg,x1,x2]]⟩) (by simp)).2;obtain⟨os2,E2,aFz⟩:=Ep.amY (a:=[.bool e.neg,x1,x2]) (b:=A.flatten) (ta:=[.bool e.neg,ints e.mag,ints e.den]) (tb:=(N.map Cd.cells).flatten) E1 rfl (s1:=S1) (fun q hq=>rfl) (aJ _) hQ G.nd G.fresh G.old;have F2:2∉os2:=fun hm=>by
   rcases aFz _ hm with h|h
   ·exact F1 h
   have:=L1.2;omega
  have hM:∀q∈M,q.1≠0/\q.1≠2:=fun q hq=>by
   rcases hLA with ⟨_,_,rfl⟩|⟨p,rfl,rfl⟩
   ·cases hq
   have L3:=E.at0 (p:=p) (ob:=⟨5,A⟩) (by simp);rw [aW.1 hq];refine⟨fun e=>?_,fun e=>?_⟩
   ·have e:p=0:=e;have:=L3.1;rw [e,L0.1]at this;cases this
   have e:p=2:=e;have:=L3.1;rw [e,L1.1]at this;cases this
  have hbd2:=fun (hs:Xf S o (k+1)=some (S',N++[c],oC e e'))=>hbd2 (S',N++[c],oC e e') hs;dsimp only at hbd2;have avZ:=wM e e';generalize oC e e'=e2 at *;have LF:=ah (E2.leaf 1 rfl rfl) (E2.leaf 2 rfl rfl);have M0:=E2.at0 (p:=0) (ob:=⟨3,[[.bool false,.kC,.kC]]⟩) (by simp);have M1:=E2.at0 (p:=2) (ob:=⟨3,[[.bool e.neg,x1,x2]]⟩) (by simp);refine Ku @LF @M0 @M1 @kQ @lI ?_;have E3:=E2.JG (p:=2) (ob:=⟨3,[[.bool e2.neg,y1,y2]]⟩) (L':=[(0,⟨3,[[.bool false,.kC,.kC]]⟩),(2,⟨3,[[.bool e2.neg,y1,y2]]⟩)]++M) F2 M1.2 (fun q hq=>by
   simp only [dI,iU,aI]at hq;rcases hq with rfl|rfl|hq
   ·exact .inl ⟨by decide,by simp⟩
   ·exact .inr rfl
   exact .inl ⟨(hM q hq).2,by simp [hq]⟩)
  have hcd2:jQ q2 s.length=some ⟨5,[c.cells]⟩:=(G.old _ (by omega)).trans hcd;have aAE:jQ (q2.set 2 (some ⟨3,[[.bool e2.neg,y1,y2]]⟩)) s.length=some ⟨5,[c.cells]⟩:=(kN (by have:=L1.2;omega)).trans hcd2;have aJT:(q2.set 2 (some (⟨3,[[.bool e2.neg,y1,y2]]⟩:Obj))).length=q2.length:=bV;generalize hq3:q2.set 2 (some ⟨3,[[.bool e2.neg,y1,y2]]⟩)=q3 at *;have N0:=E3.at0 (p:=0) (ob:=⟨3,[[.bool false,.kC,.kC]]⟩) (by simp);have N1:=E3.at0 (p:=2) (ob:=⟨3,[[.bool e2.neg,y1,y2]]⟩) (by simp);have R3:=ah (E3.res1 1 rfl rfl (kM _ _)) (E3.res1 2 rfl rfl (kM _ _));have hsl:=L1.2;clear E E1 E2 hcd hcd2 G hQ
  cases b
  ·obtain⟨e1,e2,e3⟩:=UW (hbad (by rw [hs];rfl));rw [e1,e2,e3];refine Ku @N0 @N1 @LF @kQ @lI ?_;exact ac7
  have cg:=Jg h.kW avZ;have hs:Xf S o (k+1)=some (S',N++[c],e2):=hs;have O:=hgd rfl;refine D5 @N0 @N1 @LF @R3 @kQ @lI ?_;refine jK cg ?_
  cases hb2:e2.ok
  ·obtain⟨e1,e2,e3⟩:=UW (hbd2 hs hb2);rw [e1,e2,e3];refine Ku @N0 @N1 @LF @kQ @lI ?_;exact ac7
  refine D5 @N0 @N1 @LF @aAE @kQ @lI ?_;have e4:∀σ:Store,resolve σ FD (cdV c)=some (cdV c):=fun σ=>GR (aaJ [c] _ (by simp));refine nH (Tv h.OD (c:=c) O.ne ⟨by have:=MJ O.cn.1;omega,fun a ha=>by have h1:=O.cn.2 a ha;have:=MJ h1.1;have:=MJ h1.2.1;have:=MJ h1.2.2;unfold Pa.sz;omega⟩ (by have:=O.len;omega)) (by (refine D6 @e4 @aAE @kQ @lI ?_;try with_reducible exact aC)) ?_;intro r q4 o4 G;obtain⟨_,rfl,hQ⟩:=G.ow.lU;obtain⟨z2,z3,z4,rfl⟩:=hQ.cd;have lz:=hQ.leaf rfl;simp only [dD,dU,aH,dJ]at lz;have hq5:∀o,o<q3.length->jQ (q3++[none,none]) o=jQ q3 o:=fun o ho=>nX ho;have E4:=E3.got (s1:=q3++[none,none]) hq5 (by simp) hQ G.nd (by simpa using G.fresh) (by simpa using G.old);have gl4:q3.length+2<=q4.length:=by have:=G.len;simpa using this
  have fr4:∀o∈o4,q3.length+2<=o:=fun o ho=>by have:=G.fresh o ho;simpa using this
  have P0:=E4.at0 (p:=0) (ob:=⟨3,[[.bool false,.kC,.kC]]⟩) (by simp);have P1:=E4.at0 (p:=2) (ob:=⟨3,[[.bool e2.neg,y1,y2]]⟩) (by simp);rcases hLA with ⟨rfl,rfl,rfl⟩|⟨p,rfl,rfl⟩
  ·refine D5 @P0 @P1 @lz @gl4 @kQ @lI ?_;refine⟨by omega,(k+1,?s1,S',N++[c],e2,.lQ (q3.length+1) 0 1,[]++[[iv c.node,.bool c.total.neg,z2,z3,z4]],y1,y2,os2++o4),?m1,⟨⟨⟨?a1,hs,hb2⟩,?b1,?c1⟩,[(q3.length+1,⟨5,[]++[[iv c.node,.bool c.total.neg,z2,z3,z4]]⟩)],.inr ⟨q3.length+1,?d1,rfl⟩,?f1⟩,?e1⟩
   case e1=>dsimp only;(refine kS ?_;exact uw)
   case m1=>dsimp only;omega
   case a1=>dsimp only;omega
   case b1=>dsimp only;simp at hAl ⊢;omega
   case c1 =>
    intro r hr;rcases aK.1 hr with hr|hr
    ·exact hA5 r hr
    rw [aW.1 hr];rfl
   case d1=>dsimp only;simp
   case f1 =>
    dsimp only;refine Ep.ahn (E4.to ?_ ?_) ?_ ?_
    ·intro o ho;have a1:o<q3.length\/q3.length+2<=o:=by
      rcases aK.1 ho with ho|ho
      ·exact .inl (E3.WY o ho)
      exact .inr (fr4 o ho)
     exact DV
    ·intro q hq;simp only [aI,bY,or_false]at hq;rcases hq with rfl|rfl|rfl
     ·refine .inl ⟨by simp,?_⟩;show jQ _ 0=jQ q4 0;exact DV
     ·refine .inl ⟨by simp,?_⟩;show jQ _ 2=jQ q4 2;exact DV
     refine .inr ⟨?_,fun hm=>?_⟩
     ·show jQ _ (q3.length+1)=_;simp (disch:=first|omega|(simp only [aS,bV,au,aG];omega)) only [Sj];rfl
     rcases aK.1 hm with hm|hm
     ·have:=E3.WY _ hm;omega
     have:=fr4 _ hm;omega
    ·simp
    simp
  have P3:=E4.at0 (p:=p) (ob:=⟨5,A⟩) (by simp);have hpq:=(E3.at0 (p:=p) (ob:=⟨5,A⟩) (by simp)).2;have hpn:=(E4.l (p,⟨5,A⟩) (by simp)).2;refine ew8 @P0 @P1 @lz @gl4 @P3 @hpq @kQ @lI ?_;refine⟨by omega,(k+1,?s2,S',N++[c],e2,.lQ (q3.length+1) 0 (A.length+1),A++[[iv c.node,.bool c.total.neg,z2,z3,z4]],y1,y2,os2++o4),?m2,⟨⟨⟨?a2,hs,hb2⟩,?b2,?c2⟩,[(q3.length+1,⟨5,A++[[iv c.node,.bool c.total.neg,z2,z3,z4]]⟩)],.inr ⟨q3.length+1,?d2,rfl⟩,?f2⟩,?e2⟩
  case e2=>dsimp only;(refine kS ?_;exact uw)
  case m2=>dsimp only;omega
  case a2=>dsimp only;omega
  case b2=>dsimp only;simp;omega
  case c2 =>
   intro r hr;rcases aK.1 hr with hr|hr
   ·exact hA5 r hr
   rw [aW.1 hr];rfl
  case d2=>dsimp only;simp
  case f2 =>
   dsimp only;refine Ep.ahn (E4.to ?_ ?_) ?_ ?_
   ·intro o ho;have a1:o<q3.length\/q3.length+2<=o:=by
     rcases aK.1 ho with ho|ho
     ·exact .inl (E3.WY o ho)
     exact .inr (fr4 o ho)
    have a2:o≠p:=fun e=>hpn (e▸ho);exact DV
   ·intro q hq;simp only [aI,bY,or_false]at hq;rcases hq with rfl|rfl|rfl
    ·refine .inl ⟨by simp,?_⟩;have:=(hM (p,⟨5,A⟩) (by simp)).1;dsimp only at this;show jQ _ 0=jQ q4 0;exact DV
    ·refine .inl ⟨by simp,?_⟩;have:=(hM (p,⟨5,A⟩) (by simp)).2;dsimp only at this;show jQ _ 2=jQ q4 2;exact DV
    refine .inr ⟨?_,fun hm=>?_⟩
    ·show jQ _ (q3.length+1)=_;exact DV
    rcases aK.1 hm with hm|hm
    ·have:=E3.WY _ hm;omega
    have:=fr4 _ hm;omega
   ·simp
   simp
 have hie:k=o.length:=by omega
 have hg:eaG S o=some (L,N,e):=by unfold eaG;rw [aQ hb,<-hie,hf];exact aQ he
 obtain⟨e1,e2,e3⟩:=Zn hg;rw [e1,e2,e3];have n0:=(E.l (0,⟨3,[[.bool false,.kC,.kC]]⟩) (by simp)).2;rcases hLA with ⟨rfl,rfl,rfl⟩|⟨p,rfl,rfl⟩
 ·have hN0:N=[]:=aY (by simp at hAl;omega);subst hN0;refine D5 @hc @L0 @L1 @LFx @kQ @lI ?_;refine⟨Il (L':=3) (by have:=L1.2;omega) (by unfold sF;rfl),?_⟩;have W:=(E.c.set (o:=0) (x:=some ⟨3,[[.bool e.neg,x1,x2]]⟩) n0);have W1:nC (s.set 0 (some ⟨3,[[.bool e.neg,x1,x2]]⟩)) [.bool e.neg,x1,x2] e.cells os:=by simpa using W.ow
  refine⟨.oU [Uc [],.agg [.bool e.neg,x1,x2],.bool true],_,?_,I7 (qQ (o1:=[]) (by simp [mP]) (qQ (ru W1) (qV qm))),by simpa using W.nd⟩;have h1:=kR (.agg [.bool e.neg,x1,x2]);simp only [nG,wJ]at h1 ⊢;exact⟨_,rfl,_,_,rfl,.inl ⟨rfl,.inl rfl⟩,_,_,rfl,h1,_,_,rfl,rfl,rfl⟩
 have L3:=E.at0 (p:=p) (ob:=⟨5,A⟩) (by simp);have hp0:p≠0:=fun e=>by have:=L3.1;rw [e,L0.1]at this;cases this
 refine D5 @hc @L0 @L1 @LFx @kQ @lI ?_;refine⟨Il (L':=3) (by have:=L1.2;omega) (by unfold sF;rfl),?_⟩;have Es:=E.JG (p:=0) (ob:=⟨3,[[.bool e.neg,x1,x2]]⟩) (L':=[(p,⟨5,A⟩)]) n0 L0.2 (fun q hq=>.inl (by rw [aW.1 hq];exact⟨hp0,by simp⟩));have hA':A.length=(N.map Cd.cells).length:=by rw [aV];omega
 have ht5:∀r∈N.map Cd.cells,r.length=5:=fun r hr=>by obtain⟨x,_,rfl⟩:=bF.1 hr;rfl
 have hfl:A.flatten.length=(N.map Cd.cells).flatten.length:=by
  have e1:∀(X:List (List V)),(∀r∈X,r.length=5)->X.flatten.length=X.length*5:=fun X=>by
   induction X with
   |nil=>intro _;rfl
   |cons r X ih=>intro h;rw [dO,aS,ih fun r hr=>h r (by simp [hr]),h r (by simp),au];omega
  rw [e1 A hA5,e1 _ ht5,hA']
 obtain⟨os1,E2,_⟩:=(Ep.ahn (cs':=[.bool e.neg,x1,x2]++(A.flatten++[])) (ts':=[.bool e.neg,ints e.mag,ints e.den]++((N.map Cd.cells).flatten++[])) Es (by simp) (by simp)).swap rfl hfl;obtain⟨os2,E3⟩:=E2.close (p:=p) (n:=5) (k:=5) (by simp) hA5 ht5 hA';have W:nC _ ([V.lQ p 0 A.length]++([.bool e.neg,x1,x2]++[])) ([Uc N]++(e.cells++[])) os2:=E3.c.ow;obtain⟨a1,a2,p1,p2,ea,rfl,w1,w2⟩:=pV W;obtain⟨rfl,rfl⟩:=fO ea (by exact w1.len.symm);rw [aU,aU]at w2;have W9:=nD w1 (nD (asT (ru w2)) (qV (b:=true) qm));refine xg (I7 W9) ?_;simpa using E3.c.nd
theorem get_at{A:List (List V)}{d:Nat}(h:d<A.length):A[d]? = some (A.getD d []):=by
 rw [aj,ak h];rfl
theorem Zx{A:List (List V)}{d:Nat}{r:List V}(h:d<A.length):(A.set d r).flatten=(A.take d).flatten++(r++(A.drop (d+1)).flatten):=by
 rw [List.set_eq_take_append_cons_drop,aQ h,gq,dO]
theorem ajn{A:List (List V)}{d:Nat}(h:d<A.length):A.flatten=(A.take d).flatten++(A.getD d []++(A.drop (d+1)).flatten):=by
 rw [<-Zx h]
 congr 1
 have:A.getD d []=A[d]:=by rw [aj,ak h];rfl
 rw [this,List.set_getElem_self]
theorem V5{n:Nat}:∀{A:List (List V)},(∀r∈A,r.length=n)->A.flatten.length=A.length*n
 | [],_=>by simp
 |
  a::A,h=>by
  rw [dO,aS,V5 fun r hr=>h r (by simp [hr]),h a (by simp),au,fA,Nat.add_comm]
theorem asf{n:Nat}{A B:List (List V)}(ha:∀r∈A,r.length=n)(hb:∀r∈B,r.length=n)(h:A.length=B.length):A.flatten.length=B.flatten.length:=by
 rw [V5 ha,V5 hb,h]
theorem ahF{row cs:List V}(h:row.length=cs.length):splice row 0 cs=cs:=by
 unfold splice;simp [h]
theorem ac8{T:Tb}(h:IU T){l:List Cd}(hw:DR Cd.wf l)(hps:∀c∈l,c.ps.length<=1048576)(hl:l.length<=1048576):PO T 272 [Uc l] (.oU [Ub (XO l),.bool (svG l)]):=by
 have ci:=aex h.Oz hw hl
 cases hn:JR l
 ·rw [hn]at ci;rw [acM (acN hn),acN hn];refine mM nR h.hT ?_;simp only [zh,Lz,St.enter,au,aG,aX];refine ew ?_;refine jK ci ?_;refine ew ?_;exact(qF (sz:=6)).Ba
 rw [hn]at ci;refine mM (fun x d=>(x == 186&&d == 29)||(x == 176&&d == 44)) h.hT ?_;simp only [zh,Lz,St.enter,au,aG,aX];refine ew ?_;refine jK ci ?_;refine ew ?_;have e0:ZI l 0=0:=rfl;refine kZ (fun x d=>(x == 186&&d == 29)||(x == 176&&d == 44)) (α:=Nat×Store) (fun q=>⟨mJ [Uc l,.any,.any,.any,iv (ZI l q.1:Nat),.any,.any,.any,.any,.any,.any,.any,.any,.any,Uc l,iv (l.length:Nat),iv (q.1:Nat)],q.2,0,0,[],[]⟩) (fun q=>q.1<=l.length) (fun q=>l.length-q.1) rfl (0,[]) ?_ ?_ ?_
 ·exact eH _
 ·(refine kS ?_;exact uw)
 rintro⟨i,s⟩ hi;dsimp only at hi;by_cases hc:(i:Int)<(l.length:Nat)
 ·have hil:i<l.length:=by omega
  have hx:(l.map Cd.cells).getD i []=(l.getD i default).cells:=mg hil;have hno:=Tt hn hil;have es:ZI l (i+1)=max (ZI l i) (l.getD i default).node.toNat:=rfl;obtain⟨d,hd⟩:∃d:Nat,(l.getD i default).node=(d:Nat):=⟨(l.getD i default).node.toNat,by omega⟩;have es2:(ZI l (i+1):Int)=max (ZI l i:Int) (d:Int):=by rw [es,hd];simp<;>omega
  refine Dy @hc @hx @hd ?_;refine⟨(i+1,?st),?c1,?c2,?c3⟩
  case c3=>dsimp only;(refine kS ?_;exact uw)
  case c1=>dsimp only;omega
  case c2=>dsimp only;omega
 have hie:i=l.length:=by omega
 subst hie;have hm9:=ahk hn l.length (aJ _);have hA0:Ih l 0=svP (ZI l l.length):=rfl;have hlen:=QN l;have hcn:=ahl l;have aAF:∀k,k<l.length->1<=(svC l k).node/\(svC l k).node.toNat<=ZI l l.length:=fun k hk=>anU hn hk;dsimp only at *;generalize ZI l l.length=m at *;have t1:((m:Int)+1).toNat=m+1:=by omega
 refine AZ @hc @t1 ?_;refine⟨⟨by omega,by omega,by omega⟩,?_⟩;generalize hp:s.length=p;have E:Ep (s++[some ⟨6,List.replicate (m+1) [.bool false,.kC,.kC,.bool false,.kC,.kC]⟩]) [] [] [] [(p,⟨6,List.replicate (m+1) [.bool false,.kC,.kC,.bool false,.kC,.kC]⟩)]:=⟨Sl,by subst hp;simp [rP]⟩;refine nH (Jl h.vH) (by (refine ew ?_;try with_reducible exact aC)) ?_;intro r q1 o1 G;obtain⟨_,rfl,Rt⟩:=G.ow.lU;obtain⟨x1,x2,x3,x4,rfl⟩:=Rt.pt;have E2:=E.got (fun q hq=>rfl) (aJ _) Rt G.nd G.fresh G.old;clear E G;generalize []++o1=ow at E2;have E2:Ep q1 [.bool (lC 0).neg,x1,x2,.bool (lC 0).neg,x3,x4] (⟨lC 0,lC 0⟩:Pt).cells ow [(p,⟨6,List.replicate (m+1) [.bool false,.kC,.kC,.bool false,.kC,.kC]⟩)]:=E2;have Lp:=E2.at0 (p:=p) (ob:=⟨6,List.replicate (m+1) [.bool false,.kC,.kC,.bool false,.kC,.kC]⟩) (by simp);have np:=(E2.l _ (aW.2 rfl)).2;have LF:=ah (ah (E2.leaf 1 rfl rfl) (E2.leaf 2 rfl rfl)) (ah (E2.leaf 4 rfl rfl) (E2.leaf 5 rfl rfl));refine D6 @t1 @Lp @LF @hp ?_;have hq:nC (q1.set p (some ⟨6,[.bool (lC 0).neg,x1,x2,.bool (lC 0).neg,x3,x4]::List.replicate m XP⟩)) [.bool (lC 0).neg,x1,x2,.bool (lC 0).neg,x3,x4] (⟨lC 0,lC 0⟩:Pt).cells ow:=(E2.c.set np).ow;have hpl:p<(q1.set p (some (⟨6,[.bool (lC 0).neg,x1,x2,.bool (lC 0).neg,x3,x4]::List.replicate m XP⟩:Obj))).length:=by rw [bV];exact Lp.2
 have hpa:jQ (q1.set p (some (⟨6,[.bool (lC 0).neg,x1,x2,.bool (lC 0).neg,x3,x4]::List.replicate m XP⟩:Obj))) p=some ⟨6,[.bool (lC 0).neg,x1,x2,.bool (lC 0).neg,x3,x4]::List.replicate m XP⟩:=kY Lp.2;have nd:=E2.c.nd;clear E2 LF Lp;refine kZ (fun x d=>(x == 186&&d == 29)||(x == 176&&d == 44)) (α:=Nat×Store×List (List V)×List Nat) (fun q=>⟨mJ [Uc l,.any,.any,.any,.any,.any,.any,.lQ p 0 (m+1),iv ((l.length:Int)-1-(q.1:Nat))],q.2.1,0,0,[],[]⟩) (fun q=>(q.1<=l.length/\q.2.2.1.length=m+1/\(∀r∈q.2.2.1,r.length=6)/\∀j,j<q.1->Kw (svC l j) (Ih l j)=true)/\Ep q.2.1 q.2.2.1.flatten ((Ih l q.1).map Pt.cells).flatten q.2.2.2 [(p,⟨6,q.2.2.1⟩)]) (fun q=>l.length-q.1) rfl (0,FN (q1.set p (some ⟨6,[.bool (lC 0).neg,x1,x2,.bool (lC 0).neg,x3,x4]::List.replicate m XP⟩)) p ⟨6,[.bool (lC 0).neg,x1,x2,.bool (lC 0).neg,x3,x4]::List.replicate m (⟨R0,R0⟩:Pt).cells⟩ ow,[.bool (lC 0).neg,x1,x2,.bool (lC 0).neg,x3,x4]::List.replicate m (⟨R0,R0⟩:Pt).cells,ow) ?_ ?_ ?_
 ·refine⟨⟨eH _,by simp,?_,fun j hj=>absurd hj (dB _)⟩,by rw [hA0];exact anY hq nd np hpl⟩;intro r hr;rcases aI.1 hr with rfl|hr
  ·rfl
  rw [(List.mem_replicate.1 hr).2];rfl
 ·dsimp only;refine anW (p:=p) (n:=6) (A:=[.bool (lC 0).neg,x1,x2,.bool (lC 0).neg,x3,x4]::List.replicate m XP) hpa (by simp) (acP hq) (fun i r r2 h1 h2=>anV (ahm hq fun o ho=>⟨ho,fun e=>np (by rw [<-e];exact ho)⟩) i r r2 h1 h2) ?_;refine ew ?_
  (repeat' (first|exact aC|omega|refine⟨?_,?_⟩|exact pW rfl (by simp;done)|exact pW rfl rfl|(refine qK (n:=m+1) ?_ (aJ _) rfl;rw [Fe hpl,aQ rfl];simp;done)))
 clear hq hpl hpa nd np;rintro⟨k,t,A,os⟩ ⟨⟨hk,hAl,hAr,hok⟩,E⟩;dsimp only at hk hAl hAr hok E;have hTr:∀r∈(Ih l k).map Pt.cells,r.length=6:=fun r hr=>by obtain⟨x,_,rfl⟩:=bF.1 hr;rfl
 have hTl:A.length=((Ih l k).map Pt.cells).length:=by rw [aV,hlen];omega
 have E':Ep t (A.flatten++[]) (((Ih l k).map Pt.cells).flatten++[]) os [(p,⟨6,A⟩)]:=by simpa only [aU]using E
 have L:=E.at0 (p:=p) (ob:=⟨6,A⟩) (by simp);have Rf:=E'.UC (p:=p) (n:=6) (by simp) hAr hTr hTl FD (Xu _ _);by_cases hc2:(0:Int)<=(l.length:Int)-1-(k:Nat)
 ·have hkl:k<l.length:=by omega
  have ti:((l.length:Int)-1-(k:Nat)).toNat=l.length-1-k:=by omega
  have hx:(l.map Cd.cells).getD (l.length-1-k) []=(svC l k).cells:=mg (by omega);have hno:=aAF k hkl;have hln:=hlen k;have hps:(svC l k).ps.length<=1048576:=hps _ (getD_mem (by omega));have hcw:(svC l k).wf:=hw.at_ (by omega);have ca:=Qi h.Nv (c:=svC l k) (at':=Ih l k) hcw (anT (hcn k) (by omega)) hps (by omega);have es:Ih l (k+1)=(Ih l k).set (svC l k).node.toNat (acV (svC l k) (Ih l k)):=rfl;have hbad:=awc hkl;have aFA:Kw (svC l k) (Ih l k)=true->∀j,j<k+1->Kw (svC l j) (Ih l j)=true:=fun h j hj=>by
   by_cases e:j=k
   ·subst e;exact h
   exact hok j (by omega)
  generalize acV (svC l k) (Ih l k)=qv at *;generalize Kw (svC l k) (Ih l k)=b at *;generalize Ih l k=P at *;generalize svC l k=c at *;obtain⟨d,hd⟩:∃d:Nat,c.node=(d:Nat):=⟨c.node.toNat,by omega⟩;have hdm:d<m+1:=by omega
  have aFB:(d:Int)<((m+1:Nat):Int):=by omega
  have Rf2:=(E'.snoc (x:=none)).UC (p:=p) (n:=6) (by simp) hAr hTr hTl FD (Xu _ _);rw [hAl]at Rf Rf2;refine D5 (ah hc2 ti) @hx @L @Rf @kQ @lI ?_;refine nH ca (by (refine Ae @Rf2 ?_;try with_reducible exact aC)) ?_;intro r q o G;obtain⟨v,rfl,H⟩:=G.Ba;clear G;have G:=H;clear H;obtain⟨_,rfl,hQ⟩:=G.ow.lU;obtain⟨z1,z2,z3,z4,rfl⟩:=hQ.pt;have lz:=nC.leaf hQ rfl;simp only [dD,dU,dJ,aH]at lz;have gl:t.length+1<=q.length:=by simpa using G.len
  have K:jQ q p=some ⟨6,A⟩:=(G.old p (by have:=L.2;simp;omega)).trans ((kV L.2).trans L.1);have hbb:b=false\/b=true:=by cases b<;>simp
  rcases hbb with hbb|hbb
  ·rw [acM (hbad hbb),hbad hbb];refine D5 @hbb @K @gl @lz @kQ @lI ?_;exact(qF (sz:=6)).Ba
  have Kp:p<q.length:=by have:=L.2;omega
  have ne:t.length≠p:=by have:=L.2;omega
  obtain⟨six,aFC⟩:∃six,[V.bool qv.x.neg,z1,z2,.bool qv.y.neg,z3,z4]=six:=⟨_,rfl⟩;have hdA:d<A.length:=by omega
  have hdT:d<(P.map Pt.cells).length:=by rw [<-hTl];exact hdA
  have hrow:=get_at hdA;have hrl:(A.getD d []).length=6:=hAr _ (bn hrow);have aAG:splice (A.getD d []) 0 [V.bool qv.x.neg,z1,z2,.bool qv.y.neg,z3,z4]=[V.bool qv.x.neg,z1,z2,.bool qv.y.neg,z3,z4]:=ahF (by rw [hrl];rfl);have htl:((P.map Pt.cells).getD d []).length=6:=hTr _ (bn (get_at hdT));have EU:=E;rw [ajn hdA,ajn hdT]at EU;obtain⟨row,hre⟩:∃row,A.getD d []=row:=⟨_,rfl⟩;rw [hre]at hrow hrl aAG EU;have hh6:[V.bool qv.x.neg,z1,z2,.bool qv.y.neg,z3,z4].length=6:=rfl;obtain⟨os',E9⟩:=Ep.upd (p:=p) (ob:=⟨6,A.set d [V.bool qv.x.neg,z1,z2,.bool qv.y.neg,z3,z4]⟩) (ob0:=⟨6,A⟩) (L':=[(p,⟨6,A.set d [V.bool qv.x.neg,z1,z2,.bool qv.y.neg,z3,z4]⟩)]) (s1:=t++[some ⟨6,[[V.bool qv.x.neg,z1,z2,.bool qv.y.neg,z3,z4]]⟩]) (σ2:=q.set t.length (some ⟨6,[[V.bool qv.x.neg,z1,z2,.bool qv.y.neg,z3,z4]]⟩)) EU (by simp)
   (asf (fun r hr=>hAr r (dH hr)) (fun r hr=>hTr r (dH hr)) (by simp only [eu];omega)) (by rw [hrl,htl]) (fun o ho=>kV ho) (by simp)
   (hQ.frame fun o ho=>by
    have:=G.fresh o ho;simp at this;rw [kN (by omega)]) G.nd (fun o ho=>by have:=G.fresh o ho;simpa using this) (fun o ho=>by
    by_cases e:o=t.length
    ·subst e;rw [kY (by omega),rP]
    have ho':o<t.length:=by simp at ho;omega
    rw [kN e,G.old o (by simp;omega),kV ho',kV ho'])
   (by intro x hx;exact .inr (aW.1 hx)) (by simp;omega)
  clear aFC EU;refine ew8 @hbb (ah K Kp) (ah gl lz) (ah hx ti) (ah hd aFB) (ah hrow (ah hrl aAG)) @kQ @lI ?_;refine⟨by unfold sF;rfl,?_⟩;refine⟨(k+1,?st9,A.set d [V.bool qv.x.neg,z1,z2,.bool qv.y.neg,z3,z4],os'),?c1,⟨⟨?c2,by simp [hAl],?c4,aFA hbb⟩,?c5⟩,?c3⟩
  case c3=>dsimp only;(refine kS ?_;exact uw)
  case c1=>dsimp only;omega
  case c2=>dsimp only;omega
  case c4 =>
   dsimp only;intro r hr;rcases jd hr with hr|rfl
   ·exact hAr r hr
   rfl
  case c5 =>
   dsimp only;have ed:c.node.toNat=d:=by omega
   have hdr:List.drop 6 row=[]:=eP (by omega);rw [es,ed,List.map_set,Zx hdA,Zx hdT,List.set_set,hdr];exact E9
 have hke:k=l.length:=by omega
 subst hke;have hG:=ai2 hn hok;rw [Nw hG,hG];refine Ae @hc2 ?_;obtain⟨os1,E1⟩:=E'.close (p:=p) (n:=6) (by simp) hAr hTr hTl;obtain⟨v,vs,o1,o2,e,rfl,k1,k2⟩:=E1.c.ow.inv;simp only [iF]at e;obtain⟨rfl,rfl⟩:=e;obtain⟨_,rfl⟩:=k2.Ec;rw [hAl]at k1;have hf:Fin t (.lQ p 0 (m+1)) (Ub (Ih l l.length)):=xg k1 (by have:=E1.c.nd;simpa using this);exact hf.Ba
theorem awN{N:List Cd}(h:NS Cd.sz N<=500000):∀c∈N,c.ps.length<=1048576:=fun c hc=>by
 have h1:=Ui (f:=Cd.sz) h hc;have h2:=P7 Pa.sz c.ps;unfold Cd.sz at h1;omega
theorem ajo{x:Lk}(h:Jn 7 x):Cm 1 63 1260 x:=by
 obtain⟨n,p,q,h1,h2,h3,e1,e2,e3⟩:=h.ex;have k:∀a:Rat,a / 1=a:=fun a=>by grind
 exact⟨n,p,q,⟨h1.1,by unfold Ab;omega⟩,⟨by unfold Ab;omega,by unfold Ab;omega⟩,⟨by rw [Rat.intCast_one,k];exact e1,by decide⟩,⟨e2,h1.1⟩,⟨e3,h1.1⟩⟩
theorem ac9{n:Nat}{S:List Lk}(h:OX n S):∀m:Nat,∀u:Int,0<=u->u<=n->u.toNat<=m->Cn S u
 |0,u,h0,_,hm=>by rw [show u=0 by omega];exact .z
 |
  m+1,u,h0,hn,hm=>by
  by_cases e:u=0
  ·rw [e];exact .z
  obtain⟨x,hx,h1,h2⟩:=h.base (u.toNat-1) (by omega);have:=h.ab x hx;exact .s hx (.inr ⟨rfl,by omega⟩) (ac9 h m x.a (by omega) (by omega) (by omega))
theorem afp{n:Nat}{S:List Lk}(h:OX n S){o:List Int}(hO:JX S o=true):Dr S o/\1<=o.length:=by
 have hrn:=h.rn;have hp:=of_decide_eq_true hO;obtain⟨⟨_,hlen⟩,hin,hnd⟩:=Uy.1 hp;have hmem:∀u:Int,u∈kF S↔1<=u/\u<10/\∃k,k<S.length/\((S.getD k default).a=u\/(S.getD k default).b=u):=fun u=>by
  rw [JW h.ok,JV,Ux];rfl
 have agS:∀u∈kF S,1<=u/\u<=(n:Int)+1:=fun u hu=>by
  obtain⟨h1,h2,k,hk,h3⟩:=(hmem u).1 hu;have:=h.ab _ (getD_mem hk);omega
 have hto:∀x∈S,(x.a=0\/x.a∈o)/\(x.b=0\/x.b∈o):=fun x hx=>by
  have hab:=h.ab x hx;obtain⟨k,hk⟩:=bJ.1 hx;have hkl:=(aP.1 hk).1;have hg:S.getD k default=x:=by rw [aj,hk];rfl
  constructor
  ·by_cases e:x.a=0
   ·exact .inl e
   exact .inr (hp.2.2 _ ((hmem _).2 ⟨by omega,by omega,k,hkl,.inl (by rw [hg])⟩))
  exact .inr (hp.2.2 _ ((hmem _).2 ⟨by omega,by omega,k,hkl,.inr (by rw [hg])⟩))
 refine⟨⟨h.ok,fun x hx=>ajo (afc h x hx),?_,hto,fun u hu=>?_,hnd,fun u hu=>?_⟩,by rw [hlen];exact TA h⟩
 ·have:=EC (a:=o) (b:=[1,2,3,4,5]) hnd fun u hu=>by
   have:=agS u (hin u hu);simp only [aI,bY,or_false];omega
  simpa using this
 ·have hr:=agS u (hin u hu);by_cases e:u<=n
  ·exact ac9 h u.toNat u (by omega) e (aJ _)
  obtain⟨h1,h2,k,hk,h3⟩:=(hmem u).1 (hin u hu);have hx:=getD_mem (l:=S) hk;have:=h.ab _ hx;exact .s hx (.inr ⟨rfl,by omega⟩) (ac9 h (S.getD k default).a.toNat _ (by omega) (by omega) (aJ _))
 have hr:=agS u (hin u hu);omega
theorem aAH{P:List Pt}{S:List Lk}{o:List Int}:∀k,(∀j,j<k->dsq P (o.getD j 0) (cA S o j)=0)->cQ P S o k=0
 |0,_=>rfl
 |
  k+1,h=>by
  simp only [cQ];rw [aAH k fun j hj=>h j (by omega),h k (by omega),Rat.mul_zero,dY]
structure Least (L:List Lk) (at':List Pt) (e:R):Prop where
 te:avA L at'=true
 en:e=teV L at'
 eok:e.ok=true
 len:2<=at'.length/\at'.length<=10
 v:∃v:Nat,1<=v/\v<at'.length/\(at'.getD v default).x.ok=true
 mv:∀(v:Nat) (m d:Int) (r:R),(-10<=m/\m<=10)->(1<=d/\d<=3)->Fq r m d->(at'.getD v default).x.ok=true->v<at'.length ->
  avA L (at'.set v ⟨oC (at'.getD v default).x r,(at'.getD v default).y⟩)=true/\e.v<=(teV L (at'.set v ⟨oC (at'.getD v default).x r,(at'.getD v default).y⟩)).v/\(teV L (at'.set v ⟨oC (at'.getD v default).x r,(at'.getD v default).y⟩)).ok=true
theorem ajp(p q:Lk->Rat)(v:Int)(S:List Lk):tot (WO (fun l=>p l-q l) v) S=tot (WO p v) S-tot (WO q v) S:=by
 rw [<-ac5];refine BG fun x _=>?_;unfold WO;split
 ·rfl
 split
 ·grind
 grind
theorem afq{S:List Lk}{h:Int->Rat}(h0:h 0=0)(he:∀x∈S,h x.b=h x.a):∀u,Cn S u->h u=0:=fun u hu=>by
 induction hu with
 |z=>exact h0
 |
  @s u w x hx hxe _ ih =>
  have:=he x hx;rcases hxe with ⟨e1,e2⟩|⟨e1,e2⟩
  ·rw [<-e1,<-this,e2];exact ih
  rw [<-e2,this,e1];exact ih
theorem awO(w mx my mz a b c d:Rat):w*(a*a+b*b)-2*(a*mx)-2*(b*my)+mz-(w*(c*c+d*d)-2*(c*mx)-2*(d*my)+mz)=w*(a-c)*(a-c)+w*(b-d)*(b-d)+2*((w*c-mx)*(a-c))+2*((w*d-my)*(b-d)):=by grind
theorem aoO(a b c d:Lk->Rat)(S:List Lk):tot (fun l=>a l+b l+2*c l+2*d l) S=tot a S+tot b S+2*tot c S+2*tot d S:=by
 induction S with
 |nil=>simp only [tot];grind
 |cons x S ih=>simp only [tot];rw [ih];grind
theorem aoP{S:List Lk}{ns:List Int}(hN:Nds S ns)(hok:lN S=true)(hc:∀u∈ns,Cn S u){f g p q:Int->Rat}(f0:f 0=0/\g 0=0/\p 0=0/\q 0=0)
  (ef:∀v∈ns,tot (WO (fun l=>l.w.v*(f l.b-f l.a)) v) S=tot (WO mX v) S) (eg:∀v∈ns,tot (WO (fun l=>l.w.v*(g l.b-g l.a)) v) S=tot (WO mY v) S)
  {P Q:List Pt} (hP:∀u,u=0\/u∈ns->(P.getD u.toNat default).x.v=p u/\(P.getD u.toNat default).y.v=q u) (hQ:∀u,u=0\/u∈ns->(Q.getD u.toNat default).x.v=f u/\(Q.getD u.toNat default).y.v=g u)
  (hle:tot (TI P) S<=tot (TI Q) S):∀u∈ns,p u=f u/\q u=g u:=by
 have hpos:∀x∈S,0<x.w.v:=fun x hx=>UQ (oL hok hx);have hd:tot (TI P) S-tot (TI Q) S=tot (fun l=>l.w.v*((p l.b-f l.b)-(p l.a-f l.a))*((p l.b-f l.b)-(p l.a-f l.a))+l.w.v*((q l.b-g l.b)-(q l.a-g l.a))*((q l.b-g l.b)-(q l.a-g l.a)) +
   2*((l.w.v*(f l.b-f l.a)-mX l)*((p l.b-f l.b)-(p l.a-f l.a)))+2*((l.w.v*(g l.b-g l.a)-mY l)*((q l.b-g l.b)-(q l.a-g l.a)))) S:=by
  rw [<-ac5];refine BG fun x hx=>?_;have hl:=hN.l x hx;unfold TI;rw [QT,QT,(hP _ hl.1).1,(hP _ hl.1).2,(hP _ hl.2.1).1,(hP _ hl.2.1).2,(hQ _ hl.1).1,(hQ _ hl.1).2,(hQ _ hl.2.1).1,(hQ _ hl.2.1).2,awO];have e1:p x.b-p x.a-(f x.b-f x.a)=(p x.b-f x.b)-(p x.a-f x.a):=by grind
  have e2:q x.b-q x.a-(g x.b-g x.a)=(q x.b-g x.b)-(q x.a-g x.a):=by grind
  rw [e1,e2];rfl
 rw [aoO]at hd;have z1:=ahD hN (f:=fun u=>p u-f u) (by show p 0-f 0=0;rw [f0.1,f0.2.2.1];grind) fun l=>l.w.v*(f l.b-f l.a)-mX l;have z2:=ahD hN (f:=fun u=>q u-g u) (by show q 0-g 0=0;rw [f0.2.1,f0.2.2.2];grind) fun l=>l.w.v*(g l.b-g l.a)-mY l;rw [AX (g:=fun _=>0) fun v hv=>by rw [ajp,ef v hv];grind,VZ]at z1;rw [AX (g:=fun _=>0) fun v hv=>by rw [ajp,eg v hv];grind,VZ]at z2;rw [<-z1,<-z2]at hd;obtain⟨n1,k1⟩:=ac6 (f:=fun l=>l.w.v*((p l.b-f l.b)-(p l.a-f l.a))*((p l.b-f l.b)-(p l.a-f l.a))) (S:=S) fun x hx=>by
  have:=Rat.mul_nonneg (Rat.le_of_lt (hpos x hx)) (afj ((p x.b-f x.b)-(p x.a-f x.a)))
  rwa [<-Rat.mul_assoc]at this
 obtain⟨n2,k2⟩:=ac6 (f:=fun l=>l.w.v*((q l.b-g l.b)-(q l.a-g l.a))*((q l.b-g l.b)-(q l.a-g l.a))) (S:=S) fun x hx=>by
  have:=Rat.mul_nonneg (Rat.le_of_lt (hpos x hx)) (afj ((q x.b-g x.b)-(q x.a-g x.a)))
  rwa [<-Rat.mul_assoc]at this
 have k1:=k1 (by grind);have k2:=k2 (by grind);have zero:∀w d:Rat,0<w->w*d*d=0->d=0:=fun w d h2 h1=>by
  have hw0:w≠0:=fun e=>by rw [e]at h2;exact absurd h2 Rat.lt_irrefl
  grind
 have c1:=afq (S:=S) (h:=fun u=>p u-f u) (by show p 0-f 0=0;rw [f0.1,f0.2.2.1];grind) fun x hx=>by
  have:=zero _ _ (hpos x hx) (k1 x hx);show p x.b-f x.b=p x.a-f x.a
  grind
 have c2:=afq (S:=S) (h:=fun u=>q u-g u) (by show q 0-g 0=0;rw [f0.2.1,f0.2.2.2];grind) fun x hx=>by
  have:=zero _ _ (hpos x hx) (k2 x hx);show q x.b-g x.b=q x.a-g x.a
  grind
 intro u hu;have h1:p u-f u=0:=c1 u (hc u hu);have h2:q u-g u=0:=c2 u (hc u hu);exact⟨by grind,by grind⟩
theorem aoQ{ns:List Int}(hn:ns.Nodup)(xs ys:List R){i:Nat}{j:Nat}:∀k,i<k->k<=ns.length->(j:Int)=ns.getD i 0->TF ns xs ys k j=⟨xs.getD i default,ys.getD i default⟩
 |0,h,_,_=>absurd h (dB _)
 |
  k+1,h,hk,e=>by
  simp only [TF];rw [aoN];by_cases e2:i=k
  ·subst e2;rw [aQ e]
  rw [aN fun c=>Nz hn (i:=i) (j:=k) (by omega) (by omega) (c.symm.trans e)];exact aoQ hn xs ys k (by omega) (by omega) e
theorem ahG{ns:List Int}(xs ys:List R){j:Nat}(h:(j:Int)∉ns):∀k,k<=ns.length->TF ns xs ys k j=TF ns xs ys 0 j
 |0,_=>rfl
 |
  k+1,hk=>by
  have:=ahG xs ys h k (by omega);rw [<-this];show (if (j:Int)=ns.getD k default then _ else TF ns xs ys k j)=_;rw [aoN,aN fun c=>h (by rw [c];exact Fv (by omega))]
theorem aoR{S:List Lk}{o:List Int}(h:Dr S o){j:Nat}(hj:(j:Int)∉o):∀k,k<=o.length->(Ih (cN S o o.length) k).getD j default=(Ih (cN S o o.length) 0).getD j default
 |0,_=>rfl
 |
  k+1,hk=>by
  have hn:(svC (cN S o o.length) k).node=o.getD (o.length-1-k) 0:=by
   unfold svC;rw [IW,WM h (by omega)];rfl
  have hm:o.getD (o.length-1-k) 0∈o:=Fv (by omega);have hr:=h.o.2 _ hm;rw [<-aoR h hj k (by omega)];show ((Ih _ k).set (svC _ k).node.toNat _).getD j default=_;rw [hn,aj (l:=List.set _ _ _),List.getElem?_set_ne (fun e=>hj (by rw [<-e,Int.toNat_of_nonneg (by omega)];exact hm)),<-aj]
theorem atw(N:List Cd)(j:Nat)(hj:j<ZI N N.length+1):(Ih N 0).getD j default=if j=0 then⟨lC 0,lC 0⟩else⟨R0,R0⟩:=by
 unfold Ih svP;by_cases e:j=0
 ·rw [aQ e,e,aj,List.getElem?_set_self (by simp)];rfl
 rw [aN e,aj,List.getElem?_set_ne (by omega),jr,aQ (by omega)];rfl
theorem aoS{P Q:List Pt}(hl:P.length=Q.length)(h:∀j,j<P.length->P.getD j default=Q.getD j default):P=Q:=by
 refine List.ext_getElem hl fun i h1 h2=>?_;have:=h i h1;rw [aj,ak h1,aj,ak h2]at this;exact this
theorem asg{S:List Lk}(hn:1<=(kF S).length):∀u∈kF S,u<=(kF S).getD ((kF S).length-1) 0:=fun u hu=>by
 have ha:=Gh S;obtain⟨i,hi,rfl⟩:=List.mem_iff_getElem.1 hu;rw [aj,ak (by omega)];show (kF S)[i]<=(kF S)[(kF S).length-1];rcases dW i ((kF S).length-1)with k|k
 ·exact Int.le_of_lt (fU.1 ha i _ hi (by omega) k)
 have:i=(kF S).length-1:=by omega
 simp only [this];exact Int.le_refl _
theorem awP{S:List Lk}{D:Int}{N B DB K:Nat}{o:List Int}(hB:Big S D N B DB K)(h:Dr S o)(ho:∀u,u∈o↔u∈kF S)(hn:1<=(kF S).length):dsB S=true/\dsV S=XO (cN S o o.length):=by
 obtain⟨hd,f,g,f0,hx,ef,eg⟩:=awL hB;refine⟨hd,?_⟩;have hN:=ajm hB.ok;obtain⟨hsv,hpk⟩:=aoD h;obtain⟨hCK,hCs⟩:=DK h o.length (aJ _);have hb:∀j,j<o.length->OZ (cS S o j) (o.getD j 0)=true:=fun j hj=>(hCs j hj).b;have hc0:cQ (XO (cN S o o.length)) S o o.length=0:=aAH _ fun j hj=>hpk.dq j (by omega) hj;have en:∀P:List Pt,tot (TI P) S=cV S o o.length+cQ P S o o.length:=fun P=>by
  rw [Zr (P:=P) o.length hb,aoB hCK];simp only [tot,iR]
 obtain⟨E,fx,fy,hE1,hE,hps⟩:=hpk.ps;rw [kT,dA]at hps;have hlenS:(XO (cN S o o.length)).length=ZI (cN S o o.length) (cN S o o.length).length+1:=by rw [Nw hsv,QN]
 have hD:dsV S=dsP S:=atr hd;have hH:dsH (kF S) (kF S).length=((kF S).getD ((kF S).length-1) 0).toNat+1:=by
  obtain⟨m,hm⟩:∃m,(kF S).length=m+1:=⟨(kF S).length-1,by omega⟩;rw [hm];rfl
 have hlast:(kF S).getD ((kF S).length-1) 0∈kF S:=Fv (by omega);have hmax:=asg hn;generalize hle:(kF S).getD ((kF S).length-1) 0=last at *;have hM:ZI (cN S o o.length) (cN S o o.length).length=last.toNat:=by
  refine Nat.le_antisymm ?_ ?_
  ·have key:∀k,k<=o.length->ZI (cN S o o.length) k<=last.toNat:=fun k=>by
    induction k with
    |zero=>intro _;exact eH _
    |
     succ k ih =>
     intro hk;have h1:=ih (by omega);have h2:=hmax _ ((ho _).1 (Fv (l:=o) (i:=k) (by omega)));have e:((cN S o o.length).getD k default).node=o.getD k 0:=by rw [WM h (by omega)];rfl
     unfold ZI;rw [e];omega
   have:=key o.length (aJ _);rw [IW];exact this
  obtain⟨i,_,hi,e⟩:=Io.1 (show last∈o.drop 0 by rw [dA];exact(ho _).2 hlast);have:=acO (l:=cN S o o.length) (cN S o o.length).length i (by rw [IW];exact hi);rw [WM h hi]at this;rw [<-e];exact this
 have hdl:(dsP S).length=last.toNat+1:=by unfold dsP;rw [aV,jM,hH]
 have hdg:∀j,j<last.toNat+1->(dsP S).getD j default=TF (kF S) (Xb (O4 S) (U3 S)) (Xb (O4 S) (U4 S)) (kF S).length j:=fun j hj=>by
  unfold dsP;rw [hH,aa8 hj]
 have hr:∀u∈kF S,1<=u/\u.toNat<last.toNat+1:=fun u hu=>by
  have:=DC hu;have:=hmax u hu;omega
 have hdn:∀i,i<(kF S).length->(dsP S).getD ((kF S).getD i 0).toNat default=⟨(Xb (O4 S) (U3 S)).getD i default,(Xb (O4 S) (U4 S)).getD i default⟩:=fun i hi=>by
  have:=hr _ (Fv (l:=kF S) hi);rw [hdg _ this.2];exact aoQ hN.nd _ _ _ hi (aJ _) (by omega)
 have h0n:((0:Nat):Int)∉kF S:=fun e=>by have:=hr _ e;omega
 have h0o:((0:Nat):Int)∉o:=fun e=>h0n ((ho _).1 e);have hd0:(dsP S).getD 0 default=⟨lC 0,lC 0⟩:=by
  rw [hdg 0 (by omega),ahG _ _ h0n _ (aJ _)];rfl
 have hs0:(XO (cN S o o.length)).getD 0 default=⟨lC 0,lC 0⟩:=by
  rw [Nw hsv,IW,aoR h h0o _ (aJ _),atw _ _ (by omega),aQ rfl]
 have i0:(lC 0).v=0:=R.Jp (a:=((0:Int):Rat)) (JM (n:=0) (by decide));have hQ:∀u,u=0\/u∈kF S->((dsP S).getD u.toNat default).x.v=f u/\((dsP S).getD u.toNat default).y.v=g u:=fun u hu=>by
  rcases hu with rfl|hu
  ·rw [show (0:Int).toNat=0 from rfl,hd0,f0.1,f0.2];exact⟨i0,i0⟩
  obtain⟨i,_,hi,rfl⟩:=Io.1 (show u∈(kF S).drop 0 by rw [dA];exact hu);rw [hdn i hi];exact⟨R.Jp (hx i hi).1,R.Jp (hx i hi).2⟩
 have heq:=aoP hN hB.ok hB.cn (f:=f) (g:=g) (p:=fun u=>((XO (cN S o o.length)).getD u.toNat default).x.v) (q:=fun u=>((XO (cN S o o.length)).getD u.toNat default).y.v)
  ⟨f0.1,f0.2,by show ((XO _).getD 0 default).x.v=0;rw [hs0];exact i0,by show ((XO _).getD 0 default).y.v=0;rw [hs0];exact i0⟩ ef eg (P:=XO (cN S o o.length)) (Q:=dsP S) (fun u _=>⟨rfl,rfl⟩) hQ (by
   rw [en,en,hc0];have:=atl (P:=dsP S) (S:=S) (o:=o) o.length hb
   grind)
 rw [hD];refine aoS (by rw [hdl,hlenS,hM]) fun j hj=>?_;rw [hdl]at hj;by_cases e0:j=0
 ·rw [e0,hd0,hs0]
 by_cases hjn:(j:Int)∈kF S
 ·obtain⟨i,_,hi,e⟩:=Io.1 (show (j:Int)∈(kF S).drop 0 by rw [dA];exact hjn);have hji:((kF S).getD i 0).toNat=j:=by omega
  have hq:=heq _ hjn;have hu:(j:Int)∈(0:Int)::o:=gG _ ((ho _).2 hjn);have px:=(hps.x _ hu).1;have py:=(hps.y _ hu).1;have g1:=(hx i hi).1;have g2:=(hx i hi).2;rw [e]at g1 g2;have hdj:=hdn i hi;rw [hji]at hdj;rw [gU]at px py hq;rw [hdj];have a1:(Xb (O4 S) (U3 S)).getD i default=((XO (cN S o o.length)).getD j default).x:=R.akB (by rw [xZ,g1];simp) px.ok (by rw [R.Jp g1];exact hq.1.symm);have a2:(Xb (O4 S) (U4 S)).getD i default=((XO (cN S o o.length)).getD j default).y:=R.akB (by rw [xZ,g2];simp) py.ok (by rw [R.Jp g2];exact hq.2.symm);rw [a1,a2]
 rw [hdg j hj,ahG _ _ hjn _ (aJ _),Nw hsv,IW,aoR h (fun e=>hjn ((ho _).1 e)) _ (aJ _),atw _ _ (by rw [hM];exact hj)];rfl
theorem aFE:∀n,n<6->gF 1 (15*63+15*1260) n=true:=by decide +kernel
theorem aoT{n:Nat}{S:List Lk}(h:OX n S):Big S 1 63 1260 1 15:=by
 have hO:JX S (mdV S [])=true:=arZ h.ok;obtain⟨hD,_⟩:=afp h hO;obtain⟨⟨_,hlen⟩,hin,hnd⟩:=Uy.1 (of_decide_eq_true hO);have hto:=(of_decide_eq_true hO:ace S (mdV S [])).2.2;have hl:=hD.len;refine⟨h.ok,fun x hx=>ajo (afc h x hx),⟨by decide,aJ 1⟩,?_,⟨by decide +kernel,by decide +kernel,by decide +kernel⟩,aFE _ (by omega),fun u hu=>hD.cn u (hto u hu)⟩;have l0:=ac0 hD (mdV S []).length 0 (by omega);have e:(cS S (mdV S []) 0).length=S.length:=rfl;rw [e,iP]at l0;have:∀i,i<6->tL i<=15:=by decide
 have:=this (5-(mdV S []).length) (by omega);omega
theorem ash{n:Nat}{S:List Lk}(h:OX n S){o:List Int}(hO:JX S o=true):akK S o=true/\JR (eaN S o)=true/\svG (eaN S o)=true/\dsB S=true/\XO (eaN S o)=dsV S:=by
 obtain⟨hD,ho1⟩:=afp h hO;obtain⟨⟨_,hlen⟩,hin,hnd⟩:=Uy.1 (of_decide_eq_true hO);have hto:=(of_decide_eq_true hO:ace S o).2.2;obtain⟨hCK,hCs⟩:=DK hD o.length (aJ _);have hf:=atj o.length fun j hj=>(hCs j hj).b;have aFF:(cE S o o.length).ok=true:=by rw [xZ,aAn hD o.length (aJ _)];simp
 have hG:eaG S o=some (cS S o o.length,cN S o o.length,cE S o o.length):=by
  unfold eaG;rw [aQ hO,hf];exact aQ aFF
 obtain⟨g1,g2,g3⟩:=Zn hG;have g1:eaN S o=cN S o o.length:=g1;obtain⟨t1,t2⟩:=awP (aoT h) hD (fun u=>⟨hin u,hto u⟩) (TA h);rw [g1];exact⟨g3,aoC hD,(aoD hD).1,t1,t2.symm⟩
def U6(n0:List V)(ns:List Int)(z:List V)(cx cy:Nat->List V):Nat->Nat->List V
 |0,j=>if j=0 then z else n0
 |k+1,j=>if (j:Int)=ns.getD k default then cx k++cy k else U6 n0 ns z cx cy k j
def dsO(ns:List Int)(oz:List Nat)(fx fy:Nat->List Nat):Nat->Nat->List Nat
 |0,j=>if j=0 then oz else []
 |k+1,j=>if (j:Int)=ns.getD k default then fx k++fy k else dsO ns oz fx fy k j
theorem asi{n0:List V}{ns:List Int}{z:List V}{cx cy:Nat->List V}{k D v:Nat}(hv:ns.getD k default=(v:Int)):((List.range D).map (U6 n0 ns z cx cy k)).set v (cx k++cy k)=(List.range D).map (U6 n0 ns z cx cy (k+1)):=by
 apply fV
 intro x;rw [fH];simp only [aV,jM,bP];by_cases h:v=x
 ·subst h;by_cases hn:v<D
  ·rw [aQ rfl,aQ hn,dM hn];simp only [dh,U6];rw [aQ hv.symm]
  rw [aQ rfl,aN hn,bC (by simpa using hn)];rfl
 rw [aN h];by_cases hn:x<D
 ·rw [dM hn];simp only [dh,U6];rw [aN (by omega)]
 rw [bC (by simpa using hn)];rfl
section
variable {σ : Store} {ns : List Int} {xs ys : List R} {z : List V} {cx cy : Nat -> List V} {oz : List Nat} {fx fy : Nat -> List Nat}
theorem ada:∀k j,∀o∈dsO ns oz fx fy k j,o∈oz\/∃i,i<k/\(o∈fx i\/o∈fy i)
 |
  0,j,o,h=>by
  simp only [dsO]at h;split at h
  ·exact .inl h
  cases h
 |
  k+1,j,o,h=>by
  simp only [dsO]at h;split at h
  ·rcases aK.1 h with h|h
   ·exact .inr ⟨k,by omega,.inl h⟩
   exact .inr ⟨k,by omega,.inr h⟩
  rcases ada k j o h with h|⟨i,hi,h⟩
  ·exact .inl h
  exact .inr ⟨i,by omega,h⟩
variable {n : Nat} (hz : nC σ z (⟨lC 0,lC 0⟩ : Pt).cells oz) (hx : ∀ i,i < n -> nC σ (cx i) (xs.getD i default).cells (fx i)) (hy : ∀ i,i < n -> nC σ (cy i) (ys.getD i default).cells (fy i))
include hz hx hy in
theorem aoU:∀k,k<=n->∀j,nC σ (U6 (⟨R0,R0⟩:Pt).cells ns z cx cy k j) (TF ns xs ys k j).cells (dsO ns oz fx fy k j)
 |
  0,_,j=>by
  simp only [U6,TF,dsO];by_cases h:j=0
  ·rw [aQ h,aQ h,aQ h];exact hz
  rw [aN h,aN h,aN h];exact anX
 |
  k+1,hk,j=>by
  simp only [U6,TF,dsO];by_cases h:(j:Int)=ns.getD k default
  ·rw [aQ h,aQ h,aQ h];exact nD (hx k (by omega)) (hy k (by omega))
  rw [aN h,aN h,aN h];exact aoU k (by omega) j
variable (nz : oz.Nodup) (nx : ∀ i,i < n -> (fx i).Nodup) (ny : ∀ i,i < n -> (fy i).Nodup) (axx : ∀ i j,i < n -> j < n -> i ≠ j -> ∀ o ∈ fx i,o ∉ fx j) (ayy : ∀ i j,i < n -> j < n -> i ≠ j -> ∀ o ∈ fy i,o ∉ fy j)
 (axy:∀i j,i<n->j<n->∀o∈fx i,o∉fy j) (azx:∀i,i<n->∀o∈oz,o∉fx i) (azy:∀i,i<n->∀o∈oz,o∉fy i)
include nz nx ny axy in
theorem aoV:∀k,k<=n->∀j,(dsO ns oz fx fy k j).Nodup
 |
  0,_,j=>by
  simp only [dsO];split
  ·exact nz
  exact .nil
 |
  k+1,hk,j=>by
  simp only [dsO];split
  ·rw [bf];exact⟨nx k (by omega),ny k (by omega),fun x h1 y h2 e=>axy k k (by omega) (by omega) x h1 (e▸h2)⟩
  exact aoV k (by omega) j
include axx ayy axy azx azy in
theorem aoW:∀k,k<=n->∀i j,i≠j->∀o∈dsO ns oz fx fy k i,o∉dsO ns oz fx fy k j
 |
  0,_,i,j,hne,o,h1,h2=>by
  simp only [dsO]at h1 h2;split at h1
  ·split at h2
   ·omega
   cases h2
  cases h1
 |
  k+1,hk,i,j,hne,o,h1,h2=>by
  have key:∀o,o∈fx k++fy k->∀j,o∉dsO ns oz fx fy k j:=fun o h j hm=>by
   rcases ada k j o hm with hm|⟨i,hi,hm⟩
   ·rcases aK.1 h with h|h
    ·exact azx k (by omega) o hm h
    exact azy k (by omega) o hm h
   rcases aK.1 h with h|h
   ·rcases hm with hm|hm
    ·exact axx k i (by omega) (by omega) (by omega) o h hm
    exact axy k i (by omega) (by omega) o h hm
   rcases hm with hm|hm
   ·exact axy i k (by omega) (by omega) o hm h
   exact ayy k i (by omega) (by omega) (by omega) o h hm
  simp only [dsO]at h1 h2;by_cases c1:(i:Int)=ns.getD k default
  ·rw [aQ c1]at h1;rw [aN (by omega)]at h2;exact key o h1 j h2
  rw [aN c1]at h1;by_cases c2:(j:Int)=ns.getD k default
  ·rw [aQ c2]at h2;exact key o h2 i h1
  rw [aN c2]at h2;exact aoW k (by omega) i j hne o h1 h2
end
theorem XY{σ:Store}{c:List V}{x:R}{os os2:List Nat}{p n:Nat}(h:nC σ c x.cells os)(hm:∀o∈os,o∈os2/\o≠p):yB (keepW σ p n os2) σ c c:=by
 obtain⟨cs,rfl,b⟩:=h.xQ;obtain⟨v1,cs,o1,o2,rfl,rfl,c1,d⟩:=b.inv;obtain⟨v2,cs,o3,o4,rfl,rfl,e,f⟩:=d.inv;obtain⟨rfl,rfl⟩:=f.Ec;have k1:=BF (n:=n) c1 fun o ho=>hm o (by simp [ho]);have k2:=BF (n:=n) e fun o ho=>hm o (by simp [ho]);simp only [yB];exact⟨_,_,rfl,FZ rfl,_,_,rfl,k1,_,_,rfl,k2,rfl⟩
theorem Zy{W:Px}{σ:Store}:∀{a a2 b b2:List V},yB W σ a a2->yB W σ b b2->yB W σ (a++b) (a2++b2)
 | [],a2,b,b2,h,k=>by simp only [yB]at h;subst h;exact k
 |
  v::a,a2,b,b2,h,k=>by
  simp only [yB]at h;obtain⟨y,ys,rfl,h1,h2⟩:=h;simp only [dI,yB];exact⟨y,ys++b2,rfl,h1,Zy h2 k⟩
theorem asj{W:Px}{σ:Store}:yB W σ XP (⟨R0,R0⟩:Pt).cells:=by
 show yB W σ [.bool false,.kC,.kC,.bool false,.kC,.kC] [.bool false,.sl 1 [],.sl 1 [],.bool false,.sl 1 [],.sl 1 []];simp only [yB,yA];exact⟨_,_,rfl,rfl,_,_,rfl,.inr ⟨1,rfl⟩,_,_,rfl,.inr ⟨1,rfl⟩,_,_,rfl,rfl,_,_,rfl,.inr ⟨1,rfl⟩,_,_,rfl,.inr ⟨1,rfl⟩,rfl⟩
theorem ajq{σ:Store}{ns:List Int}{xs ys:List R}{z1 z2:List V}{cx cy:Nat->List V}{oz1 oz2:List Nat}{fx fy:Nat->List Nat}{n p m:Nat}{os2:List Nat}
  (hz1:nC σ z1 (lC 0).cells oz1) (hz2:nC σ z2 (lC 0).cells oz2) (hx:∀i,i<n->nC σ (cx i) (xs.getD i default).cells (fx i)) (hy:∀i,i<n->nC σ (cy i) (ys.getD i default).cells (fy i)) :
  ∀k,k<=n->∀j,(∀o∈dsO ns (oz1++oz2) fx fy k j,o∈os2/\o≠p)->yB (keepW σ p m os2) σ (U6 XP ns (z1++z2) cx cy k j) (U6 (⟨R0,R0⟩:Pt).cells ns (z1++z2) cx cy k j)
 |
  0,_,j,hm=>by
  simp only [dsO]at hm;simp only [U6];by_cases h:j=0
  ·rw [aQ h,aQ h];rw [aQ h]at hm;exact Zy (XY hz1 fun o ho=>hm o (eG _ ho)) (XY hz2 fun o ho=>hm o (dL _ ho))
  rw [aN h,aN h];exact asj
 |
  k+1,hk,j,hm=>by
  simp only [dsO]at hm;simp only [U6];by_cases h:(j:Int)=ns.getD k default
  ·rw [aQ h,aQ h];rw [aQ h]at hm;exact Zy (XY (hx k (by omega)) fun o ho=>hm o (eG _ ho)) (XY (hy k (by omega)) fun o ho=>hm o (dL _ ho))
  rw [aN h,aN h];rw [aN h]at hm;exact ajq hz1 hz2 hx hy k (by omega) j hm
theorem aoX{σ:Store}{ns:List Int}{xs ys:List R}{z1 z2:List V}{cx cy:Nat->List V}{oz1 oz2:List Nat}{fx fy:Nat->List Nat}{n D p:Nat}{b:Bool}(hp:jQ σ p=some ⟨6,(List.range D).map (U6 XP ns (z1++z2) cx cy n)⟩)
  (hz1:nC σ z1 (lC 0).cells oz1) (hz2:nC σ z2 (lC 0).cells oz2) (hx:∀i,i<n->nC σ (cx i) (xs.getD i default).cells (fx i)) (hy:∀i,i<n->nC σ (cy i) (ys.getD i default).cells (fy i))
  (nz:(oz1++oz2).Nodup) (nx:∀i,i<n->(fx i).Nodup) (ny:∀i,i<n->(fy i).Nodup) (axx:∀i j,i<n->j<n->i≠j->∀o∈fx i,o∉fx j) (ayy:∀i j,i<n->j<n->i≠j->∀o∈fy i,o∉fy j)
  (axy:∀i j,i<n->j<n->∀o∈fx i,o∉fy j) (azx:∀i,i<n->∀o∈oz1++oz2,o∉fx i) (azy:∀i,i<n->∀o∈oz1++oz2,o∉fy i) :
  aAA σ (.oU [.lQ p 0 D,.bool b]) (.oU [Ub ((List.range D).map (TF ns xs ys n)),.bool b]):=by
 have hpl:=lH hp;have hz:nC σ (z1++z2) (⟨lC 0,lC 0⟩:Pt).cells (oz1++oz2):=nD hz1 hz2;have kinds:∀i,i<n->(∀o∈fx i,∃l,jQ σ o=some ⟨1,kU l⟩)/\∀o∈fy i,∃l,jQ σ o=some ⟨1,kU l⟩:=fun i hi=>⟨(Om (hx i hi)).2,(Om (hy i hi)).2⟩;have kz:∀o∈oz1++oz2,∃l,jQ σ o=some ⟨1,kU l⟩:=fun o ho=>by
  rcases aK.1 ho with h|h
  ·exact(Om hz1).2 o h
  exact(Om hz2).2 o h
 have hkind:∀j,∀o∈dsO ns (oz1++oz2) fx fy n j,(∃l,jQ σ o=some ⟨1,kU l⟩)/\o≠p:=fun j o ho=>by
  have h1:∃l,jQ σ o=some ⟨1,kU l⟩:=by
   rcases ada n j o ho with h|⟨i,hi,h|h⟩
   ·exact kz o h
   ·exact(kinds i hi).1 o h
   exact(kinds i hi).2 o h
  refine⟨h1,fun e=>?_⟩;obtain⟨l,hl⟩:=h1;rw [e,hp]at hl
  cases hl
 obtain⟨os,k1,k2,k3⟩:=aji (σ:=σ) (f:=dsO ns (oz1++oz2) fx fy n) D (fun j _=>aoU hz hx hy n (aJ _) j) (fun j _=>aoV nz nx ny axy n (aJ _) j) (fun i j _ _=>aoW axx ayy axy azx azy n (aJ _) i j);have hk2:∀j,j<D->∀o∈dsO ns (oz1++oz2) fx fy n j,o∈os/\o≠p:=fun j hj o ho=>⟨(k3 o).2 ⟨j,hj,ho⟩,(hkind j o ho).2⟩;have hpo:p∉os:=fun h=>by
  obtain⟨j,_,h⟩:=(k3 p).1 h;exact(hkind j p h).2 rfl
 have hst:∀o∈os,∀ob,jQ σ o=some ob->nU ob.rows:=fun o ho ob e=>by
  obtain⟨j,_,h⟩:=(k3 o).1 ho;obtain⟨l,hl⟩:=(hkind j o h).1;rw [hl]at e
  cases e
  exact uM _
 have hR:=asa (A':=(List.range D).map (U6 (⟨R0,R0⟩:Pt).cells ns (z1++z2) cx cy n)) hp (by simp) hst (fun i r r2 h1 h2=>by
  rw [bP]at h1 h2;by_cases hi:i<D
  ·rw [dM hi]at h1 h2;simp only [dh,aB]at h1 h2;subst h1;subst h2;exact ajq hz1 hz2 hx hy n (aJ _) i (hk2 i hi)
  rw [bC (by simpa using hi)]at h1
  cases h1)
 refine⟨_,_,.oU [.lQ p 0 D,.bool b],p::os,hR,?_,?_,eU.2 ⟨hpo,k2⟩⟩
 ·simp only [yA,yB];refine⟨_,rfl,_,_,rfl,.inl ⟨p,0,((List.range D).map (U6 XP ns (z1++z2) cx cy n)).length,?_,aJ _,by simp,by rw [Nat.sub_zero]⟩,_,_,rfl,rfl,rfl⟩;rw [Fe hpl,aQ rfl]
 have hv:mP (FN σ p ⟨6,(List.range D).map (U6 (⟨R0,R0⟩:Pt).cells ns (z1++z2) cx cy n)⟩ os) (.lQ p 0 D) (Ub ((List.range D).map (TF ns xs ys n))) (p::os):=by
  unfold Ub;simp only [mP];refine .inr ⟨p,(List.range D).map (U6 (⟨R0,R0⟩:Pt).cells ns (z1++z2) cx cy n),os,by simp,by rw [yw hpl,aQ rfl],rfl,?_⟩;rw [fQ];exact k1.frame fun o ho=>by rw [yw (k1.lt o ho),aN (fun e:o=p=>hpo (by rw [<-e];exact ho)),aQ ho]
 have:=I7 (qQ hv (qV (b:=b) qm))
 rwa [aU]at this
theorem aoY{ns:List Int}{z:List V}{cx cy:Nat->List V}{n:Nat}(hHl:∀k,k<n->(dsH ns k:Int)<=ns.getD k default):∀k,k<=n->∀j,dsH ns k<=j->U6 XP ns z cx cy k j=XP
 |0,_,j,hj=>by simp only [dsH]at hj;simp only [U6];rw [aN (by omega)]
 |
  k+1,hk,j,hj=>by
  have h1:=hHl k (by omega);simp only [dsH]at hj;simp only [U6];rw [aN (by omega)];exact aoY hHl k (by omega) j (by omega)
theorem afr{ns:List Int}{n:Nat}(hHl:∀k,k<n->(dsH ns k:Int)<=ns.getD k default):∀j,j<=n->∀i,i<=j->dsH ns i<=dsH ns j
 |0,_,i,hi=>by
           have:i=0:=by omega
           subst this;exact aJ _
 |
  j+1,hj,i,hi=>by
  by_cases e:i=j+1
  ·subst e;exact aJ _
  have h1:=afr hHl j (by omega) i (by omega);have h2:=hHl j (by omega);have h3:dsH ns (j+1)=(ns.getD j default).toNat+1:=rfl;omega
theorem aty{ns:List Int}{z:List V}{cx cy:Nat->List V}{d:Nat}:(List.range (d+1)).map (U6 XP ns z cx cy 0)=z::List.replicate d XP:=by
 rw [List.range_succ_eq_map,bT,fQ];simp only [U6,if_true]
 congr 1
 apply fV
 intro i;rw [bP,jr];by_cases h:i<d
 ·rw [dM h,aQ h];simp [U6]
 rw [bC (by simpa using h),aN h];rfl
theorem U0{T:Tb}(h:AV T){S:List Lk}(hw:DR Lk.wf S)(hl:S.length<=1048576):PO T 269 [nZ S] (.oU [Ub (dsV S),.bool (dsB S)]):=by
 have ci:=Jh h.sO hw;obtain⟨x,hb⟩:∃x,lN S=x:=⟨_,rfl⟩;rw [hb]at ci;have hx:x=false\/x=true:=by cases x<;>simp
 rcases hx with hx|hx
 ·have hf:dsB S=false:=by unfold dsB dsC;rw [hb,hx];rfl
  rw [aoL hf,hf];refine mM nR h.hT ?_;simp only [qj,Lz,St.enter,au,aG,aX];refine ew ?_;refine jK ci ?_;refine Ae @hx ?_;exact(qF (sz:=6)).Ba
 have hb:lN S=true:=by rw [hb,hx]
 have cn:=(Qg h.vV (l:=S) hw).XZ (kM _ _);rw [<-JW hb]at cn;have cm:=(Pv h.MK hw hl).XZ (aj7 _ _);have cv:=(Ol h.Kz hw hl).XZ (Qa (Ik _ _) (Ik _ _));have wm:=(awG S).2;have wx:=am0 (ach S).1.1 (by have:=(ach S).1.2;omega);have wy:=am0 (ach S).2.1 (by have:=(ach S).2.2;omega);have PX':=OY h.Kq (m:=O4 S) (b:=U3 S) wm wx;have PY':=OY h.Kq (m:=O4 S) (b:=U4 S) wm wy;have hnl:=yR S
 cases hc:dsC S
 ·have hf:dsB S=false:=by unfold dsB;rw [hc];rfl
  rw [aoL hf,hf];have hc':¬((O4 S).length=(kF S).length/\(U3 S).length=(kF S).length/\(U4 S).length=(kF S).length):=fun ⟨a,b,c⟩=>by
   unfold dsC at hc;rw [hb,aT a,aT b,aT c]at hc
   cases hc
  clear PX' PY' hc hf wm wx wy;generalize O4 S=m at *;generalize U3 S=bx at *;generalize U4 S=b2 at *;refine mM nR h.hT ?_;simp only [qj,Lz,St.enter,au,aG,aX];refine ew ?_;refine jK ci ?_;refine Ae @hx ?_;refine jK cn ?_;refine ew ?_;refine jK cm ?_;refine ew ?_;refine jK cv ?_;by_cases h1:m.length=(kF S).length
  ·have h1':((m.length:Int)=((kF S).length:Nat))=True:=iy (by omega);by_cases h2:bx.length=(kF S).length
   ·have h2':((bx.length:Int)=((kF S).length:Nat))=True:=iy (by omega);have h3':((b2.length:Int)=((kF S).length:Nat))=False:=iD fun e=>hc' ⟨h1,h2,by omega⟩;refine Dy @h1' @h2' @h3' ?_;exact(qF (sz:=6)).Ba
   have h2':((bx.length:Int)=((kF S).length:Nat))=False:=iD (by omega);refine AZ @h1' @h2' ?_;exact(qF (sz:=6)).Ba
  have h1':((m.length:Int)=((kF S).length:Nat))=False:=iD (by omega);refine Ae @h1' ?_;exact(qF (sz:=6)).Ba
 have hcc:=hc;unfold dsC at hcc;simp only [aH,aZ]at hcc;obtain⟨⟨⟨_,lm⟩,lx⟩,ly⟩:=hcc;have h1':(((O4 S).length:Int)=((kF S).length:Nat))=True:=iy (by omega);have h2':(((U3 S).length:Int)=((kF S).length:Nat))=True:=iy (by omega);have h3':(((U4 S).length:Int)=((kF S).length:Nat))=True:=iy (by omega)
 cases hB:dsB S
 ·rw [aoL hB];have hB':¬(Z7 (O4 S) (U3 S)=true/\Z7 (O4 S) (U4 S)=true):=fun ⟨a,b⟩=>by
   unfold dsB at hB;rw [hc,a,b]at hB
   cases hB
  have px:=PX'.XZ (Qa (Ik _ _) (vM _ _));have py:=PY'.XZ (Qa (Ik _ _) (vM _ _));clear hc hB PX' PY' wm wx wy;generalize Xb (O4 S) (U3 S)=X at *;generalize Xb (O4 S) (U4 S)=Y at *;obtain⟨bx,hbx⟩:∃b,Z7 (O4 S) (U3 S)=b:=⟨_,rfl⟩;obtain⟨b2,hby⟩:∃b,Z7 (O4 S) (U4 S)=b:=⟨_,rfl⟩;rw [hbx]at px hB';rw [hby]at py hB';generalize O4 S=m at *;generalize U3 S=vx at *;generalize U4 S=vy at *;refine mM nR h.hT ?_;simp only [qj,Lz,St.enter,au,aG,aX];refine ew ?_;refine jK ci ?_;refine Ae @hx ?_;refine jK cn ?_;refine ew ?_;refine jK cm ?_;refine ew ?_;refine jK cv ?_;refine Dy @h1' @h2' @h3' ?_;refine jK px ?_;refine ew ?_;refine jK py ?_;have hbb:bx=false\/(bx=true/\b2=false):=by cases bx<;>cases b2<;>simp_all
  rcases hbb with hbb|⟨hbb,hb2⟩
  ·refine Ae @hbb ?_;exact(qF (sz:=6)).Ba
  refine AZ @hbb @hb2 ?_;exact(qF (sz:=6)).Ba
 rw [atr hB];have hB2:=hB;unfold dsB at hB2;simp only [aH]at hB2;have lX:=ajk hB2.1.2;have lY:=ajk hB2.2;rw [hB2.1.2]at PX';rw [hB2.2]at PY';have hH:=awI S;have hHl:=fun k (hk:k<(kF S).length)=>awJ S hk;unfold dsP;have agS:=fun i (hi:i<(kF S).length)=>DC (l:=S) (getD_mem (l:=kF S) (i:=i) hi);clear hc hB hB2 wm wx wy;generalize Xb (O4 S) (U3 S)=X at *;generalize Xb (O4 S) (U4 S)=Y at *;generalize O4 S=m at *;generalize U3 S=vx at *;generalize U4 S=vy at *;generalize kF S=ns at *;refine ar9 (fun x d=>x == 231||x == 186) h.hT ?_;simp only [qj,Lz,St.enter,au,aG,aX];refine ew ?_;refine jK ci ?_;refine Ae @hx ?_;refine jK cn ?_;refine ew ?_;refine jK cm ?_;refine ew ?_;refine jK cv ?_;refine Dy @h1' @h2' @h3' ?_;refine nH PX' (by (refine ew ?_;try with_reducible exact aC)) ?_;intro r s1 o1 G;obtain⟨v1,rfl,G1⟩:=G.Ba;clear G;refine ew ?_;refine nH PY' (by (refine ew ?_;try with_reducible exact aC)) ?_;intro r s2 o2 G;obtain⟨v2,rfl,G2⟩:=G.Ba;clear G;refine ew ?_;rcases iw ns.length with h0|h0
 ·have hpos:(0<(ns.length:Int))=False:=iD (by omega);have hres:(List.range (dsH ns ns.length)).map (TF ns X Y ns.length)=(List.range 1).map (TF ns X Y 0):=by rw [h0];rfl
  rw [hres];clear G1 G2 PX' PY' hres;refine Ae @hpos ?_;refine⟨by decide,?_⟩;generalize hp:s2.length=p;refine nH (Jl h.vH) (by (refine ew ?_;try with_reducible exact aC)) ?_;intro r q3 o3 G3;obtain⟨_,rfl,hQ3⟩:=G3.ow.lU;obtain⟨x1,x2,x3,x4,rfl⟩:=hQ3.pt;have gl:p+1<=q3.length:=by have:=G3.len;simp at this;omega
  have Lp:jQ q3 p=some ⟨6,List.replicate 1 [.bool false,.kC,.kC,.bool false,.kC,.kC]⟩:=(G3.old p (by simp;omega)).trans (by rw [<-hp];exact rP _ _);have LF:=nC.leaf hQ3 rfl;simp only [dD,dU,dJ,aH]at LF;have fz:∀o∈o3,p+1<=o:=fun o ho=>by have:=G3.fresh o ho;simp at this;omega
  have nz:=G3.nd;obtain⟨w1,w2,oz1,oz2,awS,rfl,hz1,hz2⟩:=pV (ts:=(lC 0).cells) (ts':=(lC 0).cells) hQ3;have hw1:w1.length=3:=hz1.len;obtain⟨e1,e2⟩:=fO (show [V.bool (lC 0).neg,x1,x2]++[V.bool (lC 0).neg,x3,x4]=w1++w2 from awS) (by rw [hw1];rfl);subst e1;subst e2;clear G3 hQ3;refine Dy @Lp @LF @hp ?_;have hql:p<q3.length:=by omega
  refine kZ (fun x d=>x == 231||x == 186) (α:=Nat) (fun k=>⟨mJ [.any,.any,.any,.any,ints ns,.any,.any,.any,.any,.any,.any,.any,.any,.lQ p 0 1,.any,.any,.any,.any,.any,.any,.any,.any,.any,.any,.any,.any,.any,.any,.any,.any,.any,.any,.any,.any,.any,.any,.any,.any,.any,.any,.any,.any,.any,.any,.any,.any,.any,.any,.any,.any,.any,.any,.any,.any,.any,.any,.any,.any,.any,.any,.any,.any,.any,.any,.any,.any,.any,.any,.any,.any,.any,.any,.any,.any,.any,.any,.any,.any,.any,.any,ints ns,iv (ns.length:Nat),iv (k:Nat)],q3.set p (some ⟨6,[[V.bool (lC 0).neg,x1,x2]++[V.bool (lC 0).neg,x3,x4]]⟩),0,0,[],[]⟩) (fun k=>k=0) (fun k=>1-k) rfl 0 ?_ ?_ ?_
  ·rfl
  ·(refine kS ?_;exact uw)
  rintro k hk;have hck:¬((k:Int)<(ns.length:Nat)):=by omega
  refine Ae @hck ?_;have hup:jQ (q3.set p (some ⟨6,[[V.bool (lC 0).neg,x1,x2]++[V.bool (lC 0).neg,x3,x4]]⟩)) p=some ⟨6,(List.range 1).map (U6 XP ns ([V.bool (lC 0).neg,x1,x2]++[V.bool (lC 0).neg,x3,x4]) (fun _=>[]) (fun _=>[]) 0)⟩:=by
   rw [show (1:Nat)=0+1 from rfl,aty];exact kY hql
  have up1:∀o∈oz1++oz2,jQ (q3.set p (some ⟨6,[[V.bool (lC 0).neg,x1,x2]++[V.bool (lC 0).neg,x3,x4]]⟩)) o=jQ q3 o:=fun o ho=>kN (by have:=fz o ho;omega);exact aoX (n:=0) (D:=1) (fx:=fun _=>[]) (fy:=fun _=>[]) hup (hz1.frame fun o ho=>up1 o (eG _ ho)) (hz2.frame fun o ho=>up1 o (dL _ ho)) (fun i hi=>absurd hi (dB _)) (fun i hi=>absurd hi (dB _)) nz (fun i hi=>absurd hi (dB _)) (fun i hi=>absurd hi (dB _))
   (fun i j hi=>absurd hi (dB _)) (fun i j hi=>absurd hi (dB _)) (fun i j hi=>absurd hi (dB _)) (fun i hi=>absurd hi (dB _)) (fun i hi=>absurd hi (dB _))
 obtain⟨n',hn'⟩:∃n',ns.length=n'+1:=⟨ns.length-1,by omega⟩;have hD:dsH ns ns.length=(ns.getD n' default).toNat+1:=by rw [hn'];rfl
 obtain⟨d,hd⟩:∃d:Nat,ns.getD n' 0=(d:Int):=⟨(ns.getD n' 0).toNat,by have:=agS n' (by omega);rw [show ns.getD n' default=ns.getD n' 0 from rfl]at this;omega⟩;rw [show ns.getD n' default=(d:Int)from hd,gU]at hD;have hd9:=(hH ns.length (aJ _)).2;have hpos:(0<(ns.length:Int))=True:=iy (by omega);have tn:((ns.length:Int)-1).toNat=n':=by omega
 have t1:((d:Int)+1).toNat=d+1:=by omega
 have hge:(0:Int)<=(ns.length:Int)-1:=by omega
 have hv1:=G1.ow;have hv2:=G2.ow;unfold pK at hv1 hv2;rcases hv1.Yw with ⟨e,_,_⟩|⟨px,rX,oX,rfl,hpx,hrX,hoX,hRX⟩
 ·have:=congrArg List.length e;simp at this;rw [this]at lX;simp at lX;omega
 rcases hv2.Yw with ⟨e,_,_⟩|⟨py,rY,oY,rfl,hpy,hrY,hoY,hRY⟩
 ·have:=congrArg List.length e;simp at this;rw [this]at lY;simp at lY;omega
 have nd1:=G1.nd;rw [hoX,eU]at nd1;have nd2:=G2.nd;rw [hoY,eU]at nd2;obtain⟨fx,kx1,kx2⟩:=VY hRX nd1.2;obtain⟨fy,ky1,ky2⟩:=VY hRY nd2.2;have fr2:=G2.fresh;have ar6:=G2.old;rw [aV]at hrX hrY;simp only [aV]at kx1 kx2 ky1 ky2;rw [aV]at *;have hlX:X.length=ns.length:=by omega
 have hlY:Y.length=ns.length:=by omega
 refine D6 @hpos @tn @hd @t1 ?_;refine⟨⟨by omega,by omega,by omega⟩,?_⟩;have awF:∀o,o<s1.length->jQ s2 o=jQ s1 o:=ar6;have aJX:s1.length<=s2.length:=G2.len;have aJY:jQ s2 px=some ⟨3,rX⟩:=(awF px (lH hpx)).trans hpx;have aFH:=lH hpx;have aFI:=lH hpy;have kxl:∀i,i<X.length->∀o∈fx i,o<s1.length:=fun i hi=>(kx1 i hi).1.lt;have kyl:∀i,i<Y.length->∀o∈fy i,o<s2.length:=fun i hi=>(ky1 i hi).1.lt;have kyf:∀i,i<Y.length->∀o∈fy i,s1.length<=o:=fun i hi o ho=>fr2 o (by rw [hoY];exact gG _ ((ky1 i hi).2.2 o ho));clear hv1 hv2 hRX hRY nd1 nd2 fr2 hoX hoY ar6 PX' PY' G1 G2;generalize hp:s2.length=p;refine nH (Jl h.vH) (by (refine ew ?_;try with_reducible exact aC)) ?_;intro r q3 o3 G3;obtain⟨_,rfl,hQ3⟩:=G3.ow.lU;obtain⟨x1,x2,x3,x4,rfl⟩:=hQ3.pt;have gl:p+1<=q3.length:=by have:=G3.len;simp at this;omega
 have Lp:jQ q3 p=some ⟨6,List.replicate (d+1) [.bool false,.kC,.kC,.bool false,.kC,.kC]⟩:=(G3.old p (by simp;omega)).trans (by rw [<-hp];exact rP _ _);have LF:=nC.leaf hQ3 rfl;simp only [dD,dU,dJ,aH]at LF;have hq3:∀o,o<s2.length->jQ q3 o=jQ s2 o:=fun o ho=>(G3.old o (by simp;omega)).trans (kV ho);have fz:∀o∈o3,p+1<=o:=fun o ho=>by have:=G3.fresh o ho;simp at this;omega
 have nz:=G3.nd;have hzl:=hQ3.lt;obtain⟨w1,w2,oz1,oz2,awS,rfl,hz1,hz2⟩:=pV (ts:=(lC 0).cells) (ts':=(lC 0).cells) hQ3;have hw1:w1.length=3:=hz1.len;obtain⟨e1,e2⟩:=fO (show [V.bool (lC 0).neg,x1,x2]++[V.bool (lC 0).neg,x3,x4]=w1++w2 from awS) (by rw [hw1];rfl);subst e1;subst e2;clear G3 hQ3;refine D6 @t1 @Lp @LF @hp ?_;have hql:p<q3.length:=by omega
 have hDd:d+1=dsH ns ns.length:=hD.symm;obtain⟨z,hzz⟩:∃z,z=[V.bool (lC 0).neg,x1,x2]++[V.bool (lC 0).neg,x3,x4]:=⟨_,rfl⟩;have hz6:[V.bool (lC 0).neg,x1,x2,V.bool (lC 0).neg,x3,x4]=z:=hzz.symm;rw [hz6];refine kZ (fun x d=>x == 231||x == 186) (α:=Nat×Store) (fun q=>⟨mJ [.any,.any,.any,.any,ints ns,.any,.any,.any,.lQ px 0 X.length,.any,.lQ py 0 Y.length,.any,.any,.lQ p 0 (d+1),.any,.any,.any,.any,.any,.any,.any,.any,.any,.any,.any,.any,.any,.any,.any,.any,.any,.any,.any,.any,.any,.any,.any,.any,.any,.any,.any,.any,.any,.any,.any,.any,.any,.any,.any,.any,.any,.any,.any,.any,.any,.any,.any,.any,.any,.any,.any,.any,.any,.any,.any,.any,.any,.any,.any,.any,.any,.any,.any,.any,.any,.any,.any,.any,.any,.any,ints ns,iv (ns.length:Nat),iv (q.1:Nat)],q.2,0,0,[],[]⟩) (fun q=>q.1<=ns.length/\jQ q.2 p=some ⟨6,(List.range (d+1)).map (U6 XP ns z (fun i=>rX.getD i []) (fun i=>rY.getD i []) q.1)⟩/\(∀o,o<q3.length->o≠p->jQ q.2 o=jQ q3 o)/\q3.length<=q.2.length) (fun q=>ns.length-q.1) rfl (0,q3.set p (some ⟨6,z::List.replicate d XP⟩)) ?_ ?_ ?_
 ·exact⟨eH _,by rw [aty];exact kY hql,fun o _ h=>kN h,by simp⟩
 ·(refine kS ?_;exact uw)
 clear Lp LF;rintro⟨k,u⟩ ⟨hk,hup,huo,hul⟩;dsimp only at hk hup huo hul;have hus:∀o,o<s2.length->jQ u o=jQ s2 o:=fun o ho=>(huo o (by omega) (by omega)).trans (hq3 o ho);have aAK:∀o,o<s1.length->jQ u o=jQ s1 o:=fun o ho=>(hus o (by omega)).trans (awF o ho);by_cases hck:(k:Int)<(ns.length:Nat)
 ·have hkl:k<ns.length:=by omega
  have hkX:(k:Int)<(X.length:Nat):=by omega
  have hkY:(k:Int)<(Y.length:Nat):=by omega
  have hr:=agS k hkl;obtain⟨v,hv⟩:∃v:Nat,ns.getD k 0=(v:Int):=⟨(ns.getD k 0).toNat,by rw [show ns.getD k default=ns.getD k 0 from rfl]at hr;omega⟩;have hm:=afr hHl ns.length (aJ _) (k+1) (by omega);have hk1:dsH ns (k+1)=(ns.getD k default).toNat+1:=rfl;have hlo:=hHl k hkl;rw [show ns.getD k default=(v:Int)from hv]at hk1 hlo;rw [gU]at hk1;have hvd:v<d+1:=by omega
  have aJ1:(v:Int)<((d+1:Nat):Int):=by omega
  have hrow:((List.range (d+1)).map (U6 XP ns z (fun i=>rX.getD i []) (fun i=>rY.getD i []) k))[v]? = some [.bool false,.kC,.kC,.bool false,.kC,.kC]:=by
   rw [bP,dM hvd];simp only [dh];rw [aoY hHl k hk v (by omega)];rfl
  have hset:=asi (n0:=XP) (z:=z) (cx:=fun i=>rX.getD i []) (cy:=fun i=>rY.getD i []) (D:=d+1) (show ns.getD k default=(v:Int)from hv);have hrl:((List.range (d+1)).map (U6 XP ns z (fun i=>rX.getD i []) (fun i=>rY.getD i []) k)).length=d+1:=by simp
  have okx:=(kx1 k (by omega)).1;have oky:=(ky1 k (by omega)).1;rw [mg (by omega)]at okx oky;have gX:rX[k]? = some (rX.getD k []):=anf (by omega);have gY:rY[k]? = some (rY.getD k []):=anf (by omega);obtain⟨a1,a2,ex⟩:=okx.rat
  obtain⟨b1,b2,ey⟩:=oky.rat
  have lx:=okx.leaf rfl;have ly:=oky.leaf rfl;rw [ex]at gX lx;rw [ey]at gY ly;simp only [dD,dU,dJ,aH]at lx ly;rw [ex,ey]at hset;have hux:=(aAK px aFH).trans hpx;have huy:=(hus py aFI).trans hpy;have hpu:p<u.length:=by omega
  generalize (List.range (d+1)).map (U6 XP ns z (fun i=>rX.getD i []) (fun i=>rY.getD i []) k)=rows at *;generalize (X.getD k default).neg=n1 at *;generalize (Y.getD k default).neg=n2 at *;refine D5 (ah hck hv) (ah hux (ah huy hup)) (ah gX (ah gY hrow)) (ah lx ly) @kQ @lI ?_;refine⟨by unfold sF;rfl,?_⟩;refine⟨(k+1,?st),?c1,⟨?c2,?c4,?c5,?c6⟩,?c3⟩
  case c3=>dsimp only;(refine kS ?_;exact uw)
  case c1=>dsimp only;omega
  case c2=>dsimp only;omega
  case c4 =>
   dsimp only;rw [<-hset];exact kY hpu
  case c5 =>
   dsimp only;intro o h1 h2;rw [kN h2];exact huo o h1 h2
  case c6=>simp;omega
 have hke:k=ns.length:=by omega
 subst hke;refine Ae @hck ?_;rw [hD];rw [hzz]at hup;have up1:∀o∈oz1++oz2,jQ u o=jQ q3 o:=fun o ho=>huo o (hzl o ho) (by have:=fz o ho;omega);refine aoX hup (hz1.frame fun o ho=>up1 o (eG _ ho)) (hz2.frame fun o ho=>up1 o (dL _ ho)) (fx:=fx) (fy:=fy) (fun i hi=>?_) (fun i hi=>?_) nz (fun i hi=>(kx1 i (by omega)).2.1) (fun i hi=>(ky1 i (by omega)).2.1)
  (fun i j hi hj=>kx2 i j (by omega) (by omega)) (fun i j hi hj=>ky2 i j (by omega) (by omega)) (fun i j hi hj o h1 h2=>?_) (fun i hi o h1 h2=>?_) (fun i hi o h1 h2=>?_)
 ·have:=(kx1 i (by omega)).1;rw [mg (by omega)]at this;exact this.frame fun o ho=>aAK o (kxl i (by omega) o ho)
 ·have:=(ky1 i (by omega)).1;rw [mg (by omega)]at this;exact this.frame fun o ho=>hus o (kyl i (by omega) o ho)
 ·have:=kxl i (by omega) o h1;have:=kyf j (by omega) o h2;omega
 ·have:=fz o h1;have:=kxl i (by omega) o h2;omega
 have:=fz o h1;have:=kyl i (by omega) o h2;omega
def BH:Fn:=⟨2,42,[.tmp 4],(sr [oN 4 mN] (sr [oW 11 0,oN 12 (.call 181 [(.t 11),(cI 9)]),oW 5 12] (.seq (rf 1 [oN 13 (.nO 1 Kt 0 []),oK 6 1 (oV 13)]) (.seq (sr [oW 14 1,oN 15 (cl 222 [14]),oN 16 (ln 15),oN 17 (.qC (cI 0))] (.block 0 (.loop (sr [oN 18 (bt .lss 17 16)] (.seq (cd 18 .skip (.exit 0)) (.seq (.block 1 (sr [oN 19 (ix 1 15 17),oN 20 (lF 1 19),oW 8 20] (sr [oW 21 5,oW 22 6,oN 23 (ln 22),oN 24 (bc .add 23 1),oN 25 (cl 107 [21,24]),oW 9 25] (.seq (rf 2 [oN 26 (.nO 1 Kt 0 []),oK 27 2 (oV 6),oK 28 2 (oV 9),oK 29 2 (.slice 1 (.t 27) none (some (.t 28))),oK 30 1 (.app 1 8 (.t 26) (.t 29)),oK 10 2 (oV 30)]) (.seq (rf 2 [oK 31 2 (oV 10),oK 32 2 (oV 8),oN 33 (.nO 1 Kt 1 [(0,(.t 32))]),oK 34 1 (.app 1 8 (.t 31) (.t 33)),oK 10 2 (oV 34)]) (rf 1 [oK 35 1 (oV 10),oK 36 1 (oV 6),oK 37 1 (oV 9),oK 38 1 (.slice 1 (.t 36) (some (.t 37)) none),oN 39 (.app 1 8 (.t 35) (.t 38)),oK 6 1 (oV 39)])))))) (rg [oN 40 (bc .add 17 1),oW 17 40]))))))) (sr [oW 41 6,oW 4 41] .ret)))))⟩
structure Gp (T:Tb):Prop where
 hT:T 271=some BH
 lZ:wI T
 aai:Me T
 Zz:ED T
def IsA(s:Store)(v:V)(xs:List Int):Prop:=(xs=[]/\v=.kC)\/∃p,v=.lQ p 0 xs.length/\jQ s p=some ⟨1,kU xs⟩/\p≠0/\0<xs.length
theorem IsA.fr{s s2:Store}{v:V}{xs:List Int}(h:IsA s v xs)(hf:∀p,p≠0->p<s.length->jQ s2 p=jQ s p):IsA s2 v xs:=by
 rcases h with h|⟨p,h1,h2,h3,h4⟩
 ·exact .inl h
 exact .inr ⟨p,h1,(hf p h3 (lH h2)).trans h2,h3,h4⟩
structure OrI (ns:List Int) (k:Nat) (o:List Int):Prop where
 len:o.length=k
 sub:∀a∈o,a∈ns.take k
 nd:o.Nodup
theorem OrI.ins{ns:List Int}{k:Nat}{o:List Int}(h:OrI ns k o)(hk:k<ns.length)(hn:ns.Nodup)(q:Nat):OrI ns (k+1) (o.take q++[ns.getD k 0]++o.drop q):=by
 have e:o.take q++o.drop q=o:=gZ q o;have hs:ns.take (k+1)=ns.take k++[ns.getD k 0]:=by
  rw [iY,ak hk,aj,ak hk];rfl
 have hx:ns.getD k 0∉ns.take k:=by
  have:=hn.sublist (List.take_sublist (k+1) ns);rw [hs,bf]at this;exact fun hm=>this.2.2 _ hm _ (aW.2 rfl) rfl
 refine⟨?_,fun a ha=>?_,?_⟩
 ·have:=congrArg List.length e;have:=h.len;simp only [aS,List.length_singleton]at *;omega
 ·rw [hs];rcases aK.1 ha with ha|ha
  ·rcases aK.1 ha with ha|ha
   ·exact aK.2 (.inl (h.sub a (dH ha)))
   exact aK.2 (.inr ha)
  exact aK.2 (.inl (h.sub a (fC ha)))
 have hd:(o.take q++o.drop q).Nodup:=by rw [e];exact h.nd
 have hm:∀a∈o,a≠ns.getD k 0:=fun a ha e=>hx (e▸h.sub a ha);rw [bf]at hd;rw [bf,bf];refine⟨⟨hd.1,by simp,fun a ha b hb=>?_⟩,hd.2.1,fun a ha b hb=>?_⟩
 ·rw [aW.1 hb];exact hm a (dH ha)
 rcases aK.1 ha with ha|ha
 ·exact hd.2.2 a ha b hb
 rw [aW.1 ha];exact(hm b (fC hb)).symm
theorem afs{T:Tb}(h:Gp T){x:List UInt8}(hx:x.length<=1048576){S:List Lk}(hok:lN S=true)(hw:DR Lk.wf S)(hl:S.length<=1048576)(hne:1<=(kF S).length) :
  ∃o:List Int,JX S o=true/\PF T 271 [bytesV x,nZ S] (ints o):=by
 obtain⟨i0,h0,hi0,rn⟩:=anm h.aai (n:=9) (by omega) hx;have:∃r σ',Run T (.fn 271 [bytesV x,nZ S] []) (.fn r σ')/\∃o:List Int,JX S o=true/\resolve σ' FD r=some (ints o):=by
  refine run_end (fun x d=>x == 181||x == 107) h.hT ?_;simp only [BH,Lz,St.enter,au,aG,aX];refine ew ?_;refine Jv rn (by (refine ew ?_;try with_reducible exact aC)) (by (refine ew ?_;try with_reducible exact aC)) ?_;rw [show lS (mV ([]:Store).length) (.ptr 0 0 0)=.ptr 0 0 0 from rfl,aeZ];have hP:Pm (cur x i0 h0) 0 x:=⟨i0,h0,rfl,hi0⟩;have cn:=aey h.Zz (l:=S) hw hl;have hnd:=Jw (Gh S);have hnl:=yR S;have hfin:∀o,OrI (kF S) (kF S).length o->JX S o=true:=fun o ho=>aou hok ho.nd (fun a ha=>by have:=ho.sub a ha;rwa [bI]at this) ho.len;generalize kF S=ns at *;generalize cur x i0 h0=s0 at hP ⊢;refine ew ?_;refine jK cn ?_;refine ew ?_;refine kZ (fun x d=>x == 181||x == 107) (α:=Nat×Store×V×List Int) (fun q=>⟨mJ [.any,.any,.any,.any,.any,.ptr 0 0 0,q.2.2.1,.any,.any,.any,.any,.any,.any,.any,.any,ints ns,iv (ns.length:Nat),iv (q.1:Nat)],q.2.1,0,0,[],[]⟩) (fun q=>(q.1<=ns.length/\Pm q.2.1 0 x)/\IsA q.2.1 q.2.2.1 q.2.2.2/\OrI ns q.1 q.2.2.2) (fun q=>ns.length-q.1) rfl (0,s0++[none],.kC,[]) ?_ ?_ ?_
  ·exact⟨⟨eH _,hP.fr (kV hP.lt)⟩,.inl ⟨rfl,rfl⟩,rfl,(by intro a ha;cases ha),List.nodup_nil⟩
  ·(refine kS ?_;exact uw)
  clear hP;rintro⟨k,s,v,o⟩ ⟨⟨hk,hP⟩,hI,hO⟩;dsimp only at hk hP hI hO;have hol:=hO.len;by_cases hc:(k:Int)<(ns.length:Nat)
  ·have hkl:k<ns.length:=by omega
   have hln:lenOf s v=some o.length:=by
    rcases hI with ⟨rfl,rfl⟩|⟨p,rfl,hp,hp0,hxl⟩
    ·rfl
    simp [lenOf,hp,vK]
   refine Dy @hc @hkl @hln ?_;refine qI (b:=0) (rest:=[iv ((o.length:Nat)+1)]) hP (qU h.lZ (n:=(o.length:Nat)+1) (by omega) hx) rfl (fun _=>rfl) ?_;rintro _ i1 h1 ⟨j,rfl,hj⟩ hi1;have hI2:=hI.fr (s2:=s.set 0 (some (Xc x i1 h1))) fun p hp _=>kN hp;have hP2:Pm (s.set 0 (some (Xc x i1 h1))) 0 x:=⟨i1,h1,kY hP.lt,hi1⟩;generalize s.set 0 (some (Xc x i1 h1))=S1 at hI2 hP2 ⊢;clear hI hP hln;have hS0:=hP2.lt;obtain⟨q,rfl⟩:∃q:Nat,j=(q:Int):=⟨j.toNat,by omega⟩;have hq:q<=o.length:=by omega
   have hO2:=hO.ins hkl hnd q;have hab:(o.take q).length+(o.drop q).length=k:=by rw [eu,iK];omega
   have eA:(kU o).take q=kU (o.take q):=TU o q;have eB:(kU o).drop q=kU (o.drop q):=Xm o q;have eql:q=(o.take q).length:=by rw [eu];omega
   generalize o.take q=A at *;generalize o.drop q=B at *;generalize ns.getD k 0=n at *;rcases hI2 with ⟨rfl,rfl⟩|⟨p,rfl,hp,hp0,hxl⟩
   ·have hq0:q=0:=by simpa using hq
    subst hq0;have hA:A=[]:=aY eql.symm;have hB:B=[]:=aY (by simp at hol;omega);subst hA hB;refine ew ?_;refine⟨by omega,(k+1,?s1,.lQ (S1.length+1+1+1) 0 1,[n]),?m1,⟨⟨?a1,?b1⟩,?c1,hO2⟩,?e1⟩
    case e1=>dsimp only;(refine kS ?_;exact uw)
    case m1=>dsimp only;omega
    case a1=>dsimp only;omega
    case b1=>dsimp only;exact hP2.fr (by exact DV)
    case c1 =>
     dsimp only;refine .inr ⟨S1.length+1+1+1,rfl,?_,by omega,by simp⟩;rw [kV (by simp),kY (by simp)];simp [kU]
   have hpl:=lH hp;rcases A with _|⟨a0,A⟩
   ·simp only [aG]at eql;subst eql;rw [show kU []=[]from rfl]at eA;rcases B with _|⟨b0,B⟩
    ·exfalso;simp at hab;omega
    have hob:o.length=B.length+1:=by simp at hab;omega
    have hTB:List.take o.length ([V.int .i64 b0]::kU B)=[V.int .i64 b0]::kU B:=bG (by simp [vK];omega);rw [show kU (b0::B)=[.int .i64 b0]::kU B from rfl]at eB;refine Ku @hp @eA @eB @vK @hTB ?_;refine⟨by omega,by omega,(k+1,?s2,.lQ (S1.length+4) 0 (1+(B.length+1)),[n]++(b0::B)),?m2,⟨⟨?a2,?b2⟩,?c2,hO2⟩,?e2⟩
    case e2=>dsimp only;(refine kS ?_;exact uw)
    case m2=>dsimp only;omega
    case a2=>dsimp only;omega
    case b2=>dsimp only;exact hP2.fr (by exact DV)
    case c2 =>
     dsimp only;refine .inr ⟨S1.length+4,(by simp;omega),?_,by omega,by simp⟩;rw [kY (by simp)];simp [kU]
   rw [show kU (a0::A)=[.int .i64 a0]::kU A from rfl]at eA;have hLA:A.length+1<=(kU A++[[V.int .i64 n]]).length:=by simp [vK]
   have hTA:List.take (A.length+1) (kU A++[[V.int .i64 n]])=kU A++[[V.int .i64 n]]:=bG (by simp [vK]);have hAl:A.length+1<=10:=by simp at hab;omega
   rcases B with _|⟨b0,B⟩
   ·rw [show kU []=[]from rfl]at eB;refine Ku @hp @eA @eB @vK (ah hLA hTA) ?_;refine⟨by omega,by omega,(k+1,?s3,.lQ (S1.length+1+1+1) 0 (A.length+1+1),a0::A++[n]++[]),?m3,⟨⟨?a3,?b3⟩,?c3,hO2⟩,?e3⟩
    case e3=>dsimp only;(refine kS ?_;exact uw)
    case m3=>dsimp only;omega
    case a3=>dsimp only;omega
    case b3=>dsimp only;exact hP2.fr (by exact DV)
    case c3 =>
     dsimp only;refine .inr ⟨S1.length+1+1+1,(by simp),?_,by omega,by simp⟩;rw [kV (by simp),kY (by simp)];simp [kU]
   have hob:o.length-q=B.length+1:=by simp at hab eql;omega
   have hTB:List.take (o.length-q) ([V.int .i64 b0]::kU B)=[V.int .i64 b0]::kU B:=bG (by simp [vK];omega);have hBl:B.length+1<=10:=by simp at hab;omega
   have hLn:(kU A++[[V.int .i64 n]]).length=A.length+1:=by simp [vK]
   rw [show kU (b0::B)=[.int .i64 b0]::kU B from rfl]at eB;refine D5 @hp @eA @eB @vK (ah hLA (ah hTA hTB)) @hLn ?_;refine⟨by omega,by omega,by omega,(k+1,?s4,.lQ (S1.length+4) 0 (A.length+1+1+(B.length+1)),a0::A++[n]++(b0::B)),?m4,⟨⟨?a4,?b4⟩,?c4,hO2⟩,?e4⟩
   case e4=>dsimp only;(refine kS ?_;exact uw)
   case m4=>dsimp only;omega
   case a4=>dsimp only;omega
   case b4=>dsimp only;exact hP2.fr (by exact DV)
   case c4 =>
    dsimp only;refine .inr ⟨S1.length+4,(by simp;omega),?_,by omega,by simp⟩;rw [kY (by simp)];simp [kU]
  have hkn:k=ns.length:=by omega
  subst hkn;refine Ae @hc ?_;refine⟨o,hfin o hO,?_⟩;rcases hI with ⟨rfl,rfl⟩|⟨p,rfl,hp,hp0,hxl⟩
  ·exfalso;simp at hol;omega
  exact auU hp ⟨rfl,rfl⟩
 obtain⟨r,σ',h1,o,h2,h3⟩:=this;exact⟨o,h2,.XZ h1 h3⟩
def Jq:Fn:=⟨1,51,[.tmp 2],(sr [oN 2 mF] (.seq (sr [oW 11 0,oN 12 (ln 11),oN 13 (bc .gtr 12 1048576)] (cd 13 (sr [oN 2 mT] .ret) .skip)) (sr [oW 14 0,oN 15 (cl 171 [14]),oW 3 15] (.seq (rf 1 [oK 17 1 (oV 3),oK 18 1 (oV 0),oK 19 1 (oV 3),oK 20 1 (cl 271 [18,19]),oK 21 1 (cl 270 [17,20]),oK 16 1 (oV 21),oK 22 1 (ex 0 16),oK 23 1 (ex 1 16),oK 24 1 (ex 2 16),oN 5 (.alloc uJ),oK 4 1 (oV 22),⟨none,none,1,.store 3 (.t 5) (.t 23),[]⟩,oK 6 1 (oV 24)]) (sr [oW 26 4,oN 27 (cl 272 [26]),oW 25 27,oN 28 (ex 0 25),oN 29 (ex 1 25),oW 7 28,oW 8 29] (sr [oW 31 3,oN 32 (cl 269 [31]),oW 30 32,oN 33 (ex 0 30),oN 34 (ex 1 30),oW 9 33,oW 10 34] (sr [oW 35 6,oW 36 35,oG 36 true 37 (oV 8),oN 38 (.pick (.t 36) (.t 37) (.c (.bool false))),oW 39 38,oG 39 true 40 (oV 10),oN 41 (.pick (.t 39) (.t 40) (.c (.bool false))),oW 42 41,oG 42 true 43 (oV 4),oG 42 true 44 (cl 273 [43]),oN 45 (.pick (.t 42) (.t 44) (.c (.bool false))),oW 46 45,oG 46 true 47 (oV 7),oG 46 true 48 (oV 9),oG 46 true 49 (cl 12 [47,48]),oN 50 (.pick (.t 46) (.t 49) (.c (.bool false))),oW 2 50] .ret)))))))⟩
structure U1 (T:Tb):Prop where
 hT:T 267=some Jq
 U2:Ed T
 ZA:J9 T
 Qv:AV T
 QZ:BM T
 V6:Gp T
 Xj:IU T
 Oz:Jj T
theorem ahH{T:Tb}(h:U1 T)(x:List UInt8)(wx:x.length<=9223372036854775807):PF T 267 [bytesV x] (.bool true):=by
 refine kX nR h.hT ?_;simp only [Jq,Lz];refine ev ?_;refine lG (fun hb=>?_) fun hb=>?_
 ·refine ev ?_;exact kR _
 have hx:x.length<=1048576:=by omega
 obtain⟨n,S,hS,cm⟩:=akF h.ZA hx;have hw:=hS.wf;have hlen:=hS.len;have hz:NS Lk.sz S<=1048576:=by have:=hS.sz;omega
 have hsl:S.length<=1048576:=by omega
 obtain⟨o,ho,co⟩:=afs h.V6 hx hS.ok hw hsl (TA hS);have hol:=acR ho;obtain⟨k1,k2,k3,k4,k5⟩:=ash hS ho;have hR:=awj (S:=S) o hw hz;have ce:=(V4 h.QZ (S:=S) (o:=o) hw hz (by omega)).XZ (amm (aqT _ _) (aqS _ _) (vM _ _));rw [k1]at ce;have wN:=hR.2.1;have hps:=awN hR.1.1;have hNl:(eaN S o).length<=1048576:=by have:=P7 Cd.sz (eaN S o);have:=hR.1.1;omega
 have cs:=(ac8 h.Xj (l:=eaN S o) wN hps hNl).XZ (Qa (Xu _ _) (vM _ _));rw [k3]at cs;have cd:=(U0 h.Qv (S:=S) hw hsl).XZ (Qa (Xu _ _) (vM _ _));rw [k4,<-k5]at cd;have cn:=aex h.Oz (l:=eaN S o) wN hNl;rw [k2]at cn;have wP:DR Pt.wf (XO (eaN S o)):=(awd _).2;have cp:=Vy h.U2 (a:=XO (eaN S o)) (b:=XO (eaN S o)) wP wP;rw [aT rfl]at cp;clear hR k1 k2 k3 k4 k5 hps;generalize XO (eaN S o)=P at *;generalize eaN S o=N at *;generalize eaE S o=e at *;refine ev ?_;refine jK cm ?_;refine ev ?_;refine jK co ?_;refine ev ?_;refine jK ce ?_;refine ev ?_;refine jK cs ?_;refine ev ?_;refine jK cd ?_;refine ev ?_;refine jK cn ?_;refine ev ?_;refine jK cp ?_;refine ev ?_;exact kR _
def aoZ(P:Program)(fid:Nat)(o:afI):Prop :=
 ∀args σ r σ',o.sem args σ r σ'->∀w M D (vals:Array Value),qH w D (XS M D) args vals.toList->uP w D M σ->Calls P fid vals w (Post M D w σ.length r σ')
def Fits(P:Program)(ν:Nat->Option Nat)(T:Tb):Prop :=
 ∀fid f F,ν fid=some f->T f=some F->(∃fn,P.funcs[fid]? = some fn/\afR P ν fn=some F)\/∃o,F.body=.lib o/\aoZ P fid o
theorem awT{T:Tb}{j:Job}{x:Out}(h:Run T j x):∀o st,j≠.code (.lib o) st:=by
 induction h with
 |gc ρ hn hρ h ih=>intro o st e;cases e;exact ih o _ rfl
 |forget he ho hk h ih=>intro o st e;cases e;exact ih o _ rfl
 |re W h h' ih=>intro o st e;cases e;exact ih o _ rfl
 |_=>intro o st e;cases e
theorem asn{P:Program}{ν:Nat->Option Nat}{nt:Nat}{o:afI}:∀c:Code,Vd P ν nt c≠some (.lib o):=by
 intro c h;unfold Vd at h
 cases c<;>simp at h
 all_goals (try (split at h<;>simp at h))
theorem ao0{P:Program}{ν:Nat->Option Nat}{fn:Func}{F:Fn}{o:afI}(h:afR P ν fn=some F)(hb:F.body=.lib o):False:=by
 unfold afR at h;split at h<;>first|(cases h;done)|skip
 split at h<;>first|(cases h;done)|skip
 rename_i b rs' hb' aAM;split at h<;>first|(cases h;done)|skip
 simp only [aB]at h;subst h;simp only []at hb;subst hb;exact asn _ hb'
section
variable {P : Program} {ν : Nat -> Option Nat} {T : Tb}
theorem afu{m:Nat}{x:qJ}{l:List qJ}(h:okK m (x::l)=true):okK m l=true/\∀y∈l,y.i.makes=true->y.k≠x.k/\y.k<m:=by
 have hm:∀(l:List qJ),okK m l=true->∀y∈l,y.i.makes=true->y.k<m:=by
  intro l
  induction l with
  |nil=>intro _ y hy;cases hy
  |
   cons z l ih =>
   intro h y hy hmk;simp only [okK,aH]at h;rcases aI.1 hy with rfl|hy
   ·have:=h.1;rw [aQ hmk]at this;simp only [aH,aZ]at this;exact this.1
   exact ih h.2 y hy hmk
 simp only [okK,aH]at h;refine⟨h.2,fun y hy hmk=>⟨?_,hm l h.2 y hy hmk⟩⟩;by_cases hx:x.i.makes=true
 ·have:=h.1;rw [aQ hx]at this;simp only [aH,aZ,bg]at this;have:=this.2 y hy;simpa [hmk]using this
 have:=h.1;rw [aN hx]at this;simp only [beq_iff_eq]at this;have:=hm l h.2 y hy hmk;omega
theorem ahI{m:Nat}:∀(l:List qJ),okK m l=true->∀x∈l,x.i.makes=true->x.k<m
 | [],_,y,hy,_=>by cases hy
 |
  z::l,h,y,hy,hmk=>by
  simp only [okK,aH]at h;rcases aI.1 hy with rfl|hy
  ·have:=h.1;rw [aQ hmk]at this;simp only [aH,aZ]at this;exact this.1
  exact ahI l h.2 y hy hmk
theorem ao1{m:Nat}:∀(l:List qJ),okK m l=true->∀(i j:Nat) (x y:qJ),l[i]? = some x->l[j]? = some y->i≠j->x.i.makes=true->x.k≠y.k
 | [],_,i,j,x,y,hx,_,_,_=>by simp at hx
 |
  z::l,h,i,j,x,y,hx,hy,hij,hmk=>by
  obtain⟨k1,k2⟩:=afu h
  cases i with
  |
   zero =>
   simp at hx;subst hx
   cases j with
   |zero=>exact absurd rfl hij
   |
    succ j =>
    have hy':y∈l:=bn (by simpa using hy);by_cases hmy:y.i.makes=true
    ·exact fun e=>(k2 y hy' hmy).1 e.symm
    -- one that makes none has the number m
    have hm:∀(l:List qJ),okK m l=true->∀y∈l,y.i.makes≠true->y.k=m:=by
     intro l
     induction l with
     |nil=>intro _ y hy;cases hy
     |
      cons z l ih =>
      intro h y hy hn;simp only [okK,aH]at h;rcases aI.1 hy with rfl|hy
      ·have:=h.1;rw [aN hn]at this;simpa using this
      exact ih h.2 y hy hn
    have:=hm l k1 y hy' hmy;have h3:=ahI _ h z (by simp) hmk;omega
  |
   succ i =>
   have hx':x∈l:=bn (by simpa using hx)
   cases j with
   |
    zero =>
    simp at hy;subst hy;exact(k2 x hx' hmk).1
   |succ j=>exact ao1 l k1 i j x y (by simpa using hx) (by simpa using hy) (by omega) hmk
theorem ahJ{o:qJ}{l:List qJ}{st st1 st2:St}(h1:adx P ν o st st1)(h2:aln P ν l st1 st2):aln P ν (o::l) st st2:=by
 obtain⟨a1,a2,a3,a4⟩:=h1;obtain⟨b1,b2,b3,b4⟩:=h2;refine⟨b1.trans a1,b2.trans a2,dw a3 b3,?_⟩;intro ops dr nt m k rest htr hk M w0 D0 D a w hs hid Q hQ
 cases rest with
 |nil=>simp [OG]at htr
 |
  cons r rest =>
  simp only [OG]at htr;split at htr<;>first|(cases htr;done)|skip
  rename_i x hx;split at htr<;>first|(cases htr;done)|skip
  rename_i l' hl';simp only [aB,iF]at htr;obtain⟨rfl,rfl⟩:=htr;obtain⟨k1,k2⟩:=afu hk;have key:=a4 ops dr nt m k r hx M w0 D0 D a w hs (hid x (by simp)) (wpList P ops Q rest) Q (fun D' a' w' hs' hun=>by
   refine b4 ops dr nt m _ rest hl' k1 M w0 D0 D' a' w' hs' (fun y hy hmk=>?_) Q hQ;rw [a1];obtain⟨e1,e2⟩:=hid y (by simp [hy]) hmk;exact⟨bD e1 a3,hun _ (Nat.le_add_right _ _) e1 e2 (fun h=>(k2 y hy hmk).1 (by omega))⟩)
  unfold wpList;split
  ·rename_i hw;rw [aQ hw]at key;exact .inl key
  rename_i hw;rw [aN hw]at key;exact key
theorem Ii{nt:Nat}{cc:Code}{c:C}(h:Vd P ν nt cc=some c):match c with
  |.skip=>cc=.skip
  |.reg d m l=>∃id ops,cc=.region id ops d/\OG P ν ops d nt m 0 ops.toList=some l
  |.seq x y=>∃a b,cc=.seq a b/\Vd P ν nt a=some x/\Vd P ν nt b=some y
  |.cond s x y=>∃o a b,cc=.cond o a b/\MN o=some s/\Vd P ν nt a=some x/\Vd P ν nt b=some y
  |.block id x=>∃a,cc=.block id a/\Vd P ν nt a=some x
  |.loop x=>∃a,cc=.loop a/\Vd P ν nt a=some x
  |.exit id=>cc=.exit id
  |.ret=>cc=.ret
  |.lib _=>False:=by
 cases cc with
 |skip=>simp only [Vd,aB]at h;subst h;rfl
 |
  region id ops d =>
  simp only [Vd,aO]at h;obtain⟨l,h1,rfl⟩:=h;exact⟨id,ops,rfl,h1⟩
 |
  seq a b =>
  simp only [Vd]at h;split at h<;>first|(cases h;done)|skip
  rename_i x y h1 h2;simp only [aB]at h;subst h;exact⟨a,b,rfl,h1,h2⟩
 |
  cond o a b =>
  simp only [Vd]at h;split at h<;>first|(cases h;done)|skip
  rename_i s x y h1 h2 h3;simp only [aB]at h;subst h;exact⟨o,a,b,rfl,h1,h2,h3⟩
 |
  block id a =>
  simp only [Vd,aO]at h;obtain⟨x,h1,rfl⟩:=h;exact⟨a,rfl,h1⟩
 |
  loop a =>
  simp only [Vd,aO]at h;obtain⟨x,h1,rfl⟩:=h;exact⟨a,rfl,h1⟩
 |exit id=>simp only [Vd,aB]at h;subst h;rfl
 |ret=>simp only [Vd,aB]at h;subst h;rfl
 |_=>simp [Vd]at h
theorem ajr{c:C}{e:Ex}{st st':St}(hk:st'.keep=st.keep)(h:abz P ν c e st st'):afS P ν (.loop c) e st st':=by
 refine⟨hk,?_⟩;intro nt cc htr M w0 D0 D a w hs Q hQ;obtain⟨cb,rfl,hb⟩:=Ii htr;intro b k cs;obtain⟨x,a',w',q,harr⟩:=h nt cb hb M w0 D0 D a w hs Q hQ b k cs;exact⟨x,a',w',q,.of_steps (.one step_loop) harr⟩
theorem aso{e:Ex}(h:e≠.normal):adt e≠.normal:=by cases e<;>simp [adt]at h ⊢
theorem asq{next:Act->World->Prop}{Q:Exit->Act->World->Prop}{e:Ex}(h:e≠.normal){a:Act}{w:World}(hq:Q (adt e) a w):Exit.then next Q (adt e) a w:=by
 cases e<;>first|(simp at h;done)|exact hq
def V7(tmps:Array Value):ResultVar->Sem Value
 |.tmp t=>pure (tmps.getD t undef)
 |.cell q t=>do loadVar t (<-asAddr (tmps.getD q undef))
theorem ahK(fn:Func)(tmps:Array Value):results fn tmps=(do let vs <-fn.results.mapM (V7 tmps);pure (if h:vs.size=1 then vs[0]else .tuple vs)):=rfl
theorem ao2(hT:Fits P ν T){f:Nat}{args:List V}{σ:Store}{F:Fn}{o:afI}{r:V}{σ':Store}(hf:T f=some F)(hb:F.body=.lib o)(h:o.sem args σ r σ'):RP P ν f args σ r σ':=by
 intro fid awU w M D vals hv hS;rcases hT fid f F awU hf with ⟨fn,hfn,htr⟩|⟨o',e,hO⟩
 ·exact(ao0 htr hb).elim
 rw [hb]at e
 cases e
 exact hO args σ r σ' h w M D vals hv hS
theorem asr(hT:Fits P ν T){f:Nat}{args:List V}{σ:Store}{F:Fn}{e:Ex}{st':St}{rs:List V}(hf:T f=some F)(hl:args.length=F.nargs)(hnl:∀o,F.body≠.lib o)
  (ih:afS P ν F.body e (St.enter args σ) st') (he:e=.normal\/e=.ret) (hr:F.res.mapM (O6.get st')=some rs):RP P ν f args σ (wu rs) st'.objs:=by
 intro fid awU w M D vals hv hS;rcases hT fid f F awU hf with ⟨fn,hfn,htr⟩|⟨o,e,_⟩
 case inr=>exact(hnl o e).elim
 unfold afR at htr;split at htr<;>first|(cases htr;done)|skip
 rename_i body hbody;split at htr<;>first|(cases htr;done)|skip
 rename_i b rs' hb aAM;split at htr<;>first|(cases htr;done)|skip
 rename_i hle;simp only [aB]at htr;subst htr;have hvl:vals.size=args.length:=by simpa using (rJ _ _ hv).symm
 refine calls_of_wp hfn hbody ?_;have hs0:SR fn.ntmps M w D (St.enter args σ) D { tmps:=vals++Array.replicate (fn.ntmps-vals.size) undef,defers:=[] } w:=by
  refine⟨?_,?_,rfl,hS,Gr.refl _ _,fun o d h=>.inl ⟨o,d,h,rfl⟩,fun o _=>vJ.refl _⟩
  ·intro t;simp only [St.enter];by_cases ht:t<args.length
   ·obtain⟨y,h1,h2⟩:=Gq _ _ hv t args[t] (by simp [ht]);have e1:mJ args t=args[t]:=by simp [mJ,ht]
    rw [e1];have e2:(vals++Array.replicate (fn.ntmps-vals.size) undef).getD t undef=y:=by
     rw [dP,Array.getElem?_append_left (by omega)];rw [<-iH,h1];rfl
    rw [e2];exact h2
   have e1:mJ args t=.any:=by simp [mJ,List.getD,bC (Nat.le_of_not_lt ht)]
   rw [e1];simp only [rd]
  simp only [Array.size_append,Array.size_replicate];simp only []at hl;omega
 refine ih.2 fn.ntmps body hb M w D D _ w hs0 _ ?_;intro D' a' w' hs';have hres:∃v,(results fn a'.tmps).run P w'=.ok v w'/\rd w' D' (XS M D') (wu rs) v:=by
  have hlist:∀(vars:List ResultVar) (rl:List O6) (vl:List V),vars.mapM (ahV P)=some rl->rl.mapM (O6.get st')=some vl ->
    ∃ys:List Value,(vars.mapM (V7 a'.tmps)).run P w'=.ok ys w'/\qH w' D' (XS M D') vl ys:=by
   intro vars
   induction vars with
   |nil=>intro rl vl h1 h2;simp at h1;subst h1;simp at h2;subst h2;exact⟨[],by simp,by simp [qH]⟩
   |
    cons x vars ihv =>
    intro rl vl h1 h2;simp only [bZ,jl,iI,fD,aB]at h1;obtain⟨r,hr1,rl',hr2,rfl⟩:=h1;simp only [bZ,jl,iI,fD,aB]at h2;obtain⟨z,hz1,vl',hz2,rfl⟩:=h2;obtain⟨ys,k1,k2⟩:=ihv rl' vl' hr2 hz2
    cases x with
    |
     tmp t =>
     simp only [ahV,aB]at hr1;subst hr1;simp only [O6.get,aB]at hz1;subst hz1;refine⟨a'.tmps.getD t undef::ys,?_,by simp only [qH];exact⟨_,_,rfl,hs'.env t,k2⟩⟩;have hg:(V7 a'.tmps (.tmp t)).run P w'=.ok (a'.tmps.getD t undef) w':=rfl;simp only [bZ,Sem.run_bind,Sem.run_pure,bQ,k1,hg]
    |
     cell q t =>
     simp only [ahV,aO]at hr1;obtain⟨⟨n,g⟩,hg,rfl⟩:=hr1;simp only [O6.get]at hz1;split at hz1<;>first|(cases hz1;done)|skip
     rename_i row off hrow;obtain⟨u,j1,j2⟩:=TN hs'.store hg hrow (hs'.env q) hz1;obtain⟨bl,oo,aAN,_⟩:=adr hs'.store hrow (hs'.env q);refine⟨u::ys,?_,by simp only [qH];exact⟨_,_,rfl,j2,k2⟩⟩;have j1':(loadVar t ⟨bl,oo+off,none⟩).run P w'=.ok u w':=by
      rw [aAN]at j1;simpa [Instr.loadAt,Instr.sureAddr]using j1
     have hg:(V7 a'.tmps (.cell q t)).run P w'=.ok u w':=by
      simp only [V7,aAN,asAddr,Sem.run_bind,Sem.run_pure,bQ,j1']
     simp only [bZ,Sem.run_bind,Sem.run_pure,bQ,k1,hg]
  obtain⟨ys,k1,k2⟩:=hlist fn.results.toList rs' rs aAM hr;refine⟨if h:ys.toArray.size=1 then ys.toArray[0]else .tuple ys.toArray,?_,?_⟩
  ·have:(fn.results.mapM (V7 a'.tmps)).run P w'=.ok ys.toArray w':=by
    rw [<-jc (xs:=fn.results),List.mapM_toArray,Sem.run_map,k1];rfl
   rw [ahK];simp only [Sem.run_bind,this,bQ,Sem.run_pure]
  have hlen:=rJ _ _ k2;have gen:∀(rs:List V) (ys:List Value),qH w' D' (XS M D') rs ys->rs.length=ys.length->rd w' D' (XS M D') (wu rs) (if h:ys.toArray.size=1 then ys.toArray[0]else .tuple ys.toArray):=by
   intro rs ys h hl
   cases rs with
   |
    nil =>
    cases ys with
    |nil=>simp only [wu];rw [dif_neg (by simp)];simp only [rd];exact⟨_,rfl,h⟩
    |cons y ys=>simp at hl
   |
    cons x xs =>
    cases ys with
    |nil=>simp at hl
    |
     cons y ys =>
     cases xs with
     |
      nil =>
      cases ys with
      |
       nil =>
       simp only [qH]at h;obtain⟨y',ys',h0,h1,h2⟩:=h
       cases h0
       simpa [wu]using h1
      |cons y' ys=>simp at hl
     |
      cons x' xs =>
      cases ys with
      |nil=>simp at hl
      |
       cons y' ys =>
       simp only [wu];rw [dif_neg (by simp)];simp only [rd];exact⟨_,rfl,h⟩
  exact gen rs ys k2 hlen
 obtain⟨v,hv1,hv2⟩:=hres;have hfin:bodyPost P fn (Post M D w σ.length (wu rs) st'.objs) .ret a' w' :=
  ⟨hs'.df,v,hv1,v,D',rfl,hv2,hs'.store,hs'.gr,hs'.fr,fun o ho=>hs'.kp o (by rw [ih.1];exact ho)⟩
 rcases he with rfl|rfl<;>exact hfin
theorem V8{ops:Array Oper}{dr:Bool}{nt m:Nat}:∀{k:Nat} {rest:List Oper} {l:List qJ},OG P ν ops dr nt m k rest=some l ->
  l.length=rest.length/\∀(i:Nat) (x:qJ),l[i]? = some x->∃o k',rest[i]? = some o/\afQ P ν ops dr nt m k' o=some x
 |k,[],l,h=>by simp only [OG,aB]at h;subst h;simp
 |
  k,o::rest,l,h=>by
  simp only [OG]at h;split at h<;>first|(cases h;done)|skip
  rename_i x hx;split at h<;>first|(cases h;done)|skip
  rename_i l' hl';simp only [aB]at h;subst h;obtain⟨e1,e2⟩:=V8 hl';refine⟨by simp [e1],fun i y hi=>?_⟩
  cases i with
  |zero=>simp at hi;subst hi;exact⟨o,k,rfl,hx⟩
  |succ i=>simpa using e2 i y (by simpa using hi)
theorem afv{ops:Array Oper}{nt m k:Nat}{o:Oper}{x:qJ}(h:afQ P ν ops true nt m k o=some x):x.aft=ahU o:=by
 unfold afQ at h;split at h<;>first|(cases h;done)|skip
 split at h<;>first|(cases h;done)|skip
 simp only [aB]at h;subst h;rfl
theorem abp{ops:Array Oper}{nt m:Nat}{l:List qJ}(h:OG P ν ops true nt m 0 ops.toList=some l){done:List Nat}{listed:Array Bool}(hs:listed.size=ops.size)
  (hl:∀i,listed.getD i false=true↔i∈done) {i:Nat}:i∈Region.ready .any ops listed↔zI l done i=true:=by
 obtain⟨e1,e2⟩:=V8 h;rw [mem_ready];have hlt:∀{i:Nat},i<ops.size->(listed.getD i true=false↔i∉done):=by
  intro i hi;have:listed.getD i true=listed.getD i false:=by
   rw [dP,dP,Array.getElem?_eq_getElem (by omega)];rfl
  rw [this];constructor
  ·intro h1 h2;rw [(hl i).2 h2]at h1;cases h1
  intro h1
  cases hb:listed.getD i false with
  |false=>rfl
  |true=>exact absurd ((hl i).1 hb) h1
 constructor
 ·rintro⟨h1,o,ho,h2⟩;have hi:=(jB.1 ho).1;have hil:i<l.length:=by rw [e1];simpa using hi
  obtain⟨o',k',ho',hx⟩:=e2 i l[i] (by simp [hil]);have:o'=o:=by rw [iH]at ho';rw [ho]at ho';exact(Option.some.inj ho').symm
  subst this;unfold zI;rw [ak hil];simp only [aH,iL,bg];refine⟨?_,?_⟩
  ·have:=(hlt hi).1 h1;simpa using this
  intro e he;rw [afv hx]at he;simp only [ahU,bF,fG]at he;obtain⟨ed,⟨h3,h4⟩,rfl⟩:=he;have:=h2 ed (by simpa using h3) h4;simpa using (hl _).1 this
 intro hr;unfold zI at hr;split at hr<;>first|(cases hr;done)|skip
 rename_i x hx;simp only [aH,iL,bg]at hr;obtain⟨o,k',ho,htr⟩:=e2 i x hx;have ho':ops[i]? = some o:=by rwa [iH]at ho
 have hi:=(jB.1 ho').1;refine⟨(hlt hi).2 (by simpa using hr.1),o,ho',?_⟩;intro e he hb;refine(hl _).2 ?_;have:=hr.2 e.on (by rw [afv htr];simp only [ahU,bF,fG];exact⟨e,⟨by simpa using he,hb⟩,rfl⟩);simpa using this
theorem sound(hm:P.follows .mixedOrders=true)(hT:Fits P ν T){j:Job}{o:Out}(h:Run T j o):Sound P ν j o:=by
 induction h with
 |
  skip st =>
  refine⟨⟨rfl,?_⟩,fun x h=>by cases h⟩;intro nt cc htr M w0 D0 D a w hs Q hQ;have hc:cc=.skip:=Ii htr;subst hc;exact Go.wp_skip (hQ D a w hs)
 |
  @reg m l st st' hk h ih =>
  obtain⟨_,i1,i2,i3,i4⟩:=ih;refine⟨⟨i2,?_⟩,fun x h=>by cases h⟩;intro nt cc htr M w0 D0 D a w hs Q hQ;obtain⟨id,ops,rfl,hops⟩:=Ii htr;refine wp_region_list ?_;refine i4 ops false nt m 0 ops.toList hops hk M w0 D0 D a w ⟨hs.env,hs.tm,hs.df,hs.mem m,hs.gr,hs.fr,hs.kp⟩ (fun x hx hmk=>?_) Q (fun D' a' w' h=>hQ D' a' w' h);have hkm:x.k<m:=by
   have:∀(l:List qJ),okK m l=true->∀x∈l,x.i.makes=true->x.k<m:=by
    intro l
    induction l with
    |nil=>intro _ y hy;cases hy
    |
     cons z l ih =>
     intro h y hy hmk;simp only [okK,aH]at h;rcases aI.1 hy with rfl|hy
     ·have:=h.1;rw [aQ hmk]at this;simp only [aH,aZ]at this;exact this.1
     exact ih h.2 y hy hmk
   exact this l hk x hx hmk
  simp only [aS,List.length_replicate];exact⟨by omega,hs.store.far _ (by omega)⟩
 |
  @atC m l st st' hk h ih =>
  obtain⟨_,i1,i2,i3,i4⟩:=ih;refine⟨⟨i2,?_⟩,fun x h=>by cases h⟩;intro nt cc htr M w0 D0 D a w hs Q hQ;obtain⟨id,ops,rfl,hops⟩:=Ii htr;refine wp_region_any hm ?_;have hsd:SR nt M w0 D0 st D a { w with drawn:=w.drawn+1 }:=by
   have hE:Ext w D (XS M D) { w with drawn:=w.drawn+1 } D (XS M D):=⟨aJ _,fun _ _ _=>rfl,fun _ _ h=>h,fun _=>vJ.refl _⟩;refine⟨fun t=>oP _ _ hE (hs.env t),hs.tm,hs.df,?_,⟨hs.gr.size,hs.gr.os,hs.gr.tape,hs.gr.output,hs.gr.block⟩,hs.fr,hs.kp⟩;refine⟨fun o d ho=>?_,hs.store.alive,hs.store.inj,hs.store.far,hs.store.mlt⟩;obtain⟨ob,c,e,g1,g2,g3,g4,g5,g6,g7,g8,g9,g10,g11⟩:=hs.store.live o d ho;refine⟨ob,c,e,g1,g2,g3,g4,g5,g6,g7,g8,g9,g10,fun i x hi=>?_⟩;obtain⟨k0,y,k1,k2⟩:=g11 i x hi;exact⟨k0,y,k1,oP _ _ hE k2⟩
  refine i4 ops nt m hops hk M w0 D0 D a _ ⟨hsd.env,hsd.tm,hsd.df,hsd.mem m,hsd.gr,hsd.fr,hsd.kp⟩ (fun i x hx _ hmk=>?_) Q (fun D' a' w' h=>hQ D' a' w' h) _ _ (by simp) (fun i=>?_) ?_
  ·have hkm:x.k<m:=ahI l hk x (bn hx) hmk;simp only [aS,List.length_replicate];exact⟨by omega,hsd.store.far _ (by omega)⟩
  ·simp only [dP,Array.getElem?_replicate];split<;>simp
  simp
 |
  @axW l done st h =>
  refine⟨rfl,rfl,rfl,aJ _,?_⟩;intro ops nt m htr hk M w0 D0 D a w hs hid Q hQ fuel listed h1 h2 h3;refine wpAny_done ?_ (hQ D a w hs) fuel
  apply List.eq_nil_iff_forall_not_mem.2
  intro i hi;rw [abp htr h1 h2,h i]at hi
  cases hi
 |
  @axX l done st st' i0 h0 f h h' ih ih' =>
  obtain⟨_,b1,b2,b3,_⟩:=ih' i0 h0;obtain⟨x0,hx0⟩:∃x0,l[i0]? = some x0:=by
   unfold zI at h0;split at h0<;>first|(cases h0;done)|skip
   exact⟨_,by assumption⟩
  obtain⟨_,a1,a2,a3,_⟩:=ih i0 x0 hx0 h0;refine⟨rfl,b1.trans a1,b2.trans a2,dw a3 b3,?_⟩;intro ops nt m htr hk M w0 D0 D a w hs hid Q hQ fuel listed h1 h2 h3;have ahL:∀i,i∈Region.ready .any ops listed↔zI l done i=true:=fun i=>abp htr h1 h2;have hpos:fuel≠0:=by
   rintro rfl;have hi:=(ahL i0).2 h0;have:=(mem_ready.1 hi).1;obtain⟨_,o,ho,_⟩:=mem_ready.1 hi;have hlt:=(jB.1 ho).1;have hmem:false∈listed.toList:=by
    have:listed[i0]'(by omega)=false:=by
     rw [dP,Array.getElem?_eq_getElem (by omega)]at this;simpa using this
    rw [<-this];simp
   have:=List.count_pos_iff.2 hmem;omega
  obtain⟨fuel,rfl⟩:=Nat.exists_eq_succ_of_ne_zero hpos;refine⟨fun hnil=>?_,fun i hi=>?_⟩
  ·have:=(ahL i0).2 h0;rw [hnil]at this;cases this
  have hr:=(ahL i).1 hi;obtain⟨e1,e2⟩:=V8 htr;obtain⟨_,o,ho,_⟩:=mem_ready.1 hi;have hlt:=(jB.1 ho).1;have hil:i<l.length:=by rw [e1];simpa using hlt
  obtain⟨o',k',ho',hx⟩:=e2 i l[i] (by simp [hil]);have:o'=o:=by rw [iH]at ho';rw [ho]at ho';exact(Option.some.inj ho').symm
  subst this;have hli:l[i]? = some l[i]:=by simp [hil]
  have hnd:i∉done:=by
   unfold zI at hr;rw [hli]at hr;simp only [aH,iL]at hr;simpa using hr.1
  obtain⟨_,c1,c2,c3,c4⟩:=ih i l[i] hli hr;obtain⟨_,d1,d2,d3,d4⟩:=ih' i hr;have key:=c4 ops true nt m k' o' hx M w0 D0 D a w hs (fun hmk=>hid i l[i] hli hnd hmk) (wpAny P .any ops Q fuel (listed.setIfInBounds i true)) Q (fun D' a' w' hs' hun=>by
   refine d4 ops nt m htr hk M w0 D0 D' a' w' hs' (fun j y hy hj hmk=>?_) Q hQ fuel _ (by simpa using h1) (fun j=>?_) ?_
   ·simp only [aI,not_or]at hj;rw [c1];obtain⟨g1,g2⟩:=hid j y hy hj.2 hmk;refine⟨bD g1 c3,hun _ (Nat.le_add_right _ _) g1 g2 ?_⟩;intro he;have hne:=ao1 l hk j i y l[i] hy hli hj.1 hmk;omega
   ·rw [dP,Array.getElem?_setIfInBounds];by_cases hij:i=j
    ·subst hij;simp [h1,hlt]
    rw [aN hij,<-dP,h2 j];simp only [aI];constructor
    ·exact .inr
    rintro(h|h)
    ·exact absurd h.symm hij
    exact h
   have hfi:listed[i]'(by omega)=false:=by
    have:=(mem_ready.1 hi).1;rw [dP,Array.getElem?_eq_getElem (by omega)]at this;simpa using this
   rw [Array.toList_setIfInBounds,List.count_set (by simpa using (by omega:i<listed.size))];have h4:listed.toList[i]'(by simpa using (by omega:i<listed.size))=false:=by simpa using hfi
   have h5:0<listed.toList.count false:=List.count_pos_iff.2 (by rw [<-h4];exact jy _);simp only [h4,beq_self_eq_true,if_true];have:(true == false)=false:=rfl;simp only [this,bM,if_false];omega)
  unfold wpOp;simp only [ho];split
  ·rename_i hw;rw [aQ hw]at key;exact .inl key
  rename_i hw;rw [aN hw]at key;exact key
 |
  @axY a b st st1 o h h' ih ih' =>
  cases o with
  |fn r σ=>trivial
  |code e st2 =>
  obtain⟨⟨i1,i2⟩,_⟩:=ih;obtain⟨⟨j1,j2⟩,_⟩:=ih';refine⟨⟨j1.trans i1,?_⟩,fun x h=>by cases h⟩;intro nt cc htr M w0 D0 D a w hs Q hQ;obtain⟨ca,cb,rfl,ha,hb⟩:=Ii htr;refine Go.wp_seq (i2 nt ca ha M w0 D0 D a w hs _ fun D' a' w' hs'=>?_);exact j2 nt cb hb M w0 D0 D' a' w' hs' Q hQ
 |
  @atD a b st e st1 he h ih =>
  obtain⟨⟨i1,i2⟩,_⟩:=ih;refine⟨⟨i1,?_⟩,fun x h=>by cases h⟩;intro nt cc htr M w0 D0 D a w hs Q hQ;obtain⟨ca,cb,rfl,ha,hb⟩:=Ii htr;exact Go.wp_seq (i2 nt ca ha M w0 D0 D a w hs _ fun D' a' w' hs'=>asq he (hQ D' a' w' hs'))
 |
  @cond x a b st t o hx h ih =>
  cases o with
  |fn r σ=>trivial
  |code e st2 =>
  obtain⟨⟨i1,i2⟩,_⟩:=ih;refine⟨⟨i1,?_⟩,fun x h=>by cases h⟩;intro nt cc htr M w0 D0 D a w hs Q hQ;obtain⟨oc,ca,cb,rfl,h1,ha,hb⟩:=Ii htr;have hv:=oQ hs.env h1;rw [hx]at hv;simp only [rd]at hv;refine Go.wp_cond hv (i2 nt _ ?_ M w0 D0 D _ w hs Q hQ)
  cases t
  ·exact hb
  exact ha
 |
  @block id c st e st1 h ih =>
  obtain⟨⟨i1,i2⟩,_⟩:=ih;refine⟨⟨i1,?_⟩,fun x h=>by cases h⟩;intro nt cc htr M w0 D0 D a w hs Q hQ;obtain⟨ca,rfl,ha⟩:=Ii htr;refine Go.wp_block (i2 nt ca ha M w0 D0 D a w hs _ fun D' a' w' hs'=>?_);have:=hQ D' a' w' hs'
  cases e with
  |normal=>exact this
  |ret=>exact this
  |
   exit id' =>
   simp only [adt,adk,Exit.inBlock]at this ⊢;by_cases hid:id'=id
   ·simp only [hid,if_true]at this ⊢;exact this
   simp only [hid,if_false]at this ⊢;exact this
 |
  @ak3 c st st1 o h h' ih ih' =>
  cases o with
  |fn r σ=>trivial
  |code e st2 =>
  obtain⟨⟨i1,i2⟩,_⟩:=ih;obtain⟨⟨j1,_⟩,j2⟩:=ih';have key:abz P ν c e st st2:=by
   intro nt cc htr M w0 D0 D a w hs Q hQ b k cs;obtain⟨x,a1,w1,⟨D1,hx,hs1⟩,harr⟩:=i2 nt cc htr M w0 D0 D a w hs (fun x a' w'=>∃D',x=.normal/\SR nt M w0 D0 st1 D' a' w') (fun D' a' w' h=>⟨D',rfl,h⟩) b (.inLoop cc::k) cs;subst hx;obtain⟨x2,a2,w2,q2,aAO⟩:=j2 c rfl nt cc htr M w0 D0 D1 a1 w1 hs1 Q hQ b k cs;exact⟨x2,a2,w2,q2,.of_steps (Steps.trans harr (.one step_inLoop)) aAO⟩
  exact⟨ajr (j1.trans i1) key,fun x hx=>by cases hx;exact key⟩
 |
  @adl c st e st1 he h ih =>
  obtain⟨⟨i1,i2⟩,_⟩:=ih;have key:abz P ν c e st st1:=by
   intro nt cc htr M w0 D0 D a w hs Q hQ b k cs;obtain⟨x,a1,w1,⟨D1,hx,hs1⟩,harr⟩:=i2 nt cc htr M w0 D0 D a w hs (fun x a' w'=>∃D',x=adt e/\SR nt M w0 D0 st1 D' a' w') (fun D' a' w' h=>⟨D',rfl,h⟩) b (.inLoop cc::k) cs;subst hx;exact⟨_,a1,w1,hQ D1 a1 w1 hs1,.pass (x:=.inLoop cc) rfl (fun _ _=>.inl (aso he)) harr⟩
  exact⟨ajr i1 key,fun x hx=>by cases hx;exact key⟩
 |
  exit id st =>
  refine⟨⟨rfl,?_⟩,fun x h=>by cases h⟩;intro nt cc htr M w0 D0 D a w hs Q hQ;have hc:cc=.exit id:=Ii htr;subst hc;exact Go.wp_exit (hQ D a w hs)
 |
  ret st =>
  refine⟨⟨rfl,?_⟩,fun x h=>by cases h⟩;intro nt cc htr M w0 D0 D a w hs Q hQ;have hc:cc=.ret:=Ii htr;subst hc;exact Go.wp_ret (hQ D a w hs)
 |
  @gc c st o ρ hn hρ h ih =>
  cases o with
  |fn r σ=>trivial
  |code e st2 =>
  obtain⟨⟨i1,i2⟩,i3⟩:=ih;refine⟨⟨i1,?_⟩,?_⟩
  ·intro nt cc htr M w0 D0 D a w hs Q hQ;exact i2 nt cc htr M w0 D0 _ a w (hs.gc hn hρ) Q hQ
  intro x hx nt cc htr M w0 D0 D a w hs Q hQ;exact i3 x hx nt cc htr M w0 D0 _ a w (hs.gc hn hρ) Q hQ
 |
  nil st =>
  refine⟨rfl,rfl,rfl,aJ _,?_⟩;intro ops dr nt m k rest htr hk M w0 D0 D a w hs hid Q hQ
  cases rest with
  |nil=>exact hQ D a w hs
  |
   cons r rest =>
   simp only [OG]at htr;split at htr<;>first|(cases htr;done)|skip
   split at htr<;>first|(cases htr;done)|skip
 |
  @cons o l st st1 out h h' ih ih' =>
  cases out with
  |fn r σ=>trivial
  |code e st2=>exact⟨ih'.1,ahJ ih.2 ih'.2⟩
 |off hg he=>exact⟨rfl,alp hg he⟩
 |op hg h=>exact⟨rfl,apv hg h⟩
 |adn hg hi ha h hR ih=>exact⟨rfl,afT hg hi ha ih hR⟩
 |ak4 ρ hn hρ hg hi h ih=>exact⟨rfl,afU hn hρ hg hi ih⟩
 |ak5 hg hi ha h hR ih=>exact⟨rfl,agn hg hi ha ih hR⟩
 |ak6 hg hi h hl hb ih=>exact⟨rfl,agp hg hi ih hl hb⟩
 | @fn f args σ F e st' rs hf hl h he hr ih=>exact asr hT hf hl (fun o e=>awT h o (St.enter args σ) (by rw [e])) ih.1 he hr
 |lib hf hb h=>exact ao2 hT hf hb h
 |XZ h hr ih=>exact als hr ih
 |gcF ρ hn hρ h ih=>exact alr hn hρ ih
 |
  @forget c st st2 o he ho hk h' ih =>
  cases o with
  |fn r σ=>trivial
  |code e st3 =>
  obtain⟨⟨i1,i2⟩,i3⟩:=ih;refine⟨⟨i1.trans hk,?_⟩,?_⟩
  ·intro nt cc htr M w0 D0 D a w hs Q hQ;exact i2 nt cc htr M w0 D0 _ a w (hs.forget he ho hk) Q hQ
  intro x hx nt cc htr M w0 D0 D a w hs Q hQ;exact i3 x hx nt cc htr M w0 D0 _ a w (hs.forget he ho hk) Q hQ
 |
  @re c st st2 o W h h' ih =>
  cases o with
  |fn r σ=>trivial
  |code e st3 =>
  obtain⟨⟨i1,i2⟩,i3⟩:=ih;refine⟨⟨i1.trans h.keep,?_⟩,?_⟩
  ·intro nt cc htr M w0 D0 D a w hs Q hQ;exact i2 nt cc htr M w0 D0 _ a w (hs.re h) Q hQ
  intro x hx nt cc htr M w0 D0 D a w hs Q hQ;exact i3 x hx nt cc htr M w0 D0 _ a w (hs.re h) Q hQ
 |reF W ha h hs hr ih=>exact amh ha hs hr ih
 |abt ha h hr ih=>exact aj1 ha hr ih
end
open Go.ChangeShapes Go.WideShapes Go.ChangeAt Go.RowKit
def V9:List (Nat×Nat×Fn)->Nat->Option Nat
 | [],_=>none
 |x::l,i=>if x.1=i then some x.2.1 else V9 l i
def ZB:List (Nat×Nat×Fn)->Tb
 | [],_=>none
 |x::l,k=>if x.2.1=k then some x.2.2 else ZB l k
theorem afw:∀{l:List (Nat×Nat×Fn)} {i k:Nat},V9 l i=some k->∃x∈l,x.1=i/\x.2.1=k
 | [],_,_,h=>by simp [V9]at h
 |
  x::l,i,k,h=>by
  simp only [V9]at h;split at h
  ·rename_i e;exact⟨x,by simp,e,by simpa using h⟩
  obtain⟨y,hy,e⟩:=afw h;exact⟨y,by simp [hy],e⟩
theorem afx:∀{l:List (Nat×Nat×Fn)} {k:Nat} {F:Fn},ZB l k=some F->∃x∈l,x.2.1=k/\x.2.2=F
 | [],_,_,h=>by simp [ZB]at h
 |
  x::l,i,k,h=>by
  simp only [ZB]at h;split at h
  ·rename_i e;exact⟨x,by simp,e,by simpa using h⟩
  obtain⟨y,hy,e⟩:=afx h;exact⟨y,by simp [hy],e⟩
theorem O5{α β:Type}{f:α->β}:∀{l:List α},(l.map f).Nodup->∀{x y},x∈l->y∈l->f x=f y->x=y
 | [],_,_,_,h,_,_=>by cases h
 |
  a::l,hn,x,y,hx,hy,e=>by
  simp only [bT,eU]at hn;rcases aI.1 hx with rfl|hx'<;>rcases aI.1 hy with rfl|hy'
  ·rfl
  ·exact absurd (e▸jh hy') hn.1
  ·exact absurd (e▸jh hx') hn.1
  exact O5 hn.2 hx' hy' e
theorem asu{P:Program}{l:List (Nat×Nat×Fn)}(hnd:(l.map (·.2.1)).Nodup)(h:∀x∈l,(∃fn,P.funcs[x.1]? = some fn/\afR P (V9 l) fn=some x.2.2)\/∃o,x.2.2.body=.lib o/\aoZ P x.1 o):Fits P (V9 l) (ZB l):=by
 intro fid f F h1 h2;obtain⟨x,hx,e1,e2⟩:=afw h1;obtain⟨y,hy,e3,e4⟩:=afx h2;have:x=y:=O5 hnd hx hy (e2.trans e3.symm);subst this;rw [<-e1,<-e4];exact h x hx
theorem ao3{P:Program}{l:List (Nat×Nat×Fn)}(hm:P.follows .mixedOrders=true)(hT:Fits P (V9 l) (ZB l)){f fid:Nat}{args:List V}{r:V}(h:PF (ZB l) f args r)(hf:V9 l fid=some f)
  {w:World} {vals:Array Value} (hr:qH w DM.none (fun _=>False) args vals.toList) :
  Calls P fid vals w fun e w'=>(∃v D X,e=.returned v/\rd w' D X r v)/\Below w.heap.size w w':=by
 have hs:=sound hm hT h;have hX:XS (fun _=>False) DM.none=fun _=>False:=by
  funext b;simp [XS,DM.none]
 refine(hs fid hf w (fun _=>False) DM.none vals (by rw [hX];exact hr) ⟨?_,?_,?_,?_,?_⟩).mono fun e w' hp=>?_
 ·intro o d h;cases h
 ·intro o ob h;simp [jQ]at h
 ·intro o o' d d' h;cases h
 ·intro o _;rfl
 ·intro b h;exact h.elim
 obtain⟨v,D',e1,e2,e3,e4,_⟩:=hp;refine⟨⟨v,D',_,e1,e2⟩,⟨e4.os,e4.tape,e4.output,e4.size,fun k hk=>e4.block k hk ?_⟩⟩;rintro⟨o,d,h,_⟩;cases h
theorem ahM{P:Program}{l:List (Nat×Nat×Fn)}(hm:P.follows .mixedOrders=true)(hT:Fits P (V9 l) (ZB l)){f fid:Nat}{args:List V}(h:PF (ZB l) f args (.bool true))(hf:V9 l fid=some f)
  {w:World} {vals:Array Value} (hr:qH w DM.none (fun _=>False) args vals.toList) :
  Calls P fid vals w fun e w'=>e=.returned (.bool true)/\Below w.heap.size w w' :=
 (ao3 hm hT h hf hr).mono fun e w' hp=>by
  obtain⟨⟨v,D,X,rfl,e2⟩,hb⟩:=hp;have:v=.bool true:=by simpa [rd]using e2
  exact⟨by rw [this],hb⟩
end Go.Ml
end
section
namespace Go.Ml
open Go.ChangeShapes Go.WideShapes Go.ChangeAt Go.RowKit
inductive Lf where
 |int (k:IntKind)
 |bool
 |str
 |sl (row:List Lf)
mutual
def Mt:Lf->V->Prop
 |.int k,v=>∃n,v=.int k n/\(Lit.int k n).wf=true
 |.bool,v=>∃b,v=.bool b
 |.str,v=>∃s,v=.str s/\s.length<=maxLen
 |.sl row,v=>∃rows:List (List V),v=.sl row.length rows/\rows.length<=maxLen/\∀r∈rows,TK row r
def TK:List Lf->List V->Prop
 | [],vs=>vs=[]
 |l::ls,vs=>∃v vs',vs=v::vs'/\Mt l v/\TK ls vs'
end
def ao4(P:Program)(sh:TypeId->Option (List Lf)):List Field->Nat->Option (List Lf)
 | [],_=>some []
 |
  f::fs,off=>match sh f.type,ao4 P sh fs (off+P.cellsOf f.type)with
  |some r,some rs=>if f.offset=off/\r.length=P.cellsOf f.type then some (r++rs)else none
  |_,_=>none
def shapeOf(P:Program):Nat->TypeId->Option (List Lf)
 |0,_=>none
 |
  n+1,t=>match P.underlying t with
  |some (.int k)=>some [.int k]
  |some .bool=>some [.bool]
  |some .string=>some [.str]
  |
   some (.slice e)=>match shapeOf P n e with
   |some r=>if r.length=P.cellsOf e/\0<r.length then some [.sl r]else none
   |none=>none
  |
   some (.struct fs)=>match ao4 P (shapeOf P n) fs.toList 0 with
   |some r=>if r.length=P.cellsOf t then some r else none
   |none=>none
  |_=>none
theorem ahN{l1 l2:List Lf}{v1 v2:List V}(h1:TK l1 v1)(h2:TK l2 v2):TK (l1++l2) (v1++v2):=by
 induction l1 generalizing v1 with
 |nil=>simp only [TK]at h1;subst h1;simpa using h2
 |
  cons l l1 ih =>
  simp only [TK]at h1;obtain⟨v,vs,rfl,a,b⟩:=h1;simp only [dI,TK];exact⟨v,vs++v2,rfl,a,ih b⟩
theorem ajs{l:List Lf}{v:List V}(h:TK l v):v.length=l.length:=by
 induction l generalizing v with
 |nil=>simp only [TK]at h;subst h;rfl
 |
  cons x l ih =>
  simp only [TK]at h;obtain⟨v,vs,rfl,a,b⟩:=h;simp [ih b]
theorem asv:∀{l:Lf} {v:V},Mt l v->v.leaf=true:=by
 intro l v h
 cases l<;>simp only [Mt]at h
 ·obtain⟨n,rfl,_⟩:=h;rfl
 ·obtain⟨b,rfl⟩:=h;rfl
 ·obtain⟨s,rfl,_⟩:=h;rfl
 obtain⟨rows,rfl,_⟩:=h;rfl
theorem ao5{l:List Lf}{v:List V}(h:TK l v):∀x∈v,x.leaf=true:=by
 induction l generalizing v with
 |nil=>simp only [TK]at h;subst h;intro x hx;cases hx
 |
  cons y l ih =>
  simp only [TK]at h;obtain⟨v,vs,rfl,a,b⟩:=h;intro x hx;rcases aI.1 hx with rfl|hx
  ·exact asv a
  exact ih b x hx
theorem abq{w:World}{D:DM}{X:Nat->Prop}{b sz:Nat}:∀(off:Nat) (rows:List (List V)),
  (∀i r,rows[i]? = some r->r.length=sz/\pJ w D X b (off+i*sz) r)->sD w D X b sz off rows
 |_,[],_=>by simp [sD]
 |
  off,r::rows,h=>by
  simp only [sD];have h0:=h 0 r rfl;refine⟨h0.1,by simpa using h0.2,abq (off+sz) rows fun i r' hi=>?_⟩;have:=h (i+1) r' (by simpa using hi)
  rwa [show off+(i+1)*sz=off+sz+i*sz by rw [fA];omega]at this
theorem Qw{w:World}{D:DM}{X:Nat->Prop}{b:Nat}:∀(off:Nat) (vs:List V) (cs:List Value),qH w D X vs cs->(∀x∈vs,x.leaf=true) ->
  (∀i,i<cs.length->w.cell? ⟨b,off+i,none⟩=cs[i]?)->pJ w D X b off vs
 |_,[],_,_,_,_=>by simp [pJ]
 |
  off,v::vs,cs,h,hl,hc=>by
  simp only [qH]at h;obtain⟨y,ys,rfl,h1,h2⟩:=h;simp only [pJ];refine⟨hl v (by simp),⟨y,by simpa using hc 0 (by simp),h1⟩,Qw (off+1) vs ys h2 (fun x hx=>hl x (by simp [hx])) fun i hi=>?_⟩;have:=hc (i+1) (by simpa using hi);rw [show off+1+i=off+(i+1) by omega,this];simp
section
variable {H : Type} {enc : TypeId × Value -> H} {P : Program} {w : World}
theorem ZC:∀(n:Nat) {t:TypeId} {L:List Lf} {fuel:Nat} {cs:List Value} {x:DataW H×List MemPlace},shapeOf P n t=some L ->
  DataW.trod enc P w 0 (fun _=>true) true fuel t cs=some x->∃vs,TK L vs/\qH w DM.none (fun _=>False) vs cs
 |0,t,L,fuel,cs,x,h,_=>by simp [shapeOf]at h
 |
  n+1,t,L,fuel,cs,x,h,hx=>by
  cases fuel with
  |zero=>simp [DataW.trod]at hx
  |succ fuel =>
  simp only [shapeOf]at h;split at h
  ·rename_i k hu;simp only [aB]at h;subst h;obtain⟨m,rfl,_,hw⟩:=DataW.trod_int hu hx;exact⟨[.int k m],by simp [TK,Mt,hw],by simp [qH,rd]⟩
  ·rename_i hu;simp only [aB]at h;subst h;rw [DataW.trod_step]at hx;unfold DataW.trodStep at hx;rw [hu]at hx;split at hx<;>simp_all;rename_i b;exact⟨[.bool b],by simp [TK,Mt],by simp [qH,rd]⟩
  ·rename_i hu;simp only [aB]at h;subst h;rw [DataW.trod_step]at hx;unfold DataW.trodStep at hx;rw [hu]at hx;split at hx<;>simp_all;rename_i s;exact⟨[.str s.data.toList],by simp [TK,Mt];exact hx.1,by simp [qH,rd]⟩
  ·rename_i e hu;split at h<;>first|(cases h;done)|skip
   rename_i r hr;split at h<;>first|(cases h;done)|skip
   rename_i hsz;simp only [aB]at h;subst h;rcases DataW.trod_slice hu hx with ⟨rfl,_⟩|⟨a,len,cap,elems,rest,m,_,rfl,_,hb,hl,hm,hlen,hel,_,_⟩
   ·exact⟨[.sl r.length []],by simp [TK,Mt],by simp only [qH,rd];exact⟨_,[],rfl,⟨none,0,rfl,aJ _,.inl (by trivial)⟩,rfl⟩⟩
   have aFM:∀i,i<len->∃cs',w.cells? 0 (a.add (i*P.cellsOf e)) (P.cellsOf e)=some cs'/\∃vs,TK r vs/\qH w DM.none (fun _=>False) vs cs':=by
    intro i hi;have h1:=hel i hi;have h2:elems[i]? = some (elems[i]'(by omega)):=ak (by omega);rw [h2,fD]at h1;obtain⟨cs',k1,k2⟩:=h1;exact⟨cs',k1,ZC n hr k2⟩
   have hch:∀i,∃p:List Value×List V,i<len->w.cells? 0 (a.add (i*P.cellsOf e)) (P.cellsOf e)=some p.1/\TK r p.2/\qH w DM.none (fun _=>False) p.2 p.1:=by
    intro i;by_cases hi:i<len
    ·obtain⟨cs',k1,vs,k2,k3⟩:=aFM i hi;exact⟨(cs',vs),fun _=>⟨k1,k2,k3⟩⟩
    exact⟨([],[]),fun h=>absurd h hi⟩
   obtain⟨f,hf⟩:=Classical.axiomOfChoice hch;have hrow:∀i vs,((List.range len).map fun i=>(f i).2)[i]? = some vs->i<len/\vs=(f i).2:=by
    intro i vs hi;rw [bP,aO]at hi;obtain⟨j,h1,h2⟩:=hi;obtain⟨h3,h4⟩:=aP.1 h1;rw [List.getElem_range]at h4;subst h4;exact⟨by simpa using h3,h2.symm⟩
   refine⟨[.sl r.length ((List.range len).map fun i=>(f i).2)],?_,?_⟩
   ·simp only [TK,Mt];refine⟨_,[],rfl,⟨_,rfl,by simp;exact dw hl hm,fun rr hrr=>?_⟩,rfl⟩;obtain⟨i,hi⟩:=bJ.1 hrr;obtain⟨h1,rfl⟩:=hrow i rr hi;exact(hf i h1).2.1
   simp only [qH,rd];refine⟨_,[],rfl,⟨some a,cap,by simp,by simpa using hl,?_⟩,rfl⟩;by_cases h0:len=0
   ·left;subst h0;rfl
   right;obtain⟨b,off,spot⟩:=a;have hspot:spot=none:=by
    obtain⟨_,_,hc⟩:=World.cells?_some (hf 0 (by omega)).1;have hlen0:=(World.cells?_some (hf 0 (by omega)).1).2.1;have hc0:=hc 0 (by omega);have hlt0:0<(f 0).1.length:=by omega
    rw [ak hlt0]at hc0;simpa [Addr.add]using World.cell?_spot hc0
   subst hspot;have hb':b<w.heap.size:=by
    have:=World.cells?_block (hf 0 (by omega)).1 (by omega);simpa [Addr.add]using this
   refine⟨b,off,rfl,hb',fun h=>h,abq _ _ fun i rr hi=>?_⟩;obtain⟨h1,rfl⟩:=hrow i rr hi;obtain⟨g1,g2,g3⟩:=hf i h1;obtain⟨_,hl2,hc⟩:=World.cells?_some g1;refine⟨ajs g2,Qw _ _ _ g3 (ao5 g2) fun j hj=>?_⟩;have:=hc j (by omega);rw [<-this,hsz.1]
   congr 1
   simp only [addr_add]
  ·rename_i fs hu;split at h<;>first|(cases h;done)|skip
   rename_i r hr;split at h<;>first|(cases h;done)|skip
   rename_i hsz;simp only [aB]at h;subst h;rw [DataW.trod_step]at hx;unfold DataW.trodStep at hx;rw [hu]at hx;simp only []at hx;split at hx<;>first|(cases hx;done)|skip
   rename_i hlen;rw [aO]at hx;obtain⟨xs,hxs,_⟩:=hx;have key:∀(fl:List Field) (off:Nat) (r:List Lf) (xs:List (DataW H×List MemPlace)),ao4 P (shapeOf P n) fl off=some r ->
     (fl.mapM fun f=>DataW.trod enc P w 0 (fun _=>true) true fuel f.type ((cs.drop f.offset).take (P.cellsOf f.type)))=some xs ->
     ∃vs,TK r vs/\qH w DM.none (fun _=>False) vs ((cs.drop off).take r.length):=by
    intro fl
    induction fl with
    |
     nil =>
     intro off r xs h _;simp only [ao4,aB]at h;subst h;exact⟨[],by simp [TK],by simp [qH]⟩
    |
     cons f fl ih =>
     intro off r xs h hm;simp only [ao4]at h;split at h<;>first|(cases h;done)|skip
     rename_i r1 rs h1 h2;split at h<;>first|(cases h;done)|skip
     rename_i hc;simp only [aB]at h;subst h;simp only [bZ,jl,iI,fD,aB]at hm;obtain⟨y,hy,ys,hys,rfl⟩:=hm;obtain⟨v1,a1,a2⟩:=ZC n h1 hy;obtain⟨v2,b1,b2⟩:=ih _ rs ys h2 hys;refine⟨v1++v2,ahN a1 b1,?_⟩;have e:(cs.drop off).take (r1++rs).length=(cs.drop off).take r1.length++(cs.drop (off+P.cellsOf f.type)).take rs.length:=by
      rw [aS,List.take_add,List.drop_drop,hc.2]
     rw [e];rw [hc.1,<-hc.2]at a2;exact FQ _ _ _ _ a2 b2
   obtain⟨vs,a1,a2⟩:=key fs.toList 0 r xs hr hxs;refine⟨vs,a1,?_⟩;rw [dA,bG (by omega)]at a2;exact a2
  cases h
theorem ao6(n:Nat){t:TypeId}{L:List Lf}{v:Value}{d:DataW H}{ps:List MemPlace}(hs:shapeOf P n t=some L)(h:DataW.Trod enc P w 0 (fun _=>true) true t v d ps) :
  ∃vs,TK L vs/\qH w DM.none (fun _=>False) vs v.cells.toList:=by
 obtain⟨fuel,hf⟩:=h;exact ZC n hs hf
end
end Go.Ml
namespace Go.Ml
open Go.ChangeShapes Go.WideShapes Go.ChangeAt Go.RowKit
def ao7(g:Bool)(vs:List V):V:=if g=true then .agg vs else vs.headD .any
def ahO:List (Bool×List Lf)->List V->Prop
 | [],vs=>vs=[]
 |s::ss,vs=>∃cs rest,vs=ao7 s.1 cs::rest/\TK s.2 cs/\ahO ss rest
def atz(P:Program)(t:TypeId)(s:Bool×List Lf):Bool :=
 match P.underlying t with
 |some (.struct _)=>s.1
 |some (.int _)|some .bool|some .string|some (.slice _)=>!s.1
 |_=>false
def ZE(P:Program):List TypeId->List (Bool×List Lf)->Prop
 | [],ss=>ss=[]
 |t::ts,ss=>∃s rest,ss=s::rest/\shapeOf P 20 t=some s.2/\atz P t s=true/\ZE P ts rest
theorem ajt{H:Type}{enc:TypeId×Value->H}{P:Program}{w:World}{r:Reach}{b:Nat}:∀{ts:List TypeId} {ss:List (Bool×List Lf)} {vs:List Value} {ds:List (DataW H)} {ps:List MemPlace},
  ZE P ts ss->(∀(j:Nat) t v,ts[j]? = some t->vs[j]? = some v->Value.okWide P w r b t v)->DataW.TrodAll enc P w 0 (fun _=>true) true ts vs ds ps ->
  ∃Vs,ahO ss Vs/\qH w DM.none (fun _=>False) Vs vs
 | [],ss,[],ds,ps,h,_,_=>by simp only [ZE]at h;subst h;exact⟨[],rfl,by simp [qH]⟩
 | [],_,_::_,ds,ps,_,_,ht=>by cases ds<;>exact ht.elim
 |_::_,_,[],ds,ps,_,_,ht=>by cases ds<;>exact ht.elim
 |t::ts,ss,v::vs,[],ps,_,_,ht=>ht.elim
 |
  t::ts,ss,v::vs,d::ds,ps,h,hw,ht=>by
  simp only [ZE]at h;obtain⟨s,rest,rfl,h1,h2,h3⟩:=h;obtain⟨p,q,k1,k2,_⟩:=ht;obtain⟨Vs,a1,a2⟩:=ajt h3 (fun j t' v' hj hv=>hw (j+1) t' v' (by simpa using hj) (by simpa using hv)) k2;obtain⟨cs,c1,c2⟩:=ao6 20 h1 k1;have hok:=hw 0 t v rfl rfl;refine⟨ao7 s.1 cs::Vs,⟨cs,Vs,rfl,c1,a1⟩,?_⟩;simp only [qH];refine⟨v,vs,rfl,?_,a2⟩;unfold atz at h2;have one:(∀cs',v≠.agg cs')->s.1=false->s.2.length=1->rd w DM.none (fun _=>False) (ao7 s.1 cs) v:=by
   intro hv hs hl;have hvc:v.cells.toList=[v]:=by cases v<;>first|rfl|(exact absurd rfl (hv _))
   rw [hvc]at c2;have:=ajs c1;rw [hl]at this
   cases cs with
   |nil=>simp at this
   |
    cons x xs =>
    simp only [qH]at c2;obtain⟨y,ys,e,e2,_⟩:=c2;simp only [iF]at e;rw [hs];simp only [ao7,bM,if_false,List.headD_cons];rw [e.1];exact e2
  unfold shapeOf at h1;split at h2
  ·rename_i fs hu;rw [h2];simp only [Value.okWide,hu]at hok;obtain⟨cs',rfl,_⟩:=hok;simp only [ao7,if_true,rd];exact⟨cs',rfl,c2⟩
  ·rename_i k hu;rw [hu]at h1;simp only [aB]at h1;obtain⟨n,rfl⟩:=okWide_int hu hok;exact one (by intro cs' e;cases e) (by simpa using h2) (by rw [<-h1];rfl)
  ·rename_i hu;rw [hu]at h1;simp only [aB]at h1;obtain⟨n,rfl⟩:=okWide_bool hu hok;exact one (by intro cs' e;cases e) (by simpa using h2) (by rw [<-h1];rfl)
  ·rename_i hu;rw [hu]at h1;simp only [aB]at h1;obtain⟨n,rfl⟩:=okWide_string hu hok;exact one (by intro cs' e;cases e) (by simpa using h2) (by rw [<-h1];rfl)
  ·rename_i e hu;rw [hu]at h1;simp only []at h1;obtain⟨a0,l0,c0,rfl⟩:=okWide_slice hu hok;refine one (by intro cs' e;cases e) (by simpa using h2) ?_;split at h1<;>first|(cases h1;done)|skip
   split at h1<;>first|(cases h1;done)|skip
   simp only [aB]at h1;rw [<-h1];rfl
  cases h2
theorem RF{H:Type}{enc:TypeId×Value->H}{P:Program}(hl:laidOutB P=true){W W':World}(hb:Below W.heap.size W W'):∀{ts:List TypeId} {vs:List Value} {ds:List (DataW H)} {ps:List MemPlace},
  (ts.all fun t=>P.readableRec t&&decide (t<P.types.size))=true->DataW.TrodAll enc P W 0 (fun _=>true) true ts vs ds ps->(∀x∈ps,x.block<W.heap.size) ->
  DataW.TrodAll enc P W' 0 (fun b=>decide (b<W.heap.size)) true ts vs ds ps
 | [],[],[],ps,_,h,_=>h
 | [],_::_,ds,ps,_,ht,_=>by cases ds<;>exact ht.elim
 | [],[],_::_,ps,_,ht,_=>ht.elim
 |_::_,[],ds,ps,_,ht,_=>by cases ds<;>exact ht.elim
 |t::ts,v::vs,[],ps,_,ht,_=>ht.elim
 |
  t::ts,v::vs,d::ds,ps,h,ht,hlt=>by
  simp only [dD,aH,aZ]at h;obtain⟨p,q,k1,k2,rfl⟩:=ht;exact⟨p,q,Below.trod hl h.1.1 h.1.2 k1 hb fun x hx=>hlt x (by simp [hx]),RF hl hb (by simpa using h.2) k2 fun x hx=>hlt x (by simp [hx]),rfl⟩
end Go.Ml
end
section
namespace Go.Ml
theorem ao8{α:Type}{row:List Lf}{f:α->List V}{W:α->Prop}(h:∀r,TK row r->∃x,r=f x/\W x){v:V}(hv:Mt (.sl row) v):∃l:List α,v=.sl row.length (l.map f)/\DR W l:=by
 simp only [Mt]at hv;obtain⟨rows,rfl,hl,hr⟩:=hv;have key:∀rows:List (List V),(∀r∈rows,TK row r)->∃l:List α,rows=l.map f/\∀x∈l,W x:=by
  intro rows
  induction rows with
  |nil=>intro _;exact⟨[],rfl,by simp⟩
  |
   cons r rows ih =>
   intro hr;obtain⟨x,rfl,hx⟩:=h r (hr r (by simp));obtain⟨l,rfl,hl⟩:=ih fun r hr'=>hr r (by simp [hr']);exact⟨x::l,rfl,by simpa using ⟨hx,hl⟩⟩
 obtain⟨l,rfl,hw⟩:=key rows hr;exact⟨l,rfl,by simpa [maxLen]using hl,hw⟩
theorem aju{l:Lf}{r:List V}(h:TK [l] r):∃v,r=[v]/\Mt l v:=by
 simp only [TK]at h;obtain⟨v,vs,rfl,h1,rfl⟩:=h;exact⟨v,rfl,h1⟩
theorem akM{v:V}(h:Mt (.sl [.int .u8]) v):∃l:List UInt8,v=.sl 1 (l.map fun b=>[.int .u8 b.toNat])/\l.length<=9223372036854775807:=by
 obtain⟨l,rfl,hl⟩:=ao8 (f:=fun b:UInt8=>[V.int .u8 b.toNat]) (W:=fun _=>True) (fun r hr=>by
  obtain⟨v,rfl,g⟩:=aju hr;simp only [Mt]at g;obtain⟨n,rfl,hn⟩:=g;simp only [Lit.wf,aH,aZ]at hn;have h1:IntKind.u8.min=0:=by decide
  have h2:IntKind.u8.max=255:=by decide
  rw [h1,h2]at hn;refine⟨UInt8.ofNat n.toNat,?_,trivial⟩;have e:(((UInt8.ofNat n.toNat).toNat:Nat):Int)=n:=by
   rw [UInt8.toNat_ofNat',Nat.mod_eq_of_lt (by omega)];omega
  rw [e]) h
 exact⟨l,rfl,hl.1⟩
def ao9{α:Type}(P:α->Prop):List α->Prop
 | []=>True
 |x::l=>P x/\ao9 P l
theorem ao9.mem{α:Type}{P:α->Prop}:∀{l:List α},ao9 P l->∀x∈l,P x
 | [],_,x,hx=>by cases hx
 |
  y::l,h,x,hx=>by
  rcases aI.1 hx with rfl|hx
  ·exact h.1
  exact ao9.mem h.2 x hx
end Go.Ml
namespace Go.Ml
theorem afy{H:Type}{enc:TypeId×Value->H}{P:Program}{w:World}{b:Nat}{sp:Nat->Bool}{hd:Bool}:∀{ts:List TypeId} {vs:List Value} {ds:List (DataW H)} {ps:List MemPlace},
  DataW.TrodAll enc P w b sp hd ts vs ds ps->ds.length=ts.length
 | [],[],[],_,_=>rfl
 | [],[],_::_,_,h=>h.elim
 | [],_::_,ds,_,h=>by cases ds<;>exact h.elim
 |_::_,[],ds,_,h=>by cases ds<;>exact h.elim
 |_::_,_::_,[],_,h=>h.elim
 |
  t::ts,v::vs,d::ds,ps,h=>by
  obtain⟨p,q,_,h2,_⟩:=h;simp [afy h2]
end Go.Ml
end
