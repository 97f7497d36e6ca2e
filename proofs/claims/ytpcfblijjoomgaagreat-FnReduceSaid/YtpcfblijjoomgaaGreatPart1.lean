/- Contracts of functions. -/
import Derived.Test.YtpcfblijjoomgaaGreatPart0
set_option linter.unusedSimpArgs false
set_option linter.unusedVariables false
set_option maxRecDepth 100000
set_option maxHeartbeats 16000000
section
namespace Go.Ml
def yY(n:Nat)(v:V)(k:Nat->Prop):Prop:=match v with
 |.int _ i=>(0<=i/\i<n)/\k i.toNat
 |_=>False
def um(n:Nat)(v:V)(k:Nat->Prop):Prop:=match v with
 |.int _ i=>(0<=i/\i<=n)/\k i.toNat
 |_=>False
theorem Dh{n:Nat}{v:V}{k:Nat->Prop}(h:yY n v k):∃j,RU n v=some j/\k j:=by
 cases v<;>simp only [yY]at h<;>first|exact h.elim|skip
 exact⟨_,by simp only [RU];rw [aQ h.1],h.2⟩
theorem Qp{n:Nat}{v:V}{k:Nat->Prop}(h:um n v k):∃j,JH n v=some j/\k j:=by
 cases v<;>simp only [um]at h<;>first|exact h.elim|skip
 exact⟨_,by simp only [JH];rw [aQ h.1],h.2⟩
def oC{α:Type}(o:Option α)(k:α->Prop):Prop:=match o with
 |some a=>k a
 |none=>False
theorem lZ{α:Type}{o:Option α}{k:α->Prop}(h:oC o k):∃a,o=some a/\k a:=by
 cases o with
 |none=>exact h.elim
 |some a=>exact⟨a,rfl,h⟩
def zA(op:BinOp)(x y:V)(k:V->Prop):Prop:=match op,x,y with
 |.add,.int q a,.int q' b=>q=q'/\k (.int q (q.wrap (a+b)))
 |.sub,.int q a,.int q' b=>q=q'/\k (.int q (q.wrap (a-b)))
 |.mul,.int q a,.int q' b=>q=q'/\k (.int q (q.wrap (a*b)))
 |.quo,.int q a,.int q' b=>(q=q'/\b≠0)/\k (.int q (q.wrap (a.tdiv b)))
 |.rem,.int q a,.int q' b=>(q=q'/\b≠0)/\k (.int q (a.tmod b))
 |.eql,.int q a,.int q' b=>q=q'/\k (.bool (a == b))
 |.neq,.int q a,.int q' b=>q=q'/\k (.bool (a != b))
 |.lss,.int q a,.int q' b=>q=q'/\k (.bool (decide (a<b)))
 |.leq,.int q a,.int q' b=>q=q'/\k (.bool (decide (a<=b)))
 |.gtr,.int q a,.int q' b=>q=q'/\k (.bool (decide (b<a)))
 |.geq,.int q a,.int q' b=>q=q'/\k (.bool (decide (b<=a)))
 |.eql,.str a,.str b=>k (.bool (a == b))
 |.neq,.str a,.str b=>k (.bool (!(a == b)))
 |.add,.str a,.str b=>a.length+b.length<2 ^ 62/\k (.str (a++b))
 |.shr,.int q a,.int _ b=>0<=b/\k (.int q (a.fdiv (2 ^ (min b.toNat q.bits))))
 |.and,.int q a,.int q' b=>q=q'/\k (.int q (JG q a b))
 |.xor,.int q a,.int q' b=>q=q'/\k (.int q (Wj q a b))
 |_,_,_=>False
theorem aix{op:BinOp}{x y:V}{k:V->Prop}(h:zA op x y k):∃v,Zn op x y=some v/\k v:=by
 unfold zA at h;split at h<;>first|exact h.elim|skip
 all_goals first
  |exact⟨_,by simp only [Zn];rw [aQ h.1],h.2⟩
  |exact⟨_,by simp only [Zn],h⟩
def I.oL(env:Nat->V)(σ:Store)(i:I)(k:Eff->Prop):Prop:=match i with
 |.qw x=>k (.val (x.ev env))
 |
  .pick c a b=>match c.ev env with
  |.bool t=>k (.val (if t then a.ev env else b.ev env))
  |_=>False
 |.alloc zero=>k (.newP ⟨zero.length,[zero]⟩)
 |
  .box x=>match (x.ev env).cells? with
  |some (c::cs)=>k (.newP ⟨(c::cs).length,[c::cs]⟩)
  |_=>False
 |.build zero parts=>oC (BI env zero parts) fun cs=>k (.val (.agg cs))
 |.nM sz zero ln parts=>oC (uQ env sz (List.replicate ln zero) parts) fun rows=>if ln=0 then k (.val .jZ)else k (.newS ⟨sz,rows⟩ ln)
 |
  .make zero bytes x=>match x.ev env with
  |.int .i64 n=>(0<=n/\n<=2 ^ 47/\n*bytes<=2 ^ 47)/\k (.newS ⟨zero.length,List.replicate n.toNat zero⟩ n.toNat)
  |_=>False
 |.load n isAgg a=>oC (rowAt σ (a.ev env)) fun p =>
   if isAgg then(p.2+n<=p.1.length/\k (.val (.agg ((p.1.drop p.2).take n))))else oC p.1[p.2]? fun v=>k (.val v)
 |
  .store n a x=>match a.ev env with
  |.ptr o r off=>oC (x.ev env).cells? fun cs=>oC (jX σ o) fun ob=>oC ob.rows[r]? fun row =>
    (cs.length=n/\off+n<=row.length)/\k (.upd o ⟨ob.sz,ob.rows.set r (splice row off cs)⟩)
  |_=>False
 |
  .fld d a=>match a.ev env with
  |.ptr o r off=>oC (jX σ o) fun _=>k (.val (.ptr o r (off+d)))
  |.pU row off=>k (.val (.pU row (off+d)))
  |_=>False
 |
  .idx sz x i=>match x.ev env with
  |.lG o s l=>oC (jX σ o) fun ob=>yY l (i.ev env) fun j=>ob.sz=sz/\k (.val (.ptr o (s+j) 0))
  |.sl sz' rows=>yY rows.length (i.ev env) fun j=>sz'=sz/\k (.val (.pU (rows.getD j []) 0))
  |_=>False
 |
  .aat cnt sz x i=>match x.ev env with
  |.ptr o r off=>yY cnt (i.ev env) fun j=>oC (jX σ o) fun _=>k (.val (.ptr o r (off+j*sz)))
  |.pU row off=>yY cnt (i.ev env) fun j=>k (.val (.pU row (off+j*sz)))
  |_=>False
 |
  .ab1 x i=>match x.ev env with
  |.str s=>yY s.length (i.ev env) fun j=>k (.val (.int .u8 (s.getD j 0).toNat))
  |_=>False
 |.len x=>oC (lenOf σ (x.ev env)) fun n=>k (.val (.int .i64 n))
 |
  .ab2 x=>match x.ev env with
  |.str s=>k (.val (.int .i64 s.length))
  |_=>False
 |.bin op x y=>zA op (x.ev env) (y.ev env) fun v=>k (.val v)
 |
  .beq ne x y=>match x.ev env,y.ev env with
  |.bool a,.bool b=>k (.val (.bool (if ne then !(a == b)else a == b)))
  |_,_=>False
 |
  .un op x=>match op,x.ev env with
  |.neg,.int q n=>k (.val (.int q (q.wrap (0-n))))
  |.not,.bool b=>k (.val (.bool (!b)))
  |_,_=>False
 |
  .conv q x=>match x.ev env with
  |.int _ n=>k (.val (.int q (q.wrap n)))
  |_=>False
 |.app sz bytes x y=>oC (rowsOf σ (x.ev env)) fun old=>oC (rowsOf σ (y.ev env)) fun new =>
   (new.2=[]->k (.val (x.ev env)))/\(new.2≠[]->(new.1=sz/\(old.2.length+new.2.length)*bytes<=2 ^ 40/\old.2.length+new.2.length<=2 ^ 40) /\
    match x.ev env with
    |.jZ=>k (.newS ⟨sz,new.2⟩ new.2.length)
    |.lG o _ _=>oC (jX σ o) fun ob=>ob.sz=sz/\k (.qw o ⟨sz,old.2++new.2⟩ (old.2.length+new.2.length))
    |_=>False)
 |
  .max x y=>match x.ev env,y.ev env with
  |.int q a,.int q' b=>q=q'/\k (.val (.int q (if b>a then b else a)))
  |_,_=>False
 |
  .YV i x=>match x.ev env with
  |.oJ vs=>oC vs[i]? fun v=>k (.val v)
  |_=>False
 |
  .chk x=>match x.ev env with
  |.ptr o r off=>oC (jX σ o) fun _=>k (.val (.ptr o r off))
  |.pU row off=>k (.val (.pU row off))
  |_=>False
 |
  .QD x lo hi=>match x.ev env with
  |.str s=>(match hi with|some h=>um s.length (h.ev env)|none=>fun k=>k s.length) fun h =>
    (match lo with|some l=>um h (l.ev env)|none=>fun k=>k 0) fun l=>k (.val (.str ((s.take h).drop l)))
  |_=>False
 |.slice sz x lo hi=>oC (lenOf σ (x.ev env)) fun n=>(match hi with|some h=>um n (h.ev env)|none=>fun k=>k n) fun h =>
   (match lo with|some l=>um h (l.ev env)|none=>fun k=>k 0) fun l=>match x.ev env with
    |.jZ=>k (.val .jZ)
    |.sl sz' rows=>sz'=sz/\k (.val (.sl sz' ((rows.take h).drop l)))
    |.lG o s _=>oC (jX σ o) fun ob=>ob.sz=sz/\k (.val (.lG o (s+l) (h-l)))
    |_=>False
 |
  .ab3 cnt x i=>match x.ev env with
  |.agg cs=>yY cnt (i.ev env) fun j=>oC cs[j]? fun v=>k (.val v)
  |_=>False
 |i=>oC (i.eff env σ) k
theorem acr{env:Nat->V}{n:Nat}{hi:Option Src}{k:Nat->Prop}(h:(match hi with|some h=>um n (h.ev env)|none=>fun k=>k n) k):∃j,hiB env n hi=some j/\k j:=by
 cases hi with
 |none=>exact⟨n,rfl,h⟩
 |some x=>exact Qp h
theorem acs{env:Nat->V}{n:Nat}{lo:Option Src}{k:Nat->Prop}(h:(match lo with|some h=>um n (h.ev env)|none=>fun k=>k 0) k):∃j,loB env n lo=some j/\k j:=by
 cases lo with
 |none=>exact⟨0,rfl,h⟩
 |some x=>exact Qp h
theorem Uu{env:Nat->V}{σ:Store}{i:I}{k:Eff->Prop}(h:i.oL env σ k):∃ef,i.eff env σ=some ef/\k ef:=by
 cases i with
 |qw x=>exact⟨_,rfl,h⟩
 |
  pick c a b =>
  simp only [I.oL]at h;split at h<;>first|exact h.elim|skip
  rename_i t e;exact⟨_,by simp only [I.eff,e],h⟩
 |alloc z=>exact⟨_,rfl,h⟩
 |
  box x =>
  simp only [I.oL]at h;split at h<;>first|exact h.elim|skip
  rename_i c cs e;exact⟨_,by simp only [I.eff,e],h⟩
 |
  build z ps =>
  obtain⟨cs,e,h⟩:=lZ h;exact⟨_,by simp only [I.eff,e],h⟩
 |
  nM sz z ln ps =>
  obtain⟨rows,e,h⟩:=lZ h;split at h
  ·rename_i h0;exact⟨_,by simp only [I.eff,e];rw [aQ h0],h⟩
  rename_i h0;exact⟨_,by simp only [I.eff,e];rw [aO h0],h⟩
 |
  make z b x =>
  simp only [I.oL]at h;split at h<;>first|exact h.elim|skip
  rename_i n e;exact⟨_,by simp only [I.eff,e];rw [aQ h.1],h.2⟩
 |
  load n g a =>
  obtain⟨p,e,h⟩:=lZ h;obtain⟨row,off⟩:=p;simp only []at h
  cases g with
  |
   true =>
   simp only [if_true]at h;exact⟨_,by simp only [I.eff,e,if_true];rw [aQ h.1],h.2⟩
  |
   false =>
   simp only [bG,if_false]at h;obtain⟨v,e2,h⟩:=lZ h;exact⟨_,by simp only [I.eff,e,bG,if_false,e2],h⟩
 |
  store n a x =>
  simp only [I.oL]at h;split at h<;>first|exact h.elim|skip
  rename_i o r off e;obtain⟨cs,e1,h⟩:=lZ h;obtain⟨ob,e2,h⟩:=lZ h;obtain⟨row,e3,h⟩:=lZ h;exact⟨_,by simp only [I.eff,e,e1,e2,e3];rw [aQ h.1],h.2⟩
 |
  fld d a =>
  simp only [I.oL]at h;split at h<;>first|exact h.elim|skip
  ·rename_i o r off e;obtain⟨ob,e2,h⟩:=lZ h;exact⟨_,by simp only [I.eff,e,e2],h⟩
  rename_i row off e;exact⟨_,by simp only [I.eff,e],h⟩
 |
  idx sz x i =>
  simp only [I.oL]at h;split at h<;>first|exact h.elim|skip
  ·rename_i o s l e;obtain⟨ob,e2,h⟩:=lZ h;obtain⟨j,e3,h⟩:=Dh h;exact⟨_,by simp only [I.eff,e,e2,e3];rw [aQ h.1],h.2⟩
  rename_i sz' rows e;obtain⟨j,e3,h⟩:=Dh h;exact⟨_,by simp only [I.eff,e,e3];rw [aQ h.1],h.2⟩
 |
  aat c sz x i =>
  simp only [I.oL]at h;split at h<;>first|exact h.elim|skip
  ·rename_i o r off e;obtain⟨j,e3,h⟩:=Dh h;obtain⟨ob,e2,h⟩:=lZ h;exact⟨_,by simp only [I.eff,e,e2,e3],h⟩
  rename_i row off e;obtain⟨j,e3,h⟩:=Dh h;exact⟨_,by simp only [I.eff,e,e3],h⟩
 |
  ab1 x i =>
  simp only [I.oL]at h;split at h<;>first|exact h.elim|skip
  rename_i s e;obtain⟨j,e3,h⟩:=Dh h;exact⟨_,by simp only [I.eff,e,e3],h⟩
 |
  len x =>
  obtain⟨n,e,h⟩:=lZ h;exact⟨_,by simp only [I.eff,e],h⟩
 |
  ab2 x =>
  simp only [I.oL]at h;split at h<;>first|exact h.elim|skip
  rename_i s e;exact⟨_,by simp only [I.eff,e],h⟩
 |
  bin op x y =>
  simp only [I.oL]at h;obtain⟨v,e,h⟩:=aix h;exact⟨_,by simp only [I.eff,e],h⟩
 |
  beq ne x y =>
  simp only [I.oL]at h;split at h<;>first|exact h.elim|skip
  rename_i p q e1 e2;exact⟨_,by simp only [I.eff,e1,e2],h⟩
 |
  un op x =>
  simp only [I.oL]at h;split at h<;>first|exact h.elim|skip
  ·rename_i q n e;exact⟨_,by simp only [I.eff,e,ajK],h⟩
  rename_i b e;exact⟨_,by simp only [I.eff,e,ajK],h⟩
 |
  conv q x =>
  simp only [I.oL]at h;split at h<;>first|exact h.elim|skip
  rename_i q' n e;exact⟨_,by simp only [I.eff,e],h⟩
 |
  app sz b x y =>
  obtain⟨old,e1,h⟩:=lZ h;obtain⟨new,e2,h⟩:=lZ h;obtain⟨so,old⟩:=old;obtain⟨sn,new⟩:=new;simp only []at h;by_cases hn:new=[]
  ·exact⟨_,by simp only [I.eff,e1,e2];rw [aQ hn],h.1 hn⟩
  obtain⟨hc,h⟩:=h.2 hn;split at h<;>first|exact h.elim|skip
  ·rename_i e;rw [e]at e1;refine⟨_,?_,h⟩;simp only [I.eff,e,e1,e2];rw [aO hn,aQ hc]
  rename_i o s l e;obtain⟨ob,e3,h⟩:=lZ h;rw [e]at e1;refine⟨_,?_,h.2⟩;simp only [I.eff,e,e1,e2,e3];rw [aO hn,aQ hc,aQ h.1]
 |
  max x y =>
  simp only [I.oL]at h;split at h<;>first|exact h.elim|skip
  rename_i q p q' r e1 e2;exact⟨_,by simp only [I.eff,e1,e2];rw [aQ h.1],h.2⟩
 |
  YV i x =>
  simp only [I.oL]at h;split at h<;>first|exact h.elim|skip
  rename_i vs e;obtain⟨v,e2,h⟩:=lZ h;exact⟨_,by simp only [I.eff,e,e2],h⟩
 |
  chk x =>
  simp only [I.oL]at h;split at h<;>first|exact h.elim|skip
  ·rename_i o r off e;obtain⟨ob,e2,h⟩:=lZ h;exact⟨_,by simp only [I.eff,e,e2],h⟩
  rename_i row off e;exact⟨_,by simp only [I.eff,e],h⟩
 |
  QD x lo hi =>
  simp only [I.oL]at h;split at h<;>first|exact h.elim|skip
  rename_i s e;obtain⟨hh,e1,h⟩:=acr h;obtain⟨l,e2,h⟩:=acs h;exact⟨_,by simp only [I.eff,e,e1,e2],h⟩
 |
  slice sz x lo hi =>
  obtain⟨n,e0,h⟩:=lZ h;obtain⟨hh,e1,h⟩:=acr h;obtain⟨l,e2,h⟩:=acs h;split at h<;>first|exact h.elim|skip
  ·rename_i e;rw [e]at e0;exact⟨_,by simp only [I.eff,e,e0,e1,e2],h⟩
  ·rename_i sz' rows e;rw [e]at e0;exact⟨_,by simp only [I.eff,e,e0,e1,e2];rw [aQ h.1],h.2⟩
  rename_i o s q e;obtain⟨ob,e3,h⟩:=lZ h;rw [e]at e0;exact⟨_,by simp only [I.eff,e,e0,e1,e2,e3];rw [aQ h.1],h.2⟩
 |
  ab3 cnt x i =>
  simp only [I.oL]at h;split at h<;>first|exact h.elim|skip
  rename_i cs e;obtain⟨j,e2,h⟩:=Dh h;obtain⟨v,e3,h⟩:=lZ h;exact⟨_,by simp only [I.eff,e,e2,e3],h⟩
 |_=>exact lZ h
def PF(T:Tb)(f:Nat)(args:List V)(r:V):Prop:=Run T (.fn f args []) (.fn r [])
def OM(v:V)(k:Bool->Prop):Prop:=match v with
 |.bool b=>k b
 |_=>False
theorem aeU{v:V}{k:Bool->Prop}(h:OM v k):∃b,v=.bool b/\k b:=by
 cases v<;>first|exact h.elim|exact⟨_,rfl,h⟩
def gdK(want:Bool)(v:V)(k:Bool->Prop):Prop:=match v with
 |.bool b=>k b
 |.oJ []=>k (!want)
 |_=>False
theorem acu{want:Bool}{v:V}{k:Bool->Prop}(h:gdK want v k):(v=.bool want/\k want)\/(ain want v/\k (!want)):=by
 unfold gdK at h;split at h
 ·rename_i b;by_cases e:b=want
  ·subst e;exact .inl ⟨rfl,h⟩
  have:b = !want:=by cases b<;>cases want<;>simp_all
  subst this;exact .inr ⟨.inr ⟨_,rfl,e⟩,h⟩
 ·exact .inr ⟨.inl rfl,h⟩
 exact h.elim
def gK(g:Option (Nat×Bool))(env:Nat->V)(on off:Prop):Prop:=match g with
 |none=>on
 |some (t,true)=>gdK true (env t) fun b=>if b=true then on else off
 |some (t,false)=>gdK false (env t) fun b=>if b=true then off else on
theorem aaD{g:Option (Nat×Bool)}{env:Nat->V}{on off:Prop}(h:gK g env on off) :
  ((∀t want,g=some (t,want)->env t=.bool want)/\on)\/(∃t want,g=some (t,want)/\ain want (env t)/\off):=by
 cases g with
 |none=>exact .inl ⟨fun _ _ h=>(by cases h),h⟩
 |
  some p =>
  obtain⟨t,want⟩:=p
  cases want with
  |
   true =>
   rcases acu h with ⟨e,h⟩|⟨e,h⟩
   ·exact .inl ⟨fun _ _ h=>(by cases h;exact e),(by simpa using h)⟩
   exact .inr ⟨t,true,rfl,e,by simpa using h⟩
  |
   false =>
   rcases acu h with ⟨e,h⟩|⟨e,h⟩
   ·exact .inl ⟨fun _ _ h=>(by cases h;exact e),(by simpa using h)⟩
   exact .inr ⟨t,false,rfl,e,by simpa using h⟩
def Ls(env:Nat->V)(σ:Store):List Src->(List V->Prop)->Prop
 | [],k=>k []
 |s::as,k=>oC (resolve σ FD (s.ev env)) fun v=>Ls env σ as fun vs=>k (v::vs)
theorem Ae{env:Nat->V}{σ:Store}:∀{as:List Src} {k:List V->Prop},Ls env σ as k->∃vs,as.mapM (fun s=>resolve σ FD (s.ev env))=some vs/\k vs
 | [],k,h=>⟨[],rfl,h⟩
 |
  s::as,k,h=>by
  obtain⟨v,e,h⟩:=lZ h;obtain⟨vs,e2,h⟩:=Ae h;exact⟨v::vs,by simp [bU,e,e2],h⟩
def nJ(env:Nat->V)(σ:Store)(as:List Src):List Nat:=as.flatMap fun s=>reach σ FD (s.ev env)
def PFK(T:Tb)(f:Nat)(as:List V)(k:V->Prop):Prop:=∃r,PF T f as r/\k r
inductive Si (T:Tb) (f:Nat) (as:List Src) (dst:Option Nat) (st:St):St->Prop
 |ref (ρ:List Nat) {r:V} {σ':Store} (hn:ρ.Nodup) (hρ:∀o,o∈ρ->(jX st.objs o).isSome=true) (h:Run T (.fn f (as.map fun s=>lD (place ρ) (s.ev st.env)) (Hl ρ st.objs)) (.fn r σ')) :
   Si T f as dst st { st with env:=oh st.env dst (lD (back ρ st.objs.length) r),objs:=uw ρ st.objs σ' }
 |own {as':List V} {r:V} {σ':Store} {R:List Nat} (ha:as.mapM (fun s=>resolve st.objs FD (s.ev st.env))=some as') (h:Run T (.fn f as' []) (.fn r σ'))
   (hR:R=if nV r&&ES σ' then []else as.flatMap fun s=>reach st.objs FD (s.ev st.env)) :
   Si T f as dst st { st with env:=oh st.env dst (lD (mD st.objs.length) r),objs:=yV (nI st.objs R) σ' }
 |idn {r:V} {σ':Store} (h:Run T (.fn f (as.map fun s=>s.ev st.env) st.objs) (.fn r σ')) (hl:st.objs.length<=σ'.length) (hb:st.objs.length<=st.base) :
   Si T f as dst st { st with env:=oh st.env dst r,objs:=σ' }
 |Wn {as':List V} {r:V} {R:List Nat} (ha:as.mapM (fun s=>resolve st.objs FD (s.ev st.env))=some as') (h:Run T (.fn f as' []) (.fn r []))
   (hR:R=if scalar SD r then []else as.flatMap fun s=>reach st.objs FD (s.ev st.env)) :
   Si T f as dst st { st with env:=oh st.env dst r,objs:=nI st.objs R }
def Qj(T:Tb)(f:Nat)(as:List Src)(dst:Option Nat)(st:St)(k:St->Prop):Prop:=∃st',Si T f as dst st st'/\k st'
def dN:Option Nat->Nat
 |some n=>n
 |none=>0
theorem MN(n:Nat):dN (some n)=n:=by have h:dN (some n)=n:=rfl;exact h
def opK(T:Tb)(rf:Nat->Nat->Bool)(o:ql)(st:St)(k:St->Prop):Prop :=
 gK o.g st.env (match o.i with
  |.call f as=>if rf f (dN o.dst)=true then Qj T f as o.dst st k else Ls st.env st.objs as fun as'=>PFK T f as' fun r =>
    k { st with env:=oh st.env o.dst r,objs:=nI st.objs (if scalar SD r then []else nJ st.env st.objs as) }
  |i=>i.oL st.env st.objs fun ef=>k (ef.go st o.dst (st.base+o.k)))
  (k { st with env:=oh st.env o.dst (.oJ []) })
theorem akk{T:Tb}{rf:Nat->Nat->Bool}{o:ql}{st:St}{k:St->Prop}(h:opK T rf o st k):∃st',Run T (.op o st) (.code .normal st')/\k st':=by
 rcases aaD h with ⟨hg,h⟩|⟨t,want,hg,he,h⟩
 ·split at h
  ·rename_i f as hi;split at h
   ·obtain⟨st',h1,h4⟩:=h;refine⟨st',?_,h4⟩
    cases h1 with
    |ref ρ h1 h2 h3=>exact .ajP ρ h1 h2 hg hi h3
    |own h1 h2 h3=>exact .ajQ hg hi h1 h2 h3
    |idn h1 h2 h3=>exact .ajR hg hi h1 h2 h3
    |Wn h1 h2 h3=>exact .ab6 hg hi h1 h2 h3
   obtain⟨vs,e,h⟩:=Ae h;obtain⟨r,h1,h⟩:=h;exact⟨_,.ab6 hg hi e h1 rfl,h⟩
  obtain⟨ef,e,h⟩:=Uu h;exact⟨_,.op hg e,h⟩
 exact⟨_,.off hg he,h⟩
def aeV(T:Tb)(rf:Nat->Nat->Bool):List ql->St->(St->Prop)->Prop
 | [],st,k=>k st
 |o::l,st,k=>opK T rf o st fun st=>aeV T rf l st k
theorem Zy{T:Tb}{rf:Nat->Nat->Bool}:∀{l:List ql} {st:St} {k:St->Prop},aeV T rf l st k->∃st',Run T (.ops l st) (.code .normal st')/\k st'
 | [],st,k,h=>⟨st,.nil st,h⟩
 |
  o::l,st,k,h=>by
  obtain⟨st1,h1,h⟩:=akk h;obtain⟨st2,h2,h⟩:=Zy h;exact⟨st2,.cons h1 h2,h⟩
def uni(a b:List Nat):List Nat:=b.foldl (fun s x=>if s.contains x then s else x::s) a
def awt:List ql->List (List Nat)->List (List Nat)
 | [],acc=>acc
 |o::l,acc=>awt l (acc++[o.aft.foldl (fun s e=>uni s (acc.getD e [])) o.aft])
def okB(B:Nat->List Nat)(l:List ql):Nat->Bool
 |
  i=>match l with
  | []=>true
  |o::l=>(B i).all (fun j=>o.aft.contains j||o.aft.any fun e=>(B e).contains j)&&o.aft.all (fun e=>decide (e<i))&&okB B l (i+1)
theorem Xo{B:Nat->List Nat}:∀{l:List ql} {n:Nat},okB B l n=true->∀i o,l[i]? = some o->(∀j,j∈B (n+i)->j∈o.aft\/∃e∈o.aft,j∈B e)/\∀e∈o.aft,e<n+i
 | [],n,_,i,o,h=>by simp at h
 |
  x::l,n,hk,i,o,h=>by
  unfold okB at hk;simp only [aH,aX]at hk;obtain⟨⟨h1,h2⟩,h3⟩:=hk
  cases i with
  |
   zero =>
   simp only [jL,aB]at h;subst h;refine⟨fun j hj=>?_,fun e he=>by simpa using h2 e he⟩;have:=h1 j hj;simpa using this
  |
   succ i =>
   simp only [List.getElem?_cons_succ]at h;have:=Xo h3 i o h;rw [show n+(i+1)=n+1+i by omega];exact this
def Y4(l:List ql):Nat->List Nat:=let b:=awt l [];fun i=>b.getD i []
structure Acc where
 i:Nat
 R:List Nat
 W:List Nat
 n:Bool:=false
def AQ(L:Nat)(a b:Acc):Bool:=!a.n||(!b.n&&b.R.all (fun o=>decide (o<L))&&b.W.all fun p=>decide (p<L))
def wz(L:Nat)(d e:ql)(a b:Acc):Bool :=
 !NT d.dst e.looks && !NT e.dst d.looks && !(d.dst.isSome&&d.dst == e.dst) &&
  a.W.all (fun p=>!b.R.contains p&&b.W.all fun q=>q != p)&&b.W.all (fun q=>!a.R.contains q)&&AQ L a b&&AQ L b a
def OO(l:List ql)(i:Nat):ql:=l.getD i ⟨none,none,0,.alloc [],[]⟩
def okA(L:Nat)(B:Nat->List Nat)(ops:List ql):List Acc->Bool
 | []=>true
 |a::l=>l.all (fun b=>(B b.i).contains a.i||wz L (OO ops a.i) (OO ops b.i) a b)&&okA L B ops l
def rO(L:Nat)(ops:List ql)(l:List Acc):Prop:=okA L (Y4 ops) ops l.reverse=true
def Y5(T:Tb)(f:Nat)(as:List Src)(dst:Option Nat)(st:St)(k:List Nat->List Nat->Bool->St->Prop):Prop :=
 (∃as' r σ',as.mapM (fun s=>resolve st.objs FD (s.ev st.env))=some as'/\Run T (.fn f as' []) (.fn r σ')/\(nV r&&ES σ')=true /\
  k (nJ st.env st.objs as) [] true { st with env:=oh st.env dst (lD (mD st.objs.length) r),objs:=yV st.objs σ' }) \/
 (∃as' r,as.mapM (fun s=>resolve st.objs FD (s.ev st.env))=some as'/\Run T (.fn f as' []) (.fn r [])/\scalar SD r=false /\
  k (nJ st.env st.objs as) (nJ st.env st.objs as) false { st with env:=oh st.env dst r,objs:=nI st.objs (nJ st.env st.objs as) }) \/
 (∃r σ',Run T (.fn f (as.map fun s=>s.ev st.env) st.objs) (.fn r σ')/\st.objs.length<=σ'.length/\st.objs.length<=st.base /\
  k (List.range st.objs.length) (List.range st.objs.length) true { st with env:=oh st.env dst r,objs:=σ' }) \/
 ∃
  ρ r v,ρ.Nodup/\(∀o,o∈ρ->∃ob,jX st.objs o=some ob/\∀g,qK g ob=ob)/\Run T (.fn f (as.map fun s=>lD (place ρ) (s.ev st.env)) (Hl ρ st.objs)) (.fn r (Hl ρ st.objs))/\(∀n,lD (back ρ n) r=v) /\
  k ρ [] false { st with env:=oh st.env dst v }
def Sj(l:List Nat)(k:List Nat->Prop):Prop:=k l
def Eff.wr(id:Nat):Eff->List Nat
 |.val _=>[]
 |.newP _=>[id]
 |.newS _ _=>[id]
 |.upd o _=>[o]
 |.qw o _ _=>[o,id]
def QK(T:Tb)(rf:Nat->Nat->Bool)(L:Nat)(ops:List ql):List ql->Nat->List Acc->St->(St->Prop)->Prop
 | [],_,acc,st,k=>rO L ops acc/\k st
 |
  o::l,i,acc,st,k=>gK o.g st.env (match o.i with
  |.call f as=>if rf f (dN o.dst)=true then Y5 T f as o.dst st fun R W n st=>QK T rf L ops l (i+1) (⟨i,R,W,n⟩::acc) st k
    else Ls st.env st.objs as fun as'=>PFK T f as' fun r=>Sj (nJ st.env st.objs as) fun R =>
    (R=[]\/scalar SD r=true)/\QK T rf L ops l (i+1) (⟨i,R,[],false⟩::acc) { st with env:=oh st.env o.dst r } k
  |x
    => Sj (x.reads st.env) fun R=>x.oL st.env st.objs fun ef=>Sj (ef.wr (st.base+o.k)) fun W =>
    QK T rf L ops l (i+1) (⟨i,R,W,false⟩::acc) (ef.go st o.dst (st.base+o.k)) k)
  (QK T rf L ops l (i+1) (⟨i,[],[],false⟩::acc) { st with env:=oh st.env o.dst (.oJ []) } k)
def Zz(ops:List ql)(p:Nat×Dat)(a:Acc):Prop:=a.i=p.1/\OO ops a.i=p.2.x/\a.R=p.2.R/\a.W=p.2.W.map (·.1)/\a.n=p.2.N.isSome
theorem ZA{L:Nat}{ops:List ql}{p q:Nat×Dat}{a b:Acc}(h:Zz ops p a)(k:Zz ops q b):AQ L a b=below L p.2 q.2:=by
 obtain⟨h1,h2,h3,h4,h5⟩:=h;obtain⟨k1,k2,k3,k4,k5⟩:=k;unfold AQ below;rw [h5,k5,k3,k4,jE];simp only [Option.not_isSome];rfl
theorem aiy{L:Nat}{ops:List ql}{p q:Nat×Dat}{a b:Acc}(h:Zz ops p a)(k:Zz ops q b):wz L (OO ops a.i) (OO ops b.i) a b=apart L p.2 q.2:=by
 have e1:=ZA (L:=L) h k;have e2:=ZA (L:=L) k h;obtain⟨h1,h2,h3,h4,h5⟩:=h;obtain⟨k1,k2,k3,k4,k5⟩:=k;unfold wz apart;rw [e1,e2,h2,k2,h3,k3,h4,k4];simp only [jE];rfl
inductive yZ (ops:List ql):List (Nat×Dat)->List Acc->Prop
 |nil:yZ ops [] []
 |cons {p a l m} (h:Zz ops p a) (t:yZ ops l m):yZ ops (p::l) (a::m)
theorem yZ.all{ops:List ql}{f:Nat×Dat->Bool}{g:Acc->Bool}:∀{l m},yZ ops l m->(∀p a,Zz ops p a->f p=g a)->l.all f=m.all g
 |_,_,.nil,_=>rfl
 |_,_,.cons h t,hfg=>by simp only [dF];rw [hfg _ _ h,t.all hfg]
theorem aeW{L:Nat}{B:Nat->List Nat}{ops:List ql}:∀{l m},yZ ops l m->okA L B ops m=true->okD L B l=true
 |_,_,.nil,_=>rfl
 |
  _,_,.cons (p:=p) (a:=a) h t,hk=>by
  simp only [okA,aH]at hk;obtain⟨i,d⟩:=p;simp only [okD,aH];refine⟨?_,aeW t hk.2⟩;rw [t.all fun q b hq=>?_]
  ·exact hk.1
  rw [aiy h hq,hq.1,h.1]
theorem yZ.append{ops:List ql}:∀{l m l' m'},yZ ops l m->yZ ops l' m'->yZ ops (l++l') (m++m')
 |_,_,_,_,.nil,h=>h
 |_,_,_,_,.cons h t,k=>.cons h (t.append k)
theorem awu(ef:Eff)(id:Nat):ef.wr id=(ef.writes id).map (·.1):=by cases ef<;>rfl
theorem QL{T:Tb}{d:Dat}:∀(l:List Dat) (st:St),Chain T l st->Fp T d (EK l st)->Chain T (l++[d]) st
 | [],_,_,h=>⟨h,trivial⟩
 |_::l,_,h,k=>⟨h.1,QL l _ h.2 k⟩
theorem QM{d:Dat}:∀(l:List Dat) (st:St),EK (l++[d]) st=d.go (EK l st)
 | [],_=>rfl
 |_::l,_=>QM l _
theorem ZB{T:Tb}{rf:Nat->Nat->Bool}{L:Nat}{ops:List ql}{st0:St}:∀{l:List ql} {i:Nat} {acc:List Acc} {st:St} {k:St->Prop} (ds:List (Nat×Dat)),QK T rf L ops l i acc st k ->
  i<=ops.length->ops.drop i=l->ds.length=i->ds.map (·.1)=List.range i->yZ ops ds acc.reverse->Chain T (ds.map (·.2)) st0->EK (ds.map (·.2)) st0=st ->
  ∃ds',ds'.map (·.1)=List.range ops.length/\(∃acc',yZ ops ds' acc'/\okA L (Y4 ops) ops acc'=true)/\Chain T (ds'.map (·.2)) st0/\k (EK (ds'.map (·.2)) st0)
 |
  [],i,acc,st,k,ds,h,hil,hd,hi,hr,hf,hc,hg=>by
  have hl:ops.length=i:=by
   have:=congrArg List.length hd;simp at this;omega
  exact⟨ds,by rw [hr,hl],⟨_,hf,h.1⟩,hc,by rw [hg];exact h.2⟩
 |
  o::l,i,acc,st,k,ds,h,_,hd,hi,hr,hf,hc,hg=>by
  have hio:ops[i]? = some o:=by
   have:=congrArg (·[0]?) hd;simpa using this
  have hd':ops.drop (i+1)=l:=by
   rw [<-List.drop_drop,hd];rfl
  have hgo:OO ops i=o:=by simp [OO,aj,hio]
  have step:∀(d:Dat),d.x=o->∀(a:Acc),a.i=i->a.R=d.R->a.W=d.W.map (·.1)->a.n=d.N.isSome->Fp T d st->QK T rf L ops l (i+1) (a::acc) (d.go st) k->_:=fun d hdx a ha hR hW hN hfp hk =>
   ZB (ds++[(i,d)]) hk (aP.1 hio).1 hd' (by simp [hi]) (by simp [hr,iY]) (by
    rw [List.reverse_cons];exact hf.append (.cons ⟨ha,by rw [ha,hgo,hdx],hR,hW,hN⟩ .nil)) (by
    rw [bT];exact QL _ _ hc (by rw [hg];exact hfp)) (by rw [bT,bV,iM,QM,hg])
  rcases aaD h with ⟨hgd,h⟩|⟨t,want,hgd,he,h⟩
  ·split at h
   ·rename_i f as hi2;split at h
    ·rcases h with ⟨vs,r,σ',e,h1,h2,h⟩|⟨vs,r,e,h1,h2,h⟩|⟨r,σ',h1,h2,h3,h⟩|⟨ρ,r,v,h1,h2,h3,h4,h⟩
     rotate_right
     ·refine step ⟨o,ρ,v,[],none⟩ rfl ⟨i,ρ,[],false⟩ rfl rfl rfl rfl (aki hgd hi2 h1 h2 h3 h4) ?_;have e2:(⟨o,ρ,v,[],none⟩:Dat).go st={ st with env:=oh st.env o.dst v }:=by
       simp only [Dat.go,wV,jg,fE,aW]
      rw [e2];exact h
     rotate_right
     ·refine step ⟨o,_,r,(List.range st.objs.length).map fun o=>(o,jX σ' o),some (σ'.drop st.objs.length)⟩ rfl ⟨i,_,List.range st.objs.length,true⟩ rfl rfl (by rw [fG];exact(List.map_id _).symm) rfl (akj hgd hi2 h1 h2 h3) ?_;have e2:(⟨o,List.range st.objs.length,r,(List.range st.objs.length).map fun o=>(o,jX σ' o),some (σ'.drop st.objs.length)⟩:Dat).go st={ st with env:=oh st.env o.dst r,objs:=σ' }:=by
       simp only [Dat.go,jA]
       congr 1
       exact acp h2
      rw [e2];exact h
     rotate_left
     ·refine step ⟨o,_,r,(as.flatMap fun s=>reach st.objs FD (s.ev st.env)).map fun o=>(o,none),none⟩ rfl ⟨i,_,as.flatMap fun s=>reach st.objs FD (s.ev st.env),false⟩ rfl rfl (by rw [fG];exact(List.map_id _).symm) rfl (akg hgd hi2 e h1 h2) ?_;have e2:(⟨o,as.flatMap fun s=>reach st.objs FD (s.ev st.env),r,(as.flatMap fun s=>reach st.objs FD (s.ev st.env)).map fun o=>(o,none),none⟩:Dat).go st =
        { st with env:=oh st.env o.dst r,objs:=nI st.objs (as.flatMap fun s=>reach st.objs FD (s.ev st.env)) }:=by
       simp only [Dat.go,Ut,fE,aW]
      rw [e2];exact h
     refine step ⟨o,_,_,[],some _⟩ rfl ⟨i,_,[],true⟩ rfl rfl rfl rfl (akh hgd hi2 e h1 h2) ?_;have e2:(⟨o,as.flatMap fun s=>reach st.objs FD (s.ev st.env),lD (mD st.objs.length) r,[],some (σ'.map (Option.map (qK (mD st.objs.length))))⟩:Dat).go st =
       { st with env:=oh st.env o.dst (lD (mD st.objs.length) r),objs:=yV st.objs σ' }:=by
      simp only [Dat.go,wV,jg,yV,jA]
     rw [e2];exact h
    obtain⟨vs,e,h⟩:=Ae h;obtain⟨r,h1,h⟩:=h;obtain⟨hR,h⟩:=h;refine step ⟨o,_,r,[],none⟩ rfl ⟨i,_,[],false⟩ rfl rfl rfl rfl (aco hgd hi2 e h1 hR.symm) ?_;have e2:(⟨o,as.flatMap fun s=>reach st.objs FD (s.ev st.env),r,[],none⟩:Dat).go st={ st with env:=oh st.env o.dst r }:=by
     simp only [Dat.go,wV,jg,fE,aW]
    rw [e2];exact h
   unfold Sj at h;obtain⟨ef,e,h⟩:=Uu h;refine step ⟨o,o.i.reads st.env,ef.dv (st.base+o.k),ef.writes (st.base+o.k),none⟩ rfl ⟨i,_,_,false⟩ rfl rfl (awu _ _) rfl (aj7 hgd e) ?_;have e2:(⟨o,o.i.reads st.env,ef.dv (st.base+o.k),ef.writes (st.base+o.k),none⟩:Dat).go st=ef.go st o.dst (st.base+o.k):=by
    simp only [Dat.go,Eff.go,aci,fE,aW]
   rw [e2];exact h
  refine step ⟨o,[],.oJ [],[],none⟩ rfl ⟨i,[],[],false⟩ rfl rfl rfl rfl (aj8 hgd he) ?_;have e2:(⟨o,[],.oJ [],[],none⟩:Dat).go st={ st with env:=oh st.env o.dst (.oJ []) }:=by
   simp only [Dat.go,wV,jg,fE,aW]
  rw [e2];exact h
theorem akl{T:Tb}{rf:Nat->Nat->Bool}{ops:List ql}{st:St}{k:St->Prop}(hb:okB (Y4 ops) ops 0=true)(h:QK T rf st.objs.length ops ops 0 [] st k):∃st',Run T (.any ops [] st) (.code .normal st')/\k st':=by
 obtain⟨ds,h1,⟨acc,h2,h3⟩,h4,h5⟩:=ZB (ops:=ops) (st0:=st) [] h (fV _) rfl rfl rfl .nil trivial rfl;have hB:=Xo hb;simp only [aV]at hB;have hfit:∀{l m},yZ ops l m->∀p∈l,OO ops p.1=p.2.x:=by
  intro l m hf
  induction hf with
  |nil=>intro p hp;cases hp
  |
   cons h t ih =>
   intro p hp;rcases aI.1 hp with rfl|hp
   ·rw [<-h.1];exact h.2.1
   exact ih p hp
 have hlt:∀p∈ds,p.1<ops.length:=by
  intro p hp;have:p.1∈ds.map (·.1):=iZ hp;rw [h1]at this;exact eG.1 this
 refine⟨_,run_any (B:=Y4 ops) (fun i o j ho hj=>(hB i o ho).1 j hj) ds.length ds [] st (aK _) rfl (aeW h2 h3) (fun e he=>by cases he) h4 ?_ ?_ ?_,h5⟩
 ·rw [h1];exact List.pairwise_lt_range
 ·intro p hp;have hp2:ops[p.1]? = some p.2.x:=by
   have:=hfit h2 p hp;unfold OO at this;rw [aj]at this;rw [au (hlt p hp)]at this ⊢;exact congrArg some this
  exact⟨hp2,by simp,(hB p.1 p.2.x hp2).2⟩
 intro i hi _;have:i∈ds.map (·.1):=by rw [h1];exact eG.2 hi
 obtain⟨p,hp,e⟩:=bC.1 this;exact⟨p.2,by rw [<-e];exact hp⟩
def an6(ef:Eff)(k:V->Prop):Prop:=match ef with
 |.val v=>k v
 |_=>False
theorem aiz{ef:Eff}{k:V->Prop}(h:an6 ef k):∃v,ef=.val v/\k v:=by
 cases ef<;>first|exact h.elim|exact⟨_,rfl,h⟩
def Lu(T:Tb):List ql->St->(St->Prop)->Prop
 | [],st,k=>k st
 |
  o::l,st,k=>gK o.g st.env (match o.i with
  |.call f as=>Ls st.env st.objs as fun as'=>PFK T f as' fun r=>Sj (nJ st.env st.objs as) fun R =>
    (R=[]\/scalar SD r=true)/\Lu T l { st with env:=oh st.env o.dst r } k
  |x=>x.oL st.env st.objs fun ef=>an6 ef fun v=>Lu T l { st with env:=oh st.env o.dst v } k)
  (Lu T l { st with env:=oh st.env o.dst (.oJ []) } k)
def Kq(rf:Nat->Nat->Bool)(l:List ql):Bool:=l.all fun o=>match o.i with
 |.call f _=>!rf f (dN o.dst)
 |_=>true
theorem Xp{T:Tb}{ops:List ql}{st0:St}:∀{l:List ql} {i:Nat} {acc:List Acc} {st:St} {k:St->Prop} (ds:List (Nat×Dat)),Lu T l st k ->
  i<=ops.length->ops.drop i=l->ds.length=i->ds.map (·.1)=List.range i->yZ ops ds acc.reverse->(∀a∈acc,a.W=[]/\a.n=false)->Chain T (ds.map (·.2)) st0->EK (ds.map (·.2)) st0=st ->
  ∃ds',ds'.map (·.1)=List.range ops.length/\(∃acc',yZ ops ds' acc'/\∀a∈acc',a.W=[]/\a.n=false)/\Chain T (ds'.map (·.2)) st0/\k (EK (ds'.map (·.2)) st0)
 |
  [],i,acc,st,k,ds,h,hil,hd,hi,hr,hf,hw,hc,hg=>by
  have hl:ops.length=i:=by
   have:=congrArg List.length hd;simp at this;omega
  exact⟨ds,by rw [hr,hl],⟨_,hf,by simpa using hw⟩,hc,by rw [hg];exact h⟩
 |
  o::l,i,acc,st,k,ds,h,_,hd,hi,hr,hf,hw,hc,hg=>by
  have hio:ops[i]? = some o:=by
   have:=congrArg (·[0]?) hd;simpa using this
  have hd':ops.drop (i+1)=l:=by
   rw [<-List.drop_drop,hd];rfl
  have hgo:OO ops i=o:=by simp [OO,aj,hio]
  have step:∀(R:List Nat) (v:V),Fp T ⟨o,R,v,[],none⟩ st->Lu T l { st with env:=oh st.env o.dst v } k->_:=fun R v hfp hk =>
   Xp (acc:=⟨i,R,[],false⟩::acc) (ds++[(i,⟨o,R,v,[],none⟩)]) hk (aP.1 hio).1 hd' (by simp [hi]) (by simp [hr,iY]) (by
    rw [List.reverse_cons];exact hf.append (.cons ⟨rfl,hgo,rfl,rfl,rfl⟩ .nil)) (by
    intro a ha;rcases aI.1 ha with rfl|ha
    ·exact⟨rfl,rfl⟩
    ·exact hw a ha) (by
    rw [bT];exact QL _ _ hc (by rw [hg];exact hfp)) (by rw [bT,bV,iM,QM,hg,go_val])
  rcases aaD h with ⟨hgd,h⟩|⟨t,want,hgd,he,h⟩
  ·split at h
   ·rename_i f as hi2;obtain⟨vs,e,h⟩:=Ae h;obtain⟨r,h1,h⟩:=h;obtain⟨hR,h⟩:=h;exact step _ r (aco hgd hi2 e h1 hR.symm) h
   obtain⟨ef,e,h⟩:=Uu h;obtain⟨v,rfl,h⟩:=aiz h;exact step _ v (aj7 hgd e) h
  exact step [] (.oJ []) (aj8 hgd he) h
def awv(ops:List ql):Bool:=okA 0 (Y4 ops) ops ((List.range ops.length).map fun i=>⟨i,[],[],false⟩)
theorem ZC{L:Nat}{B:Nat->List Nat}{ops:List ql}:∀{l:List Acc},(∀a∈l,a.W=[]/\a.n=false)->okA 0 B ops (l.map fun a=>⟨a.i,[],[],false⟩)=okA L B ops l
 | [],_=>rfl
 |
  a::l,h=>by
  simp only [bV,okA];rw [ZC fun b hb=>h b (by simp [hb])]
  congr 1
  rw [jE];have hall:∀(m:List Acc),(∀b∈m,b.W=[]/\b.n=false)->(m.all ((fun b:Acc=>(B b.i).contains a.i||wz 0 (OO ops a.i) (OO ops b.i) ⟨a.i,[],[],false⟩ b) ∘ fun b=>⟨b.i,[],[],false⟩)) =
    m.all fun b=>(B b.i).contains a.i||wz L (OO ops a.i) (OO ops b.i) a b:=by
   intro m
   induction m with
   |nil=>intro _;rfl
   |
    cons b m ih =>
    intro hm;simp only [dF];rw [ih fun c hc=>hm c (by simp [hc])]
    congr 1
    simp only [Function.comp,wz,AQ,(h a (by simp)).1,(hm b (by simp)).1,(h a (by simp)).2,(hm b (by simp)).2,dS,ku,fM]
  exact hall l fun b hb=>h b (by simp [hb])
theorem aiA{T:Tb}{ops:List ql}{st:St}{k:St->Prop}(L:Nat)(h0:awv ops=true)(h:Lu T ops st k) :
  ∃ds:List (Nat×Dat),ds.map (·.1)=List.range ops.length/\(∃acc',yZ ops ds acc'/\okA L (Y4 ops) ops acc'=true)/\Chain T (ds.map (·.2)) st/\k (EK (ds.map (·.2)) st):=by
 obtain⟨ds,h1,⟨acc,h2,h3⟩,h4,h5⟩:=Xp (ops:=ops) (acc:=[]) (st0:=st) [] h (fV _) rfl rfl rfl .nil (by simp) trivial rfl;refine⟨ds,h1,⟨acc,h2,?_⟩,h4,h5⟩;rw [<-ZC h3];have:(acc.map fun a=>(⟨a.i,[],[],false⟩:Acc))=(List.range ops.length).map fun i=>⟨i,[],[],false⟩:=by
  rw [<-h1,fG];clear h1 h3 h4 h5 h h0
  induction h2 with
  |nil=>rfl
  |cons h t ih=>simp only [bV,Function.comp,h.1,ih]
 rw [this];exact h0
theorem ar2{T:Tb}{ops:List ql}{st:St}(hb:okB (Y4 ops) ops 0=true){ds:List (Nat×Dat)}(h1:ds.map (·.1)=List.range ops.length)
  {acc:List Acc} (h2:yZ ops ds acc) (h3:okA st.objs.length (Y4 ops) ops acc=true) (h4:Chain T (ds.map (·.2)) st):Run T (.any ops [] st) (.code .normal (EK (ds.map (·.2)) st)):=by
 have hB:=Xo hb;simp only [aV]at hB;have hfit:∀{l m},yZ ops l m->∀p∈l,OO ops p.1=p.2.x:=by
  intro l m hf
  induction hf with
  |nil=>intro p hp;cases hp
  |
   cons h t ih =>
   intro p hp;rcases aI.1 hp with rfl|hp
   ·rw [<-h.1];exact h.2.1
   exact ih p hp
 have hlt:∀p∈ds,p.1<ops.length:=by
  intro p hp;have:p.1∈ds.map (·.1):=iZ hp;rw [h1]at this;exact eG.1 this
 refine run_any (B:=Y4 ops) (fun i o j ho hj=>(hB i o ho).1 j hj) ds.length ds [] st (aK _) rfl (aeW h2 h3) (fun e he=>by cases he) h4 ?_ ?_ ?_
 ·rw [h1];exact List.pairwise_lt_range
 ·intro p hp;have hp2:ops[p.1]? = some p.2.x:=by
   have:=hfit h2 p hp;unfold OO at this;rw [aj]at this;rw [au (hlt p hp)]at this ⊢;exact congrArg some this
  exact⟨hp2,by simp,(hB p.1 p.2.x hp2).2⟩
 intro i hi _;have:i∈ds.map (·.1):=by rw [h1];exact eG.2 hi
 obtain⟨p,hp,e⟩:=bC.1 this;exact⟨p.2,by rw [<-e];exact hp⟩
def JD(l:List ql):Bool:=l.all fun o=>match o.i with
 |.store .. | .alloc _ | .box _ | .nM .. | .make .. | .app ..=>false
 |_=>true
def C.okC:C->Bool
 |.reg d m l=>okK m l&&(!d||(okB (Y4 l) l 0&&(!JD l||awv l)))
 |.seq a b=>a.okC&&b.okC
 |.cond _ a b=>a.okC&&b.okC
 |.block _ c=>c.okC
 |.loop c=>c.okC
 |_=>true
def acv(σ:Store)(m:Nat):Store:=σ++List.replicate m none
def St.in(st:St)(m:Nat):St:={ st with objs:=acv st.objs m,base:=st.objs.length,rds:=[],muts:=[] }
def aaF(e:Ex)(k q:Prop):Prop:=match e with
 |.normal=>k
 |_=>q
def Vw(T:Tb)(c:C)(Q:Ex->St->Prop)(st:St):Prop:=∃e st',Run T (.code (.loop c) st) (.code e st')/\Q e st'
def wp(T:Tb)(rf:Nat->Nat->Bool):C->(Ex->St->Prop)->St->Prop
 |.skip,Q,st=>Q .normal st
 |.reg d m l,Q,st=>if d then(if JD l&&Kq rf l then Lu T l (st.in m) (Q .normal)else QK T rf (st.in m).objs.length l l 0 [] (st.in m) (Q .normal))else aeV T rf l (st.in m) (Q .normal)
 |.seq a b,Q,st=>wp T rf a (fun e st=>aaF e (wp T rf b Q st) (Q e st)) st
 |.cond x a b,Q,st=>OM (x.ev st.env) fun t=>if t=true then wp T rf a Q st else wp T rf b Q st
 |.block id c,Q,st=>wp T rf c (fun e st=>Q (ab4 id e) st) st
 |.loop c,Q,st=>Vw T c Q st
 |.exit id,Q,st=>Q (.exit id) st
 |.ret,Q,st=>Q .ret st
 |.lib _,_,_=>False
theorem AZ{T:Tb}{rf:Nat->Nat->Bool}:∀{c:C} {Q:Ex->St->Prop} {st:St},c.okC=true->wp T rf c Q st->∃e st',Run T (.code c st) (.code e st')/\Q e st'
 |.skip,Q,st,_,h=>⟨_,_,.skip st,h⟩
 |
  .reg d m l,Q,st,hk,h=>by
  simp only [C.okC,aH,dQ,iI]at hk;obtain⟨hk,hk2⟩:=hk;unfold wp at h
  cases d with
  |
   false =>
   obtain⟨st',h1,h2⟩:=Zy (by simpa using h);exact⟨_,_,.reg hk h1,h2⟩
  |
   true =>
   simp only [Bool.true_eq_false,false_or]at hk2;simp only [if_true]at h;split at h
   ·rename_i hw;simp only [aH]at hw;rcases hk2.2 with h'|h'
    ·rw [h']at hw;cases hw.1
    obtain⟨ds,h1,⟨acc,h2,h3⟩,h4,h5⟩:=aiA (st.in m).objs.length h' h;exact⟨_,_,.arU hk (ar2 hk2.1 h1 h2 h3 h4),h5⟩
   obtain⟨st',h1,h2⟩:=akl hk2.1 h;exact⟨_,_,.arU hk h1,h2⟩
 |
  .seq a b,Q,st,hk,h=>by
  simp only [C.okC,aH]at hk;obtain⟨e,st1,h1,h2⟩:=AZ hk.1 (Q:=fun e st=>aaF e (wp T rf b Q st) (Q e st)) h
  cases e with
  |
   normal =>
   obtain⟨e,st2,h3,h4⟩:=AZ hk.2 (Q:=Q) h2;exact⟨e,st2,.awc h1 h3,h4⟩
  |exit id=>exact⟨_,_,.arV (by simp) h1,h2⟩
  |ret=>exact⟨_,_,.arV (by simp) h1,h2⟩
 |
  .cond x a b,Q,st,hk,h=>by
  simp only [C.okC,aH]at hk;obtain⟨t,e,h⟩:=aeU h
  cases t with
  |
   true =>
   obtain⟨e2,st2,h1,h2⟩:=AZ hk.1 (Q:=Q) (by simpa using h);exact⟨e2,st2,.cond e h1,h2⟩
  |
   false =>
   obtain⟨e2,st2,h1,h2⟩:=AZ hk.2 (Q:=Q) (by simpa using h);exact⟨e2,st2,.cond e h1,h2⟩
 |
  .block id c,Q,st,hk,h=>by
  obtain⟨e,st1,h1,h2⟩:=AZ (c:=c) (Q:=fun e st=>Q (ab4 id e) st) hk h;exact⟨_,_,.block h1,h2⟩
 |.loop c,Q,st,_,h=>h
 |.exit id,Q,st,_,h=>⟨_,_,.exit id st,h⟩
 |.ret,Q,st,_,h=>⟨_,_,.ret st,h⟩
 |.lib _,_,_,_,h=>by simp [wp]at h
def wr{α:Sort _}(a:α):α:=a
theorem nr{α:Sort _}{a b:α}(h:a=b):a=b:=h
theorem qQ{α:Sort _}(a:α):wr a=a:=nr rfl
def Uw(σ:Store)(k:Store->Prop):Prop:=k σ
theorem ar4(k:Store->Prop):Uw [] k=k []:=nr rfl
theorem ar5(a:Option Obj)(σ:Store)(k:Store->Prop):Uw (a::σ) k=k (a::σ):=nr rfl
@[congr] theorem aAS {v v':Store} {k:Store->Prop} (h:wr v=v'):Uw v k=Uw v' k:=by rw [<-h,qQ]
def QN(n:Nat)(k:Nat->Prop):Prop:=k n
theorem an7(n:Nat)(k:Nat->Prop):QN n k=k n:=nr rfl
@[congr] theorem aAT {v v':Nat} {k:Nat->Prop} (h:wr v=v'):QN v k=QN v' k:=by rw [<-h,qQ]
def brK(t:Bool)(a b:Prop):Prop:=if t=true then a else b
@[congr] theorem aB4 {t t':Bool} {a b:Prop} (h:wr t=t'):brK t a b=brK t' a b:=by rw [<-h,qQ]
theorem aq0(a b:Prop):brK true a b=a:=by simp [brK]
theorem aq1(a b:Prop):brK false a b=b:=by simp [brK]
theorem an8(t:Bool)(a b:Prop):brK (!t) a b=brK t b a:=by cases t<;>simp [brK]
theorem kY{c:Prop} [Decidable c] {a b:Prop} (h1:c->a) (h2:¬c->b):brK (decide c) a b:=by
 unfold brK;by_cases h:c
 ·rw [aQ (aT h)];exact h1 h
 rw [aO (by simpa using h)];exact h2 h
def EM(v:V)(k:V->Prop):Prop:=k v
theorem ar6(v:V)(k:V->Prop):EM v k=k v:=nr rfl
@[congr] theorem aB5 {v v':V} {k:V->Prop} (h:wr v=v'):EM v k=EM v' k:=by rw [<-h,qQ]
@[congr] theorem aAU {α:Type} {v v':Option α} {k:α->Prop} (h:wr v=v'):oC v k=oC v' k:=by rw [<-h,qQ]
@[congr] theorem aww {v v':V} {k:Bool->Prop} (h:wr v=v'):OM v k=OM v' k:=by rw [<-h,qQ]
@[congr] theorem aB6 {w:Bool} {v v':V} {k:Bool->Prop} (h:wr v=v'):gdK w v k=gdK w v' k:=by rw [<-h,qQ]
@[congr] theorem aAV {v v':List Nat} {k:List Nat->Prop} (h:wr v=v'):Sj v k=Sj v' k:=by rw [<-h,qQ]
@[congr] theorem avM {n n':Nat} {v v':V} {k:Nat->Prop} (h0:wr n=n') (h:wr v=v'):yY n v k=yY n' v' k:=by rw [<-h0,<-h,qQ,qQ]
@[congr] theorem aq2 {n n':Nat} {v v':V} {k:Nat->Prop} (h0:wr n=n') (h:wr v=v'):um n v k=um n' v' k:=by rw [<-h0,<-h,qQ,qQ]
@[congr] theorem aAW {op:BinOp} {x x' y y':V} {k:V->Prop} (h0:wr x=x') (h:wr y=y'):zA op x y k=zA op x' y' k:=by rw [<-h0,<-h,qQ,qQ]
@[congr] theorem aB7 {T:Tb} {f:Nat} {as as':List V} {k:V->Prop} (h:wr as=as'):PFK T f as k=PFK T f as' k:=by rw [<-h,qQ]
@[congr] theorem aAX {T:Tb} {f f':Nat} {as:List Src} {d:Option Nat} {st:St} {k:St->Prop} (h:wr f=f'):Qj T f as d st k=Qj T f' as d st k:=by rw [<-h,qQ]
@[congr] theorem awx {T T':Tb} {c:C} {Q:Ex->St->Prop} {st:St} (h:wr T=T'):Vw T c Q st=Vw T' c Q st:=by rw [<-h,qQ]
@[congr] theorem aB8 {L:Nat} {ops:List ql} {l l':List Acc} (h:wr l=l'):rO L ops l=rO L ops l':=by rw [<-h,qQ]
@[congr] theorem aAY {T:Tb} {f f':Nat} {as:List Src} {d:Option Nat} {st:St} {k:List Nat->List Nat->Bool->St->Prop} (h:wr f=f'):Y5 T f as d st k=Y5 T f' as d st k:=by rw [<-h,qQ]
theorem aiB{α:Type}(a:α)(k:α->Prop):oC (some a) k=k a:=nr rfl
theorem awy(want b:Bool)(k:Bool->Prop):gdK want (.bool b) k=k b:=nr rfl
theorem awz(want:Bool)(k:Bool->Prop):gdK want (.oJ []) k=k (!want):=nr rfl
theorem an9(b:Bool)(k:Bool->Prop):OM (.bool b) k=k b:=nr rfl
theorem akm(k:List Nat->Prop):Sj [] k=k []:=nr rfl
theorem aiC(a:Nat)(l:List Nat)(k:List Nat->Prop):Sj (a::l) k=k (a::l):=nr rfl
theorem aiD{n:Nat}{q:IntKind}{i:Int}{k:Nat->Prop}(h:0<=i/\i<n):yY n (.int q i) k=k i.toNat:=by
 simp [yY,h]
theorem acw{n:Nat}{q:IntKind}{i:Int}{k:Nat->Prop}(h:0<=i/\i<=n):um n (.int q i) k=k i.toNat:=by
 simp [um,h]
theorem w64{n:Int}(h : -9223372036854775808<=n/\n<=9223372036854775807):IntKind.i64.wrap n=n:=IntWalk.i64_in n h
theorem aB9{n:Int}(h:0<=n/\n<=4294967295):IntKind.u32.wrap n=n:=IntWalk.u32_in n h
theorem aCa{n:Int}(h:0<=n/\n<=18446744073709551615):IntKind.u64.wrap n=n:=IntWalk.u64_in n h
theorem w8u{n:Int}(h:0<=n/\n<=255):IntKind.u8.wrap n=n:=IntWalk.u8_in n h
theorem aCb(n:Nat)(env:Nat->V):Src.ev env (.t n)=env n:=nr rfl
theorem aCc(v:V)(env:Nat->V):Src.ev env (.c v)=v:=nr rfl
theorem aiE(env:Nat->V)(v:V):oh env none v=env:=nr rfl
theorem aoa(env:Nat->V)(t:Nat)(v:V)(s:Nat):oh env (some t) v s=if s=t then v else env s:=nr rfl
theorem ar7(env:Nat->V)(t:Nat)(v:V)(s:Nat):upd env t v s=if s=t then v else env s:=nr rfl
theorem ar8(a:V)(l:List V):mM (a::l) 0=a:=nr rfl
theorem ar9(a:V)(l:List V)(n:Nat):mM (a::l) (n+1)=mM l n:=nr rfl
theorem asa(n:Nat):mM [] n=.any:=nr rfl
theorem aob(a:Option Obj)(l:Store):jX (a::l) 0=a:=nr rfl
theorem aoc(a:Option Obj)(l:Store)(n:Nat):jX (a::l) (n+1)=jX l n:=nr rfl
theorem aod(n:Nat):jX [] n=none:=nr rfl
theorem awC(a:Option Obj)(l:Store)(x:Option Obj):List.set (a::l) 0 x=x::l:=nr rfl
theorem awD(a:Option Obj)(l:Store)(n:Nat)(x:Option Obj):List.set (a::l) (n+1) x=a::List.set l n x:=nr rfl
theorem asb(σ:Store):acv σ 0=σ:=by simp [acv]
theorem ase(σ:Store)(n:Nat):acv σ (n+1)=acv (σ++[none]) n:=by simp [acv,List.replicate_succ]
theorem ako(args:List V)(σ:Store):St.enter args σ=⟨mM args,σ,σ.length,0,[],[]⟩:=nr rfl
theorem akp(σ:Store):nI σ []=σ:=nr rfl
theorem aiF(σ:Store)(o:Nat)(l:List Nat):nI σ (o::l)=nI (σ.set o none) l:=nr rfl
section
variable (T : Tb) (rf : Nat -> Nat -> Bool) (Q : Ex -> St -> Prop) (st : St) (k : St -> Prop) (env : Nat -> V) (σ : Store) (kp bs : Nat) (rs ms : List Nat)
def goK(st:St)(d:Option Nat)(id:Nat)(ef:Eff)(k:St->Prop):Prop:=k (ef.go st d id)
@[congr] theorem aCd {st:St} {d:Option Nat} {id id':Nat} {ef:Eff} {k:St->Prop} (h:wr id=id'):goK st d id ef k=goK st d id' ef k:=by rw [<-h,qQ]
theorem awE(t id:Nat)(v:V):goK ⟨env,σ,kp,bs,rs,ms⟩ (some t) id (.val v) k=k ⟨upd env t v,σ,kp,bs,rs,ms⟩:=nr rfl
theorem asf(id:Nat)(v:V):goK ⟨env,σ,kp,bs,rs,ms⟩ none id (.val v) k=k ⟨env,σ,kp,bs,rs,ms⟩:=nr rfl
theorem awF(t id:Nat)(ob:Obj):goK ⟨env,σ,kp,bs,rs,ms⟩ (some t) id (.newP ob) k=Uw (σ.set id (some ob)) fun σ=>k ⟨upd env t (.ptr id 0 0),σ,kp,bs,rs,ms⟩:=nr rfl
theorem awG(t id:Nat)(ob:Obj)(n:Nat):goK ⟨env,σ,kp,bs,rs,ms⟩ (some t) id (.newS ob n) k=Uw (σ.set id (some ob)) fun σ=>k ⟨upd env t (.lG id 0 n),σ,kp,bs,rs,ms⟩:=nr rfl
theorem awH(id o:Nat)(ob:Obj):goK ⟨env,σ,kp,bs,rs,ms⟩ none id (.upd o ob) k=Uw (σ.set o (some ob)) fun σ=>k ⟨env,σ,kp,bs,rs,ms⟩:=nr rfl
theorem awI(t id o:Nat)(ob:Obj)(n:Nat):goK ⟨env,σ,kp,bs,rs,ms⟩ (some t) id (.qw o ob n) k=Uw ((σ.set o none).set id (some ob)) fun σ=>k ⟨upd env t (.lG id 0 n),σ,kp,bs,rs,ms⟩:=nr rfl
theorem wp_skip:wp T rf .skip Q st=Q .normal st:=nr rfl
theorem aoe(m:Nat)(l:List ql):wp T rf (.reg false m l) Q ⟨env,σ,kp,bs,rs,ms⟩=QN σ.length fun b=>Uw (acv σ m) fun σ=>aeV T rf l ⟨env,σ,kp,b,[],[]⟩ (Q .normal):=nr rfl
theorem aof(m:Nat)(l:List ql):wp T rf (.reg true m l) Q ⟨env,σ,kp,bs,rs,ms⟩=QN σ.length fun b=>Uw (acv σ m) fun σ=>if (JD l&&Kq rf l)=true then Lu T l ⟨env,σ,kp,b,[],[]⟩ (Q .normal)else QN σ.length fun L=>QK T rf L l l 0 [] ⟨env,σ,kp,b,[],[]⟩ (Q .normal):=nr rfl
theorem wp_seq(a b:C):wp T rf (.seq a b) Q st=wp T rf a (fun e st=>aaF e (wp T rf b Q st) (Q e st)) st:=nr rfl
theorem wp_cond(x:Src)(a b:C):wp T rf (.cond x a b) Q st=OM (x.ev st.env) fun t=>if t=true then wp T rf a Q st else wp T rf b Q st:=nr rfl
theorem akq(x:Src)(a b:C):wp T rf (.cond x a b) Q ⟨env,σ,kp,bs,rs,ms⟩=OM (x.ev env) fun t=>brK t (wp T rf a Q ⟨env,σ,kp,bs,rs,ms⟩) (wp T rf b Q ⟨env,σ,kp,bs,rs,ms⟩):=nr rfl
theorem wp_block(id:Nat)(c:C):wp T rf (.block id c) Q st=wp T rf c (fun e st=>Q (ab4 id e) st) st:=nr rfl
theorem wp_loop(c:C):wp T rf (.loop c) Q st=Vw T c Q st:=nr rfl
theorem wp_exit(id:Nat):wp T rf (.exit id) Q st=Q (.exit id) st:=nr rfl
theorem wp_ret:wp T rf .ret Q st=Q .ret st:=nr rfl
theorem asg(a b:Prop):aaF .normal a b=a:=nr rfl
theorem ash(id:Nat)(a b:Prop):aaF (.exit id) a b=b:=nr rfl
theorem asi(a b:Prop):aaF .ret a b=b:=nr rfl
theorem asj(id:Nat):ab4 id .normal=.normal:=nr rfl
theorem asl(id:Nat):ab4 id .ret=.ret:=nr rfl
theorem asn(id j:Nat):ab4 id (.exit j)=if j=id then .normal else .exit j:=nr rfl
theorem aso:aeV T rf [] st k=k st:=nr rfl
theorem asq(o:ql)(l:List ql):aeV T rf (o::l) st k=opK T rf o st fun st=>aeV T rf l st k:=nr rfl
theorem asr(g:Option (Nat×Bool))(d:Option Nat)(n:Nat)(i:I)(a:List Nat):opK T rf ⟨g,d,n,i,a⟩ ⟨env,σ,kp,bs,rs,ms⟩ k=gK g env (match i with
  |.call f as=>if rf f (dN d)=true then Qj T f as d ⟨env,σ,kp,bs,rs,ms⟩ k else Ls env σ as fun as'=>PFK T f as' fun r =>
    Uw (nI σ (if scalar SD r then []else nJ env σ as)) fun σ=>k ⟨oh env d r,σ,kp,bs,rs,ms⟩
  |i=>QN (bs+n) fun id=>i.oL env σ fun ef=>goK ⟨env,σ,kp,bs,rs,ms⟩ d id ef k)
  (k ⟨oh env d (.oJ []),σ,kp,bs,rs,ms⟩):=by cases i<;>rfl
theorem aog:Lu T [] st k=k st:=nr rfl
theorem aoh(g:Option (Nat×Bool))(d:Option Nat)(n:Nat)(i:I)(a:List Nat)(l:List ql):Lu T (⟨g,d,n,i,a⟩::l) ⟨env,σ,kp,bs,rs,ms⟩ k=gK g env (match i with
  |.call f as=>Ls env σ as fun as'=>PFK T f as' fun r=>Sj (nJ env σ as) fun R =>
    (R=[]\/scalar SD r=true)/\Lu T l ⟨oh env d r,σ,kp,bs,rs,ms⟩ k
  |x=>x.oL env σ fun ef=>an6 ef fun v=>Lu T l ⟨oh env d v,σ,kp,bs,rs,ms⟩ k)
  (Lu T l ⟨oh env d (.oJ []),σ,kp,bs,rs,ms⟩ k):=by cases i<;>rfl
theorem asu(L:Nat)(ops:List ql)(i:Nat)(acc:List Acc):QK T rf L ops [] i acc st k=(rO L ops acc/\k st):=nr rfl
theorem asv(L:Nat)(ops:List ql)(g:Option (Nat×Bool))(d:Option Nat)(n:Nat)(x:I)(a:List Nat)(l:List ql)(i:Nat)(acc:List Acc):QK T rf L ops (⟨g,d,n,x,a⟩::l) i acc ⟨env,σ,kp,bs,rs,ms⟩ k=gK g env (match x with
  |.call f as=>if rf f (dN d)=true then Y5 T f as d ⟨env,σ,kp,bs,rs,ms⟩ fun R W n st=>QN (i+1) fun j=>QK T rf L ops l j (⟨i,R,W,n⟩::acc) st k
    else Ls env σ as fun as'=>PFK T f as' fun r=>Sj (nJ env σ as) fun R =>
    (R=[]\/scalar SD r=true)/\QN (i+1) fun j=>QK T rf L ops l j (⟨i,R,[],false⟩::acc) ⟨oh env d r,σ,kp,bs,rs,ms⟩ k
  |x
    => Sj (x.reads env) fun R=>QN (bs+n) fun id=>x.oL env σ fun ef=>Sj (ef.wr id) fun W=>QN (i+1) fun j =>
    goK ⟨env,σ,kp,bs,rs,ms⟩ d id ef fun st=>QK T rf L ops l j (⟨i,R,W,false⟩::acc) st k)
  (QN (i+1) fun j=>QK T rf L ops l j (⟨i,[],[],false⟩::acc) ⟨oh env d (.oJ []),σ,kp,bs,rs,ms⟩ k):=by cases x<;>rfl
end
theorem aCe(env:Nat->V)(a b:Prop):gK none env a b=a:=nr rfl
theorem aCf(t:Nat)(env:Nat->V)(on off:Prop):gK (some (t,true)) env on off=gdK true (env t) fun b=>brK b on off:=nr rfl
theorem aCg(t:Nat)(env:Nat->V)(on off:Prop):gK (some (t,false)) env on off=gdK false (env t) fun b=>brK b off on:=nr rfl
theorem asw(v:V)(k:V->Prop):an6 (.val v) k=k v:=nr rfl
theorem aCh(v:V)(id:Nat):Eff.wr id (.val v)=[]:=nr rfl
theorem aCi(ob:Obj)(id:Nat):Eff.wr id (.newP ob)=[id]:=nr rfl
theorem aCj(ob:Obj)(n:Nat)(id:Nat):Eff.wr id (.newS ob n)=[id]:=nr rfl
theorem aCk(ob:Obj)(o:Nat)(id:Nat):Eff.wr id (.upd o ob)=[o]:=nr rfl
theorem aCl(ob:Obj)(o n:Nat)(id:Nat):Eff.wr id (.qw o ob n)=[o,id]:=nr rfl
def sU(v:V)(k:List V->Prop):Prop:=oC v.cells? k
@[congr] theorem avN {v v':V} {k:List V->Prop} (h:wr v=v'):sU v k=sU v' k:=by rw [<-h,qQ]
theorem aeY(q:IntKind)(n:Int)(k:List V->Prop):sU (.int q n) k=k [.int q n]:=nr rfl
theorem acy(b:Bool)(k:List V->Prop):sU (.bool b) k=k [.bool b]:=nr rfl
theorem aeZ(s:List UInt8)(k:List V->Prop):sU (.str s) k=k [.str s]:=nr rfl
theorem acz(k:List V->Prop):sU .jZ k=k [.jZ]:=nr rfl
theorem ae0(k:List V->Prop):sU .one k=k [.one]:=nr rfl
theorem aiG(sz:Nat)(r:List (List V))(k:List V->Prop):sU (.sl sz r) k=k [.sl sz r]:=nr rfl
theorem ae1(o s l:Nat)(k:List V->Prop):sU (.lG o s l) k=k [.lG o s l]:=nr rfl
theorem ae2(o s l:Nat)(k:List V->Prop):sU (.ptr o s l) k=k [.ptr o s l]:=nr rfl
theorem acA(r:List V)(o:Nat)(k:List V->Prop):sU (.pU r o) k=k [.pU r o]:=nr rfl
theorem ae3(cs:List V)(k:List V->Prop):sU (.agg cs) k=if cs.all V.leaf=true then k cs else False:=by
 simp only [sU,V.cells?];split<;>rfl
def acB(σ:Store)(v:V)(k:Nat->Nat->Nat->Prop)(kf:List V->Nat->Prop):Prop:=match v with
 |.ptr o r off=>k o r off
 |.pU row off=>kf row off
 |_=>False
@[congr] theorem aAZ {σ:Store} {v v':V} {k:Nat->Nat->Nat->Prop} {kf:List V->Nat->Prop} (h:wr v=v'):acB σ v k kf=acB σ v' k kf:=by rw [<-h,qQ]
theorem asx(σ:Store)(o r off:Nat)(k:Nat->Nat->Nat->Prop)(kf:List V->Nat->Prop):acB σ (.ptr o r off) k kf=k o r off:=nr rfl
theorem asy(σ:Store)(r:List V)(off:Nat)(k:Nat->Nat->Nat->Prop)(kf:List V->Nat->Prop):acB σ (.pU r off) k kf=kf r off:=nr rfl
def slK(v:V)(kn:Prop)(kf:Nat->List (List V)->Prop)(km:Nat->Nat->Nat->Prop):Prop:=match v with
 |.jZ=>kn
 |.sl sz rows=>kf sz rows
 |.lG o s l=>km o s l
 |_=>False
@[congr] theorem aCm {v v':V} {kn:Prop} {kf:Nat->List (List V)->Prop} {km:Nat->Nat->Nat->Prop} (h:wr v=v'):slK v kn kf km=slK v' kn kf km:=by rw [<-h,qQ]
theorem awJ(kn:Prop)(kf:Nat->List (List V)->Prop)(km:Nat->Nat->Nat->Prop):slK .jZ kn kf km=kn:=nr rfl
theorem awK(sz:Nat)(r:List (List V))(kn:Prop)(kf:Nat->List (List V)->Prop)(km:Nat->Nat->Nat->Prop):slK (.sl sz r) kn kf km=kf sz r:=nr rfl
theorem awL(o s l:Nat)(kn:Prop)(kf:Nat->List (List V)->Prop)(km:Nat->Nat->Nat->Prop):slK (.lG o s l) kn kf km=km o s l:=nr rfl
def acC(v:V)(k:IntKind->Int->Prop):Prop:=match v with
 |.int q n=>k q n
 |_=>False
@[congr] theorem aA0 {v v':V} {k:IntKind->Int->Prop} (h:wr v=v'):acC v k=acC v' k:=by rw [<-h,qQ]
theorem asz(q:IntKind)(n:Int)(k:IntKind->Int->Prop):acC (.int q n) k=k q n:=nr rfl
def aiH(v:V)(k:List UInt8->Prop):Prop:=match v with
 |.str s=>k s
 |_=>False
@[congr] theorem aA1 {v v':V} {k:List UInt8->Prop} (h:wr v=v'):aiH v k=aiH v' k:=by rw [<-h,qQ]
theorem asA(s:List UInt8)(k:List UInt8->Prop):aiH (.str s) k=k s:=nr rfl
def aoi(v:V)(k:List V->Prop):Prop:=match v with
 |.oJ s=>k s
 |_=>False
@[congr] theorem aA2 {v v':V} {k:List V->Prop} (h:wr v=v'):aoi v k=aoi v' k:=by rw [<-h,qQ]
def aoj(v:V)(k:List V->Prop):Prop:=match v with
 |.agg s=>k s
 |_=>False
@[congr] theorem aA3 {v v':V} {k:List V->Prop} (h:wr v=v'):aoj v k=aoj v' k:=by rw [<-h,qQ]
theorem asB(s:List V)(k:List V->Prop):aoj (.agg s) k=k s:=nr rfl
theorem asC(s:List V)(k:List V->Prop):aoi (.oJ s) k=k s:=nr rfl
section
variable (env : Nat -> V) (σ : Store) (k : Eff -> Prop)
theorem awM(x:Src):I.oL env σ (.qw x) k=EM (x.ev env) fun v=>k (.val v):=nr rfl
theorem asD(c a b:Src):I.oL env σ (.pick c a b) k=OM (c.ev env) fun t=>brK t (EM (a.ev env) fun v=>k (.val v)) (EM (b.ev env) fun v=>k (.val v)):=by
 simp only [I.oL];cases c.ev env with|bool t=>cases t<;>rfl|_=>rfl
theorem aok(z:List V):I.oL env σ (.alloc z) k=k (.newP ⟨z.length,[z]⟩):=nr rfl
theorem awN(x:Src):I.oL env σ (.box x) k=sU (x.ev env) fun cs=>match cs with|c::cs=>k (.newP ⟨(c::cs).length,[c::cs]⟩) | []=>False:=by
 simp only [I.oL,sU];cases (x.ev env).cells? with|none=>rfl|some cs=>cases cs<;>rfl
theorem aol(z:List V)(ps:List (Nat×Nat×Src)):I.oL env σ (.build z ps) k=oC (BI env z ps) fun cs=>k (.val (.agg cs)):=nr rfl
theorem asE(sz:Nat)(z:List V)(ln:Nat)(ps:List (Nat×Src)):I.oL env σ (.nM sz z ln ps) k =
  oC (uQ env sz (List.replicate ln z) ps) fun rows=>if ln=0 then k (.val .jZ)else k (.newS ⟨sz,rows⟩ ln):=nr rfl
theorem asF(z:List V)(b:Nat)(x:Src):I.oL env σ (.make z b x) k=acC (x.ev env) fun q n=>match q with
  |.i64=>(0<=n/\n<=2 ^ 47/\n*b<=2 ^ 47)/\k (.newS ⟨z.length,List.replicate n.toNat z⟩ n.toNat)|_=>False:=by
 simp only [I.oL];cases x.ev env with|int q n=>cases q<;>rfl|_=>rfl
theorem aom(n:Nat)(a:Src):I.oL env σ (.load n false a) k=oC (rowAt σ (a.ev env)) fun p=>oC p.1[p.2]? fun v=>EM v fun v=>k (.val v):=nr rfl
theorem aon(n:Nat)(a:Src):I.oL env σ (.load n true a) k=oC (rowAt σ (a.ev env)) fun p=>p.2+n<=p.1.length/\EM (.agg ((p.1.drop p.2).take n)) fun v=>k (.val v):=nr rfl
theorem
    aoo (n:Nat) (a x:Src):I.oL env σ (.store n a x) k=acB σ (a.ev env) (fun o r off=>sU (x.ev env) fun cs=>oC (jX σ o) fun ob=>oC ob.rows[r]? fun row =>
    (cs.length=n/\off+n<=row.length)/\k (.upd o ⟨ob.sz,ob.rows.set r (splice row off cs)⟩)) fun _ _=>False:=by
 simp only [I.oL];cases a.ev env<;>rfl
theorem awO(d:Nat)(a:Src):I.oL env σ (.fld d a) k=acB σ (a.ev env) (fun o r off=>oC (jX σ o) fun _=>EM (.ptr o r (off+d)) fun v=>k (.val v)) fun row off=>EM (.pU row (off+d)) fun v=>k (.val v):=by
 simp only [I.oL];cases a.ev env<;>rfl
theorem awP(sz:Nat)(x i:Src):I.oL env σ (.idx sz x i) k=slK (x.ev env) False (fun sz' rows=>yY rows.length (i.ev env) fun j=>sz'=sz/\EM (.pU (rows.getD j []) 0) fun v=>k (.val v))
  (fun o s l=>oC (jX σ o) fun ob=>yY l (i.ev env) fun j=>ob.sz=sz/\EM (.ptr o (s+j) 0) fun v=>k (.val v)):=by
 simp only [I.oL];cases x.ev env<;>rfl
theorem asG(c sz:Nat)(x i:Src):I.oL env σ (.aat c sz x i) k=acB σ (x.ev env) (fun o r off=>yY c (i.ev env) fun j=>oC (jX σ o) fun _=>EM (.ptr o r (off+j*sz)) fun v=>k (.val v))
  fun row off=>yY c (i.ev env) fun j=>EM (.pU row (off+j*sz)) fun v=>k (.val v):=by
 simp only [I.oL];cases x.ev env<;>rfl
theorem asH(x i:Src):I.oL env σ (.ab1 x i) k=aiH (x.ev env) fun s=>yY s.length (i.ev env) fun j=>EM (.int .u8 (s.getD j 0).toNat) fun v=>k (.val v):=by
 simp only [I.oL];cases x.ev env<;>rfl
theorem asI(c:Nat)(x i:Src):I.oL env σ (.ab3 c x i) k=aoj (x.ev env) fun cs=>yY c (i.ev env) fun j=>oC cs[j]? fun v=>EM v fun v=>k (.val v):=by
 simp only [I.oL];cases x.ev env<;>rfl
theorem awQ(x:Src):I.oL env σ (.len x) k=oC (lenOf σ (x.ev env)) fun n=>EM (.int .i64 n) fun v=>k (.val v):=nr rfl
theorem asJ(x:Src):I.oL env σ (.ab2 x) k=aiH (x.ev env) fun s=>EM (.int .i64 s.length) fun v=>k (.val v):=by
 simp only [I.oL];cases x.ev env<;>rfl
theorem awR(op:BinOp)(x y:Src):I.oL env σ (.bin op x y) k=zA op (x.ev env) (y.ev env) fun v=>EM v fun v=>k (.val v):=nr rfl
theorem awS(ne:Bool)(x y:Src):I.oL env σ (.beq ne x y) k=OM (x.ev env) fun a=>OM (y.ev env) fun b=>EM (.bool (if ne=true then !(a == b)else a == b)) fun v=>k (.val v):=by
 simp only [I.oL];cases x.ev env<;>first|rfl|(cases y.ev env<;>rfl)
theorem awT(x:Src):I.oL env σ (.un .not x) k=OM (x.ev env) fun a=>EM (.bool (!a)) fun v=>k (.val v):=by
 simp only [I.oL];cases x.ev env<;>rfl
theorem awU(x:Src):I.oL env σ (.un .neg x) k=acC (x.ev env) fun q n=>EM (.int q (q.wrap (0-n))) fun v=>k (.val v):=by
 simp only [I.oL];cases x.ev env<;>rfl
theorem asK(q:IntKind)(x:Src):I.oL env σ (.conv q x) k=acC (x.ev env) fun _ n=>EM (.int q (q.wrap n)) fun v=>k (.val v):=by
 simp only [I.oL];cases x.ev env<;>rfl
theorem awV(x y:Src):I.oL env σ (.max x y) k=acC (x.ev env) fun q a=>acC (y.ev env) fun q' b=>q=q'/\EM (.int q (if b>a then b else a)) fun v=>k (.val v):=by
 simp only [I.oL];cases x.ev env<;>first|rfl|(cases y.ev env<;>rfl)
theorem asL(i:Nat)(x:Src):I.oL env σ (.YV i x) k=aoi (x.ev env) fun vs=>oC vs[i]? fun v=>EM v fun v=>k (.val v):=by
 simp only [I.oL];cases x.ev env<;>rfl
theorem awW(x:Src):I.oL env σ (.chk x) k=acB σ (x.ev env) (fun o r off=>oC (jX σ o) fun _=>k (.val (.ptr o r off))) fun row off=>k (.val (.pU row off)):=by
 simp only [I.oL];cases x.ev env<;>rfl
theorem awX(sz b:Nat)(x y:Src):I.oL env σ (.app sz b x y) k=EM (x.ev env) fun xv=>oC (rowsOf σ xv) fun old=>oC (rowsOf σ (y.ev env)) fun new =>
  (new.2=[]->k (.val xv))/\(new.2≠[]->(new.1=sz/\(old.2.length+new.2.length)*b<=2 ^ 40/\old.2.length+new.2.length<=2 ^ 40) /\
   slK xv (k (.newS ⟨sz,new.2⟩ new.2.length)) (fun _ _=>False) fun o _ _=>oC (jX σ o) fun ob=>ob.sz=sz/\k (.qw o ⟨sz,old.2++new.2⟩ (old.2.length+new.2.length))):=by
 simp only [I.oL,EM];cases x.ev env<;>rfl
end
section
variable (k : V -> Prop) (q : IntKind) (a b : Int)
theorem awY:zA .add (.int q a) (.int q b) k=k (.int q (q.wrap (a+b))):=by simp [zA]
theorem awZ:zA .sub (.int q a) (.int q b) k=k (.int q (q.wrap (a-b))):=by simp [zA]
theorem aw0:zA .mul (.int q a) (.int q b) k=k (.int q (q.wrap (a*b))):=by simp [zA]
theorem aw1{b:Int}(h:b≠0):zA .quo (.int q a) (.int q b) k=k (.int q (q.wrap (a.tdiv b))):=by simp [zA,h]
theorem aw2{b:Int}(h:b≠0):zA .rem (.int q a) (.int q b) k=k (.int q (a.tmod b)):=by simp [zA,h]
theorem aw3:zA .eql (.int q a) (.int q b) k=k (.bool (decide (a=b))):=by simp [zA];rfl
theorem aw4:zA .neq (.int q a) (.int q b) k=k (.bool (!decide (a=b))):=by simp [zA,bne];rfl
theorem aw5:zA .lss (.int q a) (.int q b) k=k (.bool (decide (a<b))):=by simp [zA]
theorem aw6:zA .leq (.int q a) (.int q b) k=k (.bool (decide (a<=b))):=by simp [zA]
theorem aw7:zA .gtr (.int q a) (.int q b) k=k (.bool (decide (b<a))):=by simp [zA]
theorem aw8:zA .geq (.int q a) (.int q b) k=k (.bool (decide (b<=a))):=by simp [zA]
theorem aw9(q':IntKind)(h:0<=b):zA .shr (.int q a) (.int q' b) k=k (.int q (a.fdiv (2 ^ (min b.toNat q.bits)))):=by simp [zA,h]
theorem axa:zA .and (.int q a) (.int q b) k=k (.int q (JG q a b)):=by simp [zA]
theorem axb:zA .xor (.int q a) (.int q b) k=k (.int q (Wj q a b)):=by simp [zA]
theorem asM(s t:List UInt8):zA .eql (.str s) (.str t) k=k (.bool (s == t)):=nr rfl
theorem asN(s t:List UInt8):zA .neq (.str s) (.str t) k=k (.bool (!(s == t))):=nr rfl
end
theorem aop(σ:Store)(row:List V)(off:Nat):rowAt σ (.pU row off)=some (row,off):=nr rfl
theorem aoq(σ:Store)(o r off:Nat):rowAt σ (.ptr o r off)=match jX σ o with|some ob=>(ob.rows[r]?).map (·,off)|none=>none:=nr rfl
theorem aor(σ:Store):lenOf σ .jZ=some 0:=nr rfl
theorem aos(σ:Store)(sz:Nat)(rows:List (List V)):lenOf σ (.sl sz rows)=some rows.length:=nr rfl
theorem aot(σ:Store)(o s l:Nat):lenOf σ (.lG o s l)=(jX σ o).map fun _=>l:=nr rfl
theorem akr(σ:Store):rowsOf σ .jZ=some (0,[]):=nr rfl
theorem aks(σ:Store)(sz:Nat)(rows:List (List V)):rowsOf σ (.sl sz rows)=some (sz,rows):=nr rfl
theorem akt(σ:Store)(o s l:Nat):rowsOf σ (.lG o s l)=match jX σ o with
  |some ob=>if s+l<=ob.rows.length then some (ob.sz,(ob.rows.drop s).take l)else none
  |none=>none:=nr rfl
theorem asO(env:Nat->V)(σ:Store)(k:List V->Prop):Ls env σ [] k=k []:=nr rfl
theorem asP(env:Nat->V)(σ:Store)(s:Src)(as:List Src)(k:List V->Prop):Ls env σ (s::as) k=EM (s.ev env) fun v=>oC (resolve σ FD v) fun v=>Ls env σ as fun vs=>k (v::vs):=nr rfl
def aaG(σ:Store):List V->Option (List V)
 | []=>some []
 |
  c::cs=>match resolve σ 11 c with
  |
   some d=>match aaG σ cs with
   |some ds=>some (d::ds)
   |none=>none
  |none=>none
theorem aaH(σ:Store):∀cs,cs.mapM (resolve σ 11)=aaG σ cs
 | []=>rfl
 |
  c::cs=>by
  simp only [bU,aaG,aaH σ cs]
  cases resolve σ 11 c with
  |none=>rfl
  |some d=>cases aaG σ cs<;>rfl
theorem axc(σ:Store)(q:IntKind)(n:Int):resolve σ FD (.int q n)=some (.int q n):=nr rfl
theorem asQ(σ:Store)(b:Bool):resolve σ FD (.bool b)=some (.bool b):=nr rfl
theorem axd(σ:Store)(s:List UInt8):resolve σ FD (.str s)=some (.str s):=nr rfl
theorem asR(σ:Store):resolve σ FD .jZ=some .jZ:=nr rfl
theorem axe(σ:Store):resolve σ FD .one=some .one:=nr rfl
theorem aCn(σ:Store)(sz:Nat)(r:List (List V)):resolve σ FD (.sl sz r)=some (.sl sz r):=nr rfl
theorem asT(σ:Store)(r:List V)(o:Nat):resolve σ FD (.pU r o)=some (.pU r o):=nr rfl
theorem axf(σ:Store)(cs:List V):resolve σ FD (.agg cs)=(aaG σ cs).map .agg:=by rw [<-aaH];rfl
theorem axg(σ:Store)(cs:List V):resolve σ FD (.oJ cs)=(aaG σ cs).map .oJ:=by rw [<-aaH];rfl
theorem asU(σ:Store):aaG σ []=some []:=nr rfl
theorem asV(σ:Store)(c:V)(cs:List V):aaG σ (c::cs)=match resolve σ 11 c with
  |
   some d=>match aaG σ cs with
   |some ds=>some (d::ds)
   |none=>none
  |none=>none:=nr rfl
theorem asW(σ:Store)(q:IntKind)(n:Int):resolve σ 11 (.int q n)=some (.int q n):=nr rfl
theorem aou(σ:Store)(b:Bool):resolve σ 11 (.bool b)=some (.bool b):=nr rfl
theorem asX(σ:Store)(s:List UInt8):resolve σ 11 (.str s)=some (.str s):=nr rfl
theorem aov(σ:Store):resolve σ 11 .jZ=some .jZ:=nr rfl
theorem asY(σ:Store):resolve σ 11 .one=some .one:=nr rfl
theorem axh(σ:Store)(sz:Nat)(r:List (List V)):resolve σ 11 (.sl sz r)=some (.sl sz r):=nr rfl
theorem aow(σ:Store)(r:List V)(o:Nat):resolve σ 11 (.pU r o)=some (.pU r o):=nr rfl
def V.still:V->Bool
 |.one | .int .. | .bool _ | .str _ | .jZ | .sl .. | .pU ..=>true
 |_=>false
def nN(rows:List (List V)):Prop:=∀r∈rows,∀v∈r,v.still=true
theorem ZE{σ:Store}{n:Nat}{v:V}(h:v.still=true):resolve σ (n+1) v=some v:=by
 cases v<;>first|rfl|cases h
theorem Fa{σ:Store}{n:Nat}:∀{r:List V},(∀v∈r,v.still=true)->r.mapM (resolve σ (n+1))=some r
 | [],_=>rfl
 |
  v::r,h=>by
  rw [bU,ZE (h v (by simp)),Fa fun x hx=>h x (by simp [hx])];rfl
theorem xK{σ:Store}{n:Nat}:∀{rows:List (List V)},nN rows->(rows.mapM fun (r:List V)=>r.mapM (resolve σ (n+1)))=some rows
 | [],_=>rfl
 |
  r::rows,h=>by
  rw [bU,Fa (h r (by simp)),xK fun x hx=>h x (by simp [hx])];rfl
theorem nN.part{rows:List (List V)}(h:nN rows)(s l:Nat):nN ((rows.drop s).take l):=fun r hr=>h r (gq (dM hr))
theorem asZ{σ:Store}{n o s l:Nat}{ob:Obj}(ho:jX σ o=some ob)(hs:nN ob.rows)(hl:s+l<=ob.rows.length):resolve σ (n+2) (.lG o s l)=some (.sl ob.sz ((ob.rows.drop s).take l)):=by
 rw [resolve];simp only [ho];rw [aQ hl,xK (hs.part s l)];rfl
theorem axi{σ:Store}{o s l:Nat}{ob:Obj}(ho:jX σ o=some ob)(hs:nN ob.rows)(hl:s+l<=ob.rows.length):resolve σ FD (.lG o s l)=some (.sl ob.sz ((ob.rows.drop s).take l)):=asZ (n:=10) ho hs hl
theorem aCo(env:Nat->V)(σ:Store):nJ env σ []=[]:=nr rfl
theorem aCp(env:Nat->V)(σ:Store)(s:Src)(as:List Src):nJ env σ (s::as)=reach σ FD (s.ev env)++nJ env σ as:=nr rfl
theorem JL{σ:Store}{n:Nat}{v:V}(h:v.still=true):reach σ (n+1) v=[]:=by
 cases v<;>first|rfl|cases h
theorem axj(σ:Store)(q:IntKind)(n:Int):reach σ FD (.int q n)=[]:=nr rfl
theorem as1(σ:Store)(b:Bool):reach σ FD (.bool b)=[]:=nr rfl
theorem axk(σ:Store)(s:List UInt8):reach σ FD (.str s)=[]:=nr rfl
theorem as3(σ:Store):reach σ FD .jZ=[]:=nr rfl
theorem aCq(σ:Store)(sz:Nat)(r:List (List V)):reach σ FD (.sl sz r)=[]:=nr rfl
theorem as4(σ:Store)(r:List V)(o:Nat):reach σ FD (.pU r o)=[]:=nr rfl
def aaI(σ:Store)(cs:List V):List Nat:=cs.flatMap (reach σ 11)
theorem axl(σ:Store)(cs:List V):reach σ FD (.agg cs)=aaI σ cs:=nr rfl
theorem aCr(σ:Store):aaI σ []=[]:=nr rfl
theorem aCs(σ:Store)(c:V)(cs:List V):aaI σ (c::cs)=reach σ 11 c++aaI σ cs:=nr rfl
theorem as5(σ:Store)(q:IntKind)(n:Int):reach σ 11 (.int q n)=[]:=nr rfl
theorem aox(σ:Store)(b:Bool):reach σ 11 (.bool b)=[]:=nr rfl
theorem as6(σ:Store)(s:List UInt8):reach σ 11 (.str s)=[]:=nr rfl
theorem aoy(σ:Store):reach σ 11 .jZ=[]:=nr rfl
theorem axm(σ:Store)(sz:Nat)(r:List (List V)):reach σ 11 (.sl sz r)=[]:=nr rfl
theorem aoz(σ:Store)(r:List V)(o:Nat):reach σ 11 (.pU r o)=[]:=nr rfl
theorem axn(q:IntKind)(n:Int):scalar SD (.int q n)=true:=nr rfl
theorem as7(b:Bool):scalar SD (.bool b)=true:=nr rfl
theorem axo(s:List UInt8):scalar SD (.str s)=true:=nr rfl
def Ol:List Oj->List V->St->(V->Prop)->Prop
 | [],acc,st,k=>EM (vG acc.reverse) fun v=>oC (resolve st.objs FD v) k
 |r::rs,acc,st,k=>oC (r.get st) fun v=>EM v fun v=>Ol rs (v::acc) st k
theorem Ux{st:St}{k:V->Prop}:∀(rs:List Oj) (acc:List V),Ol rs acc st k->oC (rs.mapM (Oj.get st)) fun vs=>oC (resolve st.objs FD (vG (acc.reverse++vs))) k
 | [],acc,h=>by simpa [oC,Ol,EM]using h
 |
  r::rs,acc,h=>by
  obtain⟨v,e,h⟩:=lZ h;have:=Ux rs (v::acc) h;obtain⟨vs,e2,h⟩:=lZ this;simp only [bU,e,e2];simpa [oC,wr]using h
def aoA(rs:List Oj)(e:Ex)(k:V->Prop)(st:St):Prop:=match e with
 |.normal=>Ol rs [] st k
 |.ret=>Ol rs [] st k
 |.exit _=>False
theorem as8(rs:List Oj)(k:V->Prop)(st:St):aoA rs .normal k st=Ol rs [] st k:=nr rfl
theorem as9(rs:List Oj)(k:V->Prop)(st:St):aoA rs .ret k st=Ol rs [] st k:=nr rfl
theorem ata(acc:List V)(st:St)(k:V->Prop):Ol [] acc st k=EM (vG acc.reverse) fun v=>oC (resolve st.objs FD v) k:=nr rfl
theorem atb(t:Nat)(rs:List Oj)(acc:List V)(st:St)(k:V->Prop):Ol (.tmp t::rs) acc st k=EM (st.env t) fun v=>Ol rs (v::acc) st k:=nr rfl
theorem aoB(t n:Nat)(rs:List Oj)(acc:List V)(st:St)(k:V->Prop):Ol (.cell t n false::rs) acc st k=oC (rowAt st.objs (st.env t)) fun p=>oC p.1[p.2]? fun v=>EM v fun v=>Ol rs (v::acc) st k:=by
 simp only [Ol,Oj.get]
 cases rowAt st.objs (st.env t)<;>rfl
theorem axp(v:V):vG [v]=v:=nr rfl
theorem axq(v w:V):vG [v,w]=.oJ [v,w]:=nr rfl
theorem axr(v w x:V):vG [v,w,x]=.oJ [v,w,x]:=nr rfl
theorem lQ{T:Tb}{f:Nat}{F:Fn}{args:List V}{r:V}(rf:Nat->Nat->Bool)(hT:T f=some F)
  (h:wp T rf F.body (fun e st=>aoA F.res e (· = r) st) (St.enter args [])) (hl:args.length=F.nargs:=by rfl) (hk:F.body.okC=true:=by rfl):PF T f args r:=by
 obtain⟨e,st',h1,h2⟩:=AZ hk h;have h3:(e=.normal\/e=.ret)/\Ol F.res [] st' (· = r):=by
  cases e with
  |normal=>exact⟨.inl rfl,h2⟩
  |ret=>exact⟨.inr rfl,h2⟩
  |exit id=>exact h2.elim
 obtain⟨he,h3⟩:=h3;have:=Ux _ _ h3;obtain⟨rs,e1,h4⟩:=lZ this;obtain⟨r',e2,h5⟩:=lZ h4;subst h5;exact .Wn (.fn hT hl h1 he e1) e2
theorem jM{T:Tb}{f:Nat}{as:List V}{k:V->Prop}{r:V}(h:PF T f as r)(hk:k r):PFK T f as k:=⟨r,h,hk⟩
def kR(l:List Int):List (List V):=l.map fun x=>[.int .i64 x]
abbrev ints(l:List Int):V:=.sl 1 (kR l)
theorem Fb(l:List Int):(kR l).length=l.length:=by simp [kR]
theorem aoC{l:List Int}{j:Nat}(h:j<l.length):(kR l).getD j []=[.int .i64 (l.getD j 0)]:=by
 simp [kR,aj,au h]
theorem atc{l:List Int}{j:Nat}(h:j<l.length):(kR l)[j]? = some [.int .i64 (l.getD j 0)]:=by
 simp [kR,aj,au h]
theorem atd(l:List Int)(j:Nat)(x:Int):(kR l).set j [.int .i64 x]=kR (l.set j x):=by
 simp only [kR,List.map_set]
theorem QO(n:Nat)(x:Int):List.replicate n [V.int .i64 x]=kR (List.replicate n x):=by simp [kR]
theorem aaJ(l:List Int)(n:Nat):(kR l).drop n=kR (l.drop n):=by simp [kR]
theorem aaK(l:List Int)(n:Nat):(kR l).take n=kR (l.take n):=by simp [kR]
theorem wX(l:List Int):nN (kR l):=by
 intro r hr v hv;obtain⟨x,_,rfl⟩:=bC.1 hr;simp at hv;subst hv;rfl
theorem aoD(a b:V):splice [a] 0 [b]=[b]:=nr rfl
theorem Xq:∀{x y:V},mP x y->y.leaf=true->x.leaf=true:=by
 intro x y h hl
 cases x<;>first|rfl|skip
 ·simp only [mP]at h;subst h;exact hl
 ·simp only [mP]at h;obtain⟨_,rfl,_⟩:=h;exact hl
 simp only [mP]at h;obtain⟨_,rfl,_⟩:=h;exact hl
theorem acD:∀{xs ys:List V},wS xs ys->xs.length=ys.length
 | [],ys,h=>by simp only [wS]at h;subst h;rfl
 |
  x::xs,ys,h=>by
  simp only [wS]at h;obtain⟨y,ys',rfl,_,h2⟩:=h;simp [acD h2]
theorem acE:∀{xs ys:List (List V)},YW xs ys->xs.length=ys.length
 | [],ys,h=>by simp only [YW]at h;subst h;rfl
 |
  x::xs,ys,h=>by
  simp only [YW]at h;obtain⟨y,ys',rfl,_,h2⟩:=h;simp [acE h2]
mutual
theorem Uy{w:World}:∀(D:DM) (X:Nat->Prop) (x y:V) (v:Value),mP x y->rd w D X y v->rd w D X x v
 |
  D,X,.sl sz rows,y,v,h,hr=>by
  simp only [mP]at h;rcases h with ⟨rfl,rfl|⟨sz',rfl⟩⟩|⟨rows',rfl,h⟩
  ·simp only [rd]at hr ⊢;obtain⟨a,rfl⟩:=hr;exact⟨a,0,rfl,aK _,.inl (by trivial)⟩
  ·simp only [rd]at hr ⊢;obtain⟨a,cap,rfl,h2,_⟩:=hr;exact⟨a,cap,rfl,h2,.inl (by trivial)⟩
  simp only [rd]at hr ⊢;obtain⟨a,cap,rfl,h2,h3⟩:=hr;have hl:=acE h;refine⟨a,cap,by rw [hl],by rw [hl];exact h2,?_⟩;rcases h3 with h3|⟨b,off,h3,h4,h5,h6⟩
  ·left;subst h3;exact aY hl
  exact .inr ⟨b,off,h3,h4,h5,Xr DM.none X b sz off rows rows' h h6⟩
 |
  D,X,.agg cs,y,v,h,hr=>by
  simp only [mP]at h;obtain⟨cs',rfl,h⟩:=h;simp only [rd]at hr ⊢;obtain⟨a,rfl,hr⟩:=hr;exact⟨a,rfl,Sl D X cs cs' _ h hr⟩
 |
  D,X,.oJ cs,y,v,h,hr=>by
  simp only [mP]at h;obtain⟨cs',rfl,h⟩:=h;simp only [rd]at hr ⊢;obtain⟨a,rfl,hr⟩:=hr;exact⟨a,rfl,Sl D X cs cs' _ h hr⟩
 |
  D,X,.pU row off,y,v,h,hr=>by
  simp only [mP]at h;obtain⟨row',rfl,h⟩:=h;simp only [rd]at hr ⊢;obtain⟨b,o,rfl,h1,h2,h3⟩:=hr;exact⟨b,o,rfl,h1,h2,OQ DM.none X b o row row' h h3⟩
 |_,_,.any,y,v,h,hr=>by simp [rd]
 |_,_,.one,y,v,h,hr=>by simp only [mP]at h;subst h;exact hr
 |_,_,.int ..,y,v,h,hr=>by simp only [mP]at h;subst h;exact hr
 |_,_,.bool _,y,v,h,hr=>by simp only [mP]at h;subst h;exact hr
 |_,_,.str _,y,v,h,hr=>by simp only [mP]at h;subst h;exact hr
 |_,_,.jZ,y,v,h,hr=>by simp only [mP]at h;subst h;exact hr
 |_,_,.lG ..,y,v,h,hr=>by simp only [mP]at h;subst h;exact hr
 |_,_,.ptr ..,y,v,h,hr=>by simp only [mP]at h;subst h;exact hr
termination_by structural _ _ x=>x
theorem Sl{w:World}:∀(D:DM) (X:Nat->Prop) (xs ys:List V) (vs:List Value),wS xs ys->qh w D X ys vs->qh w D X xs vs
 |D,X,[],ys,vs,h,hr=>by simp only [wS]at h;subst h;exact hr
 |
  D,X,x::xs,ys,vs,h,hr=>by
  simp only [wS]at h;obtain⟨y,ys',rfl,h1,h2⟩:=h;simp only [qh]at hr ⊢;obtain⟨v,vs',rfl,k1,k2⟩:=hr;exact⟨v,vs',rfl,Uy D X x y v h1 k1,Sl D X xs ys' vs' h2 k2⟩
termination_by structural _ _ x=>x
theorem OQ{w:World}:∀(D:DM) (X:Nat->Prop) (b off:Nat) (xs ys:List V),wS xs ys->oU w D X b off ys->oU w D X b off xs
 |D,X,b,off,[],ys,h,hr=>by simp [oU]
 |
  D,X,b,off,x::xs,ys,h,hr=>by
  simp only [wS]at h;obtain⟨y,ys',rfl,h1,h2⟩:=h;simp only [oU]at hr ⊢;obtain⟨k0,⟨c,k1,k2⟩,k3⟩:=hr;exact⟨Xq h1 k0,⟨c,k1,Uy D X x y c h1 k2⟩,OQ D X b (off+1) xs ys' h2 k3⟩
termination_by structural _ _ _ _ x=>x
theorem Xr{w:World}:∀(D:DM) (X:Nat->Prop) (b sz off:Nat) (xs ys:List (List V)),YW xs ys->rF w D X b sz off ys->rF w D X b sz off xs
 |D,X,b,sz,off,[],ys,h,hr=>by simp [rF]
 |
  D,X,b,sz,off,x::xs,ys,h,hr=>by
  simp only [YW]at h;obtain⟨y,ys',rfl,h1,h2⟩:=h;simp only [rF]at hr ⊢;exact⟨(acD h1).trans hr.1,OQ D X b off x y h1 hr.2.1,Xr D X b sz (off+sz) xs ys' h2 hr.2.2⟩
termination_by structural _ _ _ _ _ x=>x
end
mutual
theorem kM:∀(x:V),mP x x
 |.sl sz rows=>by simp only [mP];exact .inr ⟨rows,rfl,ZF rows⟩
 |.agg cs=>by simp only [mP];exact⟨cs,rfl,yH cs⟩
 |.oJ cs=>by simp only [mP];exact⟨cs,rfl,yH cs⟩
 |.pU row off=>by simp only [mP];exact⟨row,rfl,yH row⟩
 |.any=>by simp [mP]
 |.one=>by simp [mP]
 |.int ..=>by simp [mP]
 |.bool _=>by simp [mP]
 |.str _=>by simp [mP]
 |.jZ=>by simp [mP]
 |.lG ..=>by simp [mP]
 |.ptr ..=>by simp [mP]
theorem yH:∀(xs:List V),wS xs xs
 | []=>by simp [wS]
 |x::xs=>by simp only [wS];exact⟨x,xs,rfl,kM x,yH xs⟩
theorem ZF:∀(xs:List (List V)),YW xs xs
 | []=>by simp [YW]
 |x::xs=>by simp only [YW];exact⟨x,xs,rfl,yH x,ZF xs⟩
end
def DM.win(D:DM)(W:PD)(kp:Nat):DM:=fun k=>match W[k]? with
 |
  some (some (o,s,l))=>(match D o with
  |.live d=>.live ⟨d.blk,d.Le+s*d.sz,d.sz,l,d.cap⟩
  |x=>x)
 |some Option.none=>if k<kp then(match D k with | .live _=>.og|x=>x)else .og
 |Option.none=>.og
section
variable {w : World} {D : DM} {M : Nat -> Prop} {σ σ2 : Store} {W : PD} {kp : Nat}
theorem Jd{k:Nat}{d:aik}(h:D.win W kp k=.live d):∃o s l d0,W[k]? = some (some (o,s,l))/\D o=.live d0/\d=⟨d0.blk,d0.Le+s*d0.sz,d0.sz,l,d0.cap⟩:=by
 unfold DM.win at h;split at h
 ·rename_i o s l e;split at h
  ·rename_i d0 e2
   cases h
   exact⟨o,s,l,d0,e,e2,rfl⟩
  rename_i hx;rw [h]at hx;exact absurd rfl (hx d)
 ·split at h
  ·split at h
   ·cases h
   rename_i hx;rw [h]at hx;exact absurd rfl (hx d)
  cases h
 cases h
theorem aku:∀b,XS M (D.win W kp) b->XS M D b:=by
 rintro b (h|⟨k,d,hk,rfl⟩)
 ·exact .inl h
 obtain⟨o,s,l,d0,_,h2,rfl⟩:=Jd hk;exact .inr ⟨o,d0,h2,rfl⟩
theorem akv:∀{x y:V},yu W σ x y->x.leaf=true->y.leaf=true:=by
 intro x y h hl
 cases x<;>simp only [V.leaf]at hl<;>first|(cases hl;done)|skip
 all_goals simp only [yu]at h
 case one=>subst h;rfl
 case int=>subst h;rfl
 case bool=>subst h;rfl
 case str=>subst h;rfl
 case jZ=>rcases h with rfl|⟨_,rfl⟩<;>rfl
 case sl=>exact Xq h rfl
 case lG =>
  rcases h with ⟨k,s0,l0,_,_,_,rfl⟩|⟨_,_,sz,rfl⟩|⟨h,_⟩
  ·rfl
  ·rfl
  exact IE h rfl
 case ptr =>
  rcases h with ⟨k,s0,l0,_,_,_,rfl⟩|⟨h,_⟩
  ·rfl
  exact IE h rfl
 case pU=>exact Xq h rfl
theorem acH:∀{xs ys:List V},Ad W σ xs ys->ys.length=xs.length
 | [],ys,h=>by simp only [Ad]at h;subst h;rfl
 |
  x::xs,ys,h=>by
  simp only [Ad]at h;obtain⟨y,ys',rfl,_,h2⟩:=h;simp [acH h2]
theorem acI:∀{xs ys:List V},Ad W σ xs ys->∀(i:Nat) (y:V),ys[i]? = some y->∃x,xs[i]? = some x/\yu W σ x y
 | [],ys,h,i,y,hi=>by simp only [Ad]at h;subst h;simp at hi
 |
  x::xs,ys,h,i,y,hi=>by
  simp only [Ad]at h;obtain⟨z,zs,rfl,h1,h2⟩:=h
  cases i with
  |zero=>simp at hi;subst hi;exact⟨x,rfl,h1⟩
  |succ i=>simpa using acI h2 i y (by simpa using hi)
theorem ae4{D D':DM}{X X':Nat->Prop}(hX:∀b,X' b->X b){x:V}{v:Value}(hx:(∃sz rows,x=.sl sz rows)\/∃row off,x=.pU row off)(h:rd w D X x v):rd w D' X' x v:=by
 have E:Ext w DM.none X w DM.none X':=⟨aK _,fun _ _ _=>rfl,fun b _=>hX b,fun _=>uS.refl _⟩;rcases hx with ⟨sz,rows,rfl⟩|⟨row,off,rfl⟩
 ·have h':rd w DM.none X (.sl sz rows) v:=by simpa only [rd]using h
  have:=oq _ _ E h';simpa only [rd]using this
 have h':rd w DM.none X (.pU row off) v:=by simpa only [rd]using h
 have:=oq _ _ E h';simpa only [rd]using this
theorem aoE{o s l n:Nat}{y:V}(h:resolve σ (n+1) (.lG o s l)=some y):∃sz rows,y=.sl sz rows:=by
 simp only [resolve]at h;split at h<;>first|(cases h;done)|skip
 split at h<;>first|(cases h;done)|skip
 simp only [aJ]at h;obtain⟨_,_,rfl⟩:=h;exact⟨_,_,rfl⟩
theorem Wq{o r f n:Nat}{y:V}(h:resolve σ (n+1) (.ptr o r f)=some y):∃row off,y=.pU row off:=by
 simp only [resolve]at h;split at h<;>first|(cases h;done)|skip
 split at h<;>first|(cases h;done)|skip
 simp only [aJ]at h;obtain⟨_,_,rfl⟩:=h;exact⟨_,_,rfl⟩
theorem ZG(hS:uy w D M σ){x y:V}{v:Value}(h:resolve σ FD x=some y)(hq:∀q,q∈reach σ FD x->∀(k s0 l0:Nat),W[k]? ≠ some (some (q,s0,l0)))
  (hy:(∃sz rows,y=.sl sz rows)\/∃row off,y=.pU row off) (hr:rd w D (XS M D) x v):rd w (D.win W kp) (XS M (D.win W kp)) y v:=by
 have h1:=EW hS (R:=reach σ FD x) FD x y v h (fun _ ho=>ho) hr;refine ae4 (fun b hb=>?_) hy h1;rcases hb with hb|⟨k,d,hk,rfl⟩
 ·exact .inl hb
 obtain⟨o,s,l,d0,e1,e2,rfl⟩:=Jd hk;exact .inr ⟨o,d0,e2,rfl,fun ho=>hq o ho k s l e1⟩
mutual
theorem aaL(hS:uy w D M σ)(hW:∀(k o s l:Nat),W[k]? = some (some (o,s,l))->(jX σ o).isSome=true):∀(x y:V) (v:Value),yu W σ x y->rd w D (XS M D) x v ->
  rd w (D.win W kp) (XS M (D.win W kp)) y v
 |
  .lG o s l,y,v,h,hr=>by
  simp only [yu]at h;rcases h with ⟨k,s0,l0,h1,h2,h3,rfl⟩|⟨rfl,ho,sz,rfl⟩|⟨h1,h2⟩
  ·obtain⟨ob,hob⟩:=jc.1 (hW k o s0 l0 h1);obtain⟨d,hd⟩:=hS.alive o ob hob;simp only [rd,hd]at hr;obtain⟨e1,a,cap,rfl,e2,e3⟩:=hr;simp only [rd,DM.win,h1,hd];refine⟨by omega,a,cap,rfl,e2,e3.imp ?_ id⟩;rintro⟨rfl,e4⟩;have hm:s*d.sz=s0*d.sz+(s-s0)*d.sz:=by rw [<-gG];congr 1;omega
   refine⟨by congr 2;omega,?_⟩;have:(s+cap)*d.sz=s0*d.sz+(s-s0+cap)*d.sz:=by rw [<-gG];congr 1;omega
   omega
  ·obtain⟨ob,hob⟩:=jc.1 ho;obtain⟨d,hd⟩:=hS.alive o ob hob;simp only [rd,hd]at hr ⊢;obtain⟨e1,a,cap,rfl,e2,e3⟩:=hr;exact⟨a,cap,rfl,fV _,.inl (by trivial)⟩
  exact ZG hS h1 h2 (.inl (aoE (n:=11) h1)) hr
 |
  .ptr o r off,y,v,h,hr=>by
  simp only [yu]at h;rcases h with ⟨k,s0,l0,h1,h2,h3,rfl⟩|⟨h1,h2⟩
  rotate_left
  ·exact ZG hS h1 h2 (.inr (Wq (n:=11) h1)) hr
  obtain⟨ob,hob⟩:=jc.1 (hW k o s0 l0 h1);obtain⟨d,hd⟩:=hS.alive o ob hob;simp only [rd,hd]at hr;subst hr;simp only [rd,DM.win,h1,hd];have hm:r*d.sz=s0*d.sz+(r-s0)*d.sz:=by rw [<-gG];congr 1;omega
  congr 3;omega
 |
  .agg cs,y,v,h,hr=>by
  simp only [yu]at h;obtain⟨ds,rfl,h⟩:=h;simp only [rd]at hr ⊢;obtain⟨a,rfl,hr⟩:=hr;exact⟨a,rfl,aaM hS hW cs ds _ h hr⟩
 |
  .oJ cs,y,v,h,hr=>by
  simp only [yu]at h;obtain⟨ds,rfl,h⟩:=h;simp only [rd]at hr ⊢;obtain⟨a,rfl,hr⟩:=hr;exact⟨a,rfl,aaM hS hW cs ds _ h hr⟩
 |
  .jZ,y,v,h,hr=>by
  simp only [yu]at h;simp only [rd]at hr;obtain⟨a,rfl⟩:=hr;rcases h with rfl|⟨sz,rfl⟩
  ·simp only [rd];exact⟨a,rfl⟩
  simp only [rd];exact⟨a,0,rfl,aK _,.inl (by trivial)⟩
 |
  .sl sz rows,y,v,h,hr=>by
  simp only [yu]at h;exact Uy _ _ _ _ _ h (ae4 aku (.inl ⟨sz,rows,rfl⟩) hr)
 |
  .pU row off,y,v,h,hr=>by
  simp only [yu]at h;exact Uy _ _ _ _ _ h (ae4 aku (.inr ⟨row,off,rfl⟩) hr)
 |.any,y,v,h,hr=>by simp only [yu]at h;subst h;simp [rd]
 |.one,y,v,h,hr=>by simp only [yu]at h;subst h;simpa only [rd]using hr
 |.int ..,y,v,h,hr=>by simp only [yu]at h;subst h;simpa only [rd]using hr
 |.bool _,y,v,h,hr=>by simp only [yu]at h;subst h;simpa only [rd]using hr
 |.str _,y,v,h,hr=>by simp only [yu]at h;subst h;simpa only [rd]using hr
theorem aaM(hS:uy w D M σ)(hW:∀(k o s l:Nat),W[k]? = some (some (o,s,l))->(jX σ o).isSome=true):∀(xs ys:List V) (vs:List Value),Ad W σ xs ys->qh w D (XS M D) xs vs ->
  qh w (D.win W kp) (XS M (D.win W kp)) ys vs
 | [],ys,vs,h,hr=>by simp only [Ad]at h;subst h;simpa only [qh]using hr
 |
  x::xs,ys,vs,h,hr=>by
  simp only [Ad]at h;obtain⟨y,ys',rfl,h1,h2⟩:=h;simp only [qh]at hr ⊢;obtain⟨v,vs',rfl,k1,k2⟩:=hr;exact⟨v,vs',rfl,aaL hS hW x y v h1 k1,aaM hS hW xs ys' vs' h2 k2⟩
end
theorem uy.re(hS:uy w D M σ)(h:ReS W σ σ2)(hkp:kp<=W.length):uy w (D.win W kp) M σ2:=by
 have hW:∀(k o s l:Nat),W[k]? = some (some (o,s,l))->(jX σ o).isSome=true:=fun k o s l hk=>by
  obtain⟨ob,_,h1,_⟩:=h.win k o s l hk;rw [h1];rfl
 refine⟨?_,?_,?_,?_,hS.mlt⟩
 ·intro k d hk;obtain⟨o,s,l,d0,e1,e2,rfl⟩:=Jd hk;obtain⟨ob,ob2,w1,w2,w3,w4,w5,w6⟩:=h.win k o s l e1;obtain⟨ob',c,e,h1,h2,h3,h4,h5,h6,h7,h8,h9,h10,h11⟩:=hS.live o d0 e2;rw [w1]at h1;cases h1;have hrow:∀i r2,ob2.rows[i]? = some r2->∃r,ob.rows[s+i]? = some r/\Ad W σ r r2:=by
   intro i r2 hi;have hlt:s+i<ob.rows.length:=by have:=(aP.1 hi).1;omega
   exact⟨ob.rows[s+i],au hlt,w6 i _ r2 (au hlt) hi⟩
  have hlen2:∀r∈ob2.rows,r.length=ob2.sz:=by
   intro r2 hr2;obtain⟨i,hi⟩:=bQ.1 hr2;obtain⟨r,hr,hc⟩:=hrow i r2 hi;rw [acH hc,w4];exact h10 r (bg hr)
  refine⟨ob2,c,e,w3,by simp only [];rw [w4];exact h2,by simp only [];exact w5.symm,h4,h5,h6,h7,h8,?_,hlen2,?_⟩
  ·simp only [];have:d0.Le+s*d0.sz+l*d0.sz=d0.Le+(s+l)*d0.sz:=by rw [gG];omega
   rw [this];refine dw (Nat.add_le_add_left (dG _ ?_) _) h9;omega
  intro i z hz;have hpos:0<ob.sz:=by rw [<-h2];exact h4
  have hilt:=(aP.1 hz).1;have hfl:=zF hlen2;have hq:i / ob.sz<ob2.rows.length:=jk (by rw [dP,<-w4];omega);have hmod:i % ob.sz<ob2.rows[i / ob.sz].length:=by rw [hlen2 _ (by simp),w4];exact kF _ hpos
  have hz':=Df hlen2 (i:=i / ob.sz) (j:=i % ob.sz) (r:=ob2.rows[i / ob.sz]) (x:=ob2.rows[i / ob.sz][i % ob.sz]) (by simp [hq]) (by simp [hmod]);have hi:i / ob.sz*ob2.sz+i % ob.sz=i:=by rw [w4,dP];exact Nat.div_add_mod i ob.sz
  rw [hi,hz]at hz';obtain⟨r,hr,hc⟩:=hrow (i / ob.sz) ob2.rows[i / ob.sz] (by simp [hq]);obtain⟨x,hx,hcx⟩:=acI hc (i % ob.sz) z (by rw [Option.some.inj hz'];simp [hmod]);obtain⟨hlf,cv,k1,k2⟩:=h11 _ x (Df h10 hr hx);refine⟨akv hcx hlf,cv,?_,aaL hS hW x z cv hcx k2⟩;rw [<-k1];simp only []
  congr 1
  have hi2:i=i / ob.sz*ob.sz+i % ob.sz:=by rw [<-w4];rw [w4];rw [w4]at hi;exact hi.symm
  rw [h2,gG];omega
 ·intro k ob hk;have hlt:k<W.length:=by
   rw [<-h.len];rcases dV k σ2.length with h'|h'
   ·exact h'
   rw [jX,aZ h']at hk;cases hk
  cases hw:W[k]with
  |
   none =>
   have:=h.hole k (by rw [au hlt,hw]);rw [this]at hk;cases hk
  |
   some p =>
   obtain⟨o,s,l⟩:=p;have hk':W[k]? = some (some (o,s,l)):=by rw [au hlt,hw]
   obtain⟨ob0,_,w1,_⟩:=h.win k o s l hk';obtain⟨d,hd⟩:=hS.alive o ob0 w1;exact⟨⟨d.blk,d.Le+s*d.sz,d.sz,l,d.cap⟩,by simp only [DM.win,hk',hd]⟩
 ·intro k k' d d' hk hk' hb;obtain⟨o,s,l,d0,e1,e2,rfl⟩:=Jd hk;obtain⟨o',s',l',d0',e1',e2',rfl⟩:=Jd hk';have:=hS.inj o o' d0 d0' e2 e2' hb;subst this;exact h.nd k k' o s l s' l' e1 e1'
 intro k hk;rw [h.len]at hk;simp only [DM.win,aZ hk]
end
section
variable {P : Program} {ν : Nat -> Option Nat} {nt : Nat} {M : Nat -> Prop} {w0 : World} {D0 : DM} {st st2 : St} {D : DM} {a : Act} {w : World} {W : PD}
theorem ReS.some{σ σ2:Store}(h:ReS W σ σ2):∀(k o s l:Nat),W[k]? = some (some (o,s,l))->(jX σ o).isSome=true:=fun k o s l hk=>by
 obtain⟨ob,_,h1,_⟩:=h.win k o s l hk;rw [h1];rfl
theorem SR.re(h:SR nt M w0 D0 st D a w)(hr:arS W st st2):SR nt M w0 D0 st2 (D.win W st.keep) a w:=by
 have hkp:st.keep<=W.length:=by
  rcases dV W.length st.keep with h'|h'
  ·have:W[W.length]? = Option.none:=by simp
   rcases hr.kp W.length h' with ⟨ob,_,h2⟩|⟨_,h2⟩<;>rw [this]at h2<;>cases h2
  exact h'
 refine⟨fun t=>?_,h.tm,h.df,h.store.re hr.objs hkp,h.gr,?_,?_⟩
 ·rcases hr.env t with e|e
  ·rw [e];simp [rd]
  exact aaL h.store hr.objs.some _ _ _ e (h.env t)
 ·intro k d hk;obtain⟨o,s,l,d0,_,e2,rfl⟩:=Jd hk;exact h.fr o d0 e2
 intro k hk;rw [hr.keep]at hk;have hle:=h.kp k hk;rcases hr.kp k hk with ⟨ob,h1,h2⟩|⟨h1,h2⟩
 ·obtain⟨d,hd⟩:=h.store.alive k ob h1;obtain⟨ob',c,e,g1,g2,g3,_⟩:=h.store.live k d hd;rw [h1]at g1;cases g1;have:D.win W st.keep k=D k:=by
   simp only [DM.win,h2,hd,kE,iL,<-g3]
  rw [this];exact hle
 have:D.win W st.keep k=D k:=by
  simp only [DM.win,h2,aQ hk]
  cases hd:D k with
  |
   live d =>
   obtain⟨ob',c,e,g1,_⟩:=h.store.live k d hd;rw [h1]at g1;cases g1
  |_=>rfl
 rw [this];exact hle
theorem SR.forget(h:SR nt M w0 D0 st D a w)(he:∀t,st2.env t=.any\/mP (st2.env t) (st.env t))(ho:st2.objs=st.objs)(hk:st2.keep=st.keep):SR nt M w0 D0 st2 D a w:=by
 refine⟨fun t=>?_,h.tm,h.df,by rw [ho];exact h.store,h.gr,h.fr,by rw [hk];exact h.kp⟩;rcases he t with e|e
 ·rw [e];simp [rd]
 exact Uy _ _ _ _ _ e (h.env t)
end
inductive Fg:St->St->Prop
 |env {st2 st:St} (he:∀t,st2.env t=.any\/mP (st2.env t) (st.env t)) (ho:st2.objs=st.objs) (hk:st2.keep=st.keep):Fg st2 st
 |re {st2 st:St} (W:PD) (h:arS W st st2):Fg st2 st
theorem Fg.run{T:Tb}{c:C}{st2 st:St}{o:Out}(h:Fg st2 st)(k:Run T (.code c st2) o):Run T (.code c st) o:=by
 cases h with
 |env he ho hk=>exact .forget he ho hk k
 |re W h=>exact .re W h k
theorem Xt{T:Tb}{rf:Nat->Nat->Bool}{c:C}{Q:Ex->St->Prop}{α:Type}(I:α->St)(P:α->Prop)(m:α->Nat)(hk:c.okC=true)
  (step:∀a,P a->wp T rf c (fun e st'=>aaF e (∃a',m a'<m a/\P a'/\Fg (I a') st') (Q e st')) (I a)) :
  ∀(n:Nat) (a:α) (st:St),m a<n->P a->Fg (I a) st->Vw T c Q st
 |0,_,_,hn,_,_=>absurd hn (dA _)
 |
  n+1,a,st,hn,h,hf=>by
  obtain⟨e,st1,h1,h2⟩:=AZ hk (step a h)
  cases e with
  |
   normal =>
   obtain⟨a',hlt,h3,h3'⟩:=h2;obtain⟨e,st2,h4,h5⟩:=Xt I P m hk step n a' _ (by omega) h3 h3';exact⟨e,st2,hf.run (.ajO h1 h4),h5⟩
  |exit id=>exact⟨_,_,hf.run (.ab5 (by simp) h1),h2⟩
  |ret=>exact⟨_,_,hf.run (.ab5 (by simp) h1),h2⟩
theorem kV{T:Tb}(rf:Nat->Nat->Bool){c:C}{Q:Ex->St->Prop}{α:Type}(I:α->St)(P:α->Prop)(m:α->Nat)(hk:c.okC=true)(a:α){st:St}(h0:P a)(hf:Fg (I a) st)
  (step:∀a,P a->wp T rf c (fun e st'=>aaF e (∃a',m a'<m a/\P a'/\Fg (I a') st') (Q e st')) (I a)) :
  Vw T c Q st:=Xt I P m hk step (m a+1) a st (by omega) h0 hf
def EvV(v y:V):Prop:=v=.any\/mP v y
theorem aoF(y:V):EvV .any y=True:=gZ (.inl rfl)
theorem akw(y:V):EvV y y=True:=gZ (.inr (kM y))
theorem OT{v y:V}(h:v=y):EvV v y:=h▸.inr (kM v)
theorem MO{q:IntKind}{a b:Int}(h:a=b):EvV (.int q a) (.int q b):=OT (by rw [h])
theorem JM(sz:Nat):EvV (.sl sz []) .jZ:=.inr (by simp [mP])
def NV:List V->Nat->(Nat->V)->Prop
 | [],_,_=>True
 |v::vs,i,env=>EvV v (env i)/\NV vs (i+1) env
theorem aoG(i:Nat)(env:Nat->V):NV [] i env=True:=nr rfl
theorem aoH(v:V)(vs:List V)(i:Nat)(env:Nat->V):NV (v::vs) i env=(EvV v (env i)/\NV vs (i+1) env):=nr rfl
theorem NV.at_:∀{l:List V} {i:Nat} {env:Nat->V},NV l i env->∀t,mM l t=.any\/mP (mM l t) (env (i+t))
 | [],_,_,_,t=>.inl rfl
 |v::vs,i,env,h,0=>h.1
 |
  v::vs,i,env,h,t+1=>by
  have:=NV.at_ h.2 t;rw [show i+1+t=i+(t+1) by omega]at this;exact this
theorem kN{l:List V}{env:Nat->V}{objs:Store}{kp b1 b2:Nat}{r1 r2 m1 m2:List Nat}(h:NV l 0 env):Fg ⟨mM l,objs,kp,b1,r1,m1⟩ ⟨env,objs,kp,b2,r2,m2⟩ :=
 .env (fun t=>by have:=h.at_ t;rwa [aV]at this) rfl rfl
theorem Je{W:PD}{σ:Store}{v:V}(h:v.still=true):yu W σ v v:=by
 cases v<;>simp only [V.still]at h<;>first|(cases h;done)|skip
 all_goals simp only [yu]
 ·exact .inl (by trivial)
 ·exact kM _
 exact kM _
theorem Jf{W:PD}{σ:Store}:∀{r:List V},(∀v∈r,v.still=true)->Ad W σ r r
 | [],_=>by simp [Ad]
 |
  v::r,h=>by
  simp only [Ad];exact⟨v,r,rfl,Je (h v (by simp)),Jf fun x hx=>h x (by simp [hx])⟩
theorem akx{σ:Store}(l:List (Nat×Obj))(hn:(l.map (·.1)).Nodup)(h:∀p∈l,jX σ p.1=some p.2/\nN p.2.rows) :
  ReS (l.map fun p=>some (p.1,0,p.2.rows.length)) σ (l.map fun p=>some p.2):=by
 have hget:∀(k o s n:Nat),(l.map fun p=>some (p.1,0,p.2.rows.length))[k]? = some (some (o,s,n))->∃p,l[k]? = some p/\o=p.1/\s=0/\n=p.2.rows.length:=by
  intro k o s n hk;rw [bM,aJ]at hk;obtain⟨p,h1,h2⟩:=hk;simp only [aB,Prod.mk.injEq]at h2;exact⟨p,h1,h2.1.symm,h2.2.1.symm,h2.2.2.symm⟩
 refine⟨by simp,?_,?_,?_⟩
 ·intro i j o s n s' n' hi hj;obtain⟨p,p1,p2,_⟩:=hget i o s n hi;obtain⟨q,q1,q2,_⟩:=hget j o s' n' hj;have hi':=(aP.1 p1).1;have hj':=(aP.1 q1).1;have e1:=(aP.1 p1).2;have e2:=(aP.1 q1).2;refine(List.getElem_inj (h₀:=by simpa using hi') (h₁:=by simpa using hj') hn).1 ?_;simp [e1,e2,<-p2,<-q2]
 ·intro k o s n hk;obtain⟨p,p1,rfl,rfl,rfl⟩:=hget k o s n hk;obtain⟨h1,h2⟩:=h p (bg p1);refine⟨p.2,p.2,h1,by omega,by unfold jX;rw [bM,p1];rfl,rfl,rfl,fun i r r2 hr hr2=>?_⟩;rw [aV,hr2]at hr
  cases hr
  exact Jf (h2 _ (bg hr2))
 intro k hk;rw [bM,aJ]at hk;obtain⟨p,_,h⟩:=hk
 cases h
def OU(W:PD)(σ:Store)(v y:V):Prop:=v=.any\/yu W σ y v
theorem aky(W:PD)(σ:Store)(y:V):OU W σ .any y=True:=gZ (.inl rfl)
theorem akz(W:PD)(σ:Store)(q:IntKind)(a b:Int):OU W σ (.int q a) (.int q b)=(a=b):=by simp [OU,yu]
theorem aiI(W:PD)(σ:Store)(a b:Bool):OU W σ (.bool a) (.bool b)=(a=b):=by simp [OU,yu]
theorem MP(W:PD)(σ:Store){y:V}(h:y.still=true):OU W σ y y:=.inr (Je h)
theorem aoI(W:PD)(σ:Store)(sz:Nat)(rows:List (List V)):OU W σ (.sl sz rows) (.sl sz rows)=True:=gZ (MP W σ rfl)
theorem akA(W:PD)(σ:Store)(a:List UInt8):OU W σ (.str a) (.str a)=True:=gZ (MP W σ rfl)
theorem Dn(W:PD)(σ:Store)(sz:Nat):OU W σ (.sl sz []) .jZ=True:=gZ (.inr (by simp only [yu];exact .inr ⟨sz,rfl⟩))
theorem aiJ(W:PD)(σ:Store):OU W σ .jZ .jZ=True:=gZ (MP W σ rfl)
theorem rJ{W:PD}{σ:Store}{k o l l' n:Nat}(h:W[k]? = some (some (o,0,n)))(hl:l<=n)(e:l'=l):OU W σ (.lG k 0 l') (.lG o 0 l) :=
 .inr (by simp only [yu];exact .inl ⟨k,0,n,h,aK _,by omega,by rw [e]⟩)
theorem Ba{W:PD}{σ:Store}{k o r off n:Nat}(h:W[k]? = some (some (o,0,n)))(hl:r<n):OU W σ (.ptr k r off) (.ptr o r off) :=
 .inr (by simp only [yu];exact .inl ⟨k,0,n,h,fV _,by omega,by simp⟩)
theorem Ho{W:PD}{σ:Store}{o s l:Nat}{y:V}(h:resolve σ FD (.lG o s l)=some y)(hq:∀q,q∈reach σ FD (.lG o s l)->∀(k s0 l0:Nat),W[k]? ≠ some (some (q,s0,l0))):OU W σ y (.lG o s l) :=
 .inr (by simp only [yu];exact .inr (.inr ⟨h,hq⟩))
theorem qR{W:PD}{σ:Store}{x y:V}(h:y.still=true)(e:x=y):OU W σ x y:=e▸MP W σ (e▸h)
def Kr(W:PD)(σ:Store):List V->Nat->(Nat->V)->Prop
 | [],_,_=>True
 |v::vs,i,env=>OU W σ v (env i)/\Kr W σ vs (i+1) env
theorem akB(W:PD)(σ:Store)(i:Nat)(env:Nat->V):Kr W σ [] i env=True:=nr rfl
theorem akC(W:PD)(σ:Store)(v:V)(vs:List V)(i:Nat)(env:Nat->V):Kr W σ (v::vs) i env=(OU W σ v (env i)/\Kr W σ vs (i+1) env):=nr rfl
theorem Kr.at_{W:PD}{σ:Store}:∀{l:List V} {i:Nat} {env:Nat->V},Kr W σ l i env->∀t,mM l t=.any\/yu W σ (env (i+t)) (mM l t)
 | [],_,_,_,t=>.inl rfl
 |v::vs,i,env,h,0=>h.1
 |
  v::vs,i,env,h,t+1=>by
  have:=Kr.at_ h.2 t;rw [show i+1+t=i+(t+1) by omega]at this;exact this
theorem Sm(l:List (Nat×Obj)){vs:List V}{env:Nat->V}{σ σ2:Store}{b1 b2:Nat}{r1 r2 m1 m2:List Nat}(hn:(l.map (·.1)).Nodup)
  (h:∀p∈l,jX σ p.1=some p.2/\nN p.2.rows) (ho:σ2=l.map fun p=>some p.2)
  (he:Kr (l.map fun p=>some (p.1,0,p.2.rows.length)) σ vs 0 env):Fg ⟨mM vs,σ2,0,b1,r1,m1⟩ ⟨env,σ,0,b2,r2,m2⟩:=by
 subst ho;exact .re _ ⟨akx l hn h,rfl,fun i hi=>absurd hi (dA _),fun t=>by have:=he.at_ t;rwa [aV]at this⟩
theorem aoJ(t n:Nat)(rs:List Oj)(acc:List V)(st:St)(k:V->Prop):Ol (.cell t n true::rs) acc st k=oC (rowAt st.objs (st.env t)) fun p=>if p.2+n<=p.1.length then EM (.agg ((p.1.drop p.2).take n)) fun v=>Ol rs (v::acc) st k else False:=by
 simp only [Ol,Oj.get]
 cases e:rowAt st.objs (st.env t)with
 |none=>rfl
 |
  some p =>
  by_cases h:p.2+n<=p.1.length
  ·simp only [oC,if_true,EM,qQ,aQ h]
  simp only [oC,if_true,EM,qQ,aO h]
theorem aoK{c:Prop} [Decidable c] {α:Type} {a b:Option α} (h:c):(if c then a else b)=a:=by rw [aQ h]
def MR(env:Nat->V)(sz:Nat):List (List V)->List (Nat×Src)->(List (List V)->Prop)->Prop
 |rows,[],k=>k rows
 |rows,(i,s)::rest,k=>sU (s.ev env) fun cs=>(cs.length=sz/\i<rows.length)/\MR env sz (rows.set i cs) rest k
@[congr] theorem avO {env:Nat->V} {sz:Nat} {r r':List (List V)} {ps:List (Nat×Src)} {k:List (List V)->Prop} (h:wr r=r'):MR env sz r ps k=MR env sz r' ps k:=by rw [<-h,qQ]
theorem akD(env:Nat->V)(sz:Nat)(rows:List (List V))(k:List (List V)->Prop):MR env sz rows [] k=k rows:=nr rfl
theorem akE(env:Nat->V)(sz:Nat)(r:List V)(rows:List (List V))(i:Nat)(s:Src)(rest:List (Nat×Src))(k:List (List V)->Prop) :
  MR env sz (r::rows) ((i,s)::rest) k=sU (s.ev env) fun cs=>(cs.length=sz/\i<(r::rows).length)/\MR env sz ((r::rows).set i cs) rest k:=nr rfl
theorem ZH{env:Nat->V}{sz:Nat}:∀{ps:List (Nat×Src)} {rows:List (List V)} {k:List (List V)->Prop},oC (uQ env sz rows ps) k=MR env sz rows ps k
 | [],rows,k=>rfl
 |
  (i,s)::rest,rows,k=>by
  simp only [uQ,MR,sU]
  cases h:(s.ev env).cells? with
  |none=>rfl
  |
   some cs =>
   simp only [oC];by_cases hc:cs.length=sz/\i<rows.length
   ·rw [aQ hc];simp only [hc,and_self,true_and];exact ZH
   rw [aO hc];simp only [hc,false_and]
theorem aoL(env:Nat->V)(σ:Store)(k:Eff->Prop)(sz:Nat)(z:List V)(n:Nat)(ps:List (Nat×Src)):I.oL env σ (.nM sz z (n+1) ps) k=MR env sz (List.replicate (n+1) z) ps fun rows=>k (.newS ⟨sz,rows⟩ (n+1)):=by
 rw [asE,ZH]
 congr 1
theorem aoM(env:Nat->V)(σ:Store)(k:Eff->Prop)(sz:Nat)(z:List V):I.oL env σ (.nM sz z 0 []) k=k (.val .jZ):=nr rfl
def Sr(env:Nat->V):List V->List (Nat×Nat×Src)->(List V->Prop)->Prop
 |row,[],k=>k row
 |row,(off,n,s)::rest,k=>sU (s.ev env) fun cs=>(cs.length=n/\off+n<=row.length)/\Sr env (splice row off cs) rest k
@[congr] theorem axt {env:Nat->V} {r r':List V} {ps:List (Nat×Nat×Src)} {k:List V->Prop} (h:wr r=r'):Sr env r ps k=Sr env r' ps k:=by rw [<-h,qQ]
theorem aoN(env:Nat->V)(row:List V)(k:List V->Prop):Sr env row [] k=k row:=nr rfl
theorem aoO(env:Nat->V)(c:V)(row:List V)(off n:Nat)(s:Src)(rest:List (Nat×Nat×Src))(k:List V->Prop) :
  Sr env (c::row) ((off,n,s)::rest) k=sU (s.ev env) fun cs=>(cs.length=n/\off+n<=(c::row).length)/\Sr env (splice (c::row) off cs) rest k:=nr rfl
theorem acJ{env:Nat->V}:∀{ps:List (Nat×Nat×Src)} {row:List V} {k:List V->Prop},oC (BI env row ps) k=Sr env row ps k
 | [],row,k=>rfl
 |
  (off,n,s)::rest,row,k=>by
  simp only [BI,Sr,sU]
  cases h:(s.ev env).cells? with
  |none=>rfl
  |
   some cs =>
   simp only [oC];by_cases hc:cs.length=n/\off+n<=row.length
   ·rw [aQ hc];simp only [hc,and_self,true_and];exact acJ
   rw [aO hc];simp only [hc,false_and]
theorem akF(env:Nat->V)(σ:Store)(k:Eff->Prop)(z:List V)(ps:List (Nat×Nat×Src)):I.oL env σ (.build z ps) k=Sr env z ps fun cs=>EM (.agg cs) fun v=>k (.val v):=by
 rw [aol,acJ];rfl
def ae5:Option Src->(Nat->V)->Nat->(Nat->Prop)->Prop
 |none,_,n,k=>QN n k
 |some h,env,n,k=>um n (h.ev env) k
def ae6:Option Src->(Nat->V)->Nat->(Nat->Prop)->Prop
 |none,_,_,k=>k 0
 |some h,env,n,k=>um n (h.ev env) k
theorem ate(env:Nat->V)(n:Nat)(k:Nat->Prop):ae5 none env n k=QN n k:=nr rfl
theorem atf(h:Src)(env:Nat->V)(n:Nat)(k:Nat->Prop):ae5 (some h) env n k=um n (h.ev env) k:=nr rfl
theorem atg(env:Nat->V)(n:Nat)(k:Nat->Prop):ae6 none env n k=k 0:=nr rfl
theorem ath(h:Src)(env:Nat->V)(n:Nat)(k:Nat->Prop):ae6 (some h) env n k=um n (h.ev env) k:=nr rfl
@[congr] theorem aA4 {o:Option Src} {env:Nat->V} {n n':Nat} {k:Nat->Prop} (h:wr n=n'):ae5 o env n k=ae5 o env n' k:=by rw [<-h,qQ]
@[congr] theorem aA5 {o:Option Src} {env:Nat->V} {n n':Nat} {k:Nat->Prop} (h:wr n=n'):ae6 o env n k=ae6 o env n' k:=by rw [<-h,qQ]
theorem aoP(env:Nat->V)(σ:Store)(k:Eff->Prop)(sz:Nat)(x:Src)(lo hi:Option Src):I.oL env σ (.slice sz x lo hi) k =
  oC (lenOf σ (x.ev env)) fun n=>ae5 hi env n fun h=>ae6 lo env h fun l=>slK (x.ev env) (EM .jZ fun v=>k (.val v)) (fun sz' rows=>sz'=sz/\EM (.sl sz' ((rows.take h).drop l)) fun v=>k (.val v))
   (fun o s _=>oC (jX σ o) fun ob=>ob.sz=sz/\EM (.lG o (s+l) (h-l)) fun v=>k (.val v)):=by
 simp only [I.oL]
 congr 1
 funext n
 cases hi<;>cases lo<;>simp only [ae5,ae6,QN,EM]<;>(cases x.ev env<;>rfl)
theorem akG(env:Nat->V)(σ:Store)(k:Eff->Prop)(x:Src)(lo hi:Option Src):I.oL env σ (.QD x lo hi) k =
  aiH (x.ev env) fun s=>ae5 hi env s.length fun h=>ae6 lo env h fun l=>EM (.str ((s.take h).drop l)) fun v=>k (.val v):=by
 simp only [I.oL]
 cases x.ev env<;>first|rfl|(cases hi<;>cases lo<;>rfl)
theorem PF.lax{T:Tb}{f:Nat}{as as':List V}{r r':V}(h:PF T f as r)(ha:wS as as')(hr:mP r' r):PF T f as' r':=Run.aau ha h hr
def val:List Int->Nat
 | []=>0
 |d::l=>d.toNat+1000000000*val l
def mk(n:Nat):List Int:=if h:n=0 then []else((n % 1000000000:Nat):Int)::mk (n / 1000000000)
termination_by n
decreasing_by omega
def Lb(l:List Int):Prop:=∀d∈l,0<=d/\d<1000000000
theorem mk_zero:mk 0=[]:=by rw [mk];rfl
theorem mk_pos{n:Nat}(h:n≠0):mk n=((n % 1000000000:Nat):Int)::mk (n / 1000000000):=by rw [mk];rw [dif_neg h]
theorem val_mk(n:Nat):val (mk n)=n:=by
 induction n using Nat.strongRecOn with
 |
  ind n ih =>
  by_cases h:n=0
  ·subst h;rw [mk_zero];rfl
  rw [mk_pos h];simp only [val];rw [ih _ (by omega),fQ];omega
theorem vH(n:Nat):Lb (mk n):=by
 induction n using Nat.strongRecOn with
 |
  ind n ih =>
  by_cases h:n=0
  ·subst h;rw [mk_zero];intro d hd;cases hd
  rw [mk_pos h];intro d hd;rcases aI.1 hd with rfl|hd
  ·omega
  exact ih _ (by omega) d hd
theorem val_append(a b:List Int):val (a++b)=val a+1000000000 ^ a.length*val b:=by
 induction a with
 |nil=>simp [val]
 |
  cons d a ih =>
  simp only [dL,val,ih,ak,jd,jq];rw [dP (1000000000 ^ a.length) 1000000000,gQ];omega
theorem y7{l:List Int}(h:Lb l):val l<1000000000 ^ l.length:=by
 induction l with
 |nil=>simp [val]
 |
  cons d l ih =>
  have h1:=h d (by simp);have h2:=ih fun x hx=>h x (by simp [hx]);simp only [val,ak,jd];have:d.toNat<1000000000:=by omega
  generalize 1000000000 ^ l.length=p at *;omega
theorem Xu(n:Nat):∀(l:List Int),Lb l->val l=n->n≠0->l.getLast? ≠ some 0->mk n=l:=by
 induction n using Nat.strongRecOn with
 |
  ind n ih =>
  intro l hl hv hn ht
  cases l with
  |nil=>simp [val]at hv;omega
  |
   cons d l =>
   have hd:=hl d (by simp);have hl':Lb l:=fun x hx=>hl x (by simp [hx]);simp only [val]at hv;rw [mk_pos hn];have e1:((n % 1000000000:Nat):Int)=d:=by omega
   have e2:n / 1000000000=val l:=by omega
   rw [e1,e2]
   congr 1
   by_cases h0:val l=0
   ·rw [h0,mk_zero];have hz:∀(l:List Int),Lb l->val l=0->∀x∈l,x=0:=by
     intro l
     induction l with
     |nil=>intro _ _ x hx;cases hx
     |
      cons y l ih2 =>
      intro hl hv x hx;simp only [val]at hv;have hy:=hl y (by simp);rcases aI.1 hx with rfl|hx
      ·omega
      exact ih2 (fun z hz=>hl z (by simp [hz])) (by omega) x hx
    cases l with
    |nil=>rfl
    |
     cons y l =>
     exfalso
     apply ht
     have hlast:(d::y::l).getLast? = some ((y::l).getLast (by simp)):=by
      rw [List.getLast?_cons_cons,List.getLast?_eq_some_getLast (by simp)]
     rw [hlast]
     congr 1
     exact hz _ hl' h0 _ (List.getLast_mem _)
   refine ih (val l) (by omega) l hl' rfl h0 ?_
   cases l with
   |nil=>simp [val]at h0
   |cons y l=>rwa [List.getLast?_cons_cons]at ht
def Can(l:List Int):Prop:=Lb l/\l.getLast? ≠ some 0
theorem mk_val{l:List Int}(h:Can l):mk (val l)=l:=by
 by_cases h0:val l=0
 ·rw [h0,mk_zero]
  cases l with
  |nil=>rfl
  |
   cons d l =>
   exfalso
   apply h.2
   have hz:∀(l:List Int),Lb l->val l=0->∀x∈l,x=0:=by
    intro l
    induction l with
    |nil=>intro _ _ x hx;cases hx
    |
     cons y l ih2 =>
     intro hl hv x hx;simp only [val]at hv;have hy:=hl y (by simp);rcases aI.1 hx with rfl|hx
     ·omega
     exact ih2 (fun z hz=>hl z (by simp [hz])) (by omega) x hx
   rw [List.getLast?_eq_some_getLast (by simp)]
   congr 1
   exact hz _ h.1 h0 _ (List.getLast_mem _)
 exact Xu _ l h.1 rfl h0 h.2
theorem wC(n:Nat):Can (mk n):=by
 refine⟨vH n,?_⟩
 induction n using Nat.strongRecOn with
 |
  ind n ih =>
  by_cases h:n=0
  ·subst h;rw [mk_zero];simp
  rw [mk_pos h];by_cases h1:n / 1000000000=0
  ·rw [h1,mk_zero];simp;omega
  rw [mk_pos h1,List.getLast?_cons_cons,<-mk_pos h1];exact ih _ (by omega)
theorem lS{n k:Nat}:(mk n).length<=k↔n<1000000000 ^ k:=by
 constructor
 ·intro h;have h1:=y7 (vH n);rw [val_mk]at h1;exact bn h1 (gu (by omega) h)
 induction k generalizing n with
 |zero =>
      intro h;have:n=0:=by simpa using h
      subst this;rw [mk_zero];simp
 |
  succ k ih =>
  intro h;by_cases h0:n=0
  ·subst h0;rw [mk_zero];simp
  rw [mk_pos h0,ak];have:n / 1000000000<1000000000 ^ k:=by
   rw [jd,dP]at h;exact jk h
  have:=ih this;omega
theorem ZI{n k:Nat}:k<(mk n).length↔1000000000 ^ k<=n:=by
 have:=@lS n k;omega
theorem akH{n:Nat}:mk n=[]↔n=0:=by
 constructor
 ·intro h;have:=val_mk n;rw [h]at this;simpa [val]using this.symm
 rintro rfl;exact mk_zero
theorem akI{n:Nat}(h:n≠0):0<(mk n).length:=by
 rw [mk_pos h];simp
theorem aiK{l:List Int}(h:Lb l)(hv:l≠[]->1000000000 ^ (l.length-1)<=val l):Can l:=by
 refine⟨h,fun ht=>?_⟩
 cases hl:l with
 |nil=>rw [hl]at ht;simp at ht
 |
  cons d r =>
  have hne:l≠[]:=by rw [hl];simp
  have h1:=hv hne;have h2:l=l.dropLast++[0]:=by
   have:=List.dropLast_concat_getLast hne;rw [List.getLast?_eq_some_getLast hne]at ht;rw [Option.some.inj ht]at this;exact this.symm
  have h3:Lb l.dropLast:=fun x hx=>h x (List.dropLast_subset _ hx);have h4:=y7 h3;rw [h2,val_append]at h1;simp only [val,aS,ak,aG,List.length_dropLast]at h1 h4;simp at h1;omega
def xM(l:List Int):Nat->Nat
 |0=>0
 |n+1=>if l.getD n 0=0 then xM l n else n+1
def trim(l:List Int):List Int:=l.take (xM l l.length)
theorem acK(l:List Int):∀n,xM l n<=n
 |0=>aK _
 |n+1=>by simp only [xM];split;exact Nat.le_succ_of_le (acK l n);exact aK _
theorem oD{l:List Int}{n:Nat}(h:n<l.length):l.take (n+1)=l.take n++[l.getD n 0]:=by
 rw [jf];simp [aj,h]
theorem ZJ(l:List Int):∀n,n<=l.length->val (l.take (xM l n))=val (l.take n)/\(l.take (xM l n)).getLast? ≠ some 0
 |0,_=>by simp [xM]
 |
  n+1,h=>by
  simp only [xM];obtain⟨h1,h2⟩:=ZJ l n (by omega);split
  ·rename_i h0;refine⟨?_,h2⟩;rw [h1,oD (by omega),h0,val_append];simp [val]
  rename_i h0;refine⟨rfl,?_⟩;rw [oD (by omega)];simp only [List.getLast?_append,List.getLast?_singleton,Option.some_or,ne_eq,aB];exact h0
theorem aaN{l:List Int}(h:Lb l)(n:Nat):Lb (l.take n):=fun x hx=>h x (dM hx)
theorem BJ{l:List Int}(h:Lb l):trim l=mk (val l):=by
 obtain⟨h1,h2⟩:=ZJ l l.length (aK _);rw [bK]at h1;have hc:Can (trim l):=⟨aaN h _,h2⟩;rw [<-h1];exact(mk_val hc).symm
theorem Xv{l:List Int}(h:Can l):trim l=l:=by rw [BJ h.1,mk_val h]
theorem ae7:Lb []:=fun x hx=>by cases hx
theorem aaO{d:Int}{l:List Int}(h0:0<=d)(h1:d<1000000000)(h:Lb l):Lb (l++[d]):=by
 intro x hx;rcases aN.1 hx with hx|hx
 ·exact h x hx
 simp at hx;subst hx;exact⟨h0,h1⟩
theorem MS{l:List Int}{d:Int}{i:Nat}(h0:0<=d)(h1:d<1000000000)(h:Lb l):Lb (l.set i d):=by
 intro x hx;rcases List.mem_or_eq_of_mem_set hx with hx|rfl
 ·exact h x hx
 exact⟨h0,h1⟩
theorem vI{l:List Int}(h:Lb l)(i:Nat):0<=l.getD i 0/\l.getD i 0<1000000000:=by
 by_cases hi:i<l.length
 ·rw [aj,au hi];exact h _ (jO _)
 rw [aj,aZ (by omega)];simp
theorem QS(n:Nat):Lb (List.replicate n 0):=by
 intro x hx;have:=jw hx;subst this;omega
theorem yw(l:List Int)(d:Int):val (l++[d])=val l+1000000000 ^ l.length*d.toNat:=by
 rw [val_append];simp [val]
theorem akJ{l:List Int}{i:Nat}(h:i<l.length):val (l.drop i)=(l.getD i 0).toNat+1000000000*val (l.drop (i+1)):=by
 rw [dH h];simp [val,aj,h]
theorem mV{l:List Int}{i:Nat}(h:l.length<=i):val (l.drop i)=0:=by
 rw [fC h];rfl
theorem Bc(l:List Int)(i:Nat):val l=val (l.take i)+1000000000 ^ (l.take i).length*val (l.drop i):=by
 rw [<-val_append,iD]
theorem agQ(n:Nat):val (List.replicate n 0)=0:=by
 induction n with
 |zero=>rfl
 |succ n ih=>simp [List.replicate_succ,val,ih]
theorem Ws{l:List Int}{i:Nat}{d:Int}(h:i<l.length):val (l.set i d)+1000000000 ^ i*(l.getD i 0).toNat=val l+1000000000 ^ i*d.toNat:=by
 induction l generalizing i with
 |nil=>simp at h
 |
  cons x l ih =>
  cases i with
  |zero=>simp [val];omega
  |
   succ i =>
   have:=ih (i:=i) (by simpa using h);simp only [List.set_cons_succ,val,jd];have e:(x::l).getD (i+1) 0=l.getD i 0:=by simp
   rw [e];have e1:∀z,1000000000 ^ i*1000000000*z=1000000000*(1000000000 ^ i*z):=fun z=>by rw [dP (1000000000 ^ i) 1000000000,gQ]
   rw [e1,e1];generalize 1000000000 ^ i*(l.getD i 0).toNat=p at *;generalize 1000000000 ^ i*d.toNat=q at *;omega
def LC(a b:Nat):Int:=if a<b then -1 else if b<a then 1 else 0
theorem val_last{l:List Int}{n:Nat}(h:n<l.length):val (l.take (n+1))=val (l.take n)+1000000000 ^ n*(l.getD n 0).toNat:=by
 have e:(l.take n).length=n:=by simp;omega
 rw [oD h,yw,e]
theorem ae8{l:List Int}(h:Can l)(hne:l≠[]):1000000000 ^ (l.length-1)<=val l:=by
 have h1:=@ZI (val l) (l.length-1);rw [mk_val h]at h1
 apply h1.1
 have:l.length≠0:=fun e=>hne (aY e);omega
theorem yI{a b:List Int}(ha:Lb a)(hb:Can b)(h:a.length<b.length):val a<val b:=by
 have h1:=y7 ha;have hne:b≠[]:=by intro e;subst e;simp at h
 have h2:=ae8 hb hne;exact bn h1 (dw (gu (by omega) (by omega)) h2)
theorem PL{a b:List Int}(ha:Lb a)(hb:Lb b){i:Nat}(hia:i<a.length)(hib:i<b.length)(hd:a.drop (i+1)=b.drop (i+1))(hlt:a.getD i 0<b.getD i 0):val a<val b:=by
 rw [Bc a (i+1),Bc b (i+1),hd,val_last hia,val_last hib];have h1:=y7 (aaN ha i);have e1:(a.take (i+1)).length=i+1:=by simp;omega
 have e2:(b.take (i+1)).length=i+1:=by simp;omega
 have e3:(a.take i).length=i:=by simp;omega
 rw [e1,e2];rw [e3]at h1;have h2:=vI ha i;have h3:=vI hb i;have:1000000000 ^ i*(a.getD i 0).toNat+1000000000 ^ i<=1000000000 ^ i*(b.getD i 0).toNat:=by
  rw [<-Nat.mul_succ];exact Nat.mul_le_mul_left _ (by omega)
 omega
structure R where
 neg:Bool
 mag:List Int
 den:List Int
 deriving DecidableEq
instance:Inhabited R:=⟨⟨false,[],[]⟩⟩
def fits(q:Rat):Bool:=decide (q.num.natAbs<1000000000 ^ 24)&&decide (q.den<1000000000 ^ 24)
abbrev Q:=Option Rat
def norm(q:Rat):Q:=if fits q=true then some q else none
def Q.raw:Q->R
 |none=>⟨false,[],[]⟩
 |some q=>⟨decide (q.num<0),mk q.num.natAbs,mk q.den⟩
def Q.ok:Q->Prop
 |none=>True
 |some q=>fits q=true
theorem aaP(q:Rat):(norm q).ok:=by
 unfold norm;split
 ·assumption
 trivial
theorem yJ{q:Rat}(h:fits q=true):norm q=some q:=by unfold norm;rw [aQ h]
theorem ZK{q:Rat}(h:fits q=false):norm q=none:=by unfold norm;rw [aO (by simp [h])]
def negQ:Q->Q
 |some a=>some (-a)
 |none=>none
def Om:Q->Q->Q
 |some a,some b=>norm (a+b)
 |_,_=>none
def ae9(a b:Q):Q:=Om a (negQ b)
def VL:Q->Q->Q
 |some a,some b=>norm (a*b)
 |_,_=>none
def VN:Q->Q->Q
 |some a,some b=>if b=0 then none else norm (a / b)
 |_,_=>none
def RJ(n d:Int):Q:=if d=0 then none else norm (Rat.divInt n d)
def ZL(n:Int):Int:=if n<0 then -1 else if n=0 then 0 else 1
def xO:Q->Int
 |some a=>ZL a.num
 |none=>0
def ati(n:Int):Q:=some (n:Rat)
theorem Sv{a:Q}(h:a.ok):(negQ a).ok:=by
 cases a with
 |none=>trivial
 |
  some a =>
  simp only [negQ,Q.ok,fits,Rat.neg_num,Rat.neg_den,Int.natAbs_neg]at h ⊢;exact h
theorem aaQ(a b:Q):(Om a b).ok:=by
 unfold Om;split<;>first|exact aaP _|trivial
theorem agR(a b:Q):(ae9 a b).ok:=aaQ _ _
theorem agS(a b:Q):(VL a b).ok:=by
 unfold VL;split<;>first|exact aaP _|trivial
theorem agT(a b:Q):(VN a b).ok:=by
 unfold VN;split<;>first|(split<;>first|exact aaP _|trivial)|trivial
theorem agU{n:Int}(h:n.natAbs<1000000000 ^ 24):(ati n).ok:=by
 have h1:decide (n.natAbs<1000000000 ^ 24)=true:=aT h;show (decide ((n:Rat).num.natAbs<1000000000 ^ 24)&&decide ((n:Rat).den<1000000000 ^ 24))=true;rw [Rat.num_intCast,Rat.den_intCast,h1];rfl
theorem aaR(a b:Rat):RJ (a.num*b.den+b.num*a.den) (a.den*b.den)=norm (a+b):=by
 have ha:=a.den_nz;have hb:=b.den_nz;have h0:(a.den:Int)*b.den≠0:=by
  intro h;rcases Int.mul_eq_zero.1 h with h|h<;>omega
 unfold RJ;rw [aO h0,Rat.add_def',<-Rat.divInt_ofNat];simp
theorem aaS(a b:Rat):RJ (a.num*b.num) (a.den*b.den)=norm (a*b):=by
 have ha:=a.den_nz;have hb:=b.den_nz;have h0:(a.den:Int)*b.den≠0:=by
  intro h;rcases Int.mul_eq_zero.1 h with h|h<;>omega
 unfold RJ;rw [aO h0,Rat.mul_def',<-Rat.divInt_ofNat];simp
theorem aaT(a b:Rat):RJ (a.num*b.den) (b.num*a.den)=if b=0 then none else norm (a / b):=by
 have ha:=a.den_nz;have hb:=b.den_nz;unfold RJ;by_cases h:b=0
 ·subst h;simp
 have hn:b.num≠0:=fun k=>h (Rat.num_eq_zero.1 k);have h0:b.num*(a.den:Int)≠0:=by
  intro h;rcases Int.mul_eq_zero.1 h with h|h<;>omega
 rw [aO h0,aO h,fK,Rat.inv_def]
 congr 1
 conv=>rhs;lhs;rw [<-Rat.num_divInt_den a]
 rw [Rat.divInt_mul_divInt,Int.mul_comm b.num]
theorem afa{n d:Int}(h:d≠0):(Rat.divInt n d).num.natAbs=n.natAbs / Nat.gcd n.natAbs d.natAbs/\(Rat.divInt n d).den=d.natAbs / Nat.gcd n.natAbs d.natAbs /\
  (decide ((Rat.divInt n d).num<0)=(decide (n≠0)&&(decide (n<0) != decide (d<0)))):=by
 have hg:d.gcd n=Nat.gcd n.natAbs d.natAbs:=by rw [Int.gcd_comm];rfl
 have axu:0<Nat.gcd n.natAbs d.natAbs:=jy _ (by omega);have hdvd:((Nat.gcd n.natAbs d.natAbs:Nat):Int)∣d.sign*n:=by
  have:((Nat.gcd n.natAbs d.natAbs:Nat):Int)∣n:=Int.ofNat_dvd_left.2 (Nat.gcd_dvd_left _ _);exact Int.dvd_trans this (Int.dvd_mul_left _ _)
 rw [Rat.num_divInt,Rat.den_divInt,aO h,hg];obtain⟨c,hc⟩:=hdvd;have hsg:d.sign=1\/d.sign = -1:=by
  rcases Int.lt_trichotomy d 0 with h1|h1|h1
  ·right;exact Int.sign_eq_neg_one_of_neg h1
  ·exact absurd h1 h
  left;exact Int.sign_eq_one_of_pos h1
 refine⟨?_,rfl,?_⟩
 ·rw [hc,Int.mul_ediv_cancel_left _ (by omega)];have h1:(d.sign*n).natAbs=n.natAbs:=by
   rcases hsg with e|e<;>rw [e]<;>simp
  have h2:n.natAbs=Nat.gcd n.natAbs d.natAbs*c.natAbs:=by
   have h3:=congrArg Int.natAbs hc;rw [h1,iP,dB]at h3;exact h3
  generalize hG:Nat.gcd n.natAbs d.natAbs=G at *;rw [h2,Nat.mul_div_cancel_left _ axu]
 rw [hc,Int.mul_ediv_cancel_left _ (by omega)];have hcn:(c<0)↔(d.sign*n<0):=by
  rw [hc];constructor
  ·intro hlt;exact Int.mul_neg_of_pos_of_neg (by omega) hlt
  intro hlt;by_cases k:c<0
  ·exact k
  have k:0<=c:=by omega
  have:=Int.mul_nonneg (by omega:(0:Int)<=((Nat.gcd n.natAbs d.natAbs:Nat):Int)) k;omega
 rcases Int.lt_trichotomy d 0 with h1|h1|h1
 ·rw [Int.sign_eq_neg_one_of_neg h1]at hcn;have e1:decide (d<0)=true:=by simpa using h1
  rw [e1];by_cases hn:n<0
  ·have:¬c<0:=by rw [hcn];omega
   simp [hn,this]
  by_cases hn0:n=0
  ·have:¬c<0:=by rw [hcn];omega
   simp [hn0,this]
  have:c<0:=by rw [hcn];omega
  simp [hn,hn0,this]
 ·exact absurd h1 h
 rw [Int.sign_eq_one_of_pos h1]at hcn;have e1:decide (d<0)=false:=by simp;omega
 rw [e1];by_cases hn:n<0
 ·have:c<0:=by rw [hcn];omega
  have h2:n≠0:=by omega
  simp [hn,this,h2]
 have:¬c<0:=by rw [hcn];omega
 simp [hn,this]
def yx(a:List Int):Bool:=decide (a.length<=60)&&a.all (fun d=>decide (0<=d)&&decide (d<1000000000))&&(a.isEmpty||decide (a.getD (a.length-1) 0≠0))
theorem PN{a:List Int}:yx a=true↔a.length<=60/\Can a:=by
 unfold yx Can Lb;simp only [aH,bf,aX,dQ,List.isEmpty_iff];have h:(a=[]\/a.getD (a.length-1) 0≠0)↔a.getLast? ≠ some 0:=by
  cases a with
  |nil=>simp
  |
   cons d l =>
   rw [List.getLast?_eq_getElem?,aj];simp
 rw [h,and_assoc]
theorem LD{a:List Int}(h:yx a=true):a=mk (val a):=(mk_val (PN.1 h).2).symm
theorem Xw{n:Nat}(h:n<1000000000 ^ 60):yx (mk n)=true:=PN.2 ⟨lS.2 h,wC n⟩
def R.ok(r:R):Bool:=yx r.mag&&(!(r.neg&&r.mag.isEmpty))&&yx r.den && !r.den.isEmpty&&decide (r.mag.length<=24)&&decide (r.den.length<=24) &&
 decide (Nat.gcd (val r.mag) (val r.den)=1)
theorem atj{q:Rat}(h:fits q=true):(Q.raw (some q)).ok=true:=by
 simp only [fits,aH,bf]at h;obtain⟨h1,h2⟩:=h;have p:(1000000000:Nat) ^ 24<=1000000000 ^ 60:=gu (by omega) (by omega);unfold R.ok Q.raw;simp only [aH,bf,iI,jS,List.isEmpty_eq_false_iff,val_mk];refine⟨⟨⟨⟨⟨⟨Xw (by omega),?_⟩,Xw (by omega)⟩,?_⟩,lS.2 h1⟩,lS.2 h2⟩,q.reduced⟩
 ·by_cases h0:q.num<0
  ·right;intro e;rw [akH]at e;omega
  left;exact bI h0
 intro e;rw [akH]at e;exact q.den_nz e
theorem H9{r:R}(h:r.ok=true):∃q:Rat,fits q=true/\r=Q.raw (some q):=by
 obtain⟨neg,mag,den⟩:=r;unfold R.ok at h;simp only [aH,bf,iI,jS,List.isEmpty_eq_false_iff]at h;obtain⟨⟨⟨⟨⟨⟨h1,h2⟩,h3⟩,h4⟩,h5⟩,h6⟩,h7⟩:=h;have em:=LD h1;have ed:=LD h3;have hdn:val den≠0:=by intro e;rw [e,mk_zero]at ed;exact h4 ed
 refine⟨⟨if neg then -(val mag:Int)else val mag,val den,hdn,?_⟩,?_,?_⟩
 ·unfold Nat.Coprime
  cases neg<;>simpa using h7
 ·simp only [fits,aH,bf];rw [em]at h5;rw [ed]at h6;rw [lS]at h5 h6;refine⟨?_,h6⟩
  cases neg<;>simpa using h5
 simp only [Q.raw,R.mk.injEq];refine⟨?_,?_,ed⟩
 ·cases neg with
  |false=>simp
  |
   true =>
   simp only [if_true];rcases h2 with h2|h2
   ·cases h2
   have:val mag≠0:=by intro e;rw [e,mk_zero]at em;exact h2 em
   simp;omega
 have:(if neg=true then -(val mag:Int)else(val mag:Int)).natAbs=val mag:=by cases neg<;>simp
 rw [this];exact em
theorem acL:(Q.raw none).ok=false:=by decide
def R.q(r:R):Q:=if r.ok=true then some (mkRat (if r.neg then -(val r.mag:Int)else val r.mag) (val r.den))else none
theorem Dp{q:Q}(h:q.ok):(Q.raw q).q=q:=by
 cases q with
 |none=>unfold R.q;rw [acL];rfl
 |
  some q =>
  have h':fits q=true:=h;unfold R.q;rw [aQ (atj h')]
  congr 1
  simp only [Q.raw,val_mk];have:(if decide (q.num<0)=true then -(q.num.natAbs:Int)else(q.num.natAbs:Int))=q.num:=by
   split
   ·rename_i h;have h:=of_decide_eq_true h;omega
   rename_i h;have h:¬q.num<0:=fun k=>h (aT k);omega
  rw [this,Rat.mkRat_self]
theorem Kt(r:R):r.q.ok:=by
 by_cases h:r.ok=true
 ·obtain⟨q,h1,rfl⟩:=H9 h;rw [Dp (q:=some q) h1];exact h1
 unfold R.q;rw [aO h];trivial
theorem axv{r:R}(h:r.ok=true):Q.raw r.q=r:=by
 obtain⟨q,h1,rfl⟩:=H9 h;rw [Dp (q:=some q) h1]
theorem afb{r:R}:r.q.isSome=r.ok:=by
 unfold R.q;split<;>simp_all
abbrev iv(n:Int):V:=.int .i64 n
structure Lk where
 a:Int
 b:Int
 w:R
 dx:R
 dy:R
 deriving Inhabited,DecidableEq
structure Pt where
 x:R
 y:R
 deriving Inhabited,DecidableEq
structure Pa where
 node:Int
 share:R
 dx:R
 dy:R
 deriving Inhabited,DecidableEq
structure Cd where
 node:Int
 total:R
 ps:List Pa
 deriving Inhabited,DecidableEq
structure Tn where
 node:Int
 up:Int
 own:List Lk
 cond:Cd
 msgs:List Lk
 MV:R
 deriving Inhabited,DecidableEq
structure Po where
 turn:Int
 x:Int
 y:Int
 deriving Inhabited,DecidableEq
structure Bi where
 neg:Bool
 mag:List Int
 deriving Inhabited,DecidableEq
abbrev R.num(r:R):Bi:=⟨r.neg,r.mag⟩
abbrev Bi.cells(z:Bi):List V:=[.bool z.neg,ints z.mag]
abbrev R.cells(r:R):List V:=[.bool r.neg,ints r.mag,ints r.den]
abbrev Lk.cells(l:Lk):List V:=[iv l.a,iv l.b,.bool l.w.neg,ints l.w.mag,ints l.w.den,.bool l.dx.neg,ints l.dx.mag,ints l.dx.den,.bool l.dy.neg,ints l.dy.mag,ints l.dy.den]
abbrev Pt.cells(p:Pt):List V:=[.bool p.x.neg,ints p.x.mag,ints p.x.den,.bool p.y.neg,ints p.y.mag,ints p.y.den]
abbrev Pa.cells(p:Pa):List V:=[iv p.node,.bool p.share.neg,ints p.share.mag,ints p.share.den,.bool p.dx.neg,ints p.dx.mag,ints p.dx.den,.bool p.dy.neg,ints p.dy.mag,ints p.dy.den]
abbrev QT(l:List Pa):V:=.sl 10 (l.map Pa.cells)
abbrev nY(l:List Lk):V:=.sl 11 (l.map Lk.cells)
abbrev VO(l:List Pt):V:=.sl 6 (l.map Pt.cells)
abbrev oZ(l:List R):V:=.sl 3 (l.map R.cells)
abbrev Cd.cells(c:Cd):List V:=[iv c.node,.bool c.total.neg,ints c.total.mag,ints c.total.den,QT c.ps]
abbrev Tn.cells(t:Tn):List V:=[iv t.node,iv t.up,nY t.own,iv t.cond.node,.bool t.cond.total.neg,ints t.cond.total.mag,ints t.cond.total.den,QT t.cond.ps,nY t.msgs,
 .bool t.MV.neg,ints t.MV.mag,ints t.MV.den]
abbrev aCt(l:List Tn):V:=.sl 12 (l.map Tn.cells)
abbrev rG(l:List (List R)):V:=.sl 1 (l.map fun r=>[oZ r])
abbrev Po.cells(p:Po):List V:=[iv p.turn,iv p.x,iv p.y]
abbrev kW(r:R):V:=.agg r.cells
abbrev Wu(z:Bi):V:=.agg z.cells
abbrev RN(l:Lk):V:=.agg l.cells
abbrev ptV(p:Pt):V:=.agg p.cells
abbrev Y6(c:Cd):V:=.agg c.cells
theorem mg{α:Type} [Inhabited α] {l:List α} {f:α->List V} {j:Nat} (h:j<l.length):(l.map f).getD j []=f (l.getD j default):=by
 simp [aj,au h]
theorem mg?{α:Type} [Inhabited α] {l:List α} {f:α->List V} {j:Nat} (h:j<l.length):(l.map f)[j]? = some (f (l.getD j default)):=by
 simp [aj,au h]
theorem R.ext'{p q:R}(h1:p.neg=q.neg)(h2:p.mag=q.mag)(h3:p.den=q.den):p=q:=by cases p;cases q;simp_all
theorem Pt.ext'{p q:Pt}(h1:p.x=q.x)(h2:p.y=q.y):p=q:=by cases p;cases q;simp_all
theorem Lk.ext'{p q:Lk}(h1:p.a=q.a)(h2:p.b=q.b)(h3:p.w=q.w)(h4:p.dx=q.dx)(h5:p.dy=q.dy):p=q:=by cases p;cases q;simp_all
theorem Pa.ext'{p q:Pa}(h1:p.node=q.node)(h2:p.share=q.share)(h3:p.dx=q.dx)(h4:p.dy=q.dy):p=q:=by cases p;cases q;simp_all
theorem Cd.ext'{p q:Cd}(h1:p.node=q.node)(h2:p.total=q.total)(h3:p.ps=q.ps):p=q:=by cases p;cases q;simp_all
theorem Tn.ext'{p q:Tn}(h1:p.node=q.node)(h2:p.up=q.up)(h3:p.own=q.own)(h4:p.cond=q.cond)(h5:p.msgs=q.msgs)(h6:p.MV=q.MV):p=q:=by cases p;cases q;simp_all
def szr(left:Int)(n:Nat):Int:=if left<n then -1 else left-n
def PS{α:Type}(f:α->Nat)(l:List α):Nat:=l.length+(l.map f).sum
theorem QU{α:Type}(f:α->Nat)(l:List α):PS f l=l.length+(l.map f).sum:=rfl
def R.sz(r:R):Nat:=r.mag.length+r.den.length
def Lk.sz(l:Lk):Nat:=l.w.sz+l.dx.sz+l.dy.sz
def Pt.sz(p:Pt):Nat:=p.x.sz+p.y.sz
def Pa.sz(p:Pa):Nat:=p.share.sz+p.dx.sz+p.dy.sz
def Cd.sz(c:Cd):Nat:=c.total.sz+PS Pa.sz c.ps
def Tn.sz(t:Tn):Nat:=PS Lk.sz t.own+t.cond.sz+PS Lk.sz t.msgs+t.MV.sz
def R.wf(r:R):Prop:=r.mag.length<=9223372036854775807/\r.den.length<=9223372036854775807
def Lk.wf(l:Lk):Prop:=l.w.wf/\l.dx.wf/\l.dy.wf
def Pt.wf(p:Pt):Prop:=p.x.wf/\p.y.wf
def Pa.wf(p:Pa):Prop:=p.share.wf/\p.dx.wf/\p.dy.wf
def Iz{α:Type}(f:α->Prop)(l:List α):Prop:=l.length<=9223372036854775807/\∀x∈l,f x
def Cd.wf(c:Cd):Prop:=c.total.wf/\Iz Pa.wf c.ps
def Tn.wf(t:Tn):Prop:=Iz Lk.wf t.own/\t.cond.wf/\Iz Lk.wf t.msgs/\t.MV.wf
theorem Iz.at_{α:Type} [Inhabited α] {f:α->Prop} {l:List α} (h:Iz f l) {i:Nat} (hi:i<l.length):f (l.getD i default):=by
 refine h.2 _ ?_;simp [aj,au hi]
theorem getD_mem{α:Type} [Inhabited α] {l:List α} {i:Nat} (hi:i<l.length):l.getD i default∈l:=by
 simp [aj,au hi]
theorem ZM{α:Type} [Inhabited α] {a b:List α} (hl:a.length=b.length) (h:∀j,j<a.length->a.getD j default=b.getD j default):a=b:=by
 refine List.ext_getElem hl fun i h1 h2=>?_;have:=h i h1;simpa [aj,h1,h2]using this
theorem map_set{α:Type}(f:α->List V)(l:List α)(i:Nat)(z:α):(l.map f).set i (f z)=(l.set i z).map f:=by simp [List.map_set]
theorem Fe{α:Type}{f:α->List V}{l:List α}(h:∀x∈l,∀v∈f x,v.still=true):nN (l.map f):=by
 intro r hr v hv;obtain⟨x,hx,rfl⟩:=bC.1 hr;exact h x hx v hv
end Go.Ml
namespace Go.Ml
theorem atl{α:Type}{f:α->List V}{l:List α}{σ:Store}{o n:Nat}(hs:∀x∈l,∀v∈f x,v.still=true)(ho:jX σ o=some ⟨n,l.map f⟩):resolve σ FD (.lG o 0 l.length)=some (.sl n (l.map f)):=by
 rw [axi ho (Fe hs) (by simp),bZ,bH (by simp)]
theorem Uz{α:Type}{f:α->Nat}{k:Nat}:∀{l:List α},(∀x∈l,f x<=k)->PS f l<=l.length*(k+1)
 | [],_=>by simp [PS]
 |
  x::l,h=>by
  have h1:=h x (by simp);have h2:=Uz (f:=f) (k:=k) (l:=l) fun y hy=>h y (by simp [hy]);unfold PS at h2 ⊢;simp only [ak,bV,List.sum_cons];rw [eH];omega
def VP(σ:Store)(s l:Nat)(o:Option Obj):Option V:=match o with
 |some ob=>if s+l<=ob.rows.length then(((ob.rows.drop s).take l).mapM fun (r:List V)=>r.mapM (resolve σ 11)).map (.sl ob.sz)else none
 |none=>none
def Qq(σ:Store)(s l:Nat)(o:Option Obj):Option V:=match o with
 |some ob=>if s+l<=ob.rows.length then(((ob.rows.drop s).take l).mapM fun (r:List V)=>r.mapM (resolve σ 10)).map (.sl ob.sz)else none
 |none=>none
theorem atm(σ:Store)(o s l:Nat):resolve σ FD (.lG o s l)=VP σ s l (jX σ o):=nr rfl
theorem agV(σ:Store)(o s l:Nat):resolve σ 11 (.lG o s l)=Qq σ s l (jX σ o):=nr rfl
@[congr] theorem aA6 {σ:Store} {s l:Nat} {o o':Option Obj} (h:wr o=o'):VP σ s l o=VP σ s l o':=by rw [<-h,qQ]
@[congr] theorem axw {σ:Store} {s l:Nat} {o o':Option Obj} (h:wr o=o'):Qq σ s l o=Qq σ s l o':=by rw [<-h,qQ]
theorem MW{σ:Store}{s l n:Nat}{rows:List (List V)}(hs:nN rows)(h:s+l<=rows.length):VP σ s l (some ⟨n,rows⟩)=some (.sl n ((rows.drop s).take l)):=by
 unfold VP;simp only [];rw [aQ h,xK (n:=10) (hs.part s l)];rfl
theorem Xx{σ:Store}{s l n:Nat}{rows:List (List V)}(hs:nN rows)(h:s+l<=rows.length):Qq σ s l (some ⟨n,rows⟩)=some (.sl n ((rows.drop s).take l)):=by
 unfold Qq;simp only [];rw [aQ h,xK (n:=9) (hs.part s l)];rfl
theorem atn{σ:Store}{s l n:Nat}{xs:List Int}(h:s+l<=xs.length):VP σ s l (some ⟨n,kR xs⟩)=some (.sl n (kR ((xs.drop s).take l))):=by
 rw [MW (wX xs) (by rw [Fb];exact h),aaJ,aaK]
theorem aoQ{σ:Store}{s l n:Nat}{xs:List Int}(h:s+l<=xs.length):Qq σ s l (some ⟨n,kR xs⟩)=some (.sl n (kR ((xs.drop s).take l))):=by
 rw [Xx (wX xs) (by rw [Fb];exact h),aaJ,aaK]
theorem wE{α:Type}(f:α->List V)(L:List α)(s l:Nat):((L.map f).drop s).take l=((L.drop s).take l).map f:=by simp [kL,List.map_take]
theorem afc(L:List R):nN (L.map R.cells):=Fe (by intro x _ v hv;simp at hv;rcases hv with rfl|rfl|rfl<;>rfl)
theorem aq5(L:List Pt):nN (L.map Pt.cells):=Fe (by intro x _ v hv;simp at hv;rcases hv with rfl|rfl|rfl|rfl|rfl|rfl<;>rfl)
theorem Hq(L:List Lk):nN (L.map Lk.cells):=Fe (by intro x _ v hv;simp at hv;rcases hv with rfl|rfl|rfl|rfl|rfl|rfl|rfl|rfl|rfl|rfl|rfl<;>rfl)
theorem acM(L:List Pa):nN (L.map Pa.cells):=Fe (by intro x _ v hv;simp at hv;rcases hv with rfl|rfl|rfl|rfl|rfl|rfl|rfl|rfl|rfl|rfl<;>rfl)
theorem acN(L:List Cd):nN (L.map Cd.cells):=Fe (by intro x _ v hv;simp at hv;rcases hv with rfl|rfl|rfl|rfl|rfl<;>rfl)
theorem aq6(L:List (List R)):nN (L.map fun r=>[oZ r]):=Fe (by intro x _ v hv;simp at hv;subst hv;rfl)
theorem ato{σ:Store}{s l n:Nat}{L:List R}(h:s+l<=L.length):VP σ s l (some ⟨n,L.map R.cells⟩)=some (.sl n (((L.drop s).take l).map R.cells)):=by rw [MW (afc L) (by simpa using h),wE]
theorem aoR{σ:Store}{s l n:Nat}{L:List Pt}(h:s+l<=L.length):VP σ s l (some ⟨n,L.map Pt.cells⟩)=some (.sl n (((L.drop s).take l).map Pt.cells)):=by rw [MW (aq5 L) (by simpa using h),wE]
theorem aoS{σ:Store}{s l n:Nat}{L:List Lk}(h:s+l<=L.length):VP σ s l (some ⟨n,L.map Lk.cells⟩)=some (.sl n (((L.drop s).take l).map Lk.cells)):=by rw [MW (Hq L) (by simpa using h),wE]
theorem aoT{σ:Store}{s l n:Nat}{L:List Pa}(h:s+l<=L.length):VP σ s l (some ⟨n,L.map Pa.cells⟩)=some (.sl n (((L.drop s).take l).map Pa.cells)):=by rw [MW (acM L) (by simpa using h),wE]
theorem akK{σ:Store}{s l n:Nat}{L:List Pa}(h:s+l<=L.length):Qq σ s l (some ⟨n,L.map Pa.cells⟩)=some (.sl n (((L.drop s).take l).map Pa.cells)):=by rw [Xx (acM L) (by simpa using h),wE]
theorem aoU{σ:Store}{s l n:Nat}{L:List Cd}(h:s+l<=L.length):VP σ s l (some ⟨n,L.map Cd.cells⟩)=some (.sl n (((L.drop s).take l).map Cd.cells)):=by rw [MW (acN L) (by simpa using h),wE]
theorem aoV{σ:Store}{s l n:Nat}{L:List (List R)}(h:s+l<=L.length):VP σ s l (some ⟨n,L.map fun r=>[oZ r]⟩)=some (.sl n (((L.drop s).take l).map fun r=>[oZ r])):=by rw [MW (aq6 L) (by simpa using h),wE]
def Dq(σ:Store)(rows:List (List V)):List Nat:=rows.flatMap fun (r:List V)=>r.flatMap (reach σ 11)
def Xy(σ:Store)(o:Option Obj):List Nat:=match o with
 |some ob=>Dq σ ob.rows
 |none=>[]
theorem atp(σ:Store)(o s l:Nat):reach σ FD (.lG o s l)=o::Xy σ (jX σ o):=nr rfl
@[congr] theorem avQ {σ:Store} {o o':Option Obj} (h:wr o=o'):Xy σ o=Xy σ o':=by rw [<-h,qQ]
theorem akL(σ:Store)(n:Nat)(rows:List (List V)):Xy σ (some ⟨n,rows⟩)=Dq σ rows:=nr rfl
theorem akM(σ:Store):Xy σ none=[]:=nr rfl
theorem CQ{σ:Store}{rows:List (List V)}(h:nN rows):Dq σ rows=[]:=by
 unfold Dq;rw [List.flatMap_eq_nil_iff];intro r hr;rw [List.flatMap_eq_nil_iff];intro v hv;exact JL (n:=10) (h r hr v hv)
theorem aiL(σ:Store)(xs:List Int):Dq σ (kR xs)=[]:=CQ (wX xs)
theorem aiM(σ:Store)(L:List R):Dq σ (L.map R.cells)=[]:=CQ (afc L)
theorem afd(σ:Store)(L:List Pt):Dq σ (L.map Pt.cells)=[]:=CQ (aq5 L)
theorem afe(σ:Store)(L:List Lk):Dq σ (L.map Lk.cells)=[]:=CQ (Hq L)
theorem aff(σ:Store)(L:List Pa):Dq σ (L.map Pa.cells)=[]:=CQ (acM L)
theorem afg(σ:Store)(L:List Cd):Dq σ (L.map Cd.cells)=[]:=CQ (acN L)
theorem afh(σ:Store)(L:List (List R)):Dq σ (L.map fun r=>[oZ r])=[]:=CQ (aq6 L)
theorem aCu(sz:Nat)(r:List (List V)):scalar SD (.sl sz r)=false:=nr rfl
theorem atq:scalar SD .jZ=true:=nr rfl
def ZN(n:Nat)(cs:List V):Bool:=cs.all (scalar n)
theorem axz(cs:List V):scalar SD (.agg cs)=ZN 3 cs:=nr rfl
theorem axA(cs:List V):scalar SD (.oJ cs)=ZN 3 cs:=nr rfl
theorem aoW(n:Nat):ZN n []=true:=nr rfl
theorem aoX(n:Nat)(c:V)(cs:List V):ZN n (c::cs)=(scalar n c&&ZN n cs):=nr rfl
theorem atr(q:IntKind)(n:Int):scalar 3 (.int q n)=true:=nr rfl
theorem aoY(b:Bool):scalar 3 (.bool b)=true:=nr rfl
theorem att(s:List UInt8):scalar 3 (.str s)=true:=nr rfl
theorem aoZ:scalar 3 .jZ=true:=nr rfl
theorem axB(sz:Nat)(r:List (List V)):scalar 3 (.sl sz r)=false:=nr rfl
theorem atu(cs:List V):scalar 3 (.agg cs)=ZN 2 cs:=nr rfl
theorem atw(q:IntKind)(n:Int):scalar 2 (.int q n)=true:=nr rfl
theorem ao0(b:Bool):scalar 2 (.bool b)=true:=nr rfl
theorem atx(s:List UInt8):scalar 2 (.str s)=true:=nr rfl
theorem ao1:scalar 2 .jZ=true:=nr rfl
theorem axC(sz:Nat)(r:List (List V)):scalar 2 (.sl sz r)=false:=nr rfl
theorem aCv{t b:Int}(h:0<=t/\t<=9223372036854775807/\0<b):IntKind.i64.wrap (t.tdiv b)=t.tdiv b:=by
 rw [gI h.1];have h1:0<=t / b:=Int.ediv_nonneg h.1 (by omega);have h2:t / b<=t:=Int.ediv_le_self _ h.1;exact w64 (by omega)
theorem akN{α:Type}{l:List α}{n:Nat}(h:l.length<=n):l.take n=l:=bH h
theorem ao2(env:Nat->V)(x:Src):I.reads env (.qw x)=[]:=by simp [I.reads,I.xJ]
theorem ao3(env:Nat->V)(x:Src):I.reads env (.box x)=[]:=by simp [I.reads,I.xJ]
theorem akO(env:Nat->V)(x:Src):I.reads env (.ab2 x)=[]:=by simp [I.reads,I.xJ]
theorem ao4(env:Nat->V)(x:Src):I.reads env (.len x)=rH (x.ev env):=by simp [I.reads,I.xJ]
theorem ao5(env:Nat->V)(x:Src):I.reads env (.chk x)=rH (x.ev env):=by simp [I.reads,I.xJ]
theorem ao6(env:Nat->V)(d:Nat)(x:Src):I.reads env (.fld d x)=rH (x.ev env):=by simp [I.reads,I.xJ]
theorem aty(env:Nat->V)(d:UnOp)(x:Src):I.reads env (.un d x)=[]:=by simp [I.reads,I.xJ]
theorem akP(env:Nat->V)(d:IntKind)(x:Src):I.reads env (.conv d x)=[]:=by simp [I.reads,I.xJ]
theorem akQ(env:Nat->V)(d:Nat)(x:Src):I.reads env (.YV d x)=[]:=by simp [I.reads,I.xJ]
theorem akR(env:Nat->V)(n:Nat)(b:Bool)(x:Src):I.reads env (.load n b x)=rH (x.ev env):=by simp [I.reads,I.xJ]
theorem akS(env:Nat->V)(z:List V)(n:Nat)(x:Src):I.reads env (.make z n x)=[]:=by simp [I.reads,I.xJ]
theorem aiN(env:Nat->V)(z:List V):I.reads env (.alloc z)=[]:=by simp [I.reads,I.xJ]
theorem akT(env:Nat->V)(x y z:Src):I.reads env (.pick x y z)=[]:=by simp [I.reads,I.xJ]
theorem aiO(env:Nat->V)(n:Nat)(x y:Src):I.reads env (.store n x y)=rH (x.ev env):=by simp [I.reads,I.xJ]
theorem ao7(env:Nat->V)(n:Nat)(x y:Src):I.reads env (.idx n x y)=rH (x.ev env):=by simp [I.reads,I.xJ]
theorem akU(env:Nat->V)(m n:Nat)(x y:Src):I.reads env (.aat m n x y)=rH (x.ev env):=by simp [I.reads,I.xJ]
theorem akV(env:Nat->V)(x y:Src):I.reads env (.ab1 x y)=[]:=by simp [I.reads,I.xJ]
theorem akW(env:Nat->V)(m:Nat)(x y:Src):I.reads env (.ab3 m x y)=[]:=by simp [I.reads,I.xJ]
theorem ao8(env:Nat->V)(n:BinOp)(x y:Src):I.reads env (.bin n x y)=[]:=by simp [I.reads,I.xJ]
theorem ao9(env:Nat->V)(n:Bool)(x y:Src):I.reads env (.beq n x y)=[]:=by simp [I.reads,I.xJ]
theorem apa(env:Nat->V)(m n:Nat)(x y:Src):I.reads env (.app m n x y)=rH (x.ev env)++rH (y.ev env):=by simp [I.reads,I.xJ]
theorem apb(env:Nat->V)(x y:Src):I.reads env (.max x y)=[]:=by simp [I.reads,I.xJ]
theorem atz(env:Nat->V)(z:List V):I.reads env (.build z [])=[]:=by simp [I.reads,I.xJ]
theorem atA(env:Nat->V)(z:List V)(a b:Nat)(x:Src)(l:List (Nat×Nat×Src)):I.reads env (.build z ((a,b,x)::l))=[]:=by simp [I.reads,I.xJ]
theorem atB(env:Nat->V)(sz:Nat)(z:List V)(n:Nat):I.reads env (.nM sz z n [])=[]:=by simp [I.reads,I.xJ]
theorem atC(env:Nat->V)(sz:Nat)(z:List V)(n a:Nat)(x:Src)(l:List (Nat×Src)):I.reads env (.nM sz z n ((a,x)::l))=[]:=by simp [I.reads,I.xJ]
theorem apc(q:IntKind)(n:Int):rH (.int q n)=[]:=nr rfl
theorem akX(b:Bool):rH (.bool b)=[]:=nr rfl
theorem apd(b:List UInt8):rH (.str b)=[]:=nr rfl
theorem akY  : rH .jZ=[]:=nr rfl
theorem ape  : rH .one=[]:=nr rfl
theorem apf  : rH .any=[]:=nr rfl
theorem atD(n:Nat)(r:List (List V)):rH (.sl n r)=[]:=nr rfl
theorem akZ(r:List V)(n:Nat):rH (.pU r n)=[]:=nr rfl
theorem apg(r:List V):rH (.agg r)=[]:=nr rfl
theorem aph(r:List V):rH (.oJ r)=[]:=nr rfl
theorem apj(o r k:Nat):rH (.ptr o r k)=[o]:=nr rfl
theorem apk(o r k:Nat):rH (.lG o r k)=[o]:=nr rfl
end Go.Ml
end
section
set_option linter.defProp false
namespace Go.Ml
def EVp:=(ah (ah (ah (ah (ah (ah @Go.Ml.qQ.{1} @Go.Ml.aq0) (ah @Go.Ml.aq1 (ah @Go.Ml.wp_skip 
 @Go.Ml.aoe))) (ah (ah @Go.Ml.aof @Go.Ml.wp_seq) (ah @Go.Ml.akq (ah @Go.Ml.wp_block @Go.Ml.wp_loop)))) (ah 
 (ah (ah @Go.Ml.wp_exit @Go.Ml.wp_ret) (ah @Go.Ml.asg (ah @Go.Ml.ash @Go.Ml.asi))) (ah (ah @Go.Ml.aso 
 (ah @Go.Ml.asq @Go.Ml.asr)) (ah @Go.Ml.aog (ah @Go.Ml.aoh @Go.Ml.asu))))) (ah (ah (ah (ah 
 @Go.Ml.asv @Go.Ml.aCe) (ah @Go.Ml.aCf (ah @Go.Ml.aCg @Go.Ml.asw))) (ah (ah @Go.Ml.awE (ah @Go.Ml.asf 
 @Go.Ml.awF)) (ah @Go.Ml.awG (ah @Go.Ml.awH @Go.Ml.awI)))) (ah (ah (ah @Go.Ml.ako @Go.Ml.awM) (ah 
 @Go.Ml.asD (ah @Go.Ml.aok @Go.Ml.awN))) (ah (ah @Go.Ml.akF (ah @Go.Ml.aoL @Go.Ml.aoM)) (ah 
 @Go.Ml.akD (ah @Go.Ml.akE @Go.Ml.aoN)))))) (ah (ah (ah (ah (ah @Go.Ml.aoO @Go.Ml.asF) (ah 
 @Go.Ml.aom (ah @Go.Ml.aon @Go.Ml.aoo))) (ah (ah @Go.Ml.awO @Go.Ml.awP) (ah @Go.Ml.asG (ah @Go.Ml.asH 
 @Go.Ml.asI)))) (ah (ah (ah @Go.Ml.awQ @Go.Ml.asJ) (ah @Go.Ml.awR (ah @Go.Ml.awS @Go.Ml.awT))) (ah 
 (ah @Go.Ml.awU (ah @Go.Ml.asK @Go.Ml.awV)) (ah @Go.Ml.asL (ah @Go.Ml.awW @Go.Ml.aoP))))) (ah (ah 
 (ah (ah @Go.Ml.akG @Go.Ml.ate) (ah @Go.Ml.atf (ah @Go.Ml.atg @Go.Ml.ath))) (ah (ah @Go.Ml.awX 
 (ah @Go.Ml.asO @Go.Ml.asP)) (ah @Go.Ml.as8 (ah @Go.Ml.as9 @Go.Ml.ata)))) (ah (ah (ah @Go.Ml.atb 
 @Go.Ml.aoB) (ah @Go.Ml.aoJ (ah @Go.Ml.aCb @Go.Ml.aCc))) (ah (ah @Go.Ml.aoa (ah @Go.Ml.aiE @Go.Ml.ar7)) 
 (ah @Go.Ml.ar8 (ah @Go.Ml.ar9 @Go.Ml.asa)))))))
def EVq:=(ah (ah (ah (ah (ah (ah (ah (ah @Go.Ml.an8 @Go.Ml.aq0) (ah @Go.Ml.aq1 @Go.Ml.ar4)) 
 (ah (ah @Go.Ml.ar5 @Go.Ml.an7) (ah @Go.Ml.ar6 @Go.Ml.aiB))) (ah (ah (ah @Go.Ml.an9 @Go.Ml.awy) 
 (ah @Go.Ml.awz @Go.Ml.akm)) (ah (ah @Go.Ml.aiC @Go.Ml.aiD) (ah @Go.Ml.acw (ah @Go.Ml.aeY 
 @Go.Ml.acy))))) (ah (ah (ah (ah @Go.Ml.aeZ @Go.Ml.acz) (ah @Go.Ml.ae0 @Go.Ml.aiG)) 
 (ah (ah @Go.Ml.ae1 @Go.Ml.ae2) (ah @Go.Ml.acA (ah @Go.Ml.ae3 @Go.Ml.asx)))) (ah (ah 
 (ah @Go.Ml.asy @Go.Ml.awJ) (ah @Go.Ml.awK @Go.Ml.awL)) (ah (ah @Go.Ml.asz @Go.Ml.asA) (ah @Go.Ml.asC 
 (ah @Go.Ml.asB @Go.Ml.aw9)))))) (ah (ah (ah (ah (ah @Go.Ml.axa @Go.Ml.axb) (ah @Go.Ml.awY 
 @Go.Ml.awZ)) (ah (ah @Go.Ml.aw0 @Go.Ml.aw1) (ah @Go.Ml.aw2 (ah @Go.Ml.aw3 @Go.Ml.aw4)))) (ah (ah 
 (ah @Go.Ml.aw5 @Go.Ml.aw6) (ah @Go.Ml.aw7 @Go.Ml.aw8)) (ah (ah @Go.Ml.asM @Go.Ml.asN) (ah @Go.Ml.w64 (ah 
 @Go.Ml.aop @Go.Ml.aoq))))) (ah (ah (ah (ah @Go.Ml.aor @Go.Ml.aos) (ah @Go.Ml.aot @Go.Ml.akr)) 
 (ah (ah @Go.Ml.aks @Go.Ml.akt) (ah @Go.Ml.axc (ah @Go.Ml.asQ @Go.Ml.axd)))) (ah (ah (ah 
 @Go.Ml.asR @Go.Ml.axe) (ah @Go.Ml.aCn @Go.Ml.asT)) (ah (ah @Go.Ml.axf @Go.Ml.axg) (ah @Go.Ml.asU (ah 
 @Go.Ml.asV @Go.Ml.asW))))))) (ah (ah (ah (ah (ah (ah @Go.Ml.aou @Go.Ml.asX) (ah @Go.Ml.aov 
 @Go.Ml.asY)) (ah (ah @Go.Ml.axh @Go.Ml.aow) (ah @Go.Ml.aCo (ah @Go.Ml.aCp @Go.Ml.axj)))) (ah (ah 
 (ah @Go.Ml.as1 @Go.Ml.axk) (ah @Go.Ml.as3 @Go.Ml.aCq)) (ah (ah @Go.Ml.as4 @Go.Ml.axl) (ah @Go.Ml.aCr 
 (ah @Go.Ml.aCs @Go.Ml.as5))))) (ah (ah (ah (ah @Go.Ml.aox @Go.Ml.as6) (ah @Go.Ml.aoy @Go.Ml.axm)) 
 (ah (ah @Go.Ml.aoz @Go.Ml.axn) (ah @Go.Ml.as7 (ah @Go.Ml.axo @Go.Ml.axp)))) (ah (ah (ah 
 @Go.Ml.axq @Go.Ml.axr) (ah @Go.Ml.aob @Go.Ml.aoc)) (ah (ah @Go.Ml.aod @Go.Ml.awC) (ah @Go.Ml.awD (ah 
 @Go.Ml.asb @Go.Ml.ase)))))) (ah (ah (ah (ah (ah @Go.Ml.akp @Go.Ml.aiF) (ah @Go.Ml.asj 
 @Go.Ml.asl)) (ah (ah @Go.Ml.asn @Go.Ml.aCh) (ah @Go.Ml.aCi (ah @Go.Ml.aCj @Go.Ml.aCk)))) (ah (ah (ah 
 @Go.Ml.aCl @Go.Ml.Fb) (ah @Go.Ml.aoC @Go.Ml.atc)) (ah (ah @Go.Ml.atd @Go.Ml.aoD) (ah @Go.Ml.ao2 (ah 
 @Go.Ml.ao3 @Go.Ml.akO))))) (ah (ah (ah (ah @Go.Ml.ao4 @Go.Ml.ao5) (ah @Go.Ml.ao6 @Go.Ml.aty)) 
 (ah (ah @Go.Ml.akP @Go.Ml.akQ) (ah @Go.Ml.akR (ah @Go.Ml.akS @Go.Ml.aiN)))) (ah (ah 
 (ah @Go.Ml.akT @Go.Ml.aiO) (ah @Go.Ml.ao7 @Go.Ml.akU)) (ah (ah @Go.Ml.akV @Go.Ml.akW) (ah 
 @Go.Ml.ao8 (ah @Go.Ml.ao9 @Go.Ml.apa)))))))) (ah (ah (ah (ah (ah (ah (ah @Go.Ml.apb 
 @Go.Ml.atz) (ah @Go.Ml.atA @Go.Ml.atB)) (ah (ah @Go.Ml.atC @Go.Ml.apc) (ah @Go.Ml.akX @Go.Ml.apd))) 
 (ah (ah (ah @Go.Ml.akY @Go.Ml.ape) (ah @Go.Ml.apf @Go.Ml.atD)) (ah (ah @Go.Ml.akZ @Go.Ml.apg) 
 (ah @Go.Ml.aph (ah @Go.Ml.apj @Go.Ml.apk))))) (ah (ah (ah (ah @Int.toNat_zero @Int.toNat_one) (ah 
 @Go.Ml.aCv @Bool.false_and)) (ah (ah @Bool.true_and @Bool.and_false) (ah @Go.Ml.atm (ah @Go.Ml.agV @Go.Ml.atn)))) 
 (ah (ah (ah @Go.Ml.aoQ @Go.Ml.ato) (ah @Go.Ml.aoR @Go.Ml.aoS)) (ah (ah @Go.Ml.aoT @Go.Ml.akK) 
 (ah @Go.Ml.aoU (ah @Go.Ml.aoV @Go.Ml.atp)))))) (ah (ah (ah (ah (ah @Go.Ml.akL @Go.Ml.akM) 
 (ah @Go.Ml.aiL @Go.Ml.aiM)) (ah (ah @Go.Ml.afd @Go.Ml.afe) (ah @Go.Ml.aff (ah 
 @Go.Ml.afg @Go.Ml.afh)))) (ah (ah (ah @Go.Ml.aCu @Go.Ml.atq) (ah @Go.Ml.axz @Go.Ml.axA)) (ah (ah 
 @Go.Ml.aoW @Go.Ml.aoX) (ah @Go.Ml.atr (ah @Go.Ml.aoY @Go.Ml.att))))) (ah (ah (ah (ah @Go.Ml.aoZ 
 @Go.Ml.axB) (ah @Go.Ml.atu @Go.Ml.atw)) (ah (ah @Go.Ml.ao0 @Go.Ml.atx) (ah @Go.Ml.ao1 (ah @Go.Ml.axC 
 @Go.Ml.akN)))) (ah (ah (ah @Go.Ml.aoK @Nat.le_refl) (ah @List.replicate_succ.{0} @List.replicate_zero.{0})) (ah 
 (ah @List.take_length.{0} @Go.Ml.aCa) (ah @Go.Ml.w8u (ah @Go.Ml.aB9 @Go.Ml.aaK))))))) (ah (ah (ah (ah 
 (ah (ah @Go.Ml.aaJ @Nat.sub_zero) (ah @implies_true.{0} @false_implies)) (ah (ah @true_implies @List.length_map.{0,0}) 
 (ah @true_or (ah @or_true @Bool.beq_eq_decide_eq.{0})))) (ah (ah (ah @List.set_cons_zero.{0} @List.set_cons_succ.{0}) 
 (ah @Go.Ml.aoG @Go.Ml.aoH)) (ah (ah @Go.Ml.aoF @Go.Ml.akw) (ah @Go.Ml.akB (ah @Go.Ml.akC 
 @Go.Ml.aky))))) (ah (ah (ah (ah @Go.Ml.aoI @Go.Ml.akz) (ah @Go.Ml.aiI @Go.Ml.akA)) (ah 
 (ah @Go.Ml.Dn @Go.Ml.aiJ) (ah @List.reverse_cons.{0} (ah @List.reverse_nil.{0} @List.nil_append.{0})))) (ah (ah 
 (ah @List.cons_append.{0} @List.append_nil.{0}) (ah @List.length_cons.{0} @List.length_nil.{0})) (ah (ah 
 @List.getElem?_cons_zero.{0} @List.getElem?_cons_succ.{0}) (ah @Nat.zero_add (ah @Nat.add_zero @ite_self.{1})))))) (ah (ah 
 (ah (ah (ah @ite_true.{1} @ite_false.{1}) (ah @if_true.{1} @if_false.{1})) (ah (ah @eq_self.{1} @and_true) (ah 
 @true_and (ah @and_self @Bool.not_true)))) (ah (ah (ah @Bool.not_false @Bool.true_eq_false) (ah @Bool.false_eq_true 
 @Bool.not_eq_true')) (ah (ah @decide_eq_true_eq @decide_eq_false_iff_not) (ah @Bool.not_eq_eq_eq_not (ah @Option.map_some.{0,0} 
 @Option.map_none.{0,0}))))) (ah (ah (ah (ah @Int.toNat_natCast @List.drop_zero.{0}) (ah @List.drop_succ_cons.{0} 
 @List.take_succ_cons.{0})) (ah (ah @List.take_zero.{0} @List.all_cons.{0}) (ah @List.all_nil.{0} (ah @Bool.and_true 
 @Bool.and_self)))) (ah (ah (ah @Go.Ml.Ex.exit.injEq @not_false_eq_true) (ah @not_true_eq_false @decide_true)) (ah (ah 
 @decide_false @ite_not.{1}) (ah @decide_not (ah @Bool.not_not @ne_eq.{1})))))))))
theorem ev{P Q:Prop}(h:Q)(e:P=Q:=by conv=>lhs;simp (maxSteps:=1000000) (disch:=first|omega|assumption|(simp;done)|(simp;omega)) only [↓EVp,EVq,splice,Nat.reduceAdd,Nat.reduceEqDiff,Nat.reduceMul,Nat.reduceLT,Nat.reduceLeDiff,reduceIte,V.leaf,JD,Kq,MN,cZ,dK,eF,dW,fM,reduceCtorEq]):P:=Eq.mpr (e) h
theorem ev1{P Q A1:Prop}(x1:A1)(h:Q)(e:A1->P=Q:=by intro x1;conv=>lhs;simp (maxSteps:=1000000) (disch:=first|omega|assumption|(simp;done)|(simp;omega)) only [↓EVp,EVq,splice,Nat.reduceAdd,Nat.reduceEqDiff,Nat.reduceMul,Nat.reduceLT,Nat.reduceLeDiff,reduceIte,V.leaf,JD,Kq,MN,cZ,dK,eF,dW,fM,reduceCtorEq,x1]):P:=Eq.mpr (e x1) h
theorem zf{P Q A1 A2:Prop}(x1:A1)(x2:A2)(h:Q)(e:A1->A2->P=Q:=by intro x1 x2;conv=>lhs;simp (maxSteps:=1000000) (disch:=first|omega|assumption|(simp;done)|(simp;omega)) only [↓EVp,EVq,splice,Nat.reduceAdd,Nat.reduceEqDiff,Nat.reduceMul,Nat.reduceLT,Nat.reduceLeDiff,reduceIte,V.leaf,JD,Kq,MN,cZ,dK,eF,dW,fM,reduceCtorEq,x1,x2]):P:=Eq.mpr (e x1 x2) h
theorem EG{P Q A1 A2 A3:Prop}(x1:A1)(x2:A2)(x3:A3)(h:Q)(e:A1->A2->A3->P=Q:=by intro x1 x2 x3;conv=>lhs;simp (maxSteps:=1000000) (disch:=first|omega|assumption|(simp;done)|(simp;omega)) only [↓EVp,EVq,splice,Nat.reduceAdd,Nat.reduceEqDiff,Nat.reduceMul,Nat.reduceLT,Nat.reduceLeDiff,reduceIte,V.leaf,JD,Kq,MN,cZ,dK,eF,dW,fM,reduceCtorEq,x1,x2,x3]):P:=Eq.mpr (e x1 x2 x3) h
theorem ev4{P Q A1 A2 A3 A4:Prop}(x1:A1)(x2:A2)(x3:A3)(x4:A4)(h:Q)(e:A1->A2->A3->A4->P=Q:=by intro x1 x2 x3 x4;conv=>lhs;simp (maxSteps:=1000000) (disch:=first|omega|assumption|(simp;done)|(simp;omega)) only [↓EVp,EVq,splice,Nat.reduceAdd,Nat.reduceEqDiff,Nat.reduceMul,Nat.reduceLT,Nat.reduceLeDiff,reduceIte,V.leaf,JD,Kq,MN,cZ,dK,eF,dW,fM,reduceCtorEq,x1,x2,x3,x4]):P:=Eq.mpr (e x1 x2 x3 x4) h
theorem ev5{P Q A1 A2 A3 A4 A5:Prop}(x1:A1)(x2:A2)(x3:A3)(x4:A4)(x5:A5)(h:Q)(e:A1->A2->A3->A4->A5->P=Q:=by intro x1 x2 x3 x4 x5;conv=>lhs;simp (maxSteps:=1000000) (disch:=first|omega|assumption|(simp;done)|(simp;omega)) only [↓EVp,EVq,splice,Nat.reduceAdd,Nat.reduceEqDiff,Nat.reduceMul,Nat.reduceLT,Nat.reduceLeDiff,reduceIte,V.leaf,JD,Kq,MN,cZ,dK,eF,dW,fM,reduceCtorEq,x1,x2,x3,x4,x5]):P:=Eq.mpr (e x1 x2 x3 x4 x5) h
theorem ev6{P Q A1 A2 A3 A4 A5 A6:Prop}(x1:A1)(x2:A2)(x3:A3)(x4:A4)(x5:A5)(x6:A6)(h:Q)(e:A1->A2->A3->A4->A5->A6->P=Q:=by intro x1 x2 x3 x4 x5 x6;conv=>lhs;simp (maxSteps:=1000000) (disch:=first|omega|assumption|(simp;done)|(simp;omega)) only [↓EVp,EVq,splice,Nat.reduceAdd,Nat.reduceEqDiff,Nat.reduceMul,Nat.reduceLT,Nat.reduceLeDiff,reduceIte,V.leaf,JD,Kq,MN,cZ,dK,eF,dW,fM,reduceCtorEq,x1,x2,x3,x4,x5,x6]):P:=Eq.mpr (e x1 x2 x3 x4 x5 x6) h
abbrev oN(d:Nat)(i:I):ql:=⟨none,some d,0,i,[]⟩
abbrev oS(i:I):ql:=⟨none,none,0,i,[]⟩
abbrev oG(g:Nat)(b:Bool)(d:Nat)(i:I):ql:=⟨some (g,b),some d,0,i,[]⟩
abbrev oK(d k:Nat)(i:I):ql:=⟨none,some d,k,i,[]⟩
abbrev oA(d k:Nat)(i:I)(a:List Nat):ql:=⟨none,some d,k,i,a⟩
abbrev oH(g:Nat)(b:Bool)(d k:Nat)(i:I)(a:List Nat):ql:=⟨some (g,b),some d,k,i,a⟩
abbrev oV(n:Nat):I:=.qw (.t n)
abbrev cI(n:Int):Src:=.c (.int .i64 n)
end Go.Ml
end
namespace Go.Ml
abbrev nR:Nat->Nat->Bool:=fun _ _=>false
def oW(d n:Nat):ql:=⟨none,some d,0,.qw (.t n),[]⟩
def mF:I:=.qw (.c (.bool false))
def mT:I:=.qw (.c (.bool true))
def mN:I:=.qw (.c .jZ)
def lT(n a:Nat):I:=.load n true (.t a)
def lF(n a:Nat):I:=.load n false (.t a)
def ix(n a b:Nat):I:=.idx n (.t a) (.t b)
def ln(a:Nat):I:=.len (.t a)
def fd(n a:Nat):I:=.fld n (.t a)
def ex(n a:Nat):I:=.YV n (.t a)
def nt(a:Nat):I:=.un .not (.t a)
def bt(o:BinOp)(a b:Nat):I:=.bin o (.t a) (.t b)
def bc(o:BinOp)(a:Nat)(n:Int):I:=.bin o (.t a) (.c (.int .i64 n))
def cd(a:Nat)(c e:C):C:=.cond (.t a) c e
def rf(n:Nat)(l:List ql):C:=.reg false n l
def rt(n:Nat)(l:List ql):C:=.reg true n l
def rg(l:List ql):C:=.reg false 0 l
def sr(l:List ql)(c:C):C:=.seq (.reg false 0 l) c
def uz:List V:=[.bool false,.jZ,.jZ]
def Hr:List V:=[.int .i64 0,.int .i64 0,.bool false,.jZ,.jZ,.bool false,.jZ,.jZ,.bool false,.jZ,.jZ]
def Oo:List V:=[.int .i64 0]
def ZO:List V:=[.bool false,.jZ]
def zz4:List V:=[.int .i64 0,.bool false,.jZ,.jZ,.jZ]
def zz5:List V:=[.int .i64 0,.bool false,.jZ,.jZ,.bool false,.jZ,.jZ,.bool false,.jZ,.jZ]
def zz6:List V:=[.bool false,.jZ,.jZ,.bool false,.jZ,.jZ]
def cl(f:Nat)(l:List Nat):I:=.call f (l.map .t)
theorem Lz:(∀(d:Nat),∀(i:I),oN d i=(⟨none,some d,0,i,[]⟩:ql))/\(∀(i:I),oS i=(⟨none,none,0,i,[]⟩:ql))/\(∀(g:Nat),∀(b:Bool),∀(d:Nat),∀(i:I),oG g b d i=(⟨some (g,b),some d,0,i,[]⟩:ql))/\(∀(d k:Nat),∀(i:I),oK d k i=(⟨none,some d,k,i,[]⟩:ql))/\(∀(d k:Nat),∀(i:I),∀(a:List Nat),oA d k i a=(⟨none,some d,k,i,a⟩:ql))/\(∀(g:Nat),∀(b:Bool),∀(d k:Nat),∀(i:I),∀(a:List Nat),oH g b d k i a=(⟨some (g,b),some d,k,i,a⟩:ql))/\(∀(n:Nat),oV n=(.qw (.t n):I))/\(∀(n:Int),cI n=(.c (.int .i64 n):Src))/\(∀(d n:Nat),oW d n=(⟨none,some d,0,.qw (.t n),[]⟩:ql))/\(mF=(.qw (.c (.bool false)):I))/\(mT=(.qw (.c (.bool true)):I))/\(mN=(.qw (.c .jZ):I))/\(∀(n a:Nat),lT n a=(.load n true (.t a):I))/\(∀(n a:Nat),lF n a=(.load n false (.t a):I))/\(∀(n a b:Nat),ix n a b=(.idx n (.t a) (.t b):I))/\(∀(a:Nat),ln a=(.len (.t a):I))/\(∀(n a:Nat),fd n a=(.fld n (.t a):I))/\(∀(n a:Nat),ex n a=(.YV n (.t a):I))/\(∀(a:Nat),nt a=(.un .not (.t a):I))/\(∀(o:BinOp),∀(a b:Nat),bt o a b=(.bin o (.t a) (.t b):I))/\(∀(o:BinOp),∀(a:Nat),∀(n:Int),bc o a n=(.bin o (.t a) (.c (.int .i64 n)):I))/\(∀(a:Nat),∀(c e:C),cd a c e=(.cond (.t a) c e:C))/\(∀(n:Nat),∀(l:List ql),rf n l=(.reg false n l:C))/\(∀(n:Nat),∀(l:List ql),rt n l=(.reg true n l:C))/\(∀(l:List ql),rg l=(.reg false 0 l:C))/\(∀(l:List ql),∀(c:C),sr l c=(.seq (.reg false 0 l) c:C))/\(uz=([.bool false,.jZ,.jZ]:List V))/\(Hr=([.int .i64 0,.int .i64 0,.bool false,.jZ,.jZ,.bool false,.jZ,.jZ,.bool false,.jZ,.jZ]:List V))/\(Oo=([.int .i64 0]:List V))/\(ZO=([.bool false,.jZ]:List V))/\(zz4=([.int .i64 0,.bool false,.jZ,.jZ,.jZ]:List V))/\(zz5=([.int .i64 0,.bool false,.jZ,.jZ,.bool false,.jZ,.jZ,.bool false,.jZ,.jZ]:List V))/\(zz6=([.bool false,.jZ,.jZ,.bool false,.jZ,.jZ]:List V))/\(nR=fun _ _=>false)/\(∀f:Nat,cl f []=.call f [])/\(∀f a:Nat,cl f [a]=.call f [.t a])/\(∀f a b:Nat,cl f [a,b]=.call f [.t a,.t b])/\(∀f a b c:Nat,cl f [a,b,c]=.call f [.t a,.t b,.t c])/\(∀f a b c d:Nat,cl f [a,b,c,d]=.call f [.t a,.t b,.t c,.t d])/\(∀f a b c d e:Nat,cl f [a,b,c,d,e]=.call f [.t a,.t b,.t c,.t d,.t e])/\(∀f a b c d e f:Nat,cl f [a,b,c,d,e,f]=.call f [.t a,.t b,.t c,.t d,.t e,.t f])/\(∀f a b c d e f g:Nat,cl f [a,b,c,d,e,f,g]=.call f [.t a,.t b,.t c,.t d,.t e,.t f,.t g])/\(∀f a b c d e f g h:Nat,cl f [a,b,c,d,e,f,g,h]=.call f [.t a,.t b,.t c,.t d,.t e,.t f,.t g,.t h]) :=
 ⟨fun _ _=>rfl,fun _=>rfl,fun _ _ _ _=>rfl,fun _ _ _=>rfl,fun _ _ _ _=>rfl,fun _ _ _ _ _ _=>rfl,fun _=>rfl,fun _=>rfl,fun _ _=>rfl,rfl,rfl,rfl,fun _ _=>rfl,fun _ _=>rfl,fun _ _ _=>rfl,fun _=>rfl,fun _ _=>rfl,fun _ _=>rfl,fun _=>rfl,fun _ _ _=>rfl,fun _ _ _=>rfl,fun _ _ _=>rfl,fun _ _=>rfl,fun _ _=>rfl,fun _=>rfl,fun _ _=>rfl,rfl,rfl,rfl,rfl,rfl,rfl,rfl,rfl,fun _=>rfl,fun _ _=>rfl,fun _ _ _=>rfl,fun _ _ _ _=>rfl,fun _ _ _ _ _=>rfl,fun _ _ _ _ _ _=>rfl,fun _ _ _ _ _ _ _=>rfl,fun _ _ _ _ _ _ _ _=>rfl,fun _ _ _ _ _ _ _ _ _=>rfl⟩
end Go.Ml
namespace Go.Ml
theorem MG{l:List V}{env:Nat->V}(h:NV l 0 env:=by (try (refine ev ?_;try with_reducible exact aC))<;>(repeat' (first|refine⟨?_,?_⟩|exact MO (by omega)|exact OT (by simp)|exact JM _))):NV l 0 env:=h
end Go.Ml
section
namespace Go.Ml
def slV:Nat->V
 |0=>.jZ
 |n+1=>.lG 0 0 (n+1)
def slS(n:Nat):List (List V)->Store
 | []=>[]
 |r::rs=>[some ⟨n,r::rs⟩]
theorem wY:slV 0=.jZ:=nr rfl
theorem vO(n:Nat):slV (n+1)=.lG 0 0 (n+1):=nr rfl
theorem aq7(n:Nat):slS n []=[]:=nr rfl
theorem ak0(n:Nat)(r:List V)(rs:List (List V)):slS n (r::rs)=[some ⟨n,r::rs⟩]:=nr rfl
theorem ak1(n:Nat)(rows:List (List V))(r:List V):slS n (rows++[r])=[some ⟨n,rows++[r]⟩]:=by cases rows<;>rfl
theorem MX{vs:List V}{env:Nat->V}{σ:Store}{b1 b2 n k:Nat}{r1 r2 m1 m2:List Nat}{rows:List (List V)}{r:List V}(hs:nN (rows++[r]))
  (h:jX σ k=some ⟨n,rows++[r]⟩) (he:Kr [some (k,0,rows.length+1)] σ vs 0 env):Fg ⟨mM vs,slS n (rows++[r]),0,b1,r1,m1⟩ ⟨env,σ,0,b2,r2,m2⟩:=by
 rw [ak1];refine Sm [(k,⟨n,rows++[r]⟩)] (by simp) ?_ rfl (by simpa using he);intro p hp;simp only [aI,dD,or_false]at hp;subst hp;exact⟨h,hs⟩
theorem Fh{σ:Store}{k l n m:Nat}(hl:l<=m)(e:n=l)(h0:0<n):OU [some (k,0,m)] σ (slV n) (.lG k 0 l):=by
 subst e;obtain⟨j,rfl⟩:∃j,n=j+1:=⟨n-1,by omega⟩;rw [vO];exact rJ rfl hl rfl
theorem kS{T:Tb}{f:Nat}{F:Fn}{args:List V}{r:V}(rf:Nat->Nat->Bool)(hT:T f=some F)
  (h:wp T rf F.body (fun e st=>aoA F.res e (mP r) st) (St.enter args [])) (hl:args.length=F.nargs:=by rfl) (hk:F.body.okC=true:=by rfl):PF T f args r:=by
 obtain⟨e,st',h1,h2⟩:=AZ hk h;have h3:(e=.normal\/e=.ret)/\Ol F.res [] st' (mP r):=by
  cases e with
  |normal=>exact⟨.inl rfl,h2⟩
  |ret=>exact⟨.inr rfl,h2⟩
  |exit id=>exact h2.elim
 obtain⟨he,h3⟩:=h3;have:=Ux _ _ h3;obtain⟨rs,e1,h4⟩:=lZ this;obtain⟨r',e2,h5⟩:=lZ h4;exact .aau (yH _) (.Wn (.fn hT hl h1 he e1) e2) h5
theorem ak2(q:IntKind)(a b:Int):mP (.int q a) (.int q b)=(b=a):=by simp [mP]
theorem LG(a b:Bool):mP (.bool a) (.bool b)=(b=a):=by simp [mP]
theorem sV(sz:Nat):mP (.sl sz []) .jZ=True:=by simp [mP]
theorem OV(xs ys:List V):mP (.agg xs) (.agg ys)=wS xs ys:=by simp [mP]
theorem UA:wS [] []=True:=by simp [wS]
theorem UC(x y:V)(xs ys:List V):wS (x::xs) (y::ys)=(mP x y/\wS xs ys):=by
 simp only [wS,jH];exact propext ⟨fun ⟨_,_,⟨e1,e2⟩,h1,h2⟩=>by subst e1;subst e2;exact⟨h1,h2⟩,fun ⟨h1,h2⟩=>⟨y,ys,⟨rfl,rfl⟩,h1,h2⟩⟩
theorem apl{T:Tb}{f:Nat}{as as':List V}{k:V->Prop}{r:V}(h:PF T f as' r)(ha:wS as' as)(hk:k r):PFK T f as k:=⟨r,h.lax ha (kM r),hk⟩
theorem Fj(l:List Int)(d:Int):kR l++[[V.int .i64 d]]=kR (l++[d]):=by simp [kR]
theorem afi{l:List Int}:kR l=[]↔l=[]:=by simp [kR]
theorem qA:slS 1 (kR [])=[]:=rfl
theorem oI(x:Int)(l:List Int):slS 1 (kR (x::l))=[some ⟨1,kR (x::l)⟩]:=rfl
theorem Hu(l:List Int)(d:Int):nN (kR l++[[V.int .i64 d]]):=by rw [Fj];exact wX _
theorem aiQ:kR []=[]:=rfl
theorem Xz(x:Int)(l:List Int):kR (x::l)=[V.int .i64 x]::kR l:=rfl
mutual
def mJ(σ:Store):V->V->List Nat->Prop
 |v,.sl sz rows,os=>(rows=[]/\v=.sl sz []/\os=[])\/∃o rows' os',v=.lG o 0 rows.length/\jX σ o=some ⟨sz,rows'⟩/\os=o::os'/\rZ σ rows' rows os'
 |v,.agg cs,os=>∃cs',v=.agg cs'/\ni σ cs' cs os
 |v,.oJ cs,os=>∃cs',v=.oJ cs'/\ni σ cs' cs os
 |v,.any,os=>False
 |v,.one,os=>False
 |v,.int k n,os=>v=.int k n/\os=[]
 |v,.bool b,os=>v=.bool b/\os=[]
 |v,.str s,os=>v=.str s/\os=[]
 |v,.jZ,os=>False
 |v,.lG _ _ _,os=>False
 |v,.ptr _ _ _,os=>False
 |v,.pU _ _,os=>False
def ni(σ:Store):List V->List V->List Nat->Prop
 |vs,[],os=>vs=[]/\os=[]
 |vs,t::ts,os=>∃v vs' o1 o2,vs=v::vs'/\os=o1++o2/\mJ σ v t o1/\ni σ vs' ts o2
def rZ(σ:Store):List (List V)->List (List V)->List Nat->Prop
 |vs,[],os=>vs=[]/\os=[]
 |vs,t::ts,os=>∃v vs' o1 o2,vs=v::vs'/\os=o1++o2/\ni σ v t o1/\rZ σ vs' ts o2
end
section
variable {σ σ' : Store}
theorem kX{o:Nat}{ob:Obj}(h:jX σ o=some ob):o<σ.length:=by
 rcases dV o σ.length with k|k
 ·exact k
 rw [jX,aZ k]at h;cases h
mutual
theorem mJ.lt:∀{t v:V} {os:List Nat},mJ σ v t os->∀o∈os,o<σ.length
 |
  .sl sz rows,v,os,h=>by
  simp only [mJ]at h;rcases h with ⟨_,_,rfl⟩|⟨o,rows',os',_,h2,rfl,h3⟩
  ·intro o ho;cases ho
  intro q hq;rcases aI.1 hq with rfl|hq
  ·exact kX h2
  exact rZ.lt h3 q hq
 |.agg cs,v,os,h=>by simp only [mJ]at h;obtain⟨cs',_,h⟩:=h;exact ni.lt h
 |.oJ cs,v,os,h=>by simp only [mJ]at h;obtain⟨cs',_,h⟩:=h;exact ni.lt h
 |.any,v,os,h=>by simp [mJ]at h
 |.one,v,os,h=>by simp [mJ]at h
 |.int ..,v,os,h=>by simp only [mJ]at h;rw [h.2];intro o ho;cases ho
 |.bool _,v,os,h=>by simp only [mJ]at h;rw [h.2];intro o ho;cases ho
 |.str _,v,os,h=>by simp only [mJ]at h;rw [h.2];intro o ho;cases ho
 |.jZ,v,os,h=>by simp [mJ]at h
 |.lG ..,v,os,h=>by simp [mJ]at h
 |.ptr ..,v,os,h=>by simp [mJ]at h
 |.pU ..,v,os,h=>by simp [mJ]at h
theorem ni.lt:∀{ts vs:List V} {os:List Nat},ni σ vs ts os->∀o∈os,o<σ.length
 | [],vs,os,h=>by simp only [ni]at h;rw [h.2];intro o ho;cases ho
 |
  t::ts,vs,os,h=>by
  simp only [ni]at h;obtain⟨v,vs',o1,o2,_,rfl,h1,h2⟩:=h;intro o ho;rcases aN.1 ho with ho|ho
  ·exact mJ.lt h1 o ho
  exact ni.lt h2 o ho
theorem rZ.lt:∀{ts vs:List (List V)} {os:List Nat},rZ σ vs ts os->∀o∈os,o<σ.length
 | [],vs,os,h=>by simp only [rZ]at h;rw [h.2];intro o ho;cases ho
 |
  t::ts,vs,os,h=>by
  simp only [rZ]at h;obtain⟨v,vs',o1,o2,_,rfl,h1,h2⟩:=h;intro o ho;rcases aN.1 ho with ho|ho
  ·exact ni.lt h1 o ho
  exact rZ.lt h2 o ho
end
mutual
theorem mJ.frame:∀{t v:V} {os:List Nat},mJ σ v t os->(∀o∈os,jX σ' o=jX σ o)->mJ σ' v t os
 |
  .sl sz rows,v,os,h,hf=>by
  simp only [mJ]at h ⊢;rcases h with h|⟨o,rows',os',h1,h2,rfl,h3⟩
  ·exact .inl h
  exact .inr ⟨o,rows',os',h1,by rw [hf o (by simp)];exact h2,rfl,rZ.frame h3 fun q hq=>hf q (by simp [hq])⟩
 |.agg cs,v,os,h,hf=>by simp only [mJ]at h ⊢;obtain⟨cs',e,h⟩:=h;exact⟨cs',e,ni.frame h hf⟩
 |.oJ cs,v,os,h,hf=>by simp only [mJ]at h ⊢;obtain⟨cs',e,h⟩:=h;exact⟨cs',e,ni.frame h hf⟩
 |.any,v,os,h,_=>by simp [mJ]at h
 |.one,v,os,h,_=>by simp [mJ]at h
 |.int ..,v,os,h,_=>by simpa only [mJ]using h
 |.bool _,v,os,h,_=>by simpa only [mJ]using h
 |.str _,v,os,h,_=>by simpa only [mJ]using h
 |.jZ,v,os,h,_=>by simp [mJ]at h
 |.lG ..,v,os,h,_=>by simp [mJ]at h
 |.ptr ..,v,os,h,_=>by simp [mJ]at h
 |.pU ..,v,os,h,_=>by simp [mJ]at h
theorem ni.frame:∀{ts vs:List V} {os:List Nat},ni σ vs ts os->(∀o∈os,jX σ' o=jX σ o)->ni σ' vs ts os
 | [],vs,os,h,_=>by simpa only [ni]using h
 |
  t::ts,vs,os,h,hf=>by
  simp only [ni]at h ⊢;obtain⟨v,vs',o1,o2,e,rfl,h1,h2⟩:=h;exact⟨v,vs',o1,o2,e,rfl,mJ.frame h1 fun q hq=>hf q (by simp [hq]),ni.frame h2 fun q hq=>hf q (by simp [hq])⟩
theorem rZ.frame:∀{ts vs:List (List V)} {os:List Nat},rZ σ vs ts os->(∀o∈os,jX σ' o=jX σ o)->rZ σ' vs ts os
 | [],vs,os,h,_=>by simpa only [rZ]using h
 |
  t::ts,vs,os,h,hf=>by
  simp only [rZ]at h ⊢;obtain⟨v,vs',o1,o2,e,rfl,h1,h2⟩:=h;exact⟨v,vs',o1,o2,e,rfl,ni.frame h1 fun q hq=>hf q (by simp [hq]),rZ.frame h2 fun q hq=>hf q (by simp [hq])⟩
end
theorem mJ.leaf{t v:V}{os:List Nat}(h:mJ σ v t os)(hl:t.leaf=true):v.leaf=true:=by
 cases t<;>simp only [V.leaf]at hl<;>first|(cases hl;done)|skip
 all_goals simp only [mJ]at h
 all_goals first|(cases h;done)|skip
 case int=>rw [h.1];rfl
 case bool=>rw [h.1];rfl
 case str=>rw [h.1];rfl
 case sl=>rcases h with ⟨_,rfl,_⟩|⟨_,_,_,rfl,_⟩<;>rfl
theorem rZ.len:∀{ts vs:List (List V)} {os:List Nat},rZ σ vs ts os->vs.length=ts.length
 | [],vs,os,h=>by simp only [rZ]at h;simp [h.1]
 |
  t::ts,vs,os,h=>by
  simp only [rZ]at h;obtain⟨v,vs',o1,o2,rfl,_,_,h2⟩:=h;simp [rZ.len h2]
mutual
theorem mJ.shift{n:Nat}(hn:∀o,jX σ' (n+o)=(jX σ o).map (qK (mD n))):∀{t v:V} {os:List Nat},mJ σ v t os->mJ σ' (lD (mD n) v) t (os.map (n + ·))
 |
  .sl sz rows,v,os,h=>by
  simp only [mJ]at h ⊢;rcases h with ⟨h1,rfl,rfl⟩|⟨o,rows',os',rfl,h2,rfl,h3⟩
  ·exact .inl ⟨h1,rfl,rfl⟩
  exact .inr ⟨n+o,_,os'.map (n + ·),rfl,by rw [hn,h2];rfl,rfl,rZ.shift hn h3⟩
 |.agg cs,v,os,h=>by simp only [mJ]at h ⊢;obtain⟨cs',rfl,h⟩:=h;exact⟨_,rfl,ni.shift hn h⟩
 |.oJ cs,v,os,h=>by simp only [mJ]at h ⊢;obtain⟨cs',rfl,h⟩:=h;exact⟨_,rfl,ni.shift hn h⟩
 |.any,v,os,h=>by simp [mJ]at h
 |.one,v,os,h=>by simp [mJ]at h
 |.int ..,v,os,h=>by simp only [mJ]at h ⊢;obtain⟨rfl,rfl⟩:=h;exact⟨rfl,rfl⟩
 |.bool _,v,os,h=>by simp only [mJ]at h ⊢;obtain⟨rfl,rfl⟩:=h;exact⟨rfl,rfl⟩
 |.str _,v,os,h=>by simp only [mJ]at h ⊢;obtain⟨rfl,rfl⟩:=h;exact⟨rfl,rfl⟩
 |.jZ,v,os,h=>by simp [mJ]at h
 |.lG ..,v,os,h=>by simp [mJ]at h
 |.ptr ..,v,os,h=>by simp [mJ]at h
 |.pU ..,v,os,h=>by simp [mJ]at h
theorem ni.shift{n:Nat}(hn:∀o,jX σ' (n+o)=(jX σ o).map (qK (mD n))):∀{ts vs:List V} {os:List Nat},ni σ vs ts os->ni σ' (lD.IC (mD n) vs) ts (os.map (n + ·))
 | [],vs,os,h=>by simp only [ni]at h ⊢;obtain⟨rfl,rfl⟩:=h;exact⟨rfl,rfl⟩
 |
  t::ts,vs,os,h=>by
  simp only [ni]at h ⊢;obtain⟨v,vs',o1,o2,rfl,rfl,h1,h2⟩:=h;exact⟨_,_,_,_,rfl,by rw [bT],mJ.shift hn h1,ni.shift hn h2⟩
theorem rZ.shift{n:Nat}(hn:∀o,jX σ' (n+o)=(jX σ o).map (qK (mD n))):∀{ts vs:List (List V)} {os:List Nat},rZ σ vs ts os->rZ σ' (vs.map fun r=>r.map (lD (mD n))) ts (os.map (n + ·))
 | [],vs,os,h=>by simp only [rZ]at h ⊢;obtain⟨rfl,rfl⟩:=h;exact⟨rfl,rfl⟩
 |
  t::ts,vs,os,h=>by
  simp only [rZ]at h ⊢;obtain⟨v,vs',o1,o2,rfl,rfl,h1,h2⟩:=h;have hm:∀l:List V,lD.IC (mD n) l=l.map (lD (mD n)):=by
   intro l
   induction l with
   |nil=>rfl
   |cons x l ih=>simp only [lD.IC,bV,ih]
  exact⟨_,_,_,_,rfl,by rw [bT],by rw [show (fun r=>List.map (lD (mD n)) r) v=lD.IC (mD n) v from(hm v).symm];exact ni.shift hn h1,rZ.shift hn h2⟩
end
def nO:Nat->V->Prop
 |0,_=>False
 |n+1,.sl _ rows=>∀r∈rows,∀c∈r,nO n c
 |n+1,.agg cs=>∀c∈cs,nO n c
 |n+1,.oJ cs=>∀c∈cs,nO n c
 |_+1,_=>True
theorem OW:∀(n:Nat) {t v:V} {os:List Nat},mJ σ v t os->nO n t->resolve σ n v=some t
 |0,t,v,os,_,hd=>by simp [nO]at hd
 |
  n+1,t,v,os,h,hd=>by
  have hl:∀(ts vs:List V) (os:List Nat),ni σ vs ts os->(∀c∈ts,nO n c)->vs.mapM (resolve σ n)=some ts:=by
   intro ts
   induction ts with
   |nil=>intro vs os h _;simp only [ni]at h;rw [h.1];rfl
   |
    cons t ts ih =>
    intro vs os h hd;simp only [ni]at h;obtain⟨v,vs',o1,o2,rfl,rfl,h1,h2⟩:=h;rw [bU,OW n h1 (hd t (by simp)),ih vs' o2 h2 fun c hc=>hd c (by simp [hc])];rfl
  have hr:∀(ts vs:List (List V)) (os:List Nat),rZ σ vs ts os->(∀r∈ts,∀c∈r,nO n c)->(vs.mapM fun (r:List V)=>r.mapM (resolve σ n))=some ts:=by
   intro ts
   induction ts with
   |nil=>intro vs os h _;simp only [rZ]at h;rw [h.1];rfl
   |
    cons t ts ih =>
    intro vs os h hd;simp only [rZ]at h;obtain⟨v,vs',o1,o2,rfl,rfl,h1,h2⟩:=h;rw [bU,hl t v o1 h1 (hd t (by simp)),ih vs' o2 h2 fun c hc=>hd c (by simp [hc])];rfl
  cases t with
  |
   sl sz rows =>
   simp only [mJ]at h;simp only [nO]at hd;rcases h with ⟨rfl,rfl,_⟩|⟨o,rows',os',rfl,h2,_,h3⟩
   ·rfl
   rw [resolve];simp only [h2];have:=h3.len;rw [aQ (by omega),bZ,bH (by omega),hr rows rows' os' h3 hd];rfl
  |
   agg cs =>
   simp only [mJ]at h;obtain⟨cs',rfl,h⟩:=h;rw [resolve];rw [hl cs cs' os h hd];rfl
  |
   oJ cs =>
   simp only [mJ]at h;obtain⟨cs',rfl,h⟩:=h;rw [resolve];rw [hl cs cs' os h hd];rfl
  |any=>simp [mJ]at h
  |one=>simp [mJ]at h
  |int k i=>simp only [mJ]at h;rw [h.1];rfl
  |bool b=>simp only [mJ]at h;rw [h.1];rfl
  |str s=>simp only [mJ]at h;rw [h.1];rfl
  |jZ=>simp [mJ]at h
  |lG=>simp [mJ]at h
  |ptr=>simp [mJ]at h
  |pU=>simp [mJ]at h
mutual
theorem mJ.nV:∀{t v:V} {os:List Nat},mJ σ v t os->nV v=true
 |
  .sl sz rows,v,os,h=>by
  simp only [mJ]at h;rcases h with ⟨rfl,rfl,_⟩|⟨o,rows',os',rfl,_⟩<;>rfl
 |.agg cs,v,os,h=>by simp only [mJ]at h;obtain⟨cs',rfl,h⟩:=h;simp only [Ml.nV];exact ni.nV h
 |.oJ cs,v,os,h=>by simp only [mJ]at h;obtain⟨cs',rfl,h⟩:=h;simp only [Ml.nV];exact ni.nV h
 |.any,v,os,h=>by simp [mJ]at h
 |.one,v,os,h=>by simp [mJ]at h
 |.int ..,v,os,h=>by simp only [mJ]at h;rw [h.1];rfl
 |.bool _,v,os,h=>by simp only [mJ]at h;rw [h.1];rfl
 |.str _,v,os,h=>by simp only [mJ]at h;rw [h.1];rfl
 |.jZ,v,os,h=>by simp [mJ]at h
 |.lG ..,v,os,h=>by simp [mJ]at h
 |.ptr ..,v,os,h=>by simp [mJ]at h
 |.pU ..,v,os,h=>by simp [mJ]at h
theorem ni.nV:∀{ts vs:List V} {os:List Nat},ni σ vs ts os->nV.wU vs=true
 | [],vs,os,h=>by simp only [ni]at h;rw [h.1];rfl
 |
  t::ts,vs,os,h=>by
  simp only [ni]at h;obtain⟨v,vs',o1,o2,rfl,rfl,h1,h2⟩:=h;simp only [nV.wU,mJ.nV h1,ni.nV h2,Bool.and_self]
end
end
mutual
theorem acO{w:World}{D:DM}{X X':Nat->Prop}:∀(x:V) (v:Value),nV x=true->rd w D X x v->rd w D X' x v
 |
  .sl sz rows,v,h,hr=>by
  simp only [nV,List.isEmpty_iff]at h;subst h;simp only [rd]at hr ⊢;obtain⟨a,cap,h1,h2,_⟩:=hr;exact⟨a,cap,h1,h2,.inl (by trivial)⟩
 |
  .agg cs,v,h,hr=>by
  simp only [nV]at h;simp only [rd]at hr ⊢;obtain⟨a,rfl,hr⟩:=hr;exact⟨a,rfl,UD cs _ h hr⟩
 |
  .oJ cs,v,h,hr=>by
  simp only [nV]at h;simp only [rd]at hr ⊢;obtain⟨a,rfl,hr⟩:=hr;exact⟨a,rfl,UD cs _ h hr⟩
 |.pU ..,v,h,hr=>by simp [nV]at h
 |.any,_,_,_=>by simp [rd]
 |.one,v,h,hr=>by simpa only [rd]using hr
 |.int ..,v,h,hr=>by simpa only [rd]using hr
 |.bool _,v,h,hr=>by simpa only [rd]using hr
 |.str _,v,h,hr=>by simpa only [rd]using hr
 |.jZ,v,h,hr=>by simpa only [rd]using hr
 |.lG ..,v,h,hr=>by simpa only [rd]using hr
 |.ptr ..,v,h,hr=>by simpa only [rd]using hr
theorem UD{w:World}{D:DM}{X X':Nat->Prop}:∀(xs:List V) (vs:List Value),nV.wU xs=true->qh w D X xs vs->qh w D X' xs vs
 | [],vs,_,hr=>by simpa only [qh]using hr
 |
  x::xs,vs,h,hr=>by
  simp only [nV.wU,aH]at h;simp only [qh]at hr ⊢;obtain⟨v,vs',rfl,k1,k2⟩:=hr;exact⟨v,vs',rfl,acO x v h.1 k1,UD xs vs' h.2 k2⟩
end
mutual
theorem UE{g:Nat->Option Nat}:∀(x:V),nV x=true->nV (lD g x)=true
 |.sl sz rows,h=>by simpa only [lD]using h
 |.agg cs,h=>by simp only [nV,lD]at h ⊢;exact MZ cs h
 |.oJ cs,h=>by simp only [nV,lD]at h ⊢;exact MZ cs h
 |.pU ..,h=>by simp [nV]at h
 |.lG o s l,_=>by simp only [lD];split<;>rfl
 |.ptr o s l,_=>by simp only [lD];split<;>rfl
 |.any,_=>rfl
 |.one,_=>rfl
 |.int ..,_=>rfl
 |.bool _,_=>rfl
 |.str _,_=>rfl
 |.jZ,_=>rfl
theorem MZ{g:Nat->Option Nat}:∀(xs:List V),nV.wU xs=true->nV.wU (lD.IC g xs)=true
 | [],_=>rfl
 |
  x::xs,h=>by
  simp only [nV.wU,aH,lD.IC]at h ⊢;exact⟨UE x h.1,MZ xs h.2⟩
end
theorem qU{σ σ':Store}{o:Nat}:jX (yV σ σ') o=if o<σ.length then jX σ o else(jX σ' (o-σ.length)).map (qK (mD σ.length)):=by
 unfold yV jX;by_cases h:o<σ.length
 ·rw [aQ h,bJ h]
 rw [aO h,bW (by omega),bM]
 cases σ'[o-σ.length]? <;> rfl
section
variable {P : Program} {ν : Nat -> Option Nat} {nt : Nat} {M : Nat -> Prop} {w0 : World} {D0 : DM} {st : St} {D : DM} {a : Act} {w : World}
theorem afj{x:ql}{f:Nat}{as:List Src}{as':List V}{r:V}{σ':Store}{R:List Nat}(hg:∀g want,x.g=some (g,want)->st.env g=.bool want)(hi:x.i=.call f as)
  (ha:as.mapM (fun s=>resolve st.objs FD (s.ev st.env))=some as') (ih:QI P ν f as' [] r σ')
  (hR:R=if nV r&&ES σ' then []else as.flatMap fun s=>reach st.objs FD (s.ev st.env)) :
  acj P ν x st { st with env:=oh st.env x.dst (lD (mD st.objs.length) r),objs:=yV (nI st.objs R) σ' }:=by
 have hlk:(nI st.objs R).length=st.objs.length:=Jc R _;refine⟨rfl,rfl,by simp [yV,hlk],?_⟩;intro ops dr nt m k o htr M w0 D0 D a w hs _ K Q hK;obtain⟨t1,t2,t3,t4⟩:=I4 htr;rw [aQ ((EX hs t4).1 hg)];rw [hi]at t1;obtain⟨fid,xs,c1,c2,c3⟩:=JK t1;have hrd:=Uo hs.store hs.env xs c2 ha (R:=as.flatMap fun s=>reach st.objs FD (s.ev st.env)) (fun o h=>h)
 let X':Nat->Prop:=fun b=>M b\/∃o d,D o=.live d/\d.blk=b/\o∉as.flatMap fun s=>reach st.objs FD (s.ev st.env)
 have hX:∀b,XS X' DM.none b->X' b:=by
  rintro b (h|⟨o,d,h,_⟩)
  ·exact h
  simp [DM.none]at h
 have hlt:∀b,X' b->b<w.heap.size:=by
  rintro b (h|⟨o,d,h,rfl,_⟩)
  ·exact hs.store.mlt b h
  obtain⟨_,_,_,_,_,_,_,_,h6,_⟩:=hs.store.live o d h;exact h6
 have hcall:=ih fid c1 w X' DM.none (xs.map a.eval).toArray (by simpa using Ur hrd hX)
  ⟨fun o d h=>by simp [DM.none]at h,fun o ob h=>by simp [jX]at h,fun o o' d d' h=>by simp [DM.none]at h,fun _ _=>rfl,hlt⟩
 refine RZ (c3 a w) (R:=fun v w'=>∃Dc,rd w' Dc (XS X' Dc) r v/\uy w' Dc X' σ'/\Gr (Own DM.none) w w'/\∀o d,Dc o=.live d->w.heap.size<=d.blk) (hcall.mono ?_) ?_
 ·rintro e w' ⟨v,D',rfl,h1,h2,h3,h4,_⟩;refine⟨v,rfl,D',h1,h2,h3,fun o d ho=>?_⟩;rcases h4 o d ho with ⟨_,_,h,_⟩|h
  ·simp [DM.none]at h
  exact h
 rintro v w' ⟨Dc,h1,h2,h3,h4⟩;have hsame:∀b,b<w.heap.size->w'.heap[b]? = w.heap[b]?:=fun b hb=>h3.block b hb (by rintro⟨o,d,h,_⟩;simp [DM.none]at h)
 let n:=st.objs.length
 let D':DM:=fun o=>if o<n then D.kill R o else Dc (o-n)
 have Y2:∀o,o<n->D' o=D.kill R o:=fun o h=>by simp only [D',aQ h]
 have dNew:∀j,D' (n+j)=Dc j:=fun j=>by simp only [D'];rw [aO (by omega)];congr 1;omega
 have NU:∀o d,D' o=.live d->(o<n/\o∉R/\D o=.live d)\/(n<=o/\Dc (o-n)=.live d):=by
  intro o d ho;by_cases hon:o<n
  ·rw [Y2 o hon]at ho;obtain⟨k1,k2⟩:=EZ ho;exact .inl ⟨hon,k2,k1⟩
  simp only [D',aO hon]at ho;exact .inr ⟨by omega,ho⟩
 have E:Ext w D (XS M D) w' D' (XS M D'):=by
  refine⟨h3.size,fun b hb _=>hsame b hb,?_,?_⟩
  ·rintro b hb (h|⟨o,d,ho,rfl⟩)
   ·exact .inl h
   rcases NU o d ho with ⟨_,_,k⟩|⟨_,k⟩
   ·exact .inr ⟨o,d,k,rfl⟩
   have:=h4 _ d k;omega
  intro o;by_cases hon:o<n
  ·rw [Y2 o hon];exact aaB D R o
  rw [hs.store.far o (by omega)];trivial
 have acn:∀{x:V} {v:Value},((nV r&&ES σ')=true->nV x=true)->rd w' Dc (XS X' Dc) x v->rd w' D' (XS M D') (lD (mD n) x) v:=by
  intro x v hx hr;have h:=Um (D':=D') (g:=mD n) (fun j j' hj=>by simp only [mD,aB]at hj;subst hj;rw [dNew];exact uS.refl _) x v hr;by_cases hf:(nV r&&ES σ')=true
  ·exact acO _ _ (UE _ (hx hf)) h
  rw [aO hf]at hR;refine oq _ _ ⟨aK _,fun _ _ _=>rfl,fun b _ hb=>?_,fun _=>uS.refl _⟩ h;rcases hb with hb|⟨o,d,ho,rfl⟩
  ·exact .inl (.inl hb)
  rcases NU o d ho with ⟨_,k2,k⟩|⟨_,k⟩
  ·exact .inl (.inr ⟨o,d,k,rfl,by rw [<-hR];exact k2⟩)
  exact .inr ⟨_,d,k,rfl⟩
 have hcell:∀{j:Nat} {ob:Obj},jX σ' j=some ob->∀x∈ob.rows.flatten,((nV r&&ES σ')=true->nV x=true):=by
  intro j ob hj x hx hf;simp only [aH,ES,aX]at hf;have hmem:some ob∈σ':=by
   unfold jX at hj
   cases hc:σ'[j]? with
   |none=>rw [hc]at hj;cases hj
   |some z=>rw [hc]at hj;simp at hj;subst hj;exact bg hc
  obtain⟨rw',hr1,hr2⟩:=List.mem_flatten.1 hx;have:=hf.2 _ hmem;simp only [aX]at this;exact this rw' hr1 x hr2
 have hst:uy w' D' M (yV (nI st.objs R) σ'):=by
  refine⟨?_,?_,?_,?_,fun b hb=>bn (hs.store.mlt b hb) h3.size⟩
  ·intro o d ho;rcases NU o d ho with ⟨k1,k2,k⟩|⟨k1,k⟩
   ·obtain⟨ob,c,e,g1,g2,g3,g4,g5,g6,g7,g8,g9,g10,g11⟩:=hs.store.live o d k;refine⟨ob,c,e,by rw [qU,hlk,aQ k1,EY,aO k2];exact g1,g2,g3,g4,g5,bn g6 h3.size,by rw [hsame _ g6];exact g7,g8,g9,g10,fun i x hi=>?_⟩;obtain⟨k0,y,j1,j2⟩:=g11 i x hi;exact⟨k0,y,j1,oq _ _ E j2⟩
   obtain⟨ob,c,e,g1,g2,g3,g4,g5,g6,g7,g8,g9,g10,g11⟩:=h2.live _ d k;refine⟨qK (mD n) ob,c,e,by rw [qU,hlk,aO (by omega),g1];rfl,g2,by simp [qK,g3],g4,fun hm=>g5 (.inl hm),g6,g7,g8,g9,?_,fun i x hi=>?_⟩
   ·intro rr hrr;simp only [qK,bC]at hrr;obtain⟨r0,hr0,rfl⟩:=hrr;simpa [qK]using g10 r0 hr0
   rw [ML,bM,aJ]at hi;obtain⟨x0,hx0,rfl⟩:=hi;obtain⟨k0,y,j1,j2⟩:=g11 i x0 hx0;exact⟨Xh k0,y,j1,acn (hcell g1 x0 (bg hx0)) j2⟩
  ·intro o ob ho;rw [qU,hlk]at ho;split at ho
   ·rename_i hon;rw [EY]at ho;split at ho
    ·cases ho
    rename_i hR';obtain⟨d,hd⟩:=hs.store.alive o ob ho;exact⟨d,by rw [Y2 o hon];simp only [DM.kill,aO hR'];exact hd⟩
   rename_i hon;simp only [aJ]at ho;obtain⟨ob0,ho,_⟩:=ho;obtain⟨d,hd⟩:=h2.alive _ ob0 ho;refine⟨d,?_⟩;show (if o<n then _ else _)=_;rw [aO hon];exact hd
  ·intro o o' d d' ho ho' hb;rcases NU o d ho with ⟨a1,a2,a3⟩|⟨a1,a3⟩<;>rcases NU o' d' ho' with ⟨b1,b2,b3⟩|⟨b1,b3⟩
   ·exact hs.store.inj o o' d d' a3 b3 hb
   ·obtain⟨_,_,_,_,_,_,_,_,g6,_⟩:=hs.store.live o d a3;have:=h4 _ d' b3;omega
   ·obtain⟨_,_,_,_,_,_,_,_,g6,_⟩:=hs.store.live o' d' b3;have:=h4 _ d a3;omega
   have:=h2.inj _ _ d d' a3 b3 hb;omega
  intro o ho;have hlo:n+σ'.length<=o:=by simpa [yV,hlk]using ho
  simp only [D'];rw [aO (by omega)];exact h2.far _ (by omega)
 rw [t2];refine hK D' _ w' ⟨Ul (fun t=>oq _ _ E (hs.env t)) (fun d hd=>by rw [hs.tm];exact t3 d (t2.trans hd)) (acn (fun hf=>by simp only [aH]at hf;exact hf.1) h1),?_,?_,hst,?_,?_,fun o ho=>(hs.kp o ho).trans (E.ds o)⟩ ?_
 ·rw [<-hs.tm];cases x.dst<;>simp [Act.put]
 ·rw [<-hs.df];cases x.dst<;>rfl
 ·exact hs.gr.trans (h3.mono fun b _ ⟨o,d,h,_⟩=>by simp [DM.none]at h)
 ·intro o d ho;rcases NU o d ho with ⟨_,_,k⟩|⟨_,k⟩
  ·exact hs.fr o d k
  exact .inr (dw hs.gr.size (h4 _ d k))
 intro o _ ho hu _;rw [Y2 o ho];simp only [DM.kill,hu];split<;>rfl
theorem ZP{X:Nat->Prop}{env:Nat->V}(he:∀t,rd w D X (env t) (a.tmps.getD t undef)) :
  ∀(xs:List Operand) {as:List Src},H8 xs=some as->qh w D X (as.map fun s=>s.ev env) (xs.map a.eval)
 | [],as,h=>by simp only [H8,aB]at h;subst h;simp [qh]
 |
  x::xs,as,h=>by
  simp only [H8]at h;split at h<;>first|(cases h;done)|skip
  rename_i s r h1 h2;simp only [aB]at h;subst h;simp only [bV,qh];exact⟨_,_,rfl,ou he h1,ZP he xs h2⟩
theorem afk{x:ql}{f:Nat}{as:List Src}{r:V}{σ':Store}(hg:∀g want,x.g=some (g,want)->st.env g=.bool want)(hi:x.i=.call f as)
  (ih:QI P ν f (as.map fun s=>s.ev st.env) st.objs r σ') (hl:st.objs.length<=σ'.length) (hb:st.objs.length<=st.base) :
  acj P ν x st { st with env:=oh st.env x.dst r,objs:=σ' }:=by
 refine⟨rfl,rfl,hl,?_⟩;intro ops dr nt m k o htr M w0 D0 D a w hs _ K Q hK;obtain⟨t1,t2,t3,t4⟩:=I4 htr;rw [aQ ((EX hs t4).1 hg)];rw [hi]at t1;obtain⟨fid,xs,c1,c2,c3⟩:=JK t1;have hcall:=ih fid c1 w M D (xs.map a.eval).toArray (by simpa using ZP hs.env xs c2) hs.store;refine RZ (c3 a w) (R:=fun v w'=>∃D',rd w' D' (XS M D') r v/\uy w' D' M σ'/\Gr (Own D) w w'/\(∀o d,D' o=.live d->Own D d.blk\/w.heap.size<=d.blk)/\∀j,j<st.objs.length->uS (D j) (D' j)) (hcall.mono ?_) ?_
 ·rintro e w' ⟨v,D',rfl,h1,h2,h3,h4,h5⟩;exact⟨v,rfl,D',h1,h2,h3,h4,h5⟩
 rintro v w' ⟨D',h1,h2,h3,h4,h5⟩;have E:Ext w D (XS M D) w' D' (XS M D'):=by
  refine⟨h3.size,fun b hb hx=>h3.block b hb (fun ho=>hx (.inr ho)),?_,?_⟩
  ·rintro b hb (h|⟨o,d,ho,rfl⟩)
   ·exact .inl h
   rcases h4 o d ho with h|h
   ·exact .inr h
   omega
  intro o;rcases dV o st.objs.length with h|h
  ·exact h5 o h
  rw [hs.store.far o h];trivial
 rw [t2];refine hK D' _ w' ⟨Ul (fun t=>oq _ _ E (hs.env t)) (fun d hd=>by rw [hs.tm];exact t3 d (t2.trans hd)) h1,?_,?_,h2,?_,?_,fun o ho=>(hs.kp o ho).trans (E.ds o)⟩ ?_
 ·rw [<-hs.tm];cases x.dst<;>simp [Act.put]
 ·rw [<-hs.df];cases x.dst<;>rfl
 ·exact hs.gr.trans (h3.mono fun b _ ho=>by obtain⟨o,d,h,hb⟩:=ho;rw [<-hb];exact hs.fr o d h)
 ·intro o d ho;rcases h4 o d ho with ⟨q,d',hq,hb⟩|h
  ·rw [<-hb];exact hs.fr q d' hq
  exact .inr (dw hs.gr.size h)
 intro o h1 h2 _ _;omega
theorem ak3{W:PD}{f:Nat}{args args2:List V}{σ' σ2:Store}{r r2:V}(ha:wS args args2)(hs:ReS W σ' σ2)(hr:yu W σ' r r2)(ih:QI P ν f args [] r σ'):QI P ν f args2 [] r2 σ2:=by
 intro fid hf w M D vals h1 h2;refine(ih fid hf w M D vals (Sl _ _ _ _ _ ha h1) h2).mono ?_;rintro e w' ⟨v,D',rfl,k1,k2,k3,k4,k5⟩;refine⟨v,D'.win W 0,rfl,aaL k2 hs.some _ _ _ hr k1,k2.re hs (fV _),k3,?_,fun o ho=>by simp at ho⟩;intro k d hk;obtain⟨o,s,l,d0,_,e2,rfl⟩:=Jd hk;exact k4 o d0 e2
theorem aiR{f:Nat}{args args2:List V}{σ σ':Store}{r r2:V}(ha:wS args args2)(hr:mP r2 r)(ih:QI P ν f args σ r σ'):QI P ν f args2 σ r2 σ':=by
 intro fid hf w M D vals h1 h2;refine(ih fid hf w M D vals (Sl _ _ _ _ _ ha h1) h2).mono ?_;rintro e w' ⟨v,D',rfl,k1,k2⟩;exact⟨v,D',rfl,Uy _ _ _ _ _ hr k1,k2⟩
end
section
variable {σ : Store} {ρ : List Nat}
mutual
theorem mJ.gc{g:Nat->Nat}:∀{t v:V} {os:List Nat},mJ σ v t os->(∀o∈os,place ρ o=some (g o)/\o∈ρ)->mJ (Hl ρ σ) (lD (place ρ) v) t (os.map g)
 |
  .sl sz rows,v,os,h,hg=>by
  simp only [mJ]at h ⊢;rcases h with ⟨h1,rfl,rfl⟩|⟨o,rows',os',rfl,h2,rfl,h3⟩
  ·exact .inl ⟨h1,rfl,rfl⟩
  obtain⟨g1,g2⟩:=hg o (by simp);refine .inr ⟨g o,rows'.map fun r=>r.map (lD (place ρ)),os'.map g,by simp only [lD,g1],?_,rfl,rZ.gc h3 fun q hq=>hg q (by simp [hq])⟩;rw [Ll,rP g1];simp only [h2,dh];rfl
 |.agg cs,v,os,h,hg=>by simp only [mJ]at h ⊢;obtain⟨cs',rfl,h⟩:=h;exact⟨_,rfl,ni.gc h hg⟩
 |.oJ cs,v,os,h,hg=>by simp only [mJ]at h ⊢;obtain⟨cs',rfl,h⟩:=h;exact⟨_,rfl,ni.gc h hg⟩
 |.any,v,os,h,_=>by simp [mJ]at h
 |.one,v,os,h,_=>by simp [mJ]at h
 |.int ..,v,os,h,_=>by simp only [mJ]at h ⊢;obtain⟨rfl,rfl⟩:=h;exact⟨rfl,rfl⟩
 |.bool _,v,os,h,_=>by simp only [mJ]at h ⊢;obtain⟨rfl,rfl⟩:=h;exact⟨rfl,rfl⟩
 |.str _,v,os,h,_=>by simp only [mJ]at h ⊢;obtain⟨rfl,rfl⟩:=h;exact⟨rfl,rfl⟩
 |.jZ,v,os,h,_=>by simp [mJ]at h
 |.lG ..,v,os,h,_=>by simp [mJ]at h
 |.ptr ..,v,os,h,_=>by simp [mJ]at h
 |.pU ..,v,os,h,_=>by simp [mJ]at h
theorem ni.gc{g:Nat->Nat}:∀{ts vs:List V} {os:List Nat},ni σ vs ts os->(∀o∈os,place ρ o=some (g o)/\o∈ρ)->ni (Hl ρ σ) (lD.IC (place ρ) vs) ts (os.map g)
 | [],vs,os,h,_=>by simp only [ni]at h ⊢;obtain⟨rfl,rfl⟩:=h;exact⟨rfl,rfl⟩
 |
  t::ts,vs,os,h,hg=>by
  simp only [ni]at h ⊢;obtain⟨v,vs',o1,o2,rfl,rfl,h1,h2⟩:=h;exact⟨_,_,_,_,rfl,by rw [bT],mJ.gc h1 fun q hq=>hg q (by simp [hq]),ni.gc h2 fun q hq=>hg q (by simp [hq])⟩
theorem rZ.gc{g:Nat->Nat}:∀{ts vs:List (List V)} {os:List Nat},rZ σ vs ts os->(∀o∈os,place ρ o=some (g o)/\o∈ρ)->rZ (Hl ρ σ) (vs.map fun r=>r.map (lD (place ρ))) ts (os.map g)
 | [],vs,os,h,_=>by simp only [rZ]at h ⊢;obtain⟨rfl,rfl⟩:=h;exact⟨rfl,rfl⟩
 |
  t::ts,vs,os,h,hg=>by
  simp only [rZ]at h ⊢;obtain⟨v,vs',o1,o2,rfl,rfl,h1,h2⟩:=h;have hm:∀l:List V,lD.IC (place ρ) l=l.map (lD (place ρ)):=by
   intro l
   induction l with
   |nil=>rfl
   |cons x l ih=>simp only [lD.IC,bV,ih]
  exact⟨_,_,_,_,rfl,by rw [bT],by rw [show (fun r=>List.map (lD (place ρ)) r) v=lD.IC (place ρ) v from(hm v).symm];exact ni.gc h1 fun q hq=>hg q (by simp [hq]),rZ.gc h2 fun q hq=>hg q (by simp [hq])⟩
end
theorem aaX{cs:List V}:nV.wU cs=true↔∀c∈cs,nV c=true:=by
 induction cs with
 |nil=>simp [nV.wU]
 |cons c cs ih=>simp [nV.wU,ih]
mutual
theorem mJ.objs:∀{t v:V} {os:List Nat},mJ σ v t os->∀o∈os,∃ob,jX σ o=some ob/\∀r∈ob.rows,∀c∈r,nV c=true
 |
  .sl sz rows,v,os,h=>by
  simp only [mJ]at h;rcases h with ⟨_,_,rfl⟩|⟨o,rows',os',_,h2,rfl,h3⟩
  ·intro o ho;cases ho
  intro q hq;rcases aI.1 hq with rfl|hq
  ·exact⟨_,h2,rZ.nV h3⟩
  exact rZ.objs h3 q hq
 |.agg cs,v,os,h=>by simp only [mJ]at h;obtain⟨cs',_,h⟩:=h;exact ni.objs h
 |.oJ cs,v,os,h=>by simp only [mJ]at h;obtain⟨cs',_,h⟩:=h;exact ni.objs h
 |.any,v,os,h=>by simp [mJ]at h
 |.one,v,os,h=>by simp [mJ]at h
 |.int ..,v,os,h=>by simp only [mJ]at h;rw [h.2];intro o ho;cases ho
 |.bool _,v,os,h=>by simp only [mJ]at h;rw [h.2];intro o ho;cases ho
 |.str _,v,os,h=>by simp only [mJ]at h;rw [h.2];intro o ho;cases ho
 |.jZ,v,os,h=>by simp [mJ]at h
 |.lG ..,v,os,h=>by simp [mJ]at h
 |.ptr ..,v,os,h=>by simp [mJ]at h
 |.pU ..,v,os,h=>by simp [mJ]at h
theorem ni.objs:∀{ts vs:List V} {os:List Nat},ni σ vs ts os->∀o∈os,∃ob,jX σ o=some ob/\∀r∈ob.rows,∀c∈r,nV c=true
 | [],vs,os,h=>by simp only [ni]at h;rw [h.2];intro o ho;cases ho
 |
  t::ts,vs,os,h=>by
  simp only [ni]at h;obtain⟨v,vs',o1,o2,_,rfl,h1,h2⟩:=h;intro o ho;rcases aN.1 ho with ho|ho
  ·exact mJ.objs h1 o ho
  exact ni.objs h2 o ho
theorem rZ.objs:∀{ts vs:List (List V)} {os:List Nat},rZ σ vs ts os->∀o∈os,∃ob,jX σ o=some ob/\∀r∈ob.rows,∀c∈r,nV c=true
 | [],vs,os,h=>by simp only [rZ]at h;rw [h.2];intro o ho;cases ho
 |
  t::ts,vs,os,h=>by
  simp only [rZ]at h;obtain⟨v,vs',o1,o2,_,rfl,h1,h2⟩:=h;intro o ho;rcases aN.1 ho with ho|ho
  ·exact ni.objs h1 o ho
  exact rZ.objs h2 o ho
theorem rZ.nV:∀{ts vs:List (List V)} {os:List Nat},rZ σ vs ts os->∀r∈vs,∀c∈r,Ml.nV c=true
 | [],vs,os,h=>by simp only [rZ]at h;rw [h.1];intro r hr;cases hr
 |
  t::ts,vs,os,h=>by
  simp only [rZ]at h;obtain⟨v,vs',o1,o2,rfl,_,h1,h2⟩:=h;intro r hr;rcases aI.1 hr with rfl|hr
  ·exact aaX.1 (ni.nV h1)
  exact rZ.nV h2 r hr
end
def PO(T:Tb)(f:Nat)(args:List V)(t:V):Prop :=
 ∃r σ' os,Run T (.fn f args []) (.fn r σ')/\mJ σ' r t os/\os.Nodup/\ES σ'=true
theorem PO.of{T:Tb}{f:Nat}{args:List V}{t r:V}{σ':Store}{os:List Nat}(h:Run T (.fn f args []) (.fn r σ'))(ho:mJ σ' r t os)(hn:os.Nodup):PO T f args t:=by
 have hg:∀o∈os,place os o=some ((place os o).getD 0)/\o∈os:=by
  intro o hm;refine⟨?_,hm⟩
  cases hp:place os o with
  |none=>exact absurd hm (CP hp)
  |some j=>rfl
 refine⟨_,_,_,.gcF os hn (fun i hi=>by simp at hi) h,ho.gc hg,?_,?_⟩
 ·refine(iJ.2 ?_);refine List.Pairwise.imp_of_mem (fun {a b} ha hb hne e=>hne ?_) hn;have e1:=rP (hg a ha).1;have e2:=rP (hg b hb).1;rw [e,e2]at e1;exact(Option.some.inj e1).symm
 simp only [ES,aX];intro x hx;obtain⟨o,hm,rfl⟩:=bC.1 hx;obtain⟨ob,h1,h2⟩:=ho.objs o hm;rw [h1];simp only [dh,qK,aX];intro r hr c hc;obtain⟨r0,hr0,rfl⟩:=bC.1 hr;obtain⟨c0,hc0,rfl⟩:=bC.1 hc;exact UE _ (h2 r0 hr0 c0 hc0)
theorem PO.Wn{T:Tb}{f:Nat}{args:List V}{t:V}(h:PO T f args t)(hd:nO FD t):PF T f args t:=by
 obtain⟨r,σ',os,h1,h2,_,_⟩:=h;exact .Wn h1 (OW FD h2 hd)
theorem ak4{T:Tb}{f:Nat}{as:List Src}{dst:Option Nat}{env:Nat->V}{σ:Store}{kp bs:Nat}{rs ms:List Nat}{k:St->Prop}{as':List V}{t:V}(h:PO T f as' t)
  (ha:Ls env σ as (· = as'))
  (hk:∀r σ2 os,mJ σ2 r t os->os.Nodup->(∀o∈os,σ.length<=o)->(∀o,o<σ.length->jX σ2 o=jX σ o)->σ.length<=σ2.length->k ⟨oh env dst r,σ2,kp,bs,rs,ms⟩) :
  Qj T f as dst ⟨env,σ,kp,bs,rs,ms⟩ k:=by
 obtain⟨r,σ',os,h1,h2,h3,h4⟩:=h;obtain⟨vs,e,rfl⟩:=Ae ha;refine⟨_,.own e h1 (R:=[]) (by rw [aQ];simp [h2.nV,h4]),?_⟩;have key:∀o,jX (yV (nI σ []) σ') (σ.length+o)=(jX σ' o).map (qK (mD σ.length)):=by
  intro o;show jX (yV σ σ') _=_;rw [qU,aO (by omega)]
  congr 2;omega
 refine hk _ _ (os.map (σ.length + ·)) (h2.shift key) ?_ ?_ ?_ ?_
 ·exact iJ.2 (h3.imp fun hne e=>hne (by omega))
 ·intro o ho;obtain⟨q,_,rfl⟩:=bC.1 ho;omega
 ·intro o ho;show jX (yV σ σ') _=_;rw [qU,aQ ho]
 simp [yV,nI]
theorem ak5{T:Tb}{f:Nat}{as:List Src}{dst:Option Nat}{env:Nat->V}{σ σ':Store}{kp bs:Nat}{rs ms:List Nat}{k:St->Prop}{r:V}
  (h:Run T (.fn f (as.map fun s=>s.ev env) σ) (.fn r σ')) (hl:σ.length<=σ'.length) (hb:σ.length<=bs) (hk:k ⟨oh env dst r,σ',kp,bs,rs,ms⟩):Qj T f as dst ⟨env,σ,kp,bs,rs,ms⟩ k :=
 ⟨_,.idn h hl hb,hk⟩
def outW:List Oj->List V->St->(V->Store->Prop)->Prop
 | [],acc,st,k=>EM (vG acc.reverse) fun v=>k v st.objs
 |r::rs,acc,st,k=>oC (r.get st) fun v=>EM v fun v=>outW rs (v::acc) st k
theorem ZQ{st:St}{k:V->Store->Prop}:∀(rs:List Oj) (acc:List V),outW rs acc st k->oC (rs.mapM (Oj.get st)) fun vs=>k (vG (acc.reverse++vs)) st.objs
 | [],acc,h=>by simpa [oC,outW,EM]using h
 |
  r::rs,acc,h=>by
  obtain⟨v,e,h⟩:=lZ h;have:=ZQ rs (v::acc) h;obtain⟨vs,e2,h⟩:=lZ this;simp only [bU,e,e2];simpa [oC,wr]using h
def endW(rs:List Oj)(e:Ex)(k:V->Store->Prop)(st:St):Prop:=match e with
 |.normal=>outW rs [] st k
 |.ret=>outW rs [] st k
 |.exit _=>False
theorem atE(rs:List Oj)(k:V->Store->Prop)(st:St):endW rs .normal k st=outW rs [] st k:=nr rfl
theorem atF(rs:List Oj)(k:V->Store->Prop)(st:St):endW rs .ret k st=outW rs [] st k:=nr rfl
theorem atG(acc:List V)(st:St)(k:V->Store->Prop):outW [] acc st k=EM (vG acc.reverse) fun v=>k v st.objs:=nr rfl
theorem atH(t:Nat)(rs:List Oj)(acc:List V)(st:St)(k:V->Store->Prop):outW (.tmp t::rs) acc st k=EM (st.env t) fun v=>outW rs (v::acc) st k:=nr rfl
theorem apm(t n:Nat)(rs:List Oj)(acc:List V)(st:St)(k:V->Store->Prop):outW (.cell t n false::rs) acc st k=oC (rowAt st.objs (st.env t)) fun p=>oC p.1[p.2]? fun v=>EM v fun v=>outW rs (v::acc) st k:=by
 simp only [outW,Oj.get]
 cases rowAt st.objs (st.env t)<;>rfl
theorem apn(t n:Nat)(rs:List Oj)(acc:List V)(st:St)(k:V->Store->Prop):outW (.cell t n true::rs) acc st k=oC (rowAt st.objs (st.env t)) fun p=>if p.2+n<=p.1.length then EM (.agg ((p.1.drop p.2).take n)) fun v=>outW rs (v::acc) st k else False:=by
 simp only [outW,Oj.get]
 cases e:rowAt st.objs (st.env t)with
 |none=>rfl
 |
  some p =>
  by_cases h:p.2+n<=p.1.length
  ·simp only [oC,if_true,EM,qQ,aQ h]
  simp only [oC,if_true,EM,qQ,aO h]
theorem run_end{T:Tb}{f:Nat}{F:Fn}{args:List V}{σ:Store}{k:V->Store->Prop}(rf:Nat->Nat->Bool)(hT:T f=some F)
  (h:wp T rf F.body (fun e st=>endW F.res e k st) (St.enter args σ)) (hl:args.length=F.nargs:=by rfl) (hk:F.body.okC=true:=by rfl):∃r σ',Run T (.fn f args σ) (.fn r σ')/\k r σ':=by
 obtain⟨e,st',h1,h2⟩:=AZ hk h;have h3:(e=.normal\/e=.ret)/\outW F.res [] st' k:=by
  cases e with
  |normal=>exact⟨.inl rfl,h2⟩
  |ret=>exact⟨.inr rfl,h2⟩
  |exit id=>exact h2.elim
 obtain⟨he,h3⟩:=h3;obtain⟨rs,e1,h4⟩:=lZ (ZQ _ _ h3);exact⟨_,_,.fn hT hl h1 he e1,h4⟩
end
section
variable {σ : Store}
theorem ni.len:∀{ts vs:List V} {os:List Nat},ni σ vs ts os->vs.length=ts.length
 | [],vs,os,h=>by simp only [ni]at h;simp [h.1]
 |
  t::ts,vs,os,h=>by
  simp only [ni]at h;obtain⟨v,vs',o1,o2,rfl,_,_,h2⟩:=h;simp [ni.len h2]
theorem ni.focus:∀{ts vs:List V} {os:List Nat} (c:Nat) (t:V),ni σ vs ts os->os.Nodup->ts[c]? = some t ->
  ∃
   vc oc,vs[c]? = some vc/\mJ σ vc t oc/\oc.Nodup/\(∀q∈oc,q∈os) /\
   ∀σ' vc' tc',mJ σ' vc' tc' oc->(∀q∈os,q∉oc->jX σ' q=jX σ q)->ni σ' (vs.set c vc') (ts.set c tc') os
 | [],vs,os,c,t,_,_,hc=>by simp at hc
 |
  x::ts,vs,os,0,t,h,hn,hc=>by
  simp only [ni]at h;obtain⟨v,vs',o1,o2,rfl,rfl,h1,h2⟩:=h;simp at hc;subst hc;rw [bF]at hn;refine⟨v,o1,rfl,h1,hn.1,fun q hq=>by simp [hq],fun σ' vc' tc' hv hf=>?_⟩;simp only [jP,ni];exact⟨vc',vs',o1,o2,rfl,rfl,hv,h2.frame fun q hq=>hf q (by simp [hq]) fun h=>hn.2.2 q h q hq rfl⟩
 |
  x::ts,vs,os,c+1,t,h,hn,hc=>by
  simp only [ni]at h;obtain⟨v,vs',o1,o2,rfl,rfl,h1,h2⟩:=h;rw [bF]at hn;obtain⟨vc,oc,k1,k2,k3,k4,k5⟩:=ni.focus c t h2 hn.2.1 (by simpa using hc);refine⟨vc,oc,by simpa using k1,k2,k3,fun q hq=>by simp [k4 q hq],fun σ' vc' tc' hv hf=>?_⟩;simp only [List.set_cons_succ,ni];exact⟨v,_,o1,o2,rfl,rfl,h1.frame fun q hq=>hf q (by simp [hq]) fun h=>hn.2.2 q hq q (k4 q h) rfl,k5 σ' vc' tc' hv fun q hq hnq=>hf q (by simp [hq]) hnq⟩
theorem rZ.focus:∀{ts vs:List (List V)} {os:List Nat} (c:Nat) (t:List V),rZ σ vs ts os->os.Nodup->ts[c]? = some t ->
  ∃
   vc oc,vs[c]? = some vc/\ni σ vc t oc/\oc.Nodup/\(∀q∈oc,q∈os) /\
   ∀σ' vc' tc',ni σ' vc' tc' oc->(∀q∈os,q∉oc->jX σ' q=jX σ q)->rZ σ' (vs.set c vc') (ts.set c tc') os
 | [],vs,os,c,t,_,_,hc=>by simp at hc
 |
  x::ts,vs,os,0,t,h,hn,hc=>by
  simp only [rZ]at h;obtain⟨v,vs',o1,o2,rfl,rfl,h1,h2⟩:=h;simp at hc;subst hc;rw [bF]at hn;refine⟨v,o1,rfl,h1,hn.1,fun q hq=>by simp [hq],fun σ' vc' tc' hv hf=>?_⟩;simp only [jP,rZ];exact⟨vc',vs',o1,o2,rfl,rfl,hv,h2.frame fun q hq=>hf q (by simp [hq]) fun h=>hn.2.2 q h q hq rfl⟩
 |
  x::ts,vs,os,c+1,t,h,hn,hc=>by
  simp only [rZ]at h;obtain⟨v,vs',o1,o2,rfl,rfl,h1,h2⟩:=h;rw [bF]at hn;obtain⟨vc,oc,k1,k2,k3,k4,k5⟩:=rZ.focus c t h2 hn.2.1 (by simpa using hc);refine⟨vc,oc,by simpa using k1,k2,k3,fun q hq=>by simp [k4 q hq],fun σ' vc' tc' hv hf=>?_⟩;simp only [List.set_cons_succ,rZ];exact⟨v,_,o1,o2,rfl,rfl,h1.frame fun q hq=>hf q (by simp [hq]) fun h=>hn.2.2 q hq q (k4 q h) rfl,k5 σ' vc' tc' hv fun q hq hnq=>hf q (by simp [hq]) hnq⟩
theorem mJ.focus{v:V}{sz:Nat}{rows:List (List V)}{os:List Nat}{i c:Nat}{row:List V}{t:V}(h:mJ σ v (.sl sz rows) os)(hn:os.Nodup)(hi:rows[i]? = some row)(hc:row[c]? = some t) :
  ∃
   o rows' row' vc oc,v=.lG o 0 rows.length/\jX σ o=some ⟨sz,rows'⟩/\rows'.length=rows.length/\rows'[i]? = some row'/\row'.length=row.length/\row'[c]? = some vc/\mJ σ vc t oc/\oc.Nodup/\(∀q∈oc,q∈os)/\o∈os/\o∉oc /\
   (∀σ' tc',mJ σ' vc tc' oc->(∀q∈os,q∉oc->jX σ' q=jX σ q)->mJ σ' v (.sl sz (rows.set i (row.set c tc'))) os) /\
   (∀x,oc=[]->(x.leaf=true)->(∃k n,x=.int k n)\/(∃b,x=.bool b)->mJ (σ.set o (some ⟨sz,rows'.set i (row'.set c x)⟩)) v (.sl sz (rows.set i (row.set c x))) os):=by
 simp only [mJ]at h;rcases h with ⟨rfl,_,_⟩|⟨o,rows',os',rfl,h2,rfl,h3⟩
 ·simp at hi
 rw [dX]at hn;obtain⟨row',oi,k1,k2,k3,k4,k5⟩:=h3.focus i row hn.2 hi;obtain⟨vc,oc,j1,j2,j3,j4,j5⟩:=k2.focus c t k3 hc;have hno:o∉oc:=fun h=>hn.1 (k4 o (j4 o h));have hset:rows'.set i (row'.set c vc)=rows':=by
  have:row'.set c vc=row':=by
   apply fP
   intro n;rw [fB];split
   ·subst_vars
    split
    ·exact j1.symm
    rename_i hlt;rw [aZ (by omega)]
   rfl
  rw [this]
  apply fP
  intro n;rw [fB];split
  ·subst_vars
   split
   ·exact k1.symm
   rename_i hlt;rw [aZ (by omega)]
  rfl
 refine⟨o,rows',row',vc,oc,rfl,h2,h3.len,k1,k2.len,j1,j2,j3,fun q hq=>by simp [k4 q (j4 q hq)],by simp,hno,?_,?_⟩
 ·intro σ' tc' hv hf;simp only [mJ];refine .inr ⟨o,rows',os',by simp,by rw [hf o (by simp) hno];exact h2,rfl,?_⟩;have h6:=j5 σ' vc tc' hv fun q hq hnq=>hf q (by simp [k4 q hq]) hnq;have h7:=k5 σ' _ _ h6 fun q hq hnq=>hf q (by simp [hq]) fun h=>hnq (j4 q h)
  rwa [hset]at h7
 intro x hoc hl hx;have hlt:=kX h2;have hf:∀q,q≠o->jX (σ.set o (some ⟨sz,rows'.set i (row'.set c x)⟩)) q=jX σ q:=fun q hq=>by
  rw [uO hlt,aO (fun e=>hq e.symm)]
 simp only [mJ];refine .inr ⟨o,rows'.set i (row'.set c x),os',by simp,by rw [uO hlt,aQ rfl],rfl,?_⟩;have hno':∀q∈os',q≠o:=fun q hq e=>hn.1 (e▸hq);have hx':mJ (σ.set o (some ⟨sz,rows'.set i (row'.set c x)⟩)) x x oc:=by
  rw [hoc];rcases hx with ⟨k,n,rfl⟩|⟨b,rfl⟩<;>simp [mJ]
 have h6:=j5 (σ.set o (some ⟨sz,rows'.set i (row'.set c x)⟩)) x x hx' fun q hq _=>hf q (hno' q (k4 q hq));exact k5 _ _ _ h6 fun q hq _=>hf q (hno' q hq)
def XA(σ:Store)(vs ts:List V):Prop:=∃os,ni σ vs ts os/\os.Nodup
theorem nG:∀{ts vs ts' vs':List V} {os os':List Nat},ni σ vs ts os->ni σ vs' ts' os'->ni σ (vs++vs') (ts++ts') (os++os')
 | [],vs,ts',vs',os,os',h,h'=>by simp only [ni]at h;obtain⟨rfl,rfl⟩:=h;simpa using h'
 |
  t::ts,vs,ts',vs',os,os',h,h'=>by
  simp only [ni]at h;obtain⟨v,vs1,o1,o2,rfl,rfl,h1,h2⟩:=h;simp only [dL,ni];exact⟨v,vs1++vs',o1,o2++os',rfl,by simp,h1,nG h2 h'⟩
theorem XA.push{σ2:Store}{vs ts:List V}{r t:V}{os:List Nat}(h:XA σ vs ts)(h1:mJ σ2 r t os)(h2:os.Nodup)(h3:∀o∈os,σ.length<=o)(h4:∀o,o<σ.length->jX σ2 o=jX σ o) :
  XA σ2 (vs++[r]) (ts++[t]):=by
 obtain⟨os0,k1,k2⟩:=h;refine⟨os0++os,nG (k1.frame fun o ho=>h4 o (ni.lt k1 o ho)) ?_,?_⟩
 ·simp only [ni];exact⟨r,[],os,[],rfl,by simp,h1,rfl,rfl⟩
 rw [bF];refine⟨k2,h2,fun a ha b hb e=>?_⟩;have:=ni.lt k1 a ha;have:=h3 b hb;omega
theorem XA.frame{σ2:Store}{vs ts:List V}(h:XA σ vs ts)(h4:∀o,o<σ.length->jX σ2 o=jX σ o):XA σ2 vs ts:=by
 obtain⟨os0,k1,k2⟩:=h;exact⟨os0,k1.frame fun o ho=>h4 o (ni.lt k1 o ho),k2⟩
theorem XA.res{vs ts:List V}(h:XA σ vs ts){i:Nat}{v t:V}(hv:vs[i]? = some v)(ht:ts[i]? = some t)(hd:nO FD t):resolve σ FD v=some t:=by
 obtain⟨os,k1,k2⟩:=h;obtain⟨vc,oc,j1,j2,_⟩:=k1.focus i t k2 ht;rw [hv]at j1
 cases j1
 exact OW FD j2 hd
def Mk(T:Tb)(f:Nat)(t:V)(k:Int)(t':V)(k':Int):Prop :=
 ∀σ v os,mJ σ v t os->os.Nodup->∃σ',Run T (.fn f [v,.int .i64 k] σ) (.fn (.int .i64 k') σ')/\mJ σ' v t' os/\(∀o,o<σ.length->o∉os->jX σ' o=jX σ o)/\σ.length<=σ'.length
end
theorem EVw:(∀(rs:List Oj) (k:V->Store->Prop) (st:St),endW rs .normal k st=outW rs [] st k)/\(∀(rs:List Oj) (k:V->Store->Prop) (st:St),endW rs .ret k st=outW rs [] st k) /\
  (∀(acc:List V) (st:St) (k:V->Store->Prop),outW [] acc st k=EM (vG acc.reverse) fun v=>k v st.objs) /\
  (∀(t:Nat) (rs:List Oj) (acc:List V) (st:St) (k:V->Store->Prop),outW (.tmp t::rs) acc st k=EM (st.env t) fun v=>outW rs (v::acc) st k) /\
  (∀(t n:Nat) (rs:List Oj) (acc:List V) (st:St) (k:V->Store->Prop),outW (.cell t n false::rs) acc st k=oC (rowAt st.objs (st.env t)) fun p=>oC p.1[p.2]? fun v=>EM v fun v=>outW rs (v::acc) st k) /\
  (∀(t n:Nat) (rs:List Oj) (acc:List V) (st:St) (k:V->Store->Prop),outW (.cell t n true::rs) acc st k=oC (rowAt st.objs (st.env t)) fun p=>if p.2+n<=p.1.length then EM (.agg ((p.1.drop p.2).take n)) fun v=>outW rs (v::acc) st k else False) :=
 ⟨atE,atF,atG,atH,apm,apn⟩
theorem tZ(σ:Store)(a:Option Obj):jX (σ++[a]) σ.length=a:=by simp [jX]
theorem aaY(σ:Store)(o:Nat):jX (σ++[none]) o=jX σ o:=by
 unfold jX;rcases Nat.lt_trichotomy o σ.length with h|h|h
 ·rw [bJ h]
 ·subst h;simp
 rw [aZ (by simp;omega),aZ (by omega)]
theorem kQ{σ:Store}{a:Option Obj}{o:Nat}(h:o<σ.length):jX (σ++[a]) o=jX σ o:=by
 unfold jX;rw [bJ h]
theorem XB(σ:Store)(a b:Option Obj):(σ++[a]).set σ.length b=σ++[b]:=by
 rw [List.set_append_right _ _ (aK _)];simp
theorem acP{σ:Store}{a b:Option Obj}{o:Nat}(h:o<σ.length):(σ++[a]).set o b=σ.set o b++[a]:=List.set_append_left _ _ h
theorem kT{σ:Store}{o:Nat}{x:Option Obj}(h:o<σ.length):jX (σ.set o x) o=x:=by
 rw [uO h,aQ rfl]
theorem kK{σ:Store}{o p:Nat}{x:Option Obj}(h:o≠p):jX (σ.set p x) o=jX σ o:=by
 unfold jX;rw [fB,aO (fun e=>h e.symm)]
theorem ak6(σ:Store)(k:Store->Prop):Uw σ k=k σ:=nr rfl
theorem RP:(∀(σ:Store) (k:Store->Prop),Uw σ k=k σ)/\(∀(σ:Store) (a:Option Obj),jX (σ++[a]) σ.length=a)/\(∀(σ:Store) (o:Nat),jX (σ++[none]) o=jX σ o) /\
  (∀{σ:Store} {a:Option Obj} {o:Nat},o<σ.length->jX (σ++[a]) o=jX σ o)/\(∀(σ:Store) (a b:Option Obj),(σ++[a]).set σ.length b=σ++[b]) /\
  (∀{σ:Store} {a b:Option Obj} {o:Nat},o<σ.length->(σ++[a]).set o b=σ.set o b++[a])/\(∀{σ:Store} {o:Nat} {x:Option Obj},o<σ.length->jX (σ.set o x) o=x) /\
  (∀{σ:Store} {o p:Nat} {x:Option Obj},o≠p->jX (σ.set p x) o=jX σ o)/\(∀(σ:Store) (a:Option Obj),(σ++[a]).length=σ.length+1)/\(∀(σ:Store) (o:Nat) (x:Option Obj),(σ.set o x).length=σ.length) :=
 ⟨ak6,tZ,aaY,fun h=>kQ h,XB,fun h=>acP h,fun h=>kT h,fun h=>kK h,fun σ a=>by simp,fun σ o x=>by simp⟩
structure Got (σ σ2:Store) (r t:V) (os:List Nat):Prop where
 ow:mJ σ2 r t os
 nd:os.Nodup
 fresh:∀o∈os,σ.length<=o
 old:∀o,o<σ.length->jX σ2 o=jX σ o
 len:σ.length<=σ2.length
theorem nK{T:Tb}{f:Nat}{as:List Src}{dst:Option Nat}{env:Nat->V}{σ:Store}{kp bs:Nat}{rs ms:List Nat}{k:St->Prop}{as':List V}{t:V}(h:PO T f as' t)
  (ha:Ls env σ as (· = as')) (hk:∀r σ2 os,Got σ σ2 r t os->k ⟨oh env dst r,σ2,kp,bs,rs,ms⟩):Qj T f as dst ⟨env,σ,kp,bs,rs,ms⟩ k :=
 ak4 h ha fun r σ2 os h1 h2 h3 h4 h5=>hk r σ2 os ⟨h1,h2,h3,h4,h5⟩
theorem Sz{T:Tb}{f:Nat}{as:List Src}{dst:Option Nat}{env:Nat->V}{σ:Store}{kp bs:Nat}{rs ms:List Nat}{k:List Nat->List Nat->Bool->St->Prop}{as':List V}{t:V}(h:PO T f as' t)
  (ha:Ls env σ as (· = as')) (hk:∀r σ2 os,Got σ σ2 r t os->k (nJ env σ as) [] true ⟨oh env dst r,σ2,kp,bs,rs,ms⟩):Y5 T f as dst ⟨env,σ,kp,bs,rs,ms⟩ k:=by
 obtain⟨r,σ',os,h1,h2,h3,h4⟩:=h;obtain⟨vs,e,rfl⟩:=Ae ha;refine .inl ⟨_,r,σ',e,h1,by simp [h2.nV,h4],?_⟩;have key:∀o,jX (yV σ σ') (σ.length+o)=(jX σ' o).map (qK (mD σ.length)):=by
  intro o;rw [qU,aO (by omega)]
  congr 2;omega
 refine hk _ _ (os.map (σ.length + ·)) ⟨h2.shift key,?_,?_,?_,?_⟩
 ·exact iJ.2 (h3.imp fun hne e=>hne (by omega))
 ·intro o ho;obtain⟨q,_,rfl⟩:=bC.1 ho;omega
 ·intro o ho;rw [qU,aQ ho]
 simp [yV]
theorem XA.got{σ σ2:Store}{vs ts:List V}{r t:V}{os:List Nat}(h:XA σ vs ts)(g:Got σ σ2 r t os):XA σ2 (vs++[r]) (ts++[t]):=h.push g.ow g.nd g.fresh g.old
theorem IG{σ:Store}{q:IntKind}{n:Int}{vs ts:List V}{os:List Nat}(h:ni σ vs ts os):ni σ (.int q n::vs) (.int q n::ts) os:=by
 simp only [ni];exact⟨_,vs,[],os,rfl,rfl,by simp [mJ],h⟩
theorem rM{σ:Store}{b:Bool}{vs ts:List V}{os:List Nat}(h:ni σ vs ts os):ni σ (.bool b::vs) (.bool b::ts) os:=by
 simp only [ni];exact⟨_,vs,[],os,rfl,rfl,by simp [mJ],h⟩
theorem qJ{σ:Store}{v t:V}{vs ts:List V}{o1 o2:List Nat}(h1:mJ σ v t o1)(h:ni σ vs ts o2):ni σ (v::vs) (t::ts) (o1++o2):=by
 simp only [ni];exact⟨v,vs,o1,o2,rfl,rfl,h1,h⟩
theorem qB{σ:Store}:ni σ [] [] []:=by simp [ni]
theorem qV{σ:Store}{cs ts:List V}{os:List Nat}(h:ni σ cs ts os):mJ σ (.agg cs) (.agg ts) os:=by simp only [mJ];exact⟨cs,rfl,h⟩
theorem JO{σ:Store}{cs ts:List V}{os:List Nat}(h:ni σ cs ts os):mJ σ (.oJ cs) (.oJ ts) os:=by simp only [mJ];exact⟨cs,rfl,h⟩
theorem SA{σ:Store}{o:Nat}{l:List Int}(h:jX σ o=some ⟨1,kR l⟩):mJ σ (.lG o 0 l.length) (ints l) [o]:=by
 simp only [mJ];refine .inr ⟨o,kR l,[],by rw [Fb],h,rfl,?_⟩;have:∀(l:List Int),rZ σ (kR l) (kR l) []:=by
  intro l
  induction l with
  |nil=>simp [kR,rZ]
  |cons x l ih=>simp only [Xz,rZ];exact⟨_,_,[],[],rfl,rfl,IG qB,ih⟩
 exact this _
theorem nP{σ:Store}:mJ σ (.sl 1 []) (ints []) []:=by simp [mJ,kR]
theorem mJ.zG{σ:Store}{v:V}{l:List Int}{os:List Nat}(h:mJ σ v (ints l) os):(l=[]/\v=.sl 1 []/\os=[])\/∃o,v=.lG o 0 l.length/\jX σ o=some ⟨1,kR l⟩/\os=[o]:=by
 simp only [mJ]at h;rcases h with ⟨h1,h2,h3⟩|⟨o,rows',os',h1,h2,h3,h4⟩
 ·left;exact⟨by simpa [kR]using h1,h2,h3⟩
 right;have key:∀(l:List Int) (rows':List (List V)) (os':List Nat),rZ σ rows' (kR l) os'->rows'=kR l/\os'=[]:=by
  intro l
  induction l with
  |nil=>intro rows' os' h;simp only [aiQ,rZ]at h;exact h
  |
   cons x l ih =>
   intro rows' os' h;simp only [Xz,rZ]at h;obtain⟨v,vs',o1,o2,rfl,rfl,h1,h2⟩:=h;obtain⟨rfl,rfl⟩:=ih _ _ h2;simp only [ni,mJ]at h1;obtain⟨v1,vs1,a1,a2,rfl,rfl,⟨rfl,rfl⟩,rfl,rfl⟩:=h1;exact⟨rfl,rfl⟩
 obtain⟨rfl,rfl⟩:=key l rows' os' h4;exact⟨o,by rw [h1,Fb],h2,h3⟩
structure Fr (os:List Nat) (σ σ':Store):Prop where
 old:∀o,o<σ.length->o∉os->jX σ' o=jX σ o
 len:σ.length<=σ'.length
theorem Fr.refl(os:List Nat)(σ:Store):Fr os σ σ:=⟨fun _ _ _=>rfl,aK _⟩
theorem Fr.trans{os:List Nat}{a b c:Store}(h:Fr os a b)(k:Fr os b c):Fr os a c:=⟨fun o hl ho=>(k.old o (bn hl h.len) ho).trans (h.old o hl ho),dw h.len k.len⟩
theorem Fr.mono{os os':List Nat}{a b:Store}(h:Fr os a b)(hs:∀o∈os,o∈os'):Fr os' a b:=⟨fun o hl ho=>h.old o hl fun k=>ho (hs o k),h.len⟩
def Fin(σ:Store)(r t:V):Prop:=∃r' os,mP r' r/\mJ σ r' t os/\os.Nodup
theorem wZ{σ:Store}{r t:V}{os:List Nat}(h:mJ σ r t os)(hn:os.Nodup):Fin σ r t:=⟨r,os,kM _,h,hn⟩
theorem apq{σ σ2:Store}{r t:V}{os:List Nat}(g:Got σ σ2 r t os):Fin σ2 r t:=wZ g.ow g.nd
theorem qC{σ:Store}{sz:Nat}:Fin σ .jZ (.sl sz []):=⟨.sl sz [],[],by simp [mP],by simp [mJ],.nil⟩
theorem XC{σ:Store}{o:Nat}{l:List Int}(h:jX σ o=some ⟨1,kR l⟩):Fin σ (.lG o 0 l.length) (ints l):=wZ (SA h) (by simp)
theorem aiT{σ:Store}{l:List Int}(h:kR l=[]):Fin σ .jZ (ints l):=by
 have:l=[]:=afi.1 h;subst this;exact qC
theorem lW{T:Tb}{f:Nat}{F:Fn}{args:List V}{t:V}(rf:Nat->Nat->Bool)(hT:T f=some F)
  (h:wp T rf F.body (fun e st=>endW F.res e (fun r σ=>Fin σ r t) st) (St.enter args [])) (hl:args.length=F.nargs:=by rfl) (hk:F.body.okC=true:=by rfl):PO T f args t:=by
 obtain⟨r,σ',h1,r',os,h2,h3,h4⟩:=run_end rf hT h hl hk;exact .of (.aau (yH _) h1 h2) h3 h4
theorem XD{v:V}(h:v.leaf=true)(k:List V->Prop):sU v k=k [v]:=by
 cases v<;>first|rfl|(simp [V.leaf]at h)
theorem Got.lf{σ σ2:Store}{r t:V}{os:List Nat}(g:Got σ σ2 r t os)(h:t.leaf=true)(k:List V->Prop):sU r k=k [r]:=XD (g.ow.leaf h) k
theorem Got.at{σ σ2:Store}{r t:V}{os:List Nat}(g:Got σ σ2 r t os)(o:Nat){x:Option Obj}(h:o<σ.length)(hx:jX σ o=x):jX σ2 o=x:=(g.old o h).trans hx
theorem EVl:V.leaf .one=true/\(∀k n,V.leaf (.int k n)=true)/\(∀b,V.leaf (.bool b)=true)/\(∀b,V.leaf (.str b)=true)/\V.leaf .jZ=true/\(∀a b,V.leaf (.sl a b)=true)/\(∀a b c,V.leaf (.lG a b c)=true) /\
  (∀a b c,V.leaf (.ptr a b c)=true)/\(∀a b,V.leaf (.pU a b)=true)/\(∀a,V.leaf (.agg a)=false)/\(∀a,V.leaf (.oJ a)=false)/\V.leaf .any=false :=
 ⟨rfl,fun _ _=>rfl,fun _=>rfl,fun _=>rfl,rfl,fun _ _=>rfl,fun _ _ _=>rfl,fun _ _ _=>rfl,fun _ _=>rfl,fun _=>rfl,fun _=>rfl,rfl⟩
theorem Got.lfb{σ σ2:Store}{r t:V}{os:List Nat}(g:Got σ σ2 r t os)(h:t.leaf=true):r.leaf=true:=g.ow.leaf h
theorem mJ.lJ{σ:Store}{r:V}{ts:List V}{os:List Nat}(h:mJ σ r (.agg ts) os):∃cs,r=.agg cs/\ni σ cs ts os:=by simpa only [mJ]using h
theorem mJ.agW{σ:Store}{r:V}{ts:List V}{os:List Nat}(h:mJ σ r (.oJ ts) os):∃cs,r=.oJ cs/\ni σ cs ts os:=by simpa only [mJ]using h
theorem ni.aaZ{σ:Store}{vs ts:List V}{q:IntKind}{n:Int}{os:List Nat}(h:ni σ vs (.int q n::ts) os):∃vs',vs=.int q n::vs'/\ni σ vs' ts os:=by
 simp only [ni,mJ]at h;obtain⟨v,vs',o1,o2,rfl,rfl,⟨rfl,rfl⟩,h⟩:=h;exact⟨vs',rfl,h⟩
theorem ni.xg{σ:Store}{vs ts:List V}{b:Bool}{os:List Nat}(h:ni σ vs (.bool b::ts) os):∃vs',vs=.bool b::vs'/\ni σ vs' ts os:=by
 simp only [ni,mJ]at h;obtain⟨v,vs',o1,o2,rfl,rfl,⟨rfl,rfl⟩,h⟩:=h;exact⟨vs',rfl,h⟩
theorem ni.inv{σ:Store}{vs ts:List V}{t:V}{os:List Nat}(h:ni σ vs (t::ts) os):∃v vs' o1 o2,vs=v::vs'/\os=o1++o2/\mJ σ v t o1/\ni σ vs' ts o2:=by
 simpa only [ni]using h
theorem ni.Dt{σ:Store}{vs:List V}{os:List Nat}(h:ni σ vs [] os):vs=[]/\os=[]:=by simpa only [ni]using h
theorem ni.leaf:∀{σ:Store} {ts vs:List V} {os:List Nat},ni σ vs ts os->ts.all V.leaf=true->vs.all V.leaf=true
 |_,[],vs,os,h,_=>by obtain⟨rfl,_⟩:=h.Dt;rfl
 |
  σ,t::ts,vs,os,h,hl=>by
  obtain⟨v,vs',o1,o2,rfl,rfl,h1,h2⟩:=h.inv;simp only [dF,aH]at hl ⊢;exact⟨h1.leaf hl.1,h2.leaf hl.2⟩
theorem yK{cs:List V}(h:cs.all V.leaf=true)(k:List V->Prop):sU (.agg cs) k=k cs:=by
 unfold sU;simp only [V.cells?];rw [aQ h];rfl
theorem mJ.atI{σ:Store}{v:V}{n:Bool}{l:List Int}{os:List Nat}(h:mJ σ v (.agg [.bool n,ints l]) os):∃v1,v=.agg [.bool n,v1]/\mJ σ v1 (ints l) os:=by
 obtain⟨cs,rfl,a⟩:=h.lJ;obtain⟨cs,rfl,b⟩:=a.xg;obtain⟨v1,cs,o1,o2,rfl,rfl,c,d⟩:=b.inv;obtain⟨rfl,rfl⟩:=d.Dt;exact⟨v1,rfl,by simpa using c⟩
theorem mJ.Na{σ:Store}{v:V}{n:Bool}{l m:List Int}{os:List Nat}(h:mJ σ v (.agg [.bool n,ints l,ints m]) os) :
  ∃v1 v2 o1 o2,v=.agg [.bool n,v1,v2]/\os=o1++o2/\mJ σ v1 (ints l) o1/\mJ σ v2 (ints m) o2:=by
 obtain⟨cs,rfl,a⟩:=h.lJ;obtain⟨cs,rfl,b⟩:=a.xg;obtain⟨v1,cs,o1,o2,rfl,rfl,c,d⟩:=b.inv;obtain⟨v2,cs,o3,o4,rfl,rfl,e,f⟩:=d.inv;obtain⟨rfl,rfl⟩:=f.Dt;exact⟨v1,v2,o1,o3,rfl,by simp,c,e⟩
structure Ow (n:Nat) (σ:Store) (vs ts:List V):Prop where
 ex:∃os,ni σ vs ts os/\os.Nodup/\∀o∈os,n<=o
theorem ak7{n:Nat}{σ:Store}:Ow n σ [] []:=⟨[],qB,.nil,by simp⟩
theorem Ow.set{n:Nat}{σ:Store}{vs ts:List V}(h:Ow n σ vs ts){o:Nat}{x:Option Obj}(ho:o<n):Ow n (σ.set o x) vs ts:=by
 obtain⟨os,a,b,c⟩:=h.ex;exact⟨os,a.frame fun q hq=>kK (by have:=c q hq;omega),b,c⟩
theorem Ow.snoc{n:Nat}{σ:Store}{vs ts:List V}(h:Ow n σ vs ts){x:Option Obj}:Ow n (σ++[x]) vs ts:=by
 obtain⟨os,a,b,c⟩:=h.ex;exact⟨os,a.frame fun q hq=>kQ (a.lt q hq),b,c⟩
theorem Ow.got{n:Nat}{σ σ2:Store}{vs ts:List V}{r t:V}{os:List Nat}(h:Ow n σ vs ts)(g:Got σ σ2 r t os)(hn:n<=σ.length):Ow n σ2 (vs++[r]) (ts++[t]):=by
 obtain⟨os0,a,b,c⟩:=h.ex;refine⟨os0++os,nG (a.frame fun o ho=>g.old o (a.lt o ho)) ?_,?_,fun o ho=>?_⟩
 ·simpa using qJ g.ow qB
 ·rw [bF];refine⟨b,g.nd,fun x hx y hy e=>?_⟩;have:=a.lt x hx;have:=g.fresh y hy;omega
 rcases aN.1 ho with ho|ho
 ·exact c o ho
 have:=g.fresh o ho;omega
theorem Ow.int{n:Nat}{σ:Store}{vs ts:List V}(h:Ow n σ vs ts)(q:IntKind)(k:Int):Ow n σ (vs++[.int q k]) (ts++[.int q k]):=by
 obtain⟨os0,a,b,c⟩:=h.ex;exact⟨os0,by simpa using nG a (IG (q:=q) (n:=k) qB),b,c⟩
theorem Ow.bool{n:Nat}{σ:Store}{vs ts:List V}(h:Ow n σ vs ts)(k:Bool):Ow n σ (vs++[.bool k]) (ts++[.bool k]):=by
 obtain⟨os0,a,b,c⟩:=h.ex;exact⟨os0,by simpa using nG a (rM (b:=k) qB),b,c⟩
theorem pF:∀{σ:Store} {ts ts' vs:List V} {os:List Nat},ni σ vs (ts++ts') os->∃v1 v2 o1 o2,vs=v1++v2/\os=o1++o2/\ni σ v1 ts o1/\ni σ v2 ts' o2
 |σ,[],ts',vs,os,h=>⟨[],vs,[],os,rfl,rfl,qB,h⟩
 |
  σ,t::ts,ts',vs,os,h=>by
  obtain⟨v,vs',o1,o2,rfl,rfl,h1,h2⟩:=ni.inv h;obtain⟨a,b,c,d,rfl,rfl,h3,h4⟩:=pF h2;exact⟨v::a,b,o1++c,d,rfl,by simp,qJ h1 h3,h4⟩
theorem Ow.flat{n:Nat}{σ:Store}{vs ts cs tcs:List V}(h:Ow n σ (vs++[.agg cs]) (ts++[.agg tcs]))(hl:vs.length=ts.length):Ow n σ (vs++cs) (ts++tcs):=by
 obtain⟨os0,a,b,c⟩:=h.ex;obtain⟨v1,v2,o1,o2,e,rfl,h1,h2⟩:=pF a;have hl1:=h1.len;obtain⟨rfl,rfl⟩:=fJ e (by omega);obtain⟨v,vs',o3,o4,e2,rfl,h3,h4⟩:=h2.inv;simp only [jH]at e2;obtain⟨rfl,rfl⟩:=e2;obtain⟨_,rfl⟩:=h4.Dt;obtain⟨cs',e3,h5⟩:=h3.lJ
 cases e3
 exact⟨o1++o3,nG h1 h5,by simpa using b,fun o ho=>c o (by simpa using ho)⟩
theorem Ow.fin{n:Nat}{σ:Store}{vs ts:List V}(h:Ow n σ vs ts):Fin σ (.agg vs) (.agg ts):=by
 obtain⟨os0,a,b,c⟩:=h.ex;exact wZ (qV a) b
theorem CS:∀{σ:Store} {ts vs ts' vs':List (List V)} {os os':List Nat},rZ σ vs ts os->rZ σ vs' ts' os'->rZ σ (vs++vs') (ts++ts') (os++os')
 |σ,[],vs,ts',vs',os,os',h,h'=>by simp only [rZ]at h;obtain⟨rfl,rfl⟩:=h;simpa using h'
 |
  σ,t::ts,vs,ts',vs',os,os',h,h'=>by
  simp only [rZ]at h;obtain⟨v,vs1,o1,o2,rfl,rfl,h1,h2⟩:=h;simp only [dL,rZ];exact⟨v,vs1++vs',o1,o2++os',rfl,by simp,h1,CS h2 h'⟩
theorem ZR{σ:Store}{v t:List V}{os:List Nat}(h:ni σ v t os):rZ σ [v] [t] os:=by
 simp only [rZ];exact⟨v,[],os,[],rfl,by simp,h,rfl,rfl⟩
structure acQ (n:Nat) (σ:Store) (vs ts:List (List V)):Prop where
 ex:∃os,rZ σ vs ts os/\os.Nodup/\∀o∈os,n<=o
theorem acQ.set{n:Nat}{σ:Store}{vs ts:List (List V)}(h:acQ n σ vs ts){o:Nat}{x:Option Obj}(ho:o<n):acQ n (σ.set o x) vs ts:=by
 obtain⟨os,a,b,c⟩:=h.ex;exact⟨os,a.frame fun q hq=>kK (by have:=c q hq;omega),b,c⟩
theorem acQ.got{n:Nat}{σ σ2:Store}{vs ts:List (List V)}{cs tcs:List V}{os:List Nat}(h:acQ n σ vs ts)(g:Got σ σ2 (.agg cs) (.agg tcs) os)(hn:n<=σ.length):acQ n σ2 (vs++[cs]) (ts++[tcs]):=by
 obtain⟨os0,a,b,c⟩:=h.ex;obtain⟨cs',e,h5⟩:=g.ow.lJ
 cases e
 refine⟨os0++os,CS (a.frame fun o ho=>g.old o (a.lt o ho)) (ZR h5),?_,fun o ho=>?_⟩
 ·rw [bF];refine⟨b,g.nd,fun x hx y hy e=>?_⟩;have:=a.lt x hx;have:=g.fresh y hy;omega
 rcases aN.1 ho with ho|ho
 ·exact c o ho
 have:=g.fresh o ho;omega
theorem acQ.fin{n o sz:Nat}{σ:Store}{vs ts:List (List V)}(h:acQ n σ vs ts)(ho:jX σ o=some ⟨sz,vs⟩)(hn:o<n):Fin σ (.lG o 0 ts.length) (.sl sz ts):=by
 obtain⟨os0,a,b,c⟩:=h.ex;refine wZ (os:=o::os0) ?_ (dX.2 ⟨fun k=>by have:=c o k;omega,b⟩);simp only [mJ];exact .inr ⟨o,vs,os0,rfl,ho,rfl,a⟩
theorem ew{P Q:Prop}(h:Q)(e:P=Q:=by conv=>lhs;simp (maxSteps:=1000000) (disch:=first|omega|assumption|(simp;done)|(simp;omega)) only [↓EVp,↓EVw,RP,EVl,EVq,splice,Nat.reduceAdd,Nat.reduceEqDiff,Nat.reduceMul,Nat.reduceLT,Nat.reduceLeDiff,Nat.reduceBEq,reduceIte,JD,Kq,MN,cZ,dK,eF,dW,fM,reduceCtorEq]):P:=Eq.mpr (e) h
theorem y8{P Q A1:Prop}(x1:A1)(h:Q)(e:A1->P=Q:=by intro x1;conv=>lhs;simp (maxSteps:=1000000) (disch:=first|omega|assumption|(simp;done)|(simp;omega)) only [↓EVp,↓EVw,RP,EVl,EVq,splice,Nat.reduceAdd,Nat.reduceEqDiff,Nat.reduceMul,Nat.reduceLT,Nat.reduceLeDiff,Nat.reduceBEq,reduceIte,JD,Kq,MN,cZ,dK,eF,dW,fM,reduceCtorEq,x1]):P:=Eq.mpr (e x1) h
theorem Af{P Q A1 A2:Prop}(x1:A1)(x2:A2)(h:Q)(e:A1->A2->P=Q:=by intro x1 x2;conv=>lhs;simp (maxSteps:=1000000) (disch:=first|omega|assumption|(simp;done)|(simp;omega)) only [↓EVp,↓EVw,RP,EVl,EVq,splice,Nat.reduceAdd,Nat.reduceEqDiff,Nat.reduceMul,Nat.reduceLT,Nat.reduceLeDiff,Nat.reduceBEq,reduceIte,JD,Kq,MN,cZ,dK,eF,dW,fM,reduceCtorEq,x1,x2]):P:=Eq.mpr (e x1 x2) h
theorem EN{P Q A1 A2 A3:Prop}(x1:A1)(x2:A2)(x3:A3)(h:Q)(e:A1->A2->A3->P=Q:=by intro x1 x2 x3;conv=>lhs;simp (maxSteps:=1000000) (disch:=first|omega|assumption|(simp;done)|(simp;omega)) only [↓EVp,↓EVw,RP,EVl,EVq,splice,Nat.reduceAdd,Nat.reduceEqDiff,Nat.reduceMul,Nat.reduceLT,Nat.reduceLeDiff,Nat.reduceBEq,reduceIte,JD,Kq,MN,cZ,dK,eF,dW,fM,reduceCtorEq,x1,x2,x3]):P:=Eq.mpr (e x1 x2 x3) h
theorem Du{P Q A1 A2 A3 A4:Prop}(x1:A1)(x2:A2)(x3:A3)(x4:A4)(h:Q)(e:A1->A2->A3->A4->P=Q:=by intro x1 x2 x3 x4;conv=>lhs;simp (maxSteps:=1000000) (disch:=first|omega|assumption|(simp;done)|(simp;omega)) only [↓EVp,↓EVw,RP,EVl,EVq,splice,Nat.reduceAdd,Nat.reduceEqDiff,Nat.reduceMul,Nat.reduceLT,Nat.reduceLeDiff,Nat.reduceBEq,reduceIte,JD,Kq,MN,cZ,dK,eF,dW,fM,reduceCtorEq,x1,x2,x3,x4]):P:=Eq.mpr (e x1 x2 x3 x4) h
theorem Jg{P Q A1 A2 A3 A4 A5:Prop}(x1:A1)(x2:A2)(x3:A3)(x4:A4)(x5:A5)(h:Q)(e:A1->A2->A3->A4->A5->P=Q:=by intro x1 x2 x3 x4 x5;conv=>lhs;simp (maxSteps:=1000000) (disch:=first|omega|assumption|(simp;done)|(simp;omega)) only [↓EVp,↓EVw,RP,EVl,EVq,splice,Nat.reduceAdd,Nat.reduceEqDiff,Nat.reduceMul,Nat.reduceLT,Nat.reduceLeDiff,Nat.reduceBEq,reduceIte,JD,Kq,MN,cZ,dK,eF,dW,fM,reduceCtorEq,x1,x2,x3,x4,x5]):P:=Eq.mpr (e x1 x2 x3 x4 x5) h
theorem Ia{P Q A1 A2 A3 A4 A5 A6:Prop}(x1:A1)(x2:A2)(x3:A3)(x4:A4)(x5:A5)(x6:A6)(h:Q)(e:A1->A2->A3->A4->A5->A6->P=Q:=by intro x1 x2 x3 x4 x5 x6;conv=>lhs;simp (maxSteps:=1000000) (disch:=first|omega|assumption|(simp;done)|(simp;omega)) only [↓EVp,↓EVw,RP,EVl,EVq,splice,Nat.reduceAdd,Nat.reduceEqDiff,Nat.reduceMul,Nat.reduceLT,Nat.reduceLeDiff,Nat.reduceBEq,reduceIte,JD,Kq,MN,cZ,dK,eF,dW,fM,reduceCtorEq,x1,x2,x3,x4,x5,x6]):P:=Eq.mpr (e x1 x2 x3 x4 x5 x6) h
theorem ew7{P Q A1 A2 A3 A4 A5 A6 A7:Prop}(x1:A1)(x2:A2)(x3:A3)(x4:A4)(x5:A5)(x6:A6)(x7:A7)(h:Q)(e:A1->A2->A3->A4->A5->A6->A7->P=Q:=by intro x1 x2 x3 x4 x5 x6 x7;conv=>lhs;simp (maxSteps:=1000000) (disch:=first|omega|assumption|(simp;done)|(simp;omega)) only [↓EVp,↓EVw,RP,EVl,EVq,splice,Nat.reduceAdd,Nat.reduceEqDiff,Nat.reduceMul,Nat.reduceLT,Nat.reduceLeDiff,Nat.reduceBEq,reduceIte,JD,Kq,MN,cZ,dK,eF,dW,fM,reduceCtorEq,x1,x2,x3,x4,x5,x6,x7]):P:=Eq.mpr (e x1 x2 x3 x4 x5 x6 x7) h
theorem ew8{P Q A1 A2 A3 A4 A5 A6 A7 A8:Prop}(x1:A1)(x2:A2)(x3:A3)(x4:A4)(x5:A5)(x6:A6)(x7:A7)(x8:A8)(h:Q)(e:A1->A2->A3->A4->A5->A6->A7->A8->P=Q:=by intro x1 x2 x3 x4 x5 x6 x7 x8;conv=>lhs;simp (maxSteps:=1000000) (disch:=first|omega|assumption|(simp;done)|(simp;omega)) only [↓EVp,↓EVw,RP,EVl,EVq,splice,Nat.reduceAdd,Nat.reduceEqDiff,Nat.reduceMul,Nat.reduceLT,Nat.reduceLeDiff,Nat.reduceBEq,reduceIte,JD,Kq,MN,cZ,dK,eF,dW,fM,reduceCtorEq,x1,x2,x3,x4,x5,x6,x7,x8]):P:=Eq.mpr (e x1 x2 x3 x4 x5 x6 x7 x8) h
end Go.Ml
end
namespace Go.Ml
theorem uT{l:List V}{env:Nat->V}(h:NV l 0 env:=by (try (refine ew ?_;try with_reducible exact aC))<;>(repeat' (first|refine⟨?_,?_⟩|exact MO (by omega)|exact OT (by simp)|exact JM _))):NV l 0 env:=h
end Go.Ml
namespace Go.Ml
theorem Ib{a b:Option Obj}(h:a=b:=by simp (disch:=first|omega|(simp only [aS,bY,ak,aG];omega)) only [RP]):a=b:=h
end Go.Ml
section
namespace Go.Ml
theorem Mk.go{T:Tb}{f:Nat}{t t':V}{k k':Int}(h:Mk T f t k t' k'){σ:Store}{v:V}{os:List Nat}(ho:mJ σ v t os)(hn:os.Nodup) :
  ∃σ',Run T (.fn f [v,.int .i64 k] σ) (.fn (.int .i64 k') σ')/\mJ σ' v t' os/\Fr os σ σ':=by
 obtain⟨σ',a,b,c,d⟩:=h σ v os ho hn;exact⟨σ',a,b,⟨c,d⟩⟩
structure Cs (σ:Store) (cs ts:List V) (os:List Nat):Prop where
 ow:ni σ cs ts os
 nd:os.Nodup
theorem atJ{α:Type}{l:List α}{i:Nat}{x:α}(h:l[i]? = some x):l.set i x=l:=by
 apply fP
 intro n;rw [fB];split
 ·subst_vars
  split
  ·exact h.symm
  rename_i hlt;rw [aZ (by omega)]
 rfl
section
variable {σ σ' : Store} {cs ts : List V} {os : List Nat}
theorem Cs.lt(h:Cs σ cs ts os):∀q∈os,q<σ.length:=h.ow.lt
theorem Cs.frame(h:Cs σ cs ts os)(f:∀q∈os,jX σ' q=jX σ q):Cs σ' cs ts os:=⟨h.ow.frame f,h.nd⟩
theorem Cs.fr{os':List Nat}(h:Cs σ cs ts os)(f:Fr os' σ σ')(hd:∀q∈os,q∉os'):Cs σ' cs ts os:=h.frame fun q hq=>f.old q (h.lt q hq) (hd q hq)
theorem Cs.snoc(h:Cs σ cs ts os){x:Option Obj}:Cs (σ++[x]) cs ts os:=h.frame fun q hq=>kQ (h.lt q hq)
theorem Cs.set(h:Cs σ cs ts os){o:Nat}{x:Option Obj}(ho:o∉os):Cs (σ.set o x) cs ts os:=h.frame fun q hq=>kK fun e=>ho (e▸hq)
theorem Cs.call{T:Tb}{f:Nat}{t t' v:V}{k k':Int}(h:Cs σ cs ts os)(c:Nat)(hm:Mk T f t k t' k')(hv:cs[c]? = some v)(ht:ts[c]? = some t) :
  ∃σ',Run T (.fn f [v,.int .i64 k] σ) (.fn (.int .i64 k') σ')/\Cs σ' cs (ts.set c t') os/\Fr os σ σ':=by
 obtain⟨vc,oc,j1,j2,j3,j4,j5⟩:=h.ow.focus c t h.nd ht;rw [hv]at j1
 cases j1
 obtain⟨σ',m1,m2,m3⟩:=hm.go j2 j3;refine⟨σ',m1,⟨?_,h.nd⟩,m3.mono j4⟩;have:=j5 σ' v t' m2 fun q hq' hq=>m3.old q (h.lt q hq') hq
 rwa [atJ hv]at this
theorem Cs.part{T:Tb}{f:Nat}{t2 t2':List V}{k k':Int}(h:Cs σ cs ts os)(n m:Nat)(hm:Mk T f (.agg t2) k (.agg t2') k')(ht:(ts.drop n).take m=t2)(hn:n+m<=ts.length) :
  ∃σ',Run T (.fn f [.agg ((cs.drop n).take m),.int .i64 k] σ) (.fn (.int .i64 k') σ')/\Cs σ' cs (ts.take n++t2'++ts.drop (n+m)) os/\Fr os σ σ':=by
 have e:ts=ts.take n++(t2++ts.drop (n+m)):=by
  rw [<-ht]
  conv=>lhs;rw [<-iD n ts,<-iD m (ts.drop n),List.drop_drop]
 have lt2:t2.length=m:=by rw [<-ht];simp;omega
 have h1:=h.ow;rw [e]at h1;obtain⟨c1,c2,o1,o2,rfl,rfl,a1,a2⟩:=pF h1;have l1:=a1.len;obtain⟨c3,c4,o3,o4,rfl,rfl,a3,a4⟩:=pF a2;have l2:=a3.len;have nd:=h.nd;have l1':c1.length=n:=by rw [l1];simp;omega
 have e2:((c1++(c3++c4)).drop n).take m=c3:=by
  rw [<-l1',List.drop_left,<-lt2,<-l2,List.take_left]
 rw [e2];simp only [bF,aN]at nd;obtain⟨nd1,⟨nd3,nd4,d34⟩,d1⟩:=nd;obtain⟨σ',m1,m2,m3⟩:=hm.go (qV a3) nd3;obtain⟨cs',e3,m4⟩:=m2.lJ
 cases e3
 have lt:=h.lt;refine⟨σ',m1,⟨?_,h.nd⟩,m3.mono (by simp +contextual)⟩;rw [cO];refine nG (a1.frame fun q hq=>m3.old q (lt q (by simp [hq])) fun hk=>d1 q hq q (.inl hk) rfl) (nG m4 (a4.frame fun q hq=>m3.old q (lt q (by simp [hq])) fun hk=>d34 q hk q hq rfl))
theorem Cs.got{σ2:Store}{r t:V}{os2:List Nat}(h:Cs σ cs ts os)(g:Got σ σ2 r t os2):Cs σ2 (cs++[r]) (ts++[t]) (os++os2):=by
 refine⟨nG (h.ow.frame fun q hq=>g.old q (h.lt q hq)) (by simpa using qJ g.ow qB),?_⟩;rw [bF];refine⟨h.nd,g.nd,fun x hx y hy e=>?_⟩;have:=h.lt x hx;have:=g.fresh y hy;omega
theorem aa0:Cs σ [] [] []:=⟨qB,.nil⟩
theorem Cs.res(h:Cs σ cs ts os)(c:Nat){v t:V}(hv:cs[c]? = some v)(ht:ts[c]? = some t)(hd:nO FD t):resolve σ FD v=some t:=by
 obtain⟨vc,oc,j1,j2,_⟩:=h.ow.focus c t h.nd ht;rw [hv]at j1
 cases j1
 exact OW FD j2 hd
end
theorem mJ.XE{σ:Store}{v:V}{sz:Nat}{rows:List (List V)}{os:List Nat}(h:mJ σ v (.sl sz rows) os) :
  (rows=[]/\v=.sl sz []/\os=[])\/∃o R os',v=.lG o 0 rows.length/\jX σ o=some ⟨sz,R⟩/\R.length=rows.length/\os=o::os'/\rZ σ R rows os':=by
 simp only [mJ]at h;rcases h with ⟨rfl,h1,h2⟩|⟨o,R,os',rfl,h2,rfl,h3⟩
 ·exact .inl ⟨rfl,h1,h2⟩
 exact .inr ⟨o,R,os',rfl,h2,h3.len,rfl,h3⟩
theorem Wv{T:Tb}{f:Nat}{as:List Src}{dst:Option Nat}{env:Nat->V}{σ σ':Store}{kp bs:Nat}{rs ms:List Nat}{k:St->Prop}{as':List V}{r:V}
  (h:Run T (.fn f as' σ) (.fn r σ')) (ha:(as.map fun s=>s.ev env)=as') (hl:σ.length<=σ'.length) (hb:σ.length<=bs) (hk:k ⟨oh env dst r,σ',kp,bs,rs,ms⟩):Qj T f as dst ⟨env,σ,kp,bs,rs,ms⟩ k:=by
 subst ha;exact ak5 h hl hb hk
def cnL{α:Type}(c:α->Nat)(l:List α)(i:Nat):Nat:=((l.take i).map c).sum
theorem SB(g:Nat->Option Nat):∀l:List V,lD.IC g l=l.map (lD g)
 | []=>rfl
 |x::l=>by simp only [lD.IC,bV,SB g l]
section
variable {σ σ2 : Store} {m : Nat}
theorem Jh{n:Nat}(ih:∀v t:V,resolve σ n v=some t->resolve σ2 n (lD (mD m) v)=some t):∀(l l':List V),l.mapM (resolve σ n)=some l'->(l.map (lD (mD m))).mapM (resolve σ2 n)=some l'
 | [],l',h=>by simpa using h
 |
  x::l,l',h=>by
  simp only [bU,jh,iF,eu,bV]at h ⊢;obtain⟨a,ha,b,hb,e⟩:=h;exact⟨a,ih x a ha,b,Jh ih l b hb,e⟩
theorem Vx{n:Nat}(ih:∀v t:V,resolve σ n v=some t->resolve σ2 n (lD (mD m) v)=some t):∀(l:List (List V)) (l':List (List V)),(l.mapM fun (r:List V)=>r.mapM (resolve σ n))=some l' ->
  ((l.map fun r=>r.map (lD (mD m))).mapM fun (r:List V)=>r.mapM (resolve σ2 n))=some l'
 | [],l',h=>by simpa using h
 |
  x::l,l',h=>by
  simp only [bU,jh,iF,eu,bV]at h ⊢;obtain⟨a,ha,b,hb,e⟩:=h;exact⟨a,Jh ih x a ha,b,Vx ih l b hb,e⟩
theorem ZT(hs:∀o,jX σ2 (m+o)=(jX σ o).map (qK (mD m))):∀(n:Nat) (v t:V),resolve σ n v=some t->resolve σ2 n (lD (mD m) v)=some t
 |0,_,_,h=>by simp [resolve]at h
 |
  n+1,v,t,h=>by
  have ih:=ZT hs n
  cases v with
  |
   lG o s l =>
   simp only [lD,mD,resolve,hs]at h ⊢
   cases ho:jX σ o with
   |none=>rw [ho]at h;cases h
   |
    some ob =>
    rw [ho]at h;simp only [dh,qK,aU]at h ⊢;split at h
    ·rename_i hl;rw [aQ hl];obtain⟨rows,h1,rfl⟩:=aJ.1 h;rw [aJ];refine⟨rows,?_,rfl⟩;rw [<-kL,<-List.map_take];exact Vx ih _ _ h1
    cases h
  |
   ptr o r off =>
   simp only [lD,mD,resolve,hs]at h ⊢
   cases ho:jX σ o with
   |none=>rw [ho]at h;cases h
   |
    some ob =>
    rw [ho]at h;simp only [dh,qK,bM]at h ⊢
    cases hr:ob.rows[r]? with
    |none=>rw [hr]at h;cases h
    |
     some row =>
     rw [hr]at h;simp only [dh]at h ⊢;obtain⟨row',h1,rfl⟩:=aJ.1 h;rw [aJ];exact⟨row',Jh ih _ _ h1,rfl⟩
  |
   agg cs =>
   simp only [lD,resolve]at h ⊢;obtain⟨cs',h1,rfl⟩:=aJ.1 h;rw [aJ,SB];exact⟨cs',Jh ih _ _ h1,rfl⟩
  |
   oJ cs =>
   simp only [lD,resolve]at h ⊢;obtain⟨cs',h1,rfl⟩:=aJ.1 h;rw [aJ,SB];exact⟨cs',Jh ih _ _ h1,rfl⟩
  |any=>simp [resolve]at h
  |one=>simpa only [lD,resolve]using h
  |int k n=>simpa only [lD,resolve]using h
  |bool b=>simpa only [lD,resolve]using h
  |str b=>simpa only [lD,resolve]using h
  |jZ=>simpa only [lD,resolve]using h
  |sl a b=>simpa only [lD,resolve]using h
  |pU a b=>simpa only [lD,resolve]using h
end
def VQ(σ:Store):List V->List (Bool×V)->List Nat->Prop
 |vs,[],os=>vs=[]/\os=[]
 |vs,(b,t)::ts,os=>∃v vs' o1 o2,vs=v::vs'/\os=o1++o2/\(if b=true then mJ σ v t o1 else resolve σ FD v=some t/\o1=[])/\VQ σ vs' ts o2
theorem VQ.shift{σ σ2:Store}{n:Nat}(hs:∀o,jX σ2 (n+o)=(jX σ o).map (qK (mD n))):∀{ts:List (Bool×V)} {vs:List V} {os:List Nat},VQ σ vs ts os->VQ σ2 (vs.map (lD (mD n))) ts (os.map (n + ·))
 | [],vs,os,h=>by simp only [VQ]at h ⊢;obtain⟨rfl,rfl⟩:=h;exact⟨rfl,rfl⟩
 |
  (b,t)::ts,vs,os,h=>by
  simp only [VQ]at h ⊢;obtain⟨v,vs',o1,o2,rfl,rfl,h1,h2⟩:=h;refine⟨_,_,o1.map (n + ·),o2.map (n + ·),rfl,by rw [bT],?_,VQ.shift hs h2⟩
  cases b with
  |true=>simp only [if_true]at h1 ⊢;exact mJ.shift hs h1
  |
   false =>
   simp only [bG,if_false]at h1 ⊢;exact⟨ZT hs _ _ _ h1.1,by rw [h1.2];rfl⟩
def PX(T:Tb)(f:Nat)(args:List V)(ts:List (Bool×V)):Prop:=∃vs σ' os,Run T (.fn f args []) (.fn (.oJ vs) σ')/\VQ σ' vs ts os/\os.Nodup
structure aa1 (σ σ2:Store) (vs:List V) (ts:List (Bool×V)) (os:List Nat):Prop where
 ow:VQ σ2 vs ts os
 nd:os.Nodup
 fresh:∀o∈os,σ.length<=o
 old:∀o,o<σ.length->jX σ2 o=jX σ o
 len:σ.length<=σ2.length
theorem UF{T:Tb}{f:Nat}{as:List Src}{dst:Option Nat}{env:Nat->V}{σ:Store}{kp bs:Nat}{rs ms:List Nat}{k:St->Prop}{as':List V}{ts:List (Bool×V)}(h:PX T f as' ts)
  (ha:Ls env σ as (· = as')) (hr:nJ env σ as=[]) (hk:∀vs σ2 os,aa1 σ σ2 vs ts os->k ⟨oh env dst (.oJ vs),σ2,kp,bs,rs,ms⟩):Qj T f as dst ⟨env,σ,kp,bs,rs,ms⟩ k:=by
 obtain⟨vs,σ',os,h1,h2,h3⟩:=h;obtain⟨as2,e,rfl⟩:=Ae ha;refine⟨_,.own e h1 (R:=[]) (by split;rfl;exact hr.symm),?_⟩;have key:∀o,jX (yV (nI σ []) σ') (σ.length+o)=(jX σ' o).map (qK (mD σ.length)):=by
  intro o;show jX (yV σ σ') _=_;rw [qU,aO (by omega)]
  congr 2;omega
 have:=hk (vs.map (lD (mD σ.length))) (yV (nI σ []) σ') (os.map (σ.length + ·)) ⟨h2.shift key,?_,?_,?_,?_⟩
 ·simpa only [lD,SB]using this
 ·exact iJ.2 (h3.imp fun hne e=>hne (by omega))
 ·intro o ho;obtain⟨q,_,rfl⟩:=bC.1 ho;omega
 ·intro o ho;show jX (yV σ σ') _=_;rw [qU,aQ ho]
 simp [yV,nI]
theorem aa1.of1{σ σ2:Store}{vs:List V}{t u:V}{os:List Nat}(g:aa1 σ σ2 vs [(true,t),(false,u)] os):∃v w,vs=[v,w]/\resolve σ2 FD w=some u/\Got σ σ2 v t os:=by
 obtain⟨v,vs',o1,o2,rfl,rfl,h1,h2⟩:=(by simpa only [VQ]using g.ow:∃v vs' o1 o2,_);obtain⟨w,vs2,o3,o4,rfl,rfl,h3,h4⟩:=h2;obtain⟨rfl,rfl⟩:=h4;simp only [if_true,bG,if_false]at h1 h3;obtain⟨h3,rfl⟩:=h3;refine⟨v,w,rfl,h3,⟨by simpa using h1,g.nd,g.fresh,g.old,g.len⟩⟩
theorem aa1.fo{σ σ2:Store}{vs:List V}{t u b:V}{os:List Nat}(g:aa1 σ σ2 vs [(false,u),(true,t),(false,b)] os):∃w v z,vs=[w,v,z]/\resolve σ2 FD w=some u/\resolve σ2 FD z=some b/\Got σ σ2 v t os:=by
 obtain⟨w,vs',o1,o2,rfl,rfl,h1,h2⟩:=(by simpa only [VQ]using g.ow:∃v vs' o1 o2,_);obtain⟨v,vs2,o3,o4,rfl,rfl,h3,h4⟩:=h2;obtain⟨z,vs3,o5,o6,rfl,rfl,h5,h6⟩:=h4;obtain⟨rfl,rfl⟩:=h6;simp only [if_true,bG,if_false]at h1 h3 h5;obtain⟨h1,rfl⟩:=h1;obtain⟨h5,rfl⟩:=h5;refine⟨w,v,z,rfl,h1,h5,⟨by simpa using h3,g.nd,g.fresh,g.old,g.len⟩⟩
theorem Dv{σ:Store}{z:V}{b:Bool}(h:resolve σ FD z=some (.bool b)):z=.bool b:=by
 rw [show FD=11+1 from rfl]at h
 cases z with
 |bool c=>simpa [resolve]using h
 |
  lG o s l =>
  rw [resolve]at h
  cases ho:jX σ o with
  |none=>simp only [ho]at h;cases h
  |
   some ob =>
   simp only [ho]at h;by_cases hl:s+l<=ob.rows.length
   ·rw [aQ hl]at h;obtain⟨_,_,e⟩:=aJ.1 h
    cases e
   rw [aO hl]at h;cases h
 |
  ptr o r off =>
  rw [resolve]at h
  cases ho:jX σ o with
  |none=>simp only [ho]at h;cases h
  |
   some ob =>
   simp only [ho]at h
   cases hr:ob.rows[r]? with
   |none=>simp only [hr]at h;cases h
   |
    some row =>
    simp only [hr]at h;obtain⟨_,_,e⟩:=aJ.1 h
    cases e
 |
  agg cs =>
  rw [resolve]at h;obtain⟨_,_,e⟩:=aJ.1 h
  cases e
 |
  oJ cs =>
  rw [resolve]at h;obtain⟨_,_,e⟩:=aJ.1 h
  cases e
 |any=>rw [resolve]at h;cases h
 |one=>rw [resolve]at h<;>simp_all
 |int k n=>rw [resolve]at h<;>simp_all
 |str n=>rw [resolve]at h<;>simp_all
 |jZ=>rw [resolve]at h<;>simp_all
 |sl k n=>rw [resolve]at h<;>simp_all
 |pU k n=>rw [resolve]at h<;>simp_all
def afl(σ:Store)(r:V)(ts:List (Bool×V)):Prop:=∃vs os,mP (.oJ vs) r/\VQ σ vs ts os/\os.Nodup
theorem qj{T:Tb}{f:Nat}{as:List Src}{dst:Option Nat}{env:Nat->V}{σ:Store}{kp bs:Nat}{rs ms:List Nat}{k:List Nat->List Nat->Bool->St->Prop}{as':List V}{t:V}(h:PO T f as' t)
  (ha:Ls env σ as (· = as')) (hr:nJ env σ as=[]) (hk:∀r σ2 os,Got σ σ2 r t os->k [] [] true ⟨oh env dst r,σ2,kp,bs,rs,ms⟩):Y5 T f as dst ⟨env,σ,kp,bs,rs,ms⟩ k :=
 Sz h ha fun r σ2 os g=>by rw [hr];exact hk r σ2 os g
theorem Got.Ic{σ σ2:Store}{r t:V}{b:Bool}{os:List Nat}(g:Got σ σ2 r (.oJ [t,.bool b]) os):∃v,r=.oJ [v,.bool b]/\Got σ σ2 v t os:=by
 obtain⟨cs,rfl,h⟩:=g.ow.agW;obtain⟨v,vs,o1,o2,rfl,rfl,h1,h2⟩:=h.inv;obtain⟨vs,rfl,h3⟩:=h2.xg;obtain⟨rfl,rfl⟩:=h3.Dt;exact⟨v,rfl,by simpa using h1,g.nd,g.fresh,g.old,g.len⟩
theorem Got.aCw{σ σ2:Store}{r t u:V}{b:Bool}{os:List Nat}(g:Got σ σ2 r (.oJ [t,u,.bool b]) os):∃v w,r=.oJ [v,w,.bool b]/\Got σ σ2 (.agg [v,w]) (.agg [t,u]) os:=by
 obtain⟨cs,rfl,h⟩:=g.ow.agW;obtain⟨v,vs,o1,o2,rfl,rfl,h1,h2⟩:=h.inv;obtain⟨w,vs,o3,o4,rfl,rfl,h3,h4⟩:=h2.inv;obtain⟨vs,rfl,h5⟩:=h4.xg;obtain⟨rfl,rfl⟩:=h5.Dt;exact⟨v,w,rfl,qV (qJ h1 (by simpa using qJ h3 qB)),g.nd,g.fresh,g.old,g.len⟩
theorem Fin.Ic{σ:Store}{v t:V}{b:Bool}(h:Fin σ v t):Fin σ (.oJ [v,.bool b]) (.oJ [t,.bool b]):=by
 obtain⟨r',os,h1,h2,h3⟩:=h;refine⟨.oJ [r',.bool b],os,?_,JO (by simpa using qJ h2 (rM qB)),h3⟩;simp only [mP,wS];exact⟨_,rfl,_,_,rfl,h1,_,_,rfl,rfl,rfl⟩
theorem Wx(n:Nat)(q:IntKind)(k:Int):nO (n+1) (.int q k):=by simp [nO]
theorem uU(n:Nat)(b:Bool):nO (n+1) (.bool b):=by simp [nO]
theorem kJ(n:Nat)(l:List Int):nO (n+2) (ints l):=by
 simp only [nO];intro r hr c hc;simp only [kR,bC]at hr;obtain⟨x,_,rfl⟩:=hr;simp only [aI,dD,or_false]at hc;subst hc;simp [nO]
theorem XF{α:Type}{f:α->List V}{n k:Nat}{l:List α}(h:∀x,∀c∈f x,nO n c):nO (n+1) (.sl k (l.map f)):=by
 simp only [nO];intro r hr c hc;obtain⟨x,_,rfl⟩:=bC.1 hr;exact h x c hc
theorem aa2{n:Nat}{cs:List V}(h:∀c∈cs,nO n c):nO (n+1) (.agg cs):=by simpa only [nO]using h
theorem ak9(n:Nat)(x:R):∀c∈x.cells,nO (n+2) c:=by
 simp only [iq];exact⟨uU _ _,kJ _ _,kJ _ _,by simp⟩
theorem axF(n:Nat)(x:Pt):∀c∈x.cells,nO (n+2) c:=by
 simp only [iq];exact⟨uU _ _,kJ _ _,kJ _ _,uU _ _,kJ _ _,kJ _ _,by simp⟩
theorem aq8(n:Nat)(x:Lk):∀c∈x.cells,nO (n+2) c:=by
 simp only [iq];exact⟨Wx _ _ _,Wx _ _ _,uU _ _,kJ _ _,kJ _ _,uU _ _,kJ _ _,kJ _ _,uU _ _,kJ _ _,kJ _ _,by simp⟩
theorem axG(n:Nat)(x:Pa):∀c∈x.cells,nO (n+2) c:=by
 simp only [iq];exact⟨Wx _ _ _,uU _ _,kJ _ _,kJ _ _,uU _ _,kJ _ _,kJ _ _,uU _ _,kJ _ _,kJ _ _,by simp⟩
theorem Hw(n:Nat)(l:List R):nO (n+3) (oZ l):=XF fun x=>ak9 n x
theorem agY(n:Nat)(l:List Pt):nO (n+3) (VO l):=XF fun x=>axF n x
theorem aps(n:Nat)(l:List Lk):nO (n+3) (nY l):=XF fun x=>aq8 n x
theorem apt(n:Nat)(l:List Pa):nO (n+3) (QT l):=XF fun x=>axG n x
theorem apu(n:Nat)(x:R):nO (n+3) (kW x):=aa2 (ak9 n x)
theorem atK(n:Nat)(x:Lk):nO (n+3) (RN x):=aa2 (aq8 n x)
theorem aiU(n:Nat)(l:List (List R)):nO (n+4) (rG l):=XF fun x=>by
 simp only [iq];exact⟨Hw _ _,by simp⟩
theorem axH(n:Nat)(x:Cd):∀c∈x.cells,nO (n+3) c:=by
 simp only [iq];exact⟨Wx _ _ _,uU _ _,kJ _ _,kJ _ _,apt _ _,by simp⟩
theorem atL(n:Nat)(x:Cd):nO (n+4) (Y6 x):=aa2 (axH n x)
theorem OX{n:Nat}{a b:V}(h1:nO n a)(h2:nO n b):nO (n+1) (.oJ [a,b]):=by
 simp only [nO,iq];exact⟨h1,h2,by simp⟩
theorem ala{n:Nat}{a b c d:V}(h1:nO n a)(h2:nO n b)(h3:nO n c)(h4:nO n d):nO (n+1) (.oJ [a,b,c,d]):=by
 simp only [nO,iq];exact⟨h1,h2,h3,h4,by simp⟩
structure Grow (s:Store) (v:V) (sz:Nat) (A ts:List (List V)):Prop where
 ex:∃os,rZ s A ts os/\os.Nodup/\((A=[]/\v=.jZ)\/∃o,v=.lG o 0 A.length/\jX s o=some ⟨sz,A⟩/\o∉os)
section
variable {s s1 σ2 S : Store} {v : V} {sz : Nat} {A ts : List (List V)}
theorem alb:Grow s .jZ sz [] []:=⟨[],by simp [rZ],.nil,.inl ⟨rfl,rfl⟩⟩
theorem Grow.len(h:Grow s v sz A ts):A.length=ts.length:=by obtain⟨os,a,_⟩:=h.ex;exact a.len
theorem Grow.cases(h:Grow s v sz A ts):(A=[]/\ts=[]/\v=.jZ)\/∃o,v=.lG o 0 A.length/\jX s o=some ⟨sz,A⟩/\o<s.length:=by
 have hl:=h.len;obtain⟨os,a,b,c⟩:=h.ex;rcases c with ⟨rfl,rfl⟩|⟨o,rfl,h1,h2⟩
 ·exact .inl ⟨rfl,aY (by simpa using hl.symm),rfl⟩
 exact .inr ⟨o,rfl,h1,kX h1⟩
theorem Grow.frame(h:Grow s v sz A ts)(f:∀o,o<s.length->jX S o=jX s o):Grow S v sz A ts:=by
 obtain⟨os,a,b,c⟩:=h.ex;refine⟨os,a.frame fun q hq=>f q (a.lt q hq),b,?_⟩;rcases c with c|⟨o,rfl,h1,h2⟩
 ·exact .inl c
 exact .inr ⟨o,rfl,(f o (kX h1)).trans h1,h2⟩
theorem Grow.fin(h:Grow s v sz A ts):Fin s v (.sl sz ts):=by
 have hl:=h.len;obtain⟨os,a,b,c⟩:=h.ex;rcases c with ⟨rfl,rfl⟩|⟨o,rfl,h1,h2⟩
 ·have:ts=[]:=aY (by simpa using hl.symm);subst this;exact qC
 rw [hl];refine wZ (os:=o::os) ?_ (dX.2 ⟨h2,b⟩);simp only [mJ];exact .inr ⟨o,A,os,rfl,h1,rfl,a⟩
theorem Grow.app{cs tcs:List V}{os2:List Nat}{id2:Nat}(h:Grow s v sz A ts)(hs:∀o,o<s.length->jX s1 o=jX s o)(hl:s.length<=s1.length)(g:Got s1 σ2 (.agg cs) (.agg tcs) os2)
  (h0:s.length<=id2) (hid:id2<s1.length) (h2:jX S id2=some ⟨sz,A++[cs]⟩)
  (hf:∀q,q≠id2->(q<s.length\/s1.length<=q)->(∀n,v≠.lG q 0 n)->jX S q=jX σ2 q):Grow S (.lG id2 0 (A.length+1)) sz (A++[cs]) (ts++[tcs]):=by
 obtain⟨os,a,b,c⟩:=h.ex;have a':=a.frame (σ':=σ2) fun q hq=>by
  have:=a.lt q hq;rw [g.old q (by omega),hs q this]
 obtain⟨cs',e,hc⟩:=g.ow.lJ
 cases e
 have hlt:=a.lt;have hv:∀q∈os++os2,∀n,v≠.lG q 0 n:=by
  intro q hq n;rcases c with ⟨_,rfl⟩|⟨o,rfl,h1,h2⟩
  ·simp
  intro e;have e2:o=q:=by injection e
  rw [e2]at h1 h2;rcases aN.1 hq with hq|hq
  ·exact h2 hq
  have:=g.fresh q hq;have:=kX h1;omega
 have hne:∀q∈os++os2,q≠id2/\(q<s.length\/s1.length<=q):=by
  intro q hq;rcases aN.1 hq with hq|hq
  ·have:=hlt q hq;exact⟨by omega,by omega⟩
  have:=g.fresh q hq;exact⟨by omega,by omega⟩
 have fr:∀q∈os++os2,jX S q=jX σ2 q:=fun q hq=>hf q (hne q hq).1 (hne q hq).2 (hv q hq);refine⟨os++os2,CS (a'.frame fun q hq=>fr q (iw _ hq)) (ZR (hc.frame fun q hq=>fr q (eP _ hq))),?_,.inr ⟨id2,by simp,h2,fun hm=>(hne id2 hm).1 rfl⟩⟩;rw [bF];refine⟨b,g.nd,fun x hx y hy e=>?_⟩;have:=hlt x hx;have:=g.fresh y hy;omega
theorem pq{s t:Store}{o:Nat}(h:o<s.length):jX (s++t) o=jX s o:=by
 unfold jX;rw [bJ h]
theorem Grow.aCx{cs tcs:List V}{os2:List Nat}{id1 id2:Nat}{x:Option Obj}(h:Grow s .jZ sz [] ts)(hs:∀o,o<s.length->jX s1 o=jX s o)(hl:s.length<=s1.length)(g:Got s1 σ2 (.agg cs) (.agg tcs) os2)
  (h0:s.length<=id1) (h1:id1<s1.length) (h2:s.length<=id2) (h3:id2<s1.length) (hne:id1≠id2):Grow ((σ2.set id1 x).set id2 (some ⟨sz,[cs]⟩)) (.lG id2 0 1) sz [cs] (ts++[tcs]):=by
 have hlen:=g.len;refine h.app hs hl g h2 h3 (kT (by simp;omega)) fun q hq hr _=>?_;rw [kK hq,kK (by omega)]
theorem Grow.aCy{cs tcs:List V}{os2:List Nat}{id1 id2 o:Nat}{x:Option Obj}(h:Grow s (.lG o 0 A.length) sz A ts)(hs:∀o,o<s.length->jX s1 o=jX s o)(hl:s.length<=s1.length)(g:Got s1 σ2 (.agg cs) (.agg tcs) os2)
  (h0:s.length<=id1) (h1:id1<s1.length) (h2:s.length<=id2) (h3:id2<s1.length) (hne:id1≠id2) :
  Grow (((σ2.set id1 x).set o none).set id2 (some ⟨sz,A++[cs]⟩)) (.lG id2 0 (A.length+1)) sz (A++[cs]) (ts++[tcs]):=by
 have hlen:=g.len;refine h.app hs hl g h2 h3 (kT (by simp;omega)) fun q hq hr hv=>?_;rw [kK hq,kK (fun e=>hv A.length (by rw [e])),kK (by omega)]
end
theorem Got.aa3{s σ2:Store}{r t:V}{os:List Nat}(g:Got s σ2 r t os){o:Nat}{x:Option Obj}(h:o<s.length):Fin (σ2.set o x) r t :=
 wZ (g.ow.frame fun q hq=>kK (by have:=g.fresh q hq;omega)) g.nd
theorem agZ:nN []:=fun r hr=>by cases hr
theorem acR{r:List V}{rs:List (List V)}:nN (r::rs)↔(∀v∈r,v.still=true)/\nN rs:=by simp [nN]
theorem ag0{a b:List (List V)}:nN (a++b)↔nN a/\nN b:=by
 unfold nN;constructor
 ·exact fun h=>⟨fun r hr=>h r (iw _ hr),fun r hr=>h r (eP _ hr)⟩
 intro h r hr;rcases aN.1 hr with k|k
 ·exact h.1 r k
 exact h.2 r k
theorem alc(x:Lk):∀v∈x.cells,v.still=true:=fun v hv=>Hq [x] _ (by simp) v hv
structure Ep (s:Store) (cs ts:List V) (os:List Nat) (L:List (Nat×Obj)):Prop where
 c:Cs s cs ts os
 l:∀q∈L,jX s q.1=some q.2/\q.1∉os
section
variable {s σ2 : Store} {cs ts : List V} {os os2 : List Nat} {L : List (Nat × Obj)}
theorem Ep.lt(E:Ep s cs ts os L):∀q∈L,q.1<s.length:=fun q hq=>kX (E.l q hq).1
theorem Ep.snoc(E:Ep s cs ts os L){x:Option Obj}:Ep (s++[x]) cs ts os L:=⟨E.c.snoc,fun q hq=>⟨(kQ (E.lt q hq)).trans (E.l q hq).1,(E.l q hq).2⟩⟩
theorem Ep.res(E:Ep s cs ts os L)(c:Nat){v t:V}(hv:cs[c]? = some v)(ht:ts[c]? = some t)(hd:nO FD t):resolve s FD v=some t:=E.c.res c hv ht hd
theorem Ep.res1(E:Ep s cs ts os L)(c:Nat){v t:V}(hv:cs[c]? = some v)(ht:ts[c]? = some t)(hd:nO 11 t):resolve s 11 v=some t:=by
 obtain⟨vc,oc,j1,j2,_⟩:=E.c.ow.focus c t E.c.nd ht;rw [hv]at j1
 cases j1
 exact OW 11 j2 hd
theorem Ep.leaf(E:Ep s cs ts os L)(c:Nat){v t:V}(hv:cs[c]? = some v)(ht:ts[c]? = some t)(hl:t.leaf=true:=by rfl):v.leaf=true:=by
 obtain⟨vc,oc,j1,j2,_⟩:=E.c.ow.focus c t E.c.nd ht;rw [hv]at j1
 cases j1
 exact j2.leaf hl
theorem Ep.got{s1:Store}{rs trs:List V}(E:Ep s cs ts os L)(h1:∀o,o<s.length->jX s1 o=jX s o)(hl:s.length<=s1.length)(ho:ni σ2 rs trs os2)(hn:os2.Nodup)(hf:∀o∈os2,s1.length<=o)
  (old:∀o,o<s1.length->jX σ2 o=jX s1 o):Ep σ2 (cs++rs) (ts++trs) (os++os2) L:=by
 have hlt:=E.c.lt;refine⟨⟨nG (E.c.ow.frame fun q hq=>?_) ho,?_⟩,fun q hq=>⟨?_,?_⟩⟩
 ·have:=hlt q hq;rw [old q (by omega),h1 q this]
 ·rw [bF];refine⟨E.c.nd,hn,fun x hx y hy e=>?_⟩;have:=hlt x hx;have:=hf y hy;omega
 ·have:=E.lt q hq;rw [old _ (by omega),h1 _ this];exact(E.l q hq).1
 intro hm;have:=E.lt q hq;rcases aN.1 hm with hm|hm
 ·exact(E.l q hq).2 hm
 have:=hf _ hm;omega
theorem Ep.free{s1:Store}(E:Ep s cs ts os L){p:Nat}(hf:∀o∈os2,s1.length<=o)(h0:s.length<=p)(h1:p<s1.length):p∉os++os2:=by
 intro hm;rcases aN.1 hm with hm|hm
 ·have:=E.c.lt p hm;omega
 have:=hf p hm;omega
theorem Ep.loc{p:Nat}{ob:Obj}(E:Ep s cs ts os L)(hp:p∉os)(hl:p<s.length)(hL:∀q∈L,q.1≠p):Ep (s.set p (some ob)) cs ts os (L++[(p,ob)]):=by
 refine⟨E.c.set hp,fun q hq=>?_⟩;rcases aN.1 hq with hq|hq
 ·exact⟨(kK (hL q hq)).trans (E.l q hq).1,(E.l q hq).2⟩
 simp only [aI,dD,or_false]at hq;subst hq;exact⟨kT hl,hp⟩
theorem Ep.call{T:Tb}{f:Nat}{t t' v:V}{k k':Int}(E:Ep s cs ts os L)(c:Nat)(hm:Mk T f t k t' k')(hv:cs[c]? = some v)(ht:ts[c]? = some t) :
  ∃s',Run T (.fn f [v,.int .i64 k] s) (.fn (.int .i64 k') s')/\Ep s' cs (ts.set c t') os L/\s.length<=s'.length:=by
 obtain⟨s',h1,h2,h3⟩:=E.c.call c hm hv ht;exact⟨s',h1,⟨h2,fun q hq=>⟨(h3.old _ (E.lt q hq) (E.l q hq).2).trans (E.l q hq).1,(E.l q hq).2⟩⟩,h3.len⟩
theorem Ep.part{T:Tb}{f:Nat}{t2 t2' r2:List V}{k k':Int}(E:Ep s cs ts os L)(n m:Nat)(hm:Mk T f (.agg t2) k (.agg t2') k')(hr:(cs.drop n).take m=r2)(ht:(ts.drop n).take m=t2)(hn:n+m<=ts.length) :
  ∃s',Run T (.fn f [.agg r2,.int .i64 k] s) (.fn (.int .i64 k') s')/\Ep s' cs (ts.take n++t2'++ts.drop (n+m)) os L/\s.length<=s'.length:=by
 obtain⟨s',h1,h2,h3⟩:=E.c.part n m hm ht hn;rw [hr]at h1;exact⟨s',h1,⟨h2,fun q hq=>⟨(h3.old _ (E.lt q hq) (E.l q hq).2).trans (E.l q hq).1,(E.l q hq).2⟩⟩,h3.len⟩
theorem Ep.at0{p:Nat}{ob:Obj}(E:Ep s cs ts os L)(h:(p,ob)∈L):jX s p=some ob/\p<s.length:=⟨(E.l _ h).1,E.lt _ h⟩
end
section
variable {σ : Store} {os : List Nat}
theorem ni.rat{cs:List V}{x:R}(h:ni σ cs x.cells os):∃c1 c2,cs=[.bool x.neg,c1,c2]:=by
 obtain⟨cs,rfl,h1⟩:=h.xg
 match cs,h1.len with
 | [a,b],_=>exact⟨a,b,rfl⟩
theorem ni.pt{cs:List V}{x:Pt}(h:ni σ cs x.cells os):∃c1 c2 c4 c5,cs=[.bool x.x.neg,c1,c2,.bool x.y.neg,c4,c5]:=by
 obtain⟨cs,rfl,h1⟩:=h.xg;obtain⟨a,cs,_,_,rfl,rfl,_,h2⟩:=h1.inv;obtain⟨b,cs,_,_,rfl,rfl,_,h3⟩:=h2.inv;obtain⟨cs,rfl,h4⟩:=h3.xg
 match cs,h4.len with
 | [c,d],_=>exact⟨a,b,c,d,rfl⟩
theorem ni.lk{cs:List V}{x:Lk}(h:ni σ cs x.cells os):∃c3 c4 c6 c7 c9 c10,cs=[iv x.a,iv x.b,.bool x.w.neg,c3,c4,.bool x.dx.neg,c6,c7,.bool x.dy.neg,c9,c10]:=by
 obtain⟨cs,rfl,h1⟩:=h.aaZ;obtain⟨cs,rfl,h2⟩:=h1.aaZ;obtain⟨cs,rfl,h3⟩:=h2.xg;obtain⟨a,cs,_,_,rfl,rfl,_,h4⟩:=h3.inv;obtain⟨b,cs,_,_,rfl,rfl,_,h5⟩:=h4.inv;obtain⟨cs,rfl,h6⟩:=h5.xg;obtain⟨c,cs,_,_,rfl,rfl,_,h7⟩:=h6.inv;obtain⟨d,cs,_,_,rfl,rfl,_,h8⟩:=h7.inv;obtain⟨cs,rfl,h9⟩:=h8.xg
 match cs,h9.len with
 | [e,f],_=>exact⟨a,b,c,d,e,f,rfl⟩
theorem ni.cd{cs:List V}{x:Cd}(h:ni σ cs x.cells os):∃c2 c3 c4,cs=[iv x.node,.bool x.total.neg,c2,c3,c4]:=by
 obtain⟨cs,rfl,h1⟩:=h.aaZ;obtain⟨cs,rfl,h2⟩:=h1.xg
 match cs,h2.len with
 | [a,b,c],_=>exact⟨a,b,c,rfl⟩
theorem ni.tr{cs:List V}{x:List Tn}(h:ni σ cs [aCt x] os):∃c0,cs=[c0]:=by
 match cs,h.len with
 | [a],_=>exact⟨a,rfl⟩
theorem ag1{v t:V}(h:mJ σ v t os):ni σ [v] [t] os:=by simpa using qJ h qB
end
end Go.Ml
namespace Go.Ml
theorem kP(l:List Nat)(k:List Nat->Prop):Sj l k=k l:=nr rfl
theorem lH(p:Prop):(p\/True)=True:=by simp
theorem Ep.SC{s:Store}{cs ts:List V}{os:List Nat}{L L':List (Nat×Obj)}{p:Nat}{ob:Obj}(E:Ep s cs ts os L)(hp:p∉os)(hl:p<s.length)(h:∀q∈L',(q.1≠p/\q∈L)\/q=(p,ob)) :
  Ep (s.set p (some ob)) cs ts os L':=by
 refine⟨E.c.set hp,fun q hq=>?_⟩;rcases h q hq with ⟨h1,h2⟩|rfl
 ·exact⟨(kK h1).trans (E.l q h2).1,(E.l q h2).2⟩
 exact⟨kT hl,hp⟩
end Go.Ml
namespace Go.Ml
def sh(n0 n x:Nat):Nat:=if x<n0 then x else x+(n-n0)
theorem axI{n0 n x y:Nat}:sh n0 n x<sh n0 n y↔x<y:=by
 unfold sh;split<;>split<;>omega
theorem aq9{n0 n x y:Nat}:sh n0 n x=sh n0 n y↔x=y:=by
 unfold sh;split<;>split<;>omega
def XG(n0 n:Nat)(a:Acc):Acc:=⟨a.i,a.R.map (sh n0 n),a.W.map (sh n0 n),a.n⟩
theorem acS{n0 n:Nat}(l:List Nat)(p:Nat):(l.map (sh n0 n)).contains (sh n0 n p)=l.contains p:=by
 rw [jT,jU,jU,bC];constructor
 ·rintro⟨q,h1,h2⟩;rw [aq9.1 h2]at h1;exact h1
 exact fun h=>⟨p,h,rfl⟩
theorem acU{n0 n L:Nat}(a b:Acc):AQ (sh n0 n L) (XG n0 n a) (XG n0 n b)=AQ L a b:=by
 unfold AQ XG;simp only [jE,Function.comp_def];simp only [axI]
theorem ale{n0 n L:Nat}(d e:ql)(a b:Acc):wz (sh n0 n L) d e (XG n0 n a) (XG n0 n b)=wz L d e a b:=by
 unfold wz;rw [acU,acU];simp only [XG,jE,Function.comp_def];simp only [acS]
 congr 6
 congr 1
 funext p
 congr 2
 funext q
 rw [bne,bne]
 congr 1
 rw [jT,beq_iff_eq,beq_iff_eq];exact aq9
theorem alf{n0 n L:Nat}{B:Nat->List Nat}{ops:List ql}:∀l:List Acc,okA (sh n0 n L) B ops (l.map (XG n0 n))=okA L B ops l
 | []=>rfl
 |
  a::l=>by
  simp only [bV,okA,jE,Function.comp_def];rw [alf l]
  congr 2
  funext b
  have h1:(XG n0 n a).i=a.i:=rfl;have h2:(XG n0 n b).i=b.i:=rfl;rw [ale,h1,h2]
theorem aiV{ops:List ql}{LF:Nat->Nat}{aF:Nat->List Acc}(n0 n:Nat)(hL:LF n=sh n0 n (LF n0))(ha:aF n=(aF n0).map (XG n0 n))(hk:rO (LF n0) ops (aF n0)):rO (LF n) ops (aF n):=by
 unfold rO at hk ⊢;rw [hL,ha,<-List.map_reverse,alf];exact hk
end Go.Ml
namespace Go.Ml
theorem yA{ops:List ql}(LF:Nat->Nat)(aF:Nat->List Acc)(n0:Nat)(hL:∀n,n0<=n->LF n=sh n0 n (LF n0))(ha:∀n,n0<=n->aF n=(aF n0).map (XG n0 n))(hk:rO (LF n0) ops (aF n0)) :
  ∀n,n0<=n->rO (LF n) ops (aF n):=fun n h=>aiV n0 n (hL n h) (ha n h) hk
theorem QV{t:Int}(h:0<=t):t.tmod 1000000000=t % 1000000000:=iR h
theorem QW{t:Int}(h:0<=t):t.tdiv 1000000000=t / 1000000000:=gI h
theorem acW{N i va vb va' vb':Nat}{xs:List Int}{c x y:Int}(hl:xs.length=i)(hc:0<=c)(hx:0<=x)(hy:0<=y)
  (h:val xs+1000000000 ^ i*(c.toNat+va+vb)=N) (ha:va=x.toNat+1000000000*va') (hb:vb=y.toNat+1000000000*vb') :
  val (xs++[(c+x+y) % 1000000000])+1000000000 ^ (i+1)*(((c+x+y) / 1000000000).toNat+va'+vb')=N:=by
 rw [yw,hl,jd];have e:c.toNat+va+vb=((c+x+y) % 1000000000).toNat+1000000000*(((c+x+y) / 1000000000).toNat+va'+vb'):=by omega
 rw [e,jq,<-gQ]at h;omega
theorem acZ{vx va vb p x y d bo bo':Nat}(h:vx+vb=va+bo*p)(hd:d+y+bo=x+bo'*1000000000) :
  (vx+p*d)+(vb+p*y)=(va+p*x)+bo'*(p*1000000000):=by
 have e:=congrArg (fun z=>p*z) hd;simp only [jq]at e;have e1:p*bo=bo*p:=dP _ _;have e2:p*(bo'*1000000000)=bo'*(p*1000000000):=by rw [<-gQ,dP p bo',gQ]
 omega
theorem Y7{l:List Int}{i:Nat}{d:Int}(h:i<l.length):(l.set i d).take (i+1)=l.take i++[d]:=by
 rw [oD (by simpa using h)]
 congr 1
 ·rw [List.take_set,List.set_eq_of_length_le (by simp;omega)]
 simp [aj,h]
theorem ac1{vp vp' V0 a p q pb x y:Nat}{c t:Nat}
  (h:vp+c*(p*q)=V0+a*(p*pb)) (hs:vp'+(p*q)*x=vp+(p*q)*(t % 1000000000)) (ht:t=c+x+a*y) :
  vp'+t / 1000000000*(p*(q*1000000000))=V0+a*(p*(pb+q*y)):=by
 have e1:(p*q)*(t % 1000000000)+t / 1000000000*(p*(q*1000000000))=(p*q)*t:=by
  have:t / 1000000000*(p*(q*1000000000))=(p*q)*(1000000000*(t / 1000000000)):=by
   rw [<-gQ p q,dP (t / 1000000000),gQ]
  rw [this,<-jq]
  congr 1
  omega
 have e2:(p*q)*t=(p*q)*c+(p*q)*x+(p*q)*(a*y):=by rw [ht,jq,jq]
 have e3:a*(p*(pb+q*y))=a*(p*pb)+(p*q)*(a*y):=by
  rw [jq,jq,<-gQ p q y]
  congr 1
  rw [<-gQ,dP a (p*q),gQ]
 have e4:c*(p*q)=(p*q)*c:=dP _ _;omega
theorem Nb{a b q r:Nat}(h:a=q*b+r)(hr:r<b):q=a / b/\r=a % b:=by
 have hb:0<b:=by omega
 subst h;constructor
 ·rw [dP,Nat.mul_add_div hb,Nat.div_eq_of_lt hr,iL]
 rw [dP,Nat.mul_add_mod,Nat.mod_eq_of_lt hr]
end Go.Ml
namespace Go.Ml
theorem Vy{l:List Int}(i:Nat):val (l.drop i)<=val l:=by
 rw [Bc l i];have:val (l.drop i)<=1000000000 ^ (l.take i).length*val (l.drop i):=Nat.le_mul_of_pos_left _ (Nat.pow_pos (by omega));omega
theorem PU{l:List Int}{i:Nat}(h:i<l.length):l.drop i=l.getD i 0::l.drop (i+1):=by
 rw [dH h,aj,au h];rfl
theorem ag2{m n:Nat}{xs:List Int}(hv:val xs=m+n)(hb:Lb xs)(hl:xs.length<=max (mk m).length (mk n).length\/xs.getLast? ≠ some 0):mk (m+n)=xs:=by
 rw [<-hv];refine mk_val ⟨hb,?_⟩;rcases hl with hl|hl
 ·refine(aiK hb fun hne=>?_).2;have hpos:0<xs.length:=by
   cases xs with
   |nil=>exact absurd rfl hne
   |cons=>simp
  rw [hv];have p1:∀k:Nat,mk k≠[]->1000000000 ^ ((mk k).length-1)<=k:=fun k hk=>by
   have:=ae8 (wC k) hk
   rwa [val_mk]at this
  by_cases hmn:(mk n).length<=(mk m).length
  ·have hm:mk m≠[]:=by intro e;have h0:(mk m).length=0:=(by rw [e];rfl);omega
   have:=p1 m hm;have h2:(1000000000:Nat) ^ (xs.length-1)<=1000000000 ^ ((mk m).length-1):=gu (by omega) (by omega);omega
  have hm:mk n≠[]:=by intro e;have h0:(mk n).length=0:=(by rw [e];rfl);omega
  have:=p1 n hm;have h2:(1000000000:Nat) ^ (xs.length-1)<=1000000000 ^ ((mk n).length-1):=gu (by omega) (by omega);omega
 exact hl
theorem Nc{l:List Int}{i:Nat}(h:l.length<=i):l.getD i 0=0:=by
 rw [aj,aZ h];rfl
theorem qH(l:List Int)(i:Nat):val (l.drop i)=(l.getD i 0).toNat+1000000000*val (l.drop (i+1)):=by
 by_cases h:i<l.length
 ·exact akJ h
 rw [mV (by omega),mV (by omega),Nc (by omega)];rfl
end Go.Ml
namespace Go.Ml
theorem sD(l:List Int)(i j:Nat)(v:Int):(l.set i v).getD j 0=if i=j/\i<l.length then v else l.getD j 0:=by
 simp only [aj,fB];by_cases h:i=j
 ·subst h;by_cases h2:i<l.length
  ·simp [h2]
  simp [h2,aZ (Nat.le_of_not_lt h2)]
 simp [h]
end Go.Ml
namespace Go.Ml
theorem drop_set_self{l:List Int}{i:Nat}{d:Int}(h:i<l.length):(l.set i d).drop i=d::l.drop (i+1):=by
 induction l generalizing i with
 |nil=>simp at h
 |
  cons x l ih =>
  cases i with
  |zero=>simp
  |succ i=>simpa using ih (by simpa using h)
theorem xP{a b:Nat}:0<=LC a b↔b<=a:=by
 unfold LC;by_cases h:a<b
 ·rw [aQ h];omega
 rw [aO h];split<;>omega
theorem mk_one{d:Nat}(h0:0<d)(h1:d<1000000000):mk d=[(d:Int)]:=by
 rw [mk_pos (by omega),Nat.mod_eq_of_lt h1,Nat.div_eq_of_lt h1,mk_zero]
theorem alg{r b:Nat}(hb:0<b)(hle:b<=r)(hlt:r<b*1000000000) :
  (mk b).length<=(mk r).length/\(mk r).length<=(mk b).length+1/\0<(mk b).length /\
  ((mk b).length=1->let d:=val ((mk r).drop 0) / ((mk b).getD 0 0).toNat;0<d/\d<1000000000/\d*b<=r/\0<((mk b).getD 0 0).toNat) /\
  (let d:=val ((mk r).drop ((mk b).length-1)) / (((mk b).getD ((mk b).length-1) 0).toNat+1);d<1000000000/\d*b<=r):=by
 have hbm:=akI (n:=b) (by omega);have h1:(mk b).length<=(mk r).length:=by
  have:(mk b).length-1<(mk r).length:=by
   rw [ZI];have:=ae8 (wC b) (by intro e;rw [e]at hbm;simp at hbm);rw [val_mk]at this;omega
  omega
 have h2:(mk r).length<=(mk b).length+1:=by
  rw [lS,jd];have:=y7 (vH b);rw [val_mk]at this;exact bn hlt (dG _ (Nat.le_of_lt this))
 refine⟨h1,h2,hbm,?_,?_⟩
 ·intro hm;have eb:((mk b).getD 0 0).toNat=b:=by
   have h3:=qH (mk b) 0;rw [bZ,val_mk,mV (by omega)]at h3;omega
  rw [bZ,val_mk,eb];refine⟨Nat.div_pos hle hb,jk (by omega),Nat.div_mul_le_self r b,hb⟩
 have er:=Bc (mk r) ((mk b).length-1);have eb:=Bc (mk b) ((mk b).length-1);rw [val_mk]at er eb;have l1:((mk r).take ((mk b).length-1)).length=(mk b).length-1:=by simp;omega
 have l2:((mk b).take ((mk b).length-1)).length=(mk b).length-1:=by simp
 rw [l1]at er;rw [l2]at eb;have ed:=qH (mk b) ((mk b).length-1);rw [show (mk b).length-1+1=(mk b).length by omega,mV (aK _)]at ed;have hlo:=y7 (aaN (vH b) ((mk b).length-1));rw [l2]at hlo;generalize hP:1000000000 ^ ((mk b).length-1)=P at *;generalize hT:val ((mk r).drop ((mk b).length-1))=t at *;generalize hB:((mk b).getD ((mk b).length-1) 0).toNat=bt at *;have hd:=Nat.div_mul_le_self t (bt+1);generalize hq:t / (bt+1)=d at *;have hbb:b<=P*(bt+1):=by rw [Nat.mul_succ];rw [ed]at eb;simp only [kG,iL]at eb;omega
 have key:d*b<=r:=by
  have s1:d*b<=d*(P*(bt+1)):=Nat.mul_le_mul_left _ hbb;have s2:d*(P*(bt+1))=P*(d*(bt+1)):=by rw [Nat.mul_left_comm]
  have s3:P*(d*(bt+1))<=P*t:=Nat.mul_le_mul_left _ hd;omega
 refine⟨?_,key⟩;have:d*b<1000000000*b:=by rw [dP 1000000000];omega
 exact Nat.lt_of_mul_lt_mul_right this
end Go.Ml
end
