/- Contracts of functions. -/
import Derived.Test.YtbccjdlcbhknoabGreatPart0
set_option linter.unusedSimpArgs false
set_option linter.unusedVariables false
set_option maxRecDepth 100000
set_option maxHeartbeats 16000000
section
namespace Go.Ml
def yO(n:Nat)(v:V)(k:Nat→Prop):Prop:=match v with
 |.int _ i=>(0≤i∧i<n)∧k i.toNat
 |_=>False
def tC(n:Nat)(v:V)(k:Nat→Prop):Prop:=match v with
 |.int _ i=>(0≤i∧i≤n)∧k i.toNat
 |_=>False
theorem DT{n:Nat}{v:V}{k:Nat→Prop}(h:yO n v k):∃j,TU n v=some j∧k j:=by
 cases v<;>simp only [yO]at h<;>first|exact h.elim|skip
 exact⟨_,by simp only [TU];rw [if_pos h.1],h.2⟩
theorem RF{n:Nat}{v:V}{k:Nat→Prop}(h:tC n v k):∃j,LZ n v=some j∧k j:=by
 cases v<;>simp only [tC]at h<;>first|exact h.elim|skip
 exact⟨_,by simp only [LZ];rw [if_pos h.1],h.2⟩
def nY{α:Type}(o:Option α)(k:α→Prop):Prop:=match o with
 |some a=>k a
 |none=>False
theorem lU{α:Type}{o:Option α}{k:α→Prop}(h:nY o k):∃a,o=some a∧k a:=by
 cases o with
 |none=>exact h.elim
 |some a=>exact⟨a,rfl,h⟩
def zk(op:BinOp)(x y:V)(k:V→Prop):Prop:=match op,x,y with
 |.add,.int q a,.int q' b=>q=q'∧k (.int q (q.wrap (a+b)))
 |.sub,.int q a,.int q' b=>q=q'∧k (.int q (q.wrap (a-b)))
 |.mul,.int q a,.int q' b=>q=q'∧k (.int q (q.wrap (a*b)))
 |.quo,.int q a,.int q' b=>(q=q'∧b≠0)∧k (.int q (q.wrap (a.tdiv b)))
 |.rem,.int q a,.int q' b=>(q=q'∧b≠0)∧k (.int q (a.tmod b))
 |.eql,.int q a,.int q' b=>q=q'∧k (.bool (a == b))
 |.neq,.int q a,.int q' b=>q=q'∧k (.bool (a != b))
 |.lss,.int q a,.int q' b=>q=q'∧k (.bool (decide (a<b)))
 |.leq,.int q a,.int q' b=>q=q'∧k (.bool (decide (a≤b)))
 |.gtr,.int q a,.int q' b=>q=q'∧k (.bool (decide (b<a)))
 |.geq,.int q a,.int q' b=>q=q'∧k (.bool (decide (b≤a)))
 |.eql,.str a,.str b=>k (.bool (a == b))
 |.neq,.str a,.str b=>k (.bool (!(a == b)))
 |.add,.str a,.str b=>a.length+b.length<2 ^ 62∧k (.str (a++b))
 |.shr,.int q a,.int _ b=>0≤b∧k (.int q (a.fdiv (2 ^ (min b.toNat q.bits))))
 |.and,.int q a,.int q' b=>q=q'∧k (.int q (Xy q a b))
 |.xor,.int q a,.int q' b=>q=q'∧k (.int q (Xz q a b))
 |_,_,_=>False
theorem ajv{op:BinOp}{x y:V}{k:V→Prop}(h:zk op x y k):∃v,aaL op x y=some v∧k v:=by
 unfold zk at h;split at h<;>first|exact h.elim|skip
 all_goals first
  |exact⟨_,by simp only [aaL];rw [if_pos h.1],h.2⟩
  |exact⟨_,by simp only [aaL],h⟩
def I.oI(env:Nat→V)(σ:Store)(i:I)(k:Eff→Prop):Prop:=match i with
 |.mM x=>k (.val (x.ev env))
 |
  .pick c a b=>match c.ev env with
  |.bool t=>k (.val (if t then a.ev env else b.ev env))
  |_=>False
 |.alloc zero=>k (.newP ⟨zero.length,[zero]⟩)
 |
  .box x=>match (x.ev env).cells? with
  |some (c::cs)=>k (.newP ⟨(c::cs).length,[c::cs]⟩)
  |_=>False
 |.build zero parts=>nY (Ci env zero parts) fun cs=>k (.val (.agg cs))
 |.ny sz zero ln parts=>nY (uF env sz (List.replicate ln zero) parts) fun rows=>if ln=0 then k (.val .jL)else k (.newS ⟨sz,rows⟩ ln)
 |
  .make zero bytes x=>match x.ev env with
  |.int .i64 n=>(0≤n∧n≤2 ^ 47∧n*bytes≤2 ^ 47)∧k (.newS ⟨zero.length,List.replicate n.toNat zero⟩ n.toNat)
  |_=>False
 |.load n isAgg a=>nY (rowAt σ (a.ev env)) fun p =>
   if isAgg then(p.2+n≤p.1.length∧k (.val (.agg ((p.1.drop p.2).take n))))else nY p.1[p.2]? fun v=>k (.val v)
 |
  .store n a x=>match a.ev env with
  |.ptr o r off=>nY (x.ev env).cells? fun cs=>nY (jH σ o) fun ob=>nY ob.rows[r]? fun row =>
    (cs.length=n∧off+n≤row.length)∧k (.upd o ⟨ob.sz,ob.rows.set r (splice row off cs)⟩)
  |_=>False
 |
  .fld d a=>match a.ev env with
  |.ptr o r off=>nY (jH σ o) fun _=>k (.val (.ptr o r (off+d)))
  |.oZ row off=>k (.val (.oZ row (off+d)))
  |_=>False
 |
  .idx sz x i=>match x.ev env with
  |.kP o s l=>nY (jH σ o) fun ob=>yO l (i.ev env) fun j=>ob.sz=sz∧k (.val (.ptr o (s+j) 0))
  |.sl sz' rows=>yO rows.length (i.ev env) fun j=>sz'=sz∧k (.val (.oZ (rows.getD j []) 0))
  |_=>False
 |
  .FY cnt sz x i=>match x.ev env with
  |.ptr o r off=>yO cnt (i.ev env) fun j=>nY (jH σ o) fun _=>k (.val (.ptr o r (off+j*sz)))
  |.oZ row off=>yO cnt (i.ev env) fun j=>k (.val (.oZ row (off+j*sz)))
  |_=>False
 |
  .adD x i=>match x.ev env with
  |.str s=>yO s.length (i.ev env) fun j=>k (.val (.int .u8 (s.getD j 0).toNat))
  |_=>False
 |.len x=>nY (lenOf σ (x.ev env)) fun n=>k (.val (.int .i64 n))
 |
  .adF x=>match x.ev env with
  |.str s=>k (.val (.int .i64 s.length))
  |_=>False
 |.bin op x y=>zk op (x.ev env) (y.ev env) fun v=>k (.val v)
 |
  .beq ne x y=>match x.ev env,y.ev env with
  |.bool a,.bool b=>k (.val (.bool (if ne then !(a == b)else a == b)))
  |_,_=>False
 |
  .un op x=>match op,x.ev env with
  |.neg,.int q n=>k (.val (.int q (q.wrap (0-n))))
  |.not,.bool b=>k (.val (.bool (!b)))
  |_,_=>False
 |
  .conv q x=>match x.ev env with
  |.int _ n=>k (.val (.int q (q.wrap n)))
  |_=>False
 |.app sz bytes x y=>nY (rowsOf σ (x.ev env)) fun old=>nY (rowsOf σ (y.ev env)) fun new =>
   (new.2=[]→k (.val (x.ev env)))∧(new.2≠[]→(new.1=sz∧(old.2.length+new.2.length)*bytes≤2 ^ 40∧old.2.length+new.2.length≤2 ^ 40) ∧
    match x.ev env with
    |.jL=>k (.newS ⟨sz,new.2⟩ new.2.length)
    |.kP o _ _=>nY (jH σ o) fun ob=>ob.sz=sz∧k (.mM o ⟨sz,old.2++new.2⟩ (old.2.length+new.2.length))
    |_=>False)
 |
  .max x y=>match x.ev env,y.ev env with
  |.int q a,.int q' b=>q=q'∧k (.val (.int q (if b>a then b else a)))
  |_,_=>False
 |
  .Z8 i x=>match x.ev env with
  |.nK vs=>nY vs[i]? fun v=>k (.val v)
  |_=>False
 |
  .chk x=>match x.ev env with
  |.ptr o r off=>nY (jH σ o) fun _=>k (.val (.ptr o r off))
  |.oZ row off=>k (.val (.oZ row off))
  |_=>False
 |
  .RX x lo hi=>match x.ev env with
  |.str s=>(match hi with|some h=>tC s.length (h.ev env)|none=>fun k=>k s.length) fun h =>
    (match lo with|some l=>tC h (l.ev env)|none=>fun k=>k 0) fun l=>k (.val (.str ((s.take h).drop l)))
  |_=>False
 |.slice sz x lo hi=>nY (lenOf σ (x.ev env)) fun n=>(match hi with|some h=>tC n (h.ev env)|none=>fun k=>k n) fun h =>
   (match lo with|some l=>tC h (l.ev env)|none=>fun k=>k 0) fun l=>match x.ev env with
    |.jL=>k (.val .jL)
    |.sl sz' rows=>sz'=sz∧k (.val (.sl sz' ((rows.take h).drop l)))
    |.kP o s _=>nY (jH σ o) fun ob=>ob.sz=sz∧k (.val (.kP o (s+l) (h-l)))
    |_=>False
 |
  .abK cnt x i=>match x.ev env with
  |.agg cs=>yO cnt (i.ev env) fun j=>nY cs[j]? fun v=>k (.val v)
  |_=>False
 |i=>nY (i.eff env σ) k
theorem ad1{env:Nat→V}{n:Nat}{hi:Option Src}{k:Nat→Prop}(h:(match hi with|some h=>tC n (h.ev env)|none=>fun k=>k n) k):∃j,hiB env n hi=some j∧k j:=by
 cases hi with
 |none=>exact⟨n,rfl,h⟩
 |some x=>exact RF h
theorem ad2{env:Nat→V}{n:Nat}{lo:Option Src}{k:Nat→Prop}(h:(match lo with|some h=>tC n (h.ev env)|none=>fun k=>k 0) k):∃j,loB env n lo=some j∧k j:=by
 cases lo with
 |none=>exact⟨0,rfl,h⟩
 |some x=>exact RF h
theorem VA{env:Nat→V}{σ:Store}{i:I}{k:Eff→Prop}(h:i.oI env σ k):∃ef,i.eff env σ=some ef∧k ef:=by
 cases i with
 |mM x=>exact⟨_,rfl,h⟩
 |
  pick c a b =>
  simp only [I.oI]at h;split at h<;>first|exact h.elim|skip
  rename_i t e;exact⟨_,by simp only [I.eff,e],h⟩
 |alloc z=>exact⟨_,rfl,h⟩
 |
  box x =>
  simp only [I.oI]at h;split at h<;>first|exact h.elim|skip
  rename_i c cs e;exact⟨_,by simp only [I.eff,e],h⟩
 |
  build z ps =>
  obtain⟨cs,e,h⟩:=lU h;exact⟨_,by simp only [I.eff,e],h⟩
 |
  ny sz z ln ps =>
  obtain⟨rows,e,h⟩:=lU h;split at h
  ·rename_i h0;exact⟨_,by simp only [I.eff,e];rw [if_pos h0],h⟩
  rename_i h0;exact⟨_,by simp only [I.eff,e];rw [if_neg h0],h⟩
 |
  make z b x =>
  simp only [I.oI]at h;split at h<;>first|exact h.elim|skip
  rename_i n e;exact⟨_,by simp only [I.eff,e];rw [if_pos h.1],h.2⟩
 |
  load n g a =>
  obtain⟨p,e,h⟩:=lU h;obtain⟨row,off⟩:=p;simp only []at h
  cases g with
  |
   true =>
   simp only [if_true]at h;exact⟨_,by simp only [I.eff,e,if_true];rw [if_pos h.1],h.2⟩
  |
   false =>
   simp only [aX,if_false]at h;obtain⟨v,e2,h⟩:=lU h;exact⟨_,by simp only [I.eff,e,aX,if_false,e2],h⟩
 |
  store n a x =>
  simp only [I.oI]at h;split at h<;>first|exact h.elim|skip
  rename_i o r off e;obtain⟨cs,e1,h⟩:=lU h;obtain⟨ob,e2,h⟩:=lU h;obtain⟨row,e3,h⟩:=lU h;exact⟨_,by simp only [I.eff,e,e1,e2,e3];rw [if_pos h.1],h.2⟩
 |
  fld d a =>
  simp only [I.oI]at h;split at h<;>first|exact h.elim|skip
  ·rename_i o r off e;obtain⟨ob,e2,h⟩:=lU h;exact⟨_,by simp only [I.eff,e,e2],h⟩
  rename_i row off e;exact⟨_,by simp only [I.eff,e],h⟩
 |
  idx sz x i =>
  simp only [I.oI]at h;split at h<;>first|exact h.elim|skip
  ·rename_i o s l e;obtain⟨ob,e2,h⟩:=lU h;obtain⟨j,e3,h⟩:=DT h;exact⟨_,by simp only [I.eff,e,e2,e3];rw [if_pos h.1],h.2⟩
  rename_i sz' rows e;obtain⟨j,e3,h⟩:=DT h;exact⟨_,by simp only [I.eff,e,e3];rw [if_pos h.1],h.2⟩
 |
  FY c sz x i =>
  simp only [I.oI]at h;split at h<;>first|exact h.elim|skip
  ·rename_i o r off e;obtain⟨j,e3,h⟩:=DT h;obtain⟨ob,e2,h⟩:=lU h;exact⟨_,by simp only [I.eff,e,e2,e3],h⟩
  rename_i row off e;obtain⟨j,e3,h⟩:=DT h;exact⟨_,by simp only [I.eff,e,e3],h⟩
 |
  adD x i =>
  simp only [I.oI]at h;split at h<;>first|exact h.elim|skip
  rename_i s e;obtain⟨j,e3,h⟩:=DT h;exact⟨_,by simp only [I.eff,e,e3],h⟩
 |
  len x =>
  obtain⟨n,e,h⟩:=lU h;exact⟨_,by simp only [I.eff,e],h⟩
 |
  adF x =>
  simp only [I.oI]at h;split at h<;>first|exact h.elim|skip
  rename_i s e;exact⟨_,by simp only [I.eff,e],h⟩
 |
  bin op x y =>
  simp only [I.oI]at h;obtain⟨v,e,h⟩:=ajv h;exact⟨_,by simp only [I.eff,e],h⟩
 |
  beq ne x y =>
  simp only [I.oI]at h;split at h<;>first|exact h.elim|skip
  rename_i p q e1 e2;exact⟨_,by simp only [I.eff,e1,e2],h⟩
 |
  un op x =>
  simp only [I.oI]at h;split at h<;>first|exact h.elim|skip
  ·rename_i q n e;exact⟨_,by simp only [I.eff,e,akT],h⟩
  rename_i b e;exact⟨_,by simp only [I.eff,e,akT],h⟩
 |
  conv q x =>
  simp only [I.oI]at h;split at h<;>first|exact h.elim|skip
  rename_i q' n e;exact⟨_,by simp only [I.eff,e],h⟩
 |
  app sz b x y =>
  obtain⟨old,e1,h⟩:=lU h;obtain⟨new,e2,h⟩:=lU h;obtain⟨so,old⟩:=old;obtain⟨sn,new⟩:=new;simp only []at h;by_cases hn:new=[]
  ·exact⟨_,by simp only [I.eff,e1,e2];rw [if_pos hn],h.1 hn⟩
  obtain⟨hc,h⟩:=h.2 hn;split at h<;>first|exact h.elim|skip
  ·rename_i e;rw [e]at e1;refine⟨_,?_,h⟩;simp only [I.eff,e,e1,e2];rw [if_neg hn,if_pos hc]
  rename_i o s l e;obtain⟨ob,e3,h⟩:=lU h;rw [e]at e1;refine⟨_,?_,h.2⟩;simp only [I.eff,e,e1,e2,e3];rw [if_neg hn,if_pos hc,if_pos h.1]
 |
  max x y =>
  simp only [I.oI]at h;split at h<;>first|exact h.elim|skip
  rename_i q p q' r e1 e2;exact⟨_,by simp only [I.eff,e1,e2];rw [if_pos h.1],h.2⟩
 |
  Z8 i x =>
  simp only [I.oI]at h;split at h<;>first|exact h.elim|skip
  rename_i vs e;obtain⟨v,e2,h⟩:=lU h;exact⟨_,by simp only [I.eff,e,e2],h⟩
 |
  chk x =>
  simp only [I.oI]at h;split at h<;>first|exact h.elim|skip
  ·rename_i o r off e;obtain⟨ob,e2,h⟩:=lU h;exact⟨_,by simp only [I.eff,e,e2],h⟩
  rename_i row off e;exact⟨_,by simp only [I.eff,e],h⟩
 |
  RX x lo hi =>
  simp only [I.oI]at h;split at h<;>first|exact h.elim|skip
  rename_i s e;obtain⟨hh,e1,h⟩:=ad1 h;obtain⟨l,e2,h⟩:=ad2 h;exact⟨_,by simp only [I.eff,e,e1,e2],h⟩
 |
  slice sz x lo hi =>
  obtain⟨n,e0,h⟩:=lU h;obtain⟨hh,e1,h⟩:=ad1 h;obtain⟨l,e2,h⟩:=ad2 h;split at h<;>first|exact h.elim|skip
  ·rename_i e;rw [e]at e0;exact⟨_,by simp only [I.eff,e,e0,e1,e2],h⟩
  ·rename_i sz' rows e;rw [e]at e0;exact⟨_,by simp only [I.eff,e,e0,e1,e2];rw [if_pos h.1],h.2⟩
  rename_i o s q e;obtain⟨ob,e3,h⟩:=lU h;rw [e]at e0;exact⟨_,by simp only [I.eff,e,e0,e1,e2,e3];rw [if_pos h.1],h.2⟩
 |
  abK cnt x i =>
  simp only [I.oI]at h;split at h<;>first|exact h.elim|skip
  rename_i cs e;obtain⟨j,e2,h⟩:=DT h;obtain⟨v,e3,h⟩:=lU h;exact⟨_,by simp only [I.eff,e,e2,e3],h⟩
 |_=>exact lU h
def PF(T:Tb)(f:Nat)(args:List V)(r:V):Prop:=Run T (.fn f args []) (.fn r [])
def Qi(v:V)(k:Bool→Prop):Prop:=match v with
 |.bool b=>k b
 |_=>False
theorem aga{v:V}{k:Bool→Prop}(h:Qi v k):∃b,v=.bool b∧k b:=by
 cases v<;>first|exact h.elim|exact⟨_,rfl,h⟩
def gdK(want:Bool)(v:V)(k:Bool→Prop):Prop:=match v with
 |.bool b=>k b
 |.nK []=>k (!want)
 |_=>False
theorem ad3{want:Bool}{v:V}{k:Bool→Prop}(h:gdK want v k):(v=.bool want∧k want)∨(ajk want v∧k (!want)):=by
 unfold gdK at h;split at h
 ·rename_i b;by_cases e:b=want
  ·subst e;exact .inl ⟨rfl,h⟩
  have:b = !want:=by cases b<;>cases want<;>simp_all
  subst this;exact .inr ⟨.inr ⟨_,rfl,e⟩,h⟩
 ·exact .inr ⟨.inl rfl,h⟩
 exact h.elim
def gK(g:Option (Nat×Bool))(env:Nat→V)(on off:Prop):Prop:=match g with
 |none=>on
 |some (t,true)=>gdK true (env t) fun b=>if b=true then on else off
 |some (t,false)=>gdK false (env t) fun b=>if b=true then off else on
theorem abT{g:Option (Nat×Bool)}{env:Nat→V}{on off:Prop}(h:gK g env on off) :
  ((∀t want,g=some (t,want)→env t=.bool want)∧on)∨(∃t want,g=some (t,want)∧ajk want (env t)∧off):=by
 cases g with
 |none=>exact .inl ⟨fun _ _ h=>(by cases h),h⟩
 |
  some p =>
  obtain⟨t,want⟩:=p
  cases want with
  |
   true =>
   rcases ad3 h with ⟨e,h⟩|⟨e,h⟩
   ·exact .inl ⟨fun _ _ h=>(by cases h;exact e),(by simpa using h)⟩
   exact .inr ⟨t,true,rfl,e,by simpa using h⟩
  |
   false =>
   rcases ad3 h with ⟨e,h⟩|⟨e,h⟩
   ·exact .inl ⟨fun _ _ h=>(by cases h;exact e),(by simpa using h)⟩
   exact .inr ⟨t,false,rfl,e,by simpa using h⟩
def NM(env:Nat→V)(σ:Store):List Src→(List V→Prop)→Prop
 | [],k=>k []
 |s::as,k=>nY (resolve σ FD (s.ev env)) fun v=>NM env σ as fun vs=>k (v::vs)
theorem zZ{env:Nat→V}{σ:Store}:∀{as:List Src} {k:List V→Prop},NM env σ as k→∃vs,as.mapM (fun s=>resolve σ FD (s.ev env))=some vs∧k vs
 | [],k,h=>⟨[],rfl,h⟩
 |
  s::as,k,h=>by
  obtain⟨v,e,h⟩:=lU h;obtain⟨vs,e2,h⟩:=zZ h;exact⟨v::vs,by simp [bD,e,e2],h⟩
def nO(env:Nat→V)(σ:Store)(as:List Src):List Nat:=as.flatMap fun s=>reach σ FD (s.ev env)
def PFK(T:Tb)(f:Nat)(as:List V)(k:V→Prop):Prop:=∃r,PF T f as r∧k r
inductive Ub (T:Tb) (f:Nat) (as:List Src) (dst:Option Nat) (st:St):St→Prop
 |ref (ρ:List Nat) {r:V} {σ':Store} (hn:ρ.Nodup) (hρ:∀o,o∈ρ→(jH st.objs o).isSome=true) (h:Run T (.fn f (as.map fun s=>lD (place ρ) (s.ev st.env)) (NH ρ st.objs)) (.fn r σ')) :
   Ub T f as dst st { st with env:=oL st.env dst (lD (back ρ st.objs.length) r),objs:=ql ρ st.objs σ' }
 |own {as':List V} {r:V} {σ':Store} {R:List Nat} (ha:as.mapM (fun s=>resolve st.objs FD (s.ev st.env))=some as') (h:Run T (.fn f as' []) (.fn r σ'))
   (hR:R=if nT r&&Gg σ' then []else as.flatMap fun s=>reach st.objs FD (s.ev st.env)) :
   Ub T f as dst st { st with env:=oL st.env dst (lD (mV st.objs.length) r),objs:=zo (nH st.objs R) σ' }
 |idn {r:V} {σ':Store} (h:Run T (.fn f (as.map fun s=>s.ev st.env) st.objs) (.fn r σ')) (hl:st.objs.length≤σ'.length) (hb:st.objs.length≤st.base) :
   Ub T f as dst st { st with env:=oL st.env dst r,objs:=σ' }
 |frz {as':List V} {r:V} {R:List Nat} (ha:as.mapM (fun s=>resolve st.objs FD (s.ev st.env))=some as') (h:Run T (.fn f as' []) (.fn r []))
   (hR:R=if scalar SD r then []else as.flatMap fun s=>reach st.objs FD (s.ev st.env)) :
   Ub T f as dst st { st with env:=oL st.env dst r,objs:=nH st.objs R }
def Ro(T:Tb)(f:Nat)(as:List Src)(dst:Option Nat)(st:St)(k:St→Prop):Prop:=∃st',Ub T f as dst st st'∧k st'
def dN:Option Nat→Nat
 |some n=>n
 |none=>0
theorem PN(n:Nat):dN (some n)=n:=by have h:dN (some n)=n:=rfl;exact h
def opK(T:Tb)(rf:Nat→Nat→Bool)(o:qh)(st:St)(k:St→Prop):Prop :=
 gK o.g st.env (match o.i with
  |.call f as=>if rf f (dN o.dst)=true then Ro T f as o.dst st k else NM st.env st.objs as fun as'=>PFK T f as' fun r =>
    k { st with env:=oL st.env o.dst r,objs:=nH st.objs (if scalar SD r then []else nO st.env st.objs as) }
  |i=>i.oI st.env st.objs fun ef=>k (ef.go st o.dst (st.base+o.k)))
  (k { st with env:=oL st.env o.dst (.nK []) })
theorem alr{T:Tb}{rf:Nat→Nat→Bool}{o:qh}{st:St}{k:St→Prop}(h:opK T rf o st k):∃st',Run T (.op o st) (.code .normal st')∧k st':=by
 rcases abT h with ⟨hg,h⟩|⟨t,want,hg,he,h⟩
 ·split at h
  ·rename_i f as hi;split at h
   ·obtain⟨st',h1,h4⟩:=h;refine⟨st',?_,h4⟩
    cases h1 with
    |ref ρ h1 h2 h3=>exact .akX ρ h1 h2 hg hi h3
    |own h1 h2 h3=>exact .akY hg hi h1 h2 h3
    |idn h1 h2 h3=>exact .akZ hg hi h1 h2 h3
    |frz h1 h2 h3=>exact .adI hg hi h1 h2 h3
   obtain⟨vs,e,h⟩:=zZ h;obtain⟨r,h1,h⟩:=h;exact⟨_,.adI hg hi e h1 rfl,h⟩
  obtain⟨ef,e,h⟩:=VA h;exact⟨_,.op hg e,h⟩
 exact⟨_,.off hg he,h⟩
def agb(T:Tb)(rf:Nat→Nat→Bool):List qh→St→(St→Prop)→Prop
 | [],st,k=>k st
 |o::l,st,k=>opK T rf o st fun st=>agb T rf l st k
theorem aaV{T:Tb}{rf:Nat→Nat→Bool}:∀{l:List qh} {st:St} {k:St→Prop},agb T rf l st k→∃st',Run T (.ops l st) (.code .normal st')∧k st'
 | [],st,k,h=>⟨st,.nil st,h⟩
 |
  o::l,st,k,h=>by
  obtain⟨st1,h1,h⟩:=alr h;obtain⟨st2,h2,h⟩:=aaV h;exact⟨st2,.cons h1 h2,h⟩
def uni(a b:List Nat):List Nat:=b.foldl (fun s x=>if s.contains x then s else x::s) a
def aw0:List qh→List (List Nat)→List (List Nat)
 | [],acc=>acc
 |o::l,acc=>aw0 l (acc++[o.aft.foldl (fun s e=>uni s (acc.getD e [])) o.aft])
def okB(B:Nat→List Nat)(l:List qh):Nat→Bool
 |
  i=>match l with
  | []=>true
  |o::l=>(B i).all (fun j=>o.aft.contains j||o.aft.any fun e=>(B e).contains j)&&o.aft.all (fun e=>decide (e<i))&&okB B l (i+1)
theorem Yt{B:Nat→List Nat}:∀{l:List qh} {n:Nat},okB B l n=true→∀i o,l[i]? = some o→(∀j,j∈B (n+i)→j∈o.aft∨∃e∈o.aft,j∈B e)∧∀e∈o.aft,e<n+i
 | [],n,_,i,o,h=>by simp at h
 |
  x::l,n,hk,i,o,h=>by
  unfold okB at hk;simp only [aG,aZ]at hk;obtain⟨⟨h1,h2⟩,h3⟩:=hk
  cases i with
  |
   zero =>
   simp only [iW,aC]at h;subst h;refine⟨fun j hj=>?_,fun e he=>by simpa using h2 e he⟩;have:=h1 j hj;simpa using this
  |
   succ i =>
   simp only [List.getElem?_cons_succ]at h;have:=Yt h3 i o h;rw [show n+(i+1)=n+1+i by omega];exact this
def aai(l:List qh):Nat→List Nat:=let b:=aw0 l [];fun i=>b.getD i []
structure Acc where
 i:Nat
 R:List Nat
 W:List Nat
 n:Bool:=false
def AQ(L:Nat)(a b:Acc):Bool:=!a.n||(!b.n&&b.R.all (fun o=>decide (o<L))&&b.W.all fun p=>decide (p<L))
def vX(L:Nat)(d e:qh)(a b:Acc):Bool :=
 !Ph d.dst e.looks && !Ph e.dst d.looks && !(d.dst.isSome&&d.dst == e.dst) &&
  a.W.all (fun p=>!b.R.contains p&&b.W.all fun q=>q != p)&&b.W.all (fun q=>!a.R.contains q)&&AQ L a b&&AQ L b a
def Qj(l:List qh)(i:Nat):qh:=l.getD i ⟨none,none,0,.alloc [],[]⟩
def okA(L:Nat)(B:Nat→List Nat)(ops:List qh):List Acc→Bool
 | []=>true
 |a::l=>l.all (fun b=>(B b.i).contains a.i||vX L (Qj ops a.i) (Qj ops b.i) a b)&&okA L B ops l
def pz(L:Nat)(ops:List qh)(l:List Acc):Prop:=okA L (aai ops) ops l.reverse=true
def agc(T:Tb)(f:Nat)(as:List Src)(dst:Option Nat)(st:St)(k:List Nat→List Nat→Bool→St→Prop):Prop :=
 (∃as' r σ',as.mapM (fun s=>resolve st.objs FD (s.ev st.env))=some as'∧Run T (.fn f as' []) (.fn r σ')∧(nT r&&Gg σ')=true ∧
  k (nO st.env st.objs as) [] true { st with env:=oL st.env dst (lD (mV st.objs.length) r),objs:=zo st.objs σ' }) ∨
 (∃as' r,as.mapM (fun s=>resolve st.objs FD (s.ev st.env))=some as'∧Run T (.fn f as' []) (.fn r [])∧scalar SD r=false ∧
  k (nO st.env st.objs as) (nO st.env st.objs as) false { st with env:=oL st.env dst r,objs:=nH st.objs (nO st.env st.objs as) }) ∨
 (∃r σ',Run T (.fn f (as.map fun s=>s.ev st.env) st.objs) (.fn r σ')∧st.objs.length≤σ'.length∧st.objs.length≤st.base ∧
  k (List.range st.objs.length) (List.range st.objs.length) true { st with env:=oL st.env dst r,objs:=σ' }) ∨
 ∃
  ρ r v,ρ.Nodup∧(∀o,o∈ρ→∃ob,jH st.objs o=some ob∧∀g,qK g ob=ob)∧Run T (.fn f (as.map fun s=>lD (place ρ) (s.ev st.env)) (NH ρ st.objs)) (.fn r (NH ρ st.objs))∧(∀n,lD (back ρ n) r=v) ∧
  k ρ [] false { st with env:=oL st.env dst v }
def Uc(l:List Nat)(k:List Nat→Prop):Prop:=k l
def Eff.wr(id:Nat):Eff→List Nat
 |.val _=>[]
 |.newP _=>[id]
 |.newS _ _=>[id]
 |.upd o _=>[o]
 |.mM o _ _=>[o,id]
def Sr(T:Tb)(rf:Nat→Nat→Bool)(L:Nat)(ops:List qh):List qh→Nat→List Acc→St→(St→Prop)→Prop
 | [],_,acc,st,k=>pz L ops acc∧k st
 |
  o::l,i,acc,st,k=>gK o.g st.env (match o.i with
  |.call f as=>if rf f (dN o.dst)=true then agc T f as o.dst st fun R W n st=>Sr T rf L ops l (i+1) (⟨i,R,W,n⟩::acc) st k
    else NM st.env st.objs as fun as'=>PFK T f as' fun r=>Uc (nO st.env st.objs as) fun R =>
    (R=[]∨scalar SD r=true)∧Sr T rf L ops l (i+1) (⟨i,R,[],false⟩::acc) { st with env:=oL st.env o.dst r } k
  |x
    => Uc (x.reads st.env) fun R=>x.oI st.env st.objs fun ef=>Uc (ef.wr (st.base+o.k)) fun W =>
    Sr T rf L ops l (i+1) (⟨i,R,W,false⟩::acc) (ef.go st o.dst (st.base+o.k)) k)
  (Sr T rf L ops l (i+1) (⟨i,[],[],false⟩::acc) { st with env:=oL st.env o.dst (.nK []) } k)
def aaW(ops:List qh)(p:Nat×Dat)(a:Acc):Prop:=a.i=p.1∧Qj ops a.i=p.2.x∧a.R=p.2.R∧a.W=p.2.W.map (·.1)∧a.n=p.2.N.isSome
theorem aaX{L:Nat}{ops:List qh}{p q:Nat×Dat}{a b:Acc}(h:aaW ops p a)(k:aaW ops q b):AQ L a b=below L p.2 q.2:=by
 obtain⟨h1,h2,h3,h4,h5⟩:=h;obtain⟨k1,k2,k3,k4,k5⟩:=k;unfold AQ below;rw [h5,k5,k3,k4,jl];simp only [Option.not_isSome];rfl
theorem ajw{L:Nat}{ops:List qh}{p q:Nat×Dat}{a b:Acc}(h:aaW ops p a)(k:aaW ops q b):vX L (Qj ops a.i) (Qj ops b.i) a b=apart L p.2 q.2:=by
 have e1:=aaX (L:=L) h k;have e2:=aaX (L:=L) k h;obtain⟨h1,h2,h3,h4,h5⟩:=h;obtain⟨k1,k2,k3,k4,k5⟩:=k;unfold vX apart;rw [e1,e2,h2,k2,h3,k3,h4,k4];simp only [jl];rfl
inductive yP (ops:List qh):List (Nat×Dat)→List Acc→Prop
 |nil:yP ops [] []
 |cons {p a l m} (h:aaW ops p a) (t:yP ops l m):yP ops (p::l) (a::m)
theorem yP.all{ops:List qh}{f:Nat×Dat→Bool}{g:Acc→Bool}:∀{l m},yP ops l m→(∀p a,aaW ops p a→f p=g a)→l.all f=m.all g
 |_,_,.nil,_=>rfl
 |_,_,.cons h t,hfg=>by simp only [dh];rw [hfg _ _ h,t.all hfg]
theorem agd{L:Nat}{B:Nat→List Nat}{ops:List qh}:∀{l m},yP ops l m→okA L B ops m=true→okD L B l=true
 |_,_,.nil,_=>rfl
 |
  _,_,.cons (p:=p) (a:=a) h t,hk=>by
  simp only [okA,aG]at hk;obtain⟨i,d⟩:=p;simp only [okD,aG];refine⟨?_,agd t hk.2⟩;rw [t.all fun q b hq=>?_]
  ·exact hk.1
  rw [ajw h hq,hq.1,h.1]
theorem yP.append{ops:List qh}:∀{l m l' m'},yP ops l m→yP ops l' m'→yP ops (l++l') (m++m')
 |_,_,_,_,.nil,h=>h
 |_,_,_,_,.cons h t,k=>.cons h (t.append k)
theorem aw1(ef:Eff)(id:Nat):ef.wr id=(ef.writes id).map (·.1):=by cases ef<;>rfl
theorem Sv{T:Tb}{d:Dat}:∀(l:List Dat) (st:St),Chain T l st→Fp T d (FZ l st)→Chain T (l++[d]) st
 | [],_,_,h=>⟨h,trivial⟩
 |_::l,_,h,k=>⟨h.1,Sv l _ h.2 k⟩
theorem Sz{d:Dat}:∀(l:List Dat) (st:St),FZ (l++[d]) st=d.go (FZ l st)
 | [],_=>rfl
 |_::l,_=>Sz l _
theorem aaY{T:Tb}{rf:Nat→Nat→Bool}{L:Nat}{ops:List qh}{st0:St}:∀{l:List qh} {i:Nat} {acc:List Acc} {st:St} {k:St→Prop} (ds:List (Nat×Dat)),Sr T rf L ops l i acc st k →
  i≤ops.length→ops.drop i=l→ds.length=i→ds.map (·.1)=List.range i→yP ops ds acc.reverse→Chain T (ds.map (·.2)) st0→FZ (ds.map (·.2)) st0=st →
  ∃ds',ds'.map (·.1)=List.range ops.length∧(∃acc',yP ops ds' acc'∧okA L (aai ops) ops acc'=true)∧Chain T (ds'.map (·.2)) st0∧k (FZ (ds'.map (·.2)) st0)
 |
  [],i,acc,st,k,ds,h,hil,hd,hi,hr,hf,hc,hg=>by
  have hl:ops.length=i:=by
   have:=congrArg List.length hd;simp at this;omega
  exact⟨ds,by rw [hr,hl],⟨_,hf,h.1⟩,hc,by rw [hg];exact h.2⟩
 |
  o::l,i,acc,st,k,ds,h,_,hd,hi,hr,hf,hc,hg=>by
  have hio:ops[i]? = some o:=by
   have:=congrArg (·[0]?) hd;simpa using this
  have hd':ops.drop (i+1)=l:=by
   rw [←List.drop_drop,hd];rfl
  have hgo:Qj ops i=o:=by simp [Qj,ak,hio]
  have step:∀(d:Dat),d.x=o→∀(a:Acc),a.i=i→a.R=d.R→a.W=d.W.map (·.1)→a.n=d.N.isSome→Fp T d st→Sr T rf L ops l (i+1) (a::acc) (d.go st) k→_:=fun d hdx a ha hR hW hN hfp hk =>
   aaY (ds++[(i,d)]) hk (aK.1 hio).1 hd' (by simp [hi]) (by simp [hr,iZ]) (by
    rw [List.reverse_cons];exact hf.append (.cons ⟨ha,by rw [ha,hgo,hdx],hR,hW,hN⟩ .nil)) (by
    rw [bK];exact Sv _ _ hc (by rw [hg];exact hfp)) (by rw [bK,bC,fZ,Sz,hg])
  rcases abT h with ⟨hgd,h⟩|⟨t,want,hgd,he,h⟩
  ·split at h
   ·rename_i f as hi2;split at h
    ·rcases h with ⟨vs,r,σ',e,h1,h2,h⟩|⟨vs,r,e,h1,h2,h⟩|⟨r,σ',h1,h2,h3,h⟩|⟨ρ,r,v,h1,h2,h3,h4,h⟩
     rotate_right
     ·refine step ⟨o,ρ,v,[],none⟩ rfl ⟨i,ρ,[],false⟩ rfl rfl rfl rfl (alo hgd hi2 h1 h2 h3 h4) ?_;have e2:(⟨o,ρ,v,[],none⟩:Dat).go st={ st with env:=oL st.env o.dst v }:=by
       simp only [Dat.go,wO,iE,dO,aQ]
      rw [e2];exact h
     rotate_right
     ·refine step ⟨o,_,r,(List.range st.objs.length).map fun o=>(o,jH σ' o),some (σ'.drop st.objs.length)⟩ rfl ⟨i,_,List.range st.objs.length,true⟩ rfl rfl (by rw [fK];exact(List.map_id _).symm) rfl (alp hgd hi2 h1 h2 h3) ?_;have e2:(⟨o,List.range st.objs.length,r,(List.range st.objs.length).map fun o=>(o,jH σ' o),some (σ'.drop st.objs.length)⟩:Dat).go st={ st with env:=oL st.env o.dst r,objs:=σ' }:=by
       simp only [Dat.go,gZ]
       congr 1
       exact adZ h2
      rw [e2];exact h
     rotate_left
     ·refine step ⟨o,_,r,(as.flatMap fun s=>reach st.objs FD (s.ev st.env)).map fun o=>(o,none),none⟩ rfl ⟨i,_,as.flatMap fun s=>reach st.objs FD (s.ev st.env),false⟩ rfl rfl (by rw [fK];exact(List.map_id _).symm) rfl (alm hgd hi2 e h1 h2) ?_;have e2:(⟨o,as.flatMap fun s=>reach st.objs FD (s.ev st.env),r,(as.flatMap fun s=>reach st.objs FD (s.ev st.env)).map fun o=>(o,none),none⟩:Dat).go st =
        { st with env:=oL st.env o.dst r,objs:=nH st.objs (as.flatMap fun s=>reach st.objs FD (s.ev st.env)) }:=by
       simp only [Dat.go,Vz,dO,aQ]
      rw [e2];exact h
     refine step ⟨o,_,_,[],some _⟩ rfl ⟨i,_,[],true⟩ rfl rfl rfl rfl (aln hgd hi2 e h1 h2) ?_;have e2:(⟨o,as.flatMap fun s=>reach st.objs FD (s.ev st.env),lD (mV st.objs.length) r,[],some (σ'.map (Option.map (qK (mV st.objs.length))))⟩:Dat).go st =
       { st with env:=oL st.env o.dst (lD (mV st.objs.length) r),objs:=zo st.objs σ' }:=by
      simp only [Dat.go,wO,iE,zo,gZ]
     rw [e2];exact h
    obtain⟨vs,e,h⟩:=zZ h;obtain⟨r,h1,h⟩:=h;obtain⟨hR,h⟩:=h;refine step ⟨o,_,r,[],none⟩ rfl ⟨i,_,[],false⟩ rfl rfl rfl rfl (adY hgd hi2 e h1 hR.symm) ?_;have e2:(⟨o,as.flatMap fun s=>reach st.objs FD (s.ev st.env),r,[],none⟩:Dat).go st={ st with env:=oL st.env o.dst r }:=by
     simp only [Dat.go,wO,iE,dO,aQ]
    rw [e2];exact h
   unfold Uc at h;obtain⟨ef,e,h⟩:=VA h;refine step ⟨o,o.i.reads st.env,ef.dv (st.base+o.k),ef.writes (st.base+o.k),none⟩ rfl ⟨i,_,_,false⟩ rfl rfl (aw1 _ _) rfl (ald hgd e) ?_;have e2:(⟨o,o.i.reads st.env,ef.dv (st.base+o.k),ef.writes (st.base+o.k),none⟩:Dat).go st=ef.go st o.dst (st.base+o.k):=by
    simp only [Dat.go,Eff.go,adU,dO,aQ]
   rw [e2];exact h
  refine step ⟨o,[],.nK [],[],none⟩ rfl ⟨i,[],[],false⟩ rfl rfl rfl rfl (ale hgd he) ?_;have e2:(⟨o,[],.nK [],[],none⟩:Dat).go st={ st with env:=oL st.env o.dst (.nK []) }:=by
   simp only [Dat.go,wO,iE,dO,aQ]
  rw [e2];exact h
theorem als{T:Tb}{rf:Nat→Nat→Bool}{ops:List qh}{st:St}{k:St→Prop}(hb:okB (aai ops) ops 0=true)(h:Sr T rf st.objs.length ops ops 0 [] st k):∃st',Run T (.any ops [] st) (.code .normal st')∧k st':=by
 obtain⟨ds,h1,⟨acc,h2,h3⟩,h4,h5⟩:=aaY (ops:=ops) (st0:=st) [] h (dY _) rfl rfl rfl .nil trivial rfl;have hB:=Yt hb;simp only [aN]at hB;have hfit:∀{l m},yP ops l m→∀p∈l,Qj ops p.1=p.2.x:=by
  intro l m hf
  induction hf with
  |nil=>intro p hp;cases hp
  |
   cons h t ih =>
   intro p hp;rcases aH.1 hp with rfl|hp
   ·rw [←h.1];exact h.2.1
   exact ih p hp
 have hlt:∀p∈ds,p.1<ops.length:=by
  intro p hp;have:p.1∈ds.map (·.1):=iO hp;rw [h1]at this;exact eF.1 this
 refine⟨_,run_any (B:=aai ops) (fun i o j ho hj=>(hB i o ho).1 j hj) ds.length ds [] st (aP _) rfl (agd h2 h3) (fun e he=>by cases he) h4 ?_ ?_ ?_,h5⟩
 ·rw [h1];exact List.pairwise_lt_range
 ·intro p hp;have hp2:ops[p.1]? = some p.2.x:=by
   have:=hfit h2 p hp;unfold Qj at this;rw [ak]at this;rw [aB (hlt p hp)]at this ⊢;exact congrArg some this
  exact⟨hp2,by simp,(hB p.1 p.2.x hp2).2⟩
 intro i hi _;have:i∈ds.map (·.1):=by rw [h1];exact eF.2 hi
 obtain⟨p,hp,e⟩:=bM.1 this;exact⟨p.2,by rw [←e];exact hp⟩
def aoR(ef:Eff)(k:V→Prop):Prop:=match ef with
 |.val v=>k v
 |_=>False
theorem ajx{ef:Eff}{k:V→Prop}(h:aoR ef k):∃v,ef=.val v∧k v:=by
 cases ef<;>first|exact h.elim|exact⟨_,rfl,h⟩
def NP(T:Tb):List qh→St→(St→Prop)→Prop
 | [],st,k=>k st
 |
  o::l,st,k=>gK o.g st.env (match o.i with
  |.call f as=>NM st.env st.objs as fun as'=>PFK T f as' fun r=>Uc (nO st.env st.objs as) fun R =>
    (R=[]∨scalar SD r=true)∧NP T l { st with env:=oL st.env o.dst r } k
  |x=>x.oI st.env st.objs fun ef=>aoR ef fun v=>NP T l { st with env:=oL st.env o.dst v } k)
  (NP T l { st with env:=oL st.env o.dst (.nK []) } k)
def NQ(rf:Nat→Nat→Bool)(l:List qh):Bool:=l.all fun o=>match o.i with
 |.call f _=>!rf f (dN o.dst)
 |_=>true
theorem Yu{T:Tb}{ops:List qh}{st0:St}:∀{l:List qh} {i:Nat} {acc:List Acc} {st:St} {k:St→Prop} (ds:List (Nat×Dat)),NP T l st k →
  i≤ops.length→ops.drop i=l→ds.length=i→ds.map (·.1)=List.range i→yP ops ds acc.reverse→(∀a∈acc,a.W=[]∧a.n=false)→Chain T (ds.map (·.2)) st0→FZ (ds.map (·.2)) st0=st →
  ∃ds',ds'.map (·.1)=List.range ops.length∧(∃acc',yP ops ds' acc'∧∀a∈acc',a.W=[]∧a.n=false)∧Chain T (ds'.map (·.2)) st0∧k (FZ (ds'.map (·.2)) st0)
 |
  [],i,acc,st,k,ds,h,hil,hd,hi,hr,hf,hw,hc,hg=>by
  have hl:ops.length=i:=by
   have:=congrArg List.length hd;simp at this;omega
  exact⟨ds,by rw [hr,hl],⟨_,hf,by simpa using hw⟩,hc,by rw [hg];exact h⟩
 |
  o::l,i,acc,st,k,ds,h,_,hd,hi,hr,hf,hw,hc,hg=>by
  have hio:ops[i]? = some o:=by
   have:=congrArg (·[0]?) hd;simpa using this
  have hd':ops.drop (i+1)=l:=by
   rw [←List.drop_drop,hd];rfl
  have hgo:Qj ops i=o:=by simp [Qj,ak,hio]
  have step:∀(R:List Nat) (v:V),Fp T ⟨o,R,v,[],none⟩ st→NP T l { st with env:=oL st.env o.dst v } k→_:=fun R v hfp hk =>
   Yu (acc:=⟨i,R,[],false⟩::acc) (ds++[(i,⟨o,R,v,[],none⟩)]) hk (aK.1 hio).1 hd' (by simp [hi]) (by simp [hr,iZ]) (by
    rw [List.reverse_cons];exact hf.append (.cons ⟨rfl,hgo,rfl,rfl,rfl⟩ .nil)) (by
    intro a ha;rcases aH.1 ha with rfl|ha
    ·exact⟨rfl,rfl⟩
    ·exact hw a ha) (by
    rw [bK];exact Sv _ _ hc (by rw [hg];exact hfp)) (by rw [bK,bC,fZ,Sz,hg,go_val])
  rcases abT h with ⟨hgd,h⟩|⟨t,want,hgd,he,h⟩
  ·split at h
   ·rename_i f as hi2;obtain⟨vs,e,h⟩:=zZ h;obtain⟨r,h1,h⟩:=h;obtain⟨hR,h⟩:=h;exact step _ r (adY hgd hi2 e h1 hR.symm) h
   obtain⟨ef,e,h⟩:=VA h;obtain⟨v,rfl,h⟩:=ajx h;exact step _ v (ald hgd e) h
  exact step [] (.nK []) (ale hgd he) h
def aw2(ops:List qh):Bool:=okA 0 (aai ops) ops ((List.range ops.length).map fun i=>⟨i,[],[],false⟩)
theorem aaZ{L:Nat}{B:Nat→List Nat}{ops:List qh}:∀{l:List Acc},(∀a∈l,a.W=[]∧a.n=false)→okA 0 B ops (l.map fun a=>⟨a.i,[],[],false⟩)=okA L B ops l
 | [],_=>rfl
 |
  a::l,h=>by
  simp only [bC,okA];rw [aaZ fun b hb=>h b (by simp [hb])]
  congr 1
  rw [jl];have hall:∀(m:List Acc),(∀b∈m,b.W=[]∧b.n=false)→(m.all ((fun b:Acc=>(B b.i).contains a.i||vX 0 (Qj ops a.i) (Qj ops b.i) ⟨a.i,[],[],false⟩ b) ∘ fun b=>⟨b.i,[],[],false⟩)) =
    m.all fun b=>(B b.i).contains a.i||vX L (Qj ops a.i) (Qj ops b.i) a b:=by
   intro m
   induction m with
   |nil=>intro _;rfl
   |
    cons b m ih =>
    intro hm;simp only [dh];rw [ih fun c hc=>hm c (by simp [hc])]
    congr 1
    simp only [Function.comp,vX,AQ,(h a (by simp)).1,(hm b (by simp)).1,(h a (by simp)).2,(hm b (by simp)).2,fB,jJ,eu]
  exact hall l fun b hb=>h b (by simp [hb])
theorem ajy{T:Tb}{ops:List qh}{st:St}{k:St→Prop}(L:Nat)(h0:aw2 ops=true)(h:NP T ops st k) :
  ∃ds:List (Nat×Dat),ds.map (·.1)=List.range ops.length∧(∃acc',yP ops ds acc'∧okA L (aai ops) ops acc'=true)∧Chain T (ds.map (·.2)) st∧k (FZ (ds.map (·.2)) st):=by
 obtain⟨ds,h1,⟨acc,h2,h3⟩,h4,h5⟩:=Yu (ops:=ops) (acc:=[]) (st0:=st) [] h (dY _) rfl rfl rfl .nil (by simp) trivial rfl;refine⟨ds,h1,⟨acc,h2,?_⟩,h4,h5⟩;rw [←aaZ h3];have:(acc.map fun a=>(⟨a.i,[],[],false⟩:Acc))=(List.range ops.length).map fun i=>⟨i,[],[],false⟩:=by
  rw [←h1,fK];clear h1 h3 h4 h5 h h0
  induction h2 with
  |nil=>rfl
  |cons h t ih=>simp only [bC,Function.comp,h.1,ih]
 rw [this];exact h0
theorem asw{T:Tb}{ops:List qh}{st:St}(hb:okB (aai ops) ops 0=true){ds:List (Nat×Dat)}(h1:ds.map (·.1)=List.range ops.length)
  {acc:List Acc} (h2:yP ops ds acc) (h3:okA st.objs.length (aai ops) ops acc=true) (h4:Chain T (ds.map (·.2)) st):Run T (.any ops [] st) (.code .normal (FZ (ds.map (·.2)) st)):=by
 have hB:=Yt hb;simp only [aN]at hB;have hfit:∀{l m},yP ops l m→∀p∈l,Qj ops p.1=p.2.x:=by
  intro l m hf
  induction hf with
  |nil=>intro p hp;cases hp
  |
   cons h t ih =>
   intro p hp;rcases aH.1 hp with rfl|hp
   ·rw [←h.1];exact h.2.1
   exact ih p hp
 have hlt:∀p∈ds,p.1<ops.length:=by
  intro p hp;have:p.1∈ds.map (·.1):=iO hp;rw [h1]at this;exact eF.1 this
 refine run_any (B:=aai ops) (fun i o j ho hj=>(hB i o ho).1 j hj) ds.length ds [] st (aP _) rfl (agd h2 h3) (fun e he=>by cases he) h4 ?_ ?_ ?_
 ·rw [h1];exact List.pairwise_lt_range
 ·intro p hp;have hp2:ops[p.1]? = some p.2.x:=by
   have:=hfit h2 p hp;unfold Qj at this;rw [ak]at this;rw [aB (hlt p hp)]at this ⊢;exact congrArg some this
  exact⟨hp2,by simp,(hB p.1 p.2.x hp2).2⟩
 intro i hi _;have:i∈ds.map (·.1):=by rw [h1];exact eF.2 hi
 obtain⟨p,hp,e⟩:=bM.1 this;exact⟨p.2,by rw [←e];exact hp⟩
def MS(l:List qh):Bool:=l.all fun o=>match o.i with
 |.store .. | .alloc _ | .box _ | .ny .. | .make .. | .app ..=>false
 |_=>true
def C.okC:C→Bool
 |.reg d m l=>okK m l&&(!d||(okB (aai l) l 0&&(!MS l||aw2 l)))
 |.seq a b=>a.okC&&b.okC
 |.cond _ a b=>a.okC&&b.okC
 |.block _ c=>c.okC
 |.loop c=>c.okC
 |_=>true
def ad4(σ:Store)(m:Nat):Store:=σ++List.replicate m none
def St.in(st:St)(m:Nat):St:={ st with objs:=ad4 st.objs m,base:=st.objs.length,rds:=[],muts:=[] }
def abU(e:Ex)(k q:Prop):Prop:=match e with
 |.normal=>k
 |_=>q
def Pm(T:Tb)(c:C)(Q:Ex→St→Prop)(st:St):Prop:=∃e st',Run T (.code (.loop c) st) (.code e st')∧Q e st'
def wp(T:Tb)(rf:Nat→Nat→Bool):C→(Ex→St→Prop)→St→Prop
 |.skip,Q,st=>Q .normal st
 |.reg d m l,Q,st=>if d then(if MS l&&NQ rf l then NP T l (st.in m) (Q .normal)else Sr T rf (st.in m).objs.length l l 0 [] (st.in m) (Q .normal))else agb T rf l (st.in m) (Q .normal)
 |.seq a b,Q,st=>wp T rf a (fun e st=>abU e (wp T rf b Q st) (Q e st)) st
 |.cond x a b,Q,st=>Qi (x.ev st.env) fun t=>if t=true then wp T rf a Q st else wp T rf b Q st
 |.block id c,Q,st=>wp T rf c (fun e st=>Q (adG id e) st) st
 |.loop c,Q,st=>Pm T c Q st
 |.exit id,Q,st=>Q (.exit id) st
 |.ret,Q,st=>Q .ret st
 |.lib _,_,_=>False
theorem Bd{T:Tb}{rf:Nat→Nat→Bool}:∀{c:C} {Q:Ex→St→Prop} {st:St},c.okC=true→wp T rf c Q st→∃e st',Run T (.code c st) (.code e st')∧Q e st'
 |.skip,Q,st,_,h=>⟨_,_,.skip st,h⟩
 |
  .reg d m l,Q,st,hk,h=>by
  simp only [C.okC,aG,fA,fQ]at hk;obtain⟨hk,hk2⟩:=hk;unfold wp at h
  cases d with
  |
   false =>
   obtain⟨st',h1,h2⟩:=aaV (by simpa using h);exact⟨_,_,.reg hk h1,h2⟩
  |
   true =>
   simp only [Bool.true_eq_false,false_or]at hk2;simp only [if_true]at h;split at h
   ·rename_i hw;simp only [aG]at hw;rcases hk2.2 with h'|h'
    ·rw [h']at hw;cases hw.1
    obtain⟨ds,h1,⟨acc,h2,h3⟩,h4,h5⟩:=ajy (st.in m).objs.length h' h;exact⟨_,_,.asj hk (asw hk2.1 h1 h2 h3 h4),h5⟩
   obtain⟨st',h1,h2⟩:=als hk2.1 h;exact⟨_,_,.asj hk h1,h2⟩
 |
  .seq a b,Q,st,hk,h=>by
  simp only [C.okC,aG]at hk;obtain⟨e,st1,h1,h2⟩:=Bd hk.1 (Q:=fun e st=>abU e (wp T rf b Q st) (Q e st)) h
  cases e with
  |
   normal =>
   obtain⟨e,st2,h3,h4⟩:=Bd hk.2 (Q:=Q) h2;exact⟨e,st2,.awL h1 h3,h4⟩
  |exit id=>exact⟨_,_,.asl (by simp) h1,h2⟩
  |ret=>exact⟨_,_,.asl (by simp) h1,h2⟩
 |
  .cond x a b,Q,st,hk,h=>by
  simp only [C.okC,aG]at hk;obtain⟨t,e,h⟩:=aga h
  cases t with
  |
   true =>
   obtain⟨e2,st2,h1,h2⟩:=Bd hk.1 (Q:=Q) (by simpa using h);exact⟨e2,st2,.cond e h1,h2⟩
  |
   false =>
   obtain⟨e2,st2,h1,h2⟩:=Bd hk.2 (Q:=Q) (by simpa using h);exact⟨e2,st2,.cond e h1,h2⟩
 |
  .block id c,Q,st,hk,h=>by
  obtain⟨e,st1,h1,h2⟩:=Bd (c:=c) (Q:=fun e st=>Q (adG id e) st) hk h;exact⟨_,_,.block h1,h2⟩
 |.loop c,Q,st,_,h=>h
 |.exit id,Q,st,_,h=>⟨_,_,.exit id st,h⟩
 |.ret,Q,st,_,h=>⟨_,_,.ret st,h⟩
 |.lib _,_,_,_,h=>by simp [wp]at h
def wr{α:Sort _}(a:α):α:=a
theorem nr{α:Sort _}{a b:α}(h:a=b):a=b:=h
theorem qG{α:Sort _}(a:α):wr a=a:=nr rfl
def VB(σ:Store)(k:Store→Prop):Prop:=k σ
theorem asx(k:Store→Prop):VB [] k=k []:=nr rfl
theorem asy(a:Option Obj)(σ:Store)(k:Store→Prop):VB (a::σ) k=k (a::σ):=nr rfl
@[congr] theorem aAU {v v':Store} {k:Store→Prop} (h:wr v=v'):VB v k=VB v' k:=by rw [←h,qG]
def SA(n:Nat)(k:Nat→Prop):Prop:=k n
theorem aoS(n:Nat)(k:Nat→Prop):SA n k=k n:=nr rfl
@[congr] theorem aAV {v v':Nat} {k:Nat→Prop} (h:wr v=v'):SA v k=SA v' k:=by rw [←h,qG]
def brK(t:Bool)(a b:Prop):Prop:=if t=true then a else b
@[congr] theorem aCF {t t':Bool} {a b:Prop} (h:wr t=t'):brK t a b=brK t' a b:=by rw [←h,qG]
theorem arz(a b:Prop):brK true a b=a:=by simp [brK]
theorem arA(a b:Prop):brK false a b=b:=by simp [brK]
theorem aoT(t:Bool)(a b:Prop):brK (!t) a b=brK t b a:=by cases t<;>simp [brK]
theorem kD{c:Prop} [Decidable c] {a b:Prop} (h1:c→a) (h2:¬c→b):brK (decide c) a b:=by
 unfold brK;by_cases h:c
 ·rw [if_pos (decide_eq_true h)];exact h1 h
 rw [if_neg (by simpa using h)];exact h2 h
def F7(v:V)(k:V→Prop):Prop:=k v
theorem asz(v:V)(k:V→Prop):F7 v k=k v:=nr rfl
@[congr] theorem aCG {v v':V} {k:V→Prop} (h:wr v=v'):F7 v k=F7 v' k:=by rw [←h,qG]
@[congr] theorem aAW {α:Type} {v v':Option α} {k:α→Prop} (h:wr v=v'):nY v k=nY v' k:=by rw [←h,qG]
@[congr] theorem aw3 {v v':V} {k:Bool→Prop} (h:wr v=v'):Qi v k=Qi v' k:=by rw [←h,qG]
@[congr] theorem aCH {w:Bool} {v v':V} {k:Bool→Prop} (h:wr v=v'):gdK w v k=gdK w v' k:=by rw [←h,qG]
@[congr] theorem aAX {v v':List Nat} {k:List Nat→Prop} (h:wr v=v'):Uc v k=Uc v' k:=by rw [←h,qG]
@[congr] theorem awt {n n':Nat} {v v':V} {k:Nat→Prop} (h0:wr n=n') (h:wr v=v'):yO n v k=yO n' v' k:=by rw [←h0,←h,qG,qG]
@[congr] theorem arB {n n':Nat} {v v':V} {k:Nat→Prop} (h0:wr n=n') (h:wr v=v'):tC n v k=tC n' v' k:=by rw [←h0,←h,qG,qG]
@[congr] theorem aAY {op:BinOp} {x x' y y':V} {k:V→Prop} (h0:wr x=x') (h:wr y=y'):zk op x y k=zk op x' y' k:=by rw [←h0,←h,qG,qG]
@[congr] theorem aCI {T:Tb} {f:Nat} {as as':List V} {k:V→Prop} (h:wr as=as'):PFK T f as k=PFK T f as' k:=by rw [←h,qG]
@[congr] theorem aAZ {T:Tb} {f f':Nat} {as:List Src} {d:Option Nat} {st:St} {k:St→Prop} (h:wr f=f'):Ro T f as d st k=Ro T f' as d st k:=by rw [←h,qG]
@[congr] theorem aw4 {T T':Tb} {c:C} {Q:Ex→St→Prop} {st:St} (h:wr T=T'):Pm T c Q st=Pm T' c Q st:=by rw [←h,qG]
@[congr] theorem aCJ {L:Nat} {ops:List qh} {l l':List Acc} (h:wr l=l'):pz L ops l=pz L ops l':=by rw [←h,qG]
@[congr] theorem aA0 {T:Tb} {f f':Nat} {as:List Src} {d:Option Nat} {st:St} {k:List Nat→List Nat→Bool→St→Prop} (h:wr f=f'):agc T f as d st k=agc T f' as d st k:=by rw [←h,qG]
theorem ajz{α:Type}(a:α)(k:α→Prop):nY (some a) k=k a:=nr rfl
theorem aw5(want b:Bool)(k:Bool→Prop):gdK want (.bool b) k=k b:=nr rfl
theorem aw6(want:Bool)(k:Bool→Prop):gdK want (.nK []) k=k (!want):=nr rfl
theorem aoU(b:Bool)(k:Bool→Prop):Qi (.bool b) k=k b:=nr rfl
theorem alu(k:List Nat→Prop):Uc [] k=k []:=nr rfl
theorem ajA(a:Nat)(l:List Nat)(k:List Nat→Prop):Uc (a::l) k=k (a::l):=nr rfl
theorem ajB{n:Nat}{q:IntKind}{i:Int}{k:Nat→Prop}(h:0≤i∧i<n):yO n (.int q i) k=k i.toNat:=by
 simp [yO,h]
theorem ad5{n:Nat}{q:IntKind}{i:Int}{k:Nat→Prop}(h:0≤i∧i≤n):tC n (.int q i) k=k i.toNat:=by
 simp [tC,h]
theorem w64{n:Int}(h : -9223372036854775808≤n∧n≤9223372036854775807):IntKind.i64.wrap n=n:=IntWalk.i64_in n h
theorem aCK{n:Int}(h:0≤n∧n≤4294967295):IntKind.u32.wrap n=n:=IntWalk.u32_in n h
theorem aCL{n:Int}(h:0≤n∧n≤18446744073709551615):IntKind.u64.wrap n=n:=IntWalk.u64_in n h
theorem w8u{n:Int}(h:0≤n∧n≤255):IntKind.u8.wrap n=n:=IntWalk.u8_in n h
theorem aCM(n:Nat)(env:Nat→V):Src.ev env (.t n)=env n:=nr rfl
theorem aCN(v:V)(env:Nat→V):Src.ev env (.c v)=v:=nr rfl
theorem ajC(env:Nat→V)(v:V):oL env none v=env:=nr rfl
theorem aoV(env:Nat→V)(t:Nat)(v:V)(s:Nat):oL env (some t) v s=if s=t then v else env s:=nr rfl
theorem asA(env:Nat→V)(t:Nat)(v:V)(s:Nat):upd env t v s=if s=t then v else env s:=nr rfl
theorem asB(a:V)(l:List V):kX (a::l) 0=a:=nr rfl
theorem asC(a:V)(l:List V)(n:Nat):kX (a::l) (n+1)=kX l n:=nr rfl
theorem asD(n:Nat):kX [] n=.any:=nr rfl
theorem aoW(a:Option Obj)(l:Store):jH (a::l) 0=a:=nr rfl
theorem aoX(a:Option Obj)(l:Store)(n:Nat):jH (a::l) (n+1)=jH l n:=nr rfl
theorem aoY(n:Nat):jH [] n=none:=nr rfl
theorem aw7(a:Option Obj)(l:Store)(x:Option Obj):List.set (a::l) 0 x=x::l:=nr rfl
theorem aw8(a:Option Obj)(l:Store)(n:Nat)(x:Option Obj):List.set (a::l) (n+1) x=a::List.set l n x:=nr rfl
theorem asE(σ:Store):ad4 σ 0=σ:=by simp [ad4]
theorem asF(σ:Store)(n:Nat):ad4 σ (n+1)=ad4 (σ++[none]) n:=by simp [ad4,gB]
theorem alv(args:List V)(σ:Store):St.enter args σ=⟨kX args,σ,σ.length,0,[],[]⟩:=nr rfl
theorem alx(σ:Store):nH σ []=σ:=nr rfl
theorem ajD(σ:Store)(o:Nat)(l:List Nat):nH σ (o::l)=nH (σ.set o none) l:=nr rfl
section
variable (T : Tb) (rf : Nat → Nat → Bool) (Q : Ex → St → Prop) (st : St) (k : St → Prop) (env : Nat → V) (σ : Store) (kp bs : Nat) (rs ms : List Nat)
def goK(st:St)(d:Option Nat)(id:Nat)(ef:Eff)(k:St→Prop):Prop:=k (ef.go st d id)
@[congr] theorem aCO {st:St} {d:Option Nat} {id id':Nat} {ef:Eff} {k:St→Prop} (h:wr id=id'):goK st d id ef k=goK st d id' ef k:=by rw [←h,qG]
theorem aw9(t id:Nat)(v:V):goK ⟨env,σ,kp,bs,rs,ms⟩ (some t) id (.val v) k=k ⟨upd env t v,σ,kp,bs,rs,ms⟩:=nr rfl
theorem asG(id:Nat)(v:V):goK ⟨env,σ,kp,bs,rs,ms⟩ none id (.val v) k=k ⟨env,σ,kp,bs,rs,ms⟩:=nr rfl
theorem axa(t id:Nat)(ob:Obj):goK ⟨env,σ,kp,bs,rs,ms⟩ (some t) id (.newP ob) k=VB (σ.set id (some ob)) fun σ=>k ⟨upd env t (.ptr id 0 0),σ,kp,bs,rs,ms⟩:=nr rfl
theorem axb(t id:Nat)(ob:Obj)(n:Nat):goK ⟨env,σ,kp,bs,rs,ms⟩ (some t) id (.newS ob n) k=VB (σ.set id (some ob)) fun σ=>k ⟨upd env t (.kP id 0 n),σ,kp,bs,rs,ms⟩:=nr rfl
theorem axc(id o:Nat)(ob:Obj):goK ⟨env,σ,kp,bs,rs,ms⟩ none id (.upd o ob) k=VB (σ.set o (some ob)) fun σ=>k ⟨env,σ,kp,bs,rs,ms⟩:=nr rfl
theorem axd(t id o:Nat)(ob:Obj)(n:Nat):goK ⟨env,σ,kp,bs,rs,ms⟩ (some t) id (.mM o ob n) k=VB ((σ.set o none).set id (some ob)) fun σ=>k ⟨upd env t (.kP id 0 n),σ,kp,bs,rs,ms⟩:=nr rfl
theorem wp_skip:wp T rf .skip Q st=Q .normal st:=nr rfl
theorem aoZ(m:Nat)(l:List qh):wp T rf (.reg false m l) Q ⟨env,σ,kp,bs,rs,ms⟩=SA σ.length fun b=>VB (ad4 σ m) fun σ=>agb T rf l ⟨env,σ,kp,b,[],[]⟩ (Q .normal):=nr rfl
theorem ao0(m:Nat)(l:List qh):wp T rf (.reg true m l) Q ⟨env,σ,kp,bs,rs,ms⟩=SA σ.length fun b=>VB (ad4 σ m) fun σ=>if (MS l&&NQ rf l)=true then NP T l ⟨env,σ,kp,b,[],[]⟩ (Q .normal)else SA σ.length fun L=>Sr T rf L l l 0 [] ⟨env,σ,kp,b,[],[]⟩ (Q .normal):=nr rfl
theorem wp_seq(a b:C):wp T rf (.seq a b) Q st=wp T rf a (fun e st=>abU e (wp T rf b Q st) (Q e st)) st:=nr rfl
theorem wp_cond(x:Src)(a b:C):wp T rf (.cond x a b) Q st=Qi (x.ev st.env) fun t=>if t=true then wp T rf a Q st else wp T rf b Q st:=nr rfl
theorem aly(x:Src)(a b:C):wp T rf (.cond x a b) Q ⟨env,σ,kp,bs,rs,ms⟩=Qi (x.ev env) fun t=>brK t (wp T rf a Q ⟨env,σ,kp,bs,rs,ms⟩) (wp T rf b Q ⟨env,σ,kp,bs,rs,ms⟩):=nr rfl
theorem wp_block(id:Nat)(c:C):wp T rf (.block id c) Q st=wp T rf c (fun e st=>Q (adG id e) st) st:=nr rfl
theorem wp_loop(c:C):wp T rf (.loop c) Q st=Pm T c Q st:=nr rfl
theorem wp_exit(id:Nat):wp T rf (.exit id) Q st=Q (.exit id) st:=nr rfl
theorem wp_ret:wp T rf .ret Q st=Q .ret st:=nr rfl
theorem asH(a b:Prop):abU .normal a b=a:=nr rfl
theorem asI(id:Nat)(a b:Prop):abU (.exit id) a b=b:=nr rfl
theorem asJ(a b:Prop):abU .ret a b=b:=nr rfl
theorem asK(id:Nat):adG id .normal=.normal:=nr rfl
theorem asL(id:Nat):adG id .ret=.ret:=nr rfl
theorem asM(id j:Nat):adG id (.exit j)=if j=id then .normal else .exit j:=nr rfl
theorem asN:agb T rf [] st k=k st:=nr rfl
theorem asO(o:qh)(l:List qh):agb T rf (o::l) st k=opK T rf o st fun st=>agb T rf l st k:=nr rfl
theorem asP(g:Option (Nat×Bool))(d:Option Nat)(n:Nat)(i:I)(a:List Nat):opK T rf ⟨g,d,n,i,a⟩ ⟨env,σ,kp,bs,rs,ms⟩ k=gK g env (match i with
  |.call f as=>if rf f (dN d)=true then Ro T f as d ⟨env,σ,kp,bs,rs,ms⟩ k else NM env σ as fun as'=>PFK T f as' fun r =>
    VB (nH σ (if scalar SD r then []else nO env σ as)) fun σ=>k ⟨oL env d r,σ,kp,bs,rs,ms⟩
  |i=>SA (bs+n) fun id=>i.oI env σ fun ef=>goK ⟨env,σ,kp,bs,rs,ms⟩ d id ef k)
  (k ⟨oL env d (.nK []),σ,kp,bs,rs,ms⟩):=by cases i<;>rfl
theorem ao1:NP T [] st k=k st:=nr rfl
theorem ao2(g:Option (Nat×Bool))(d:Option Nat)(n:Nat)(i:I)(a:List Nat)(l:List qh):NP T (⟨g,d,n,i,a⟩::l) ⟨env,σ,kp,bs,rs,ms⟩ k=gK g env (match i with
  |.call f as=>NM env σ as fun as'=>PFK T f as' fun r=>Uc (nO env σ as) fun R =>
    (R=[]∨scalar SD r=true)∧NP T l ⟨oL env d r,σ,kp,bs,rs,ms⟩ k
  |x=>x.oI env σ fun ef=>aoR ef fun v=>NP T l ⟨oL env d v,σ,kp,bs,rs,ms⟩ k)
  (NP T l ⟨oL env d (.nK []),σ,kp,bs,rs,ms⟩ k):=by cases i<;>rfl
theorem asQ(L:Nat)(ops:List qh)(i:Nat)(acc:List Acc):Sr T rf L ops [] i acc st k=(pz L ops acc∧k st):=nr rfl
theorem asR(L:Nat)(ops:List qh)(g:Option (Nat×Bool))(d:Option Nat)(n:Nat)(x:I)(a:List Nat)(l:List qh)(i:Nat)(acc:List Acc):Sr T rf L ops (⟨g,d,n,x,a⟩::l) i acc ⟨env,σ,kp,bs,rs,ms⟩ k=gK g env (match x with
  |.call f as=>if rf f (dN d)=true then agc T f as d ⟨env,σ,kp,bs,rs,ms⟩ fun R W n st=>SA (i+1) fun j=>Sr T rf L ops l j (⟨i,R,W,n⟩::acc) st k
    else NM env σ as fun as'=>PFK T f as' fun r=>Uc (nO env σ as) fun R =>
    (R=[]∨scalar SD r=true)∧SA (i+1) fun j=>Sr T rf L ops l j (⟨i,R,[],false⟩::acc) ⟨oL env d r,σ,kp,bs,rs,ms⟩ k
  |x
    => Uc (x.reads env) fun R=>SA (bs+n) fun id=>x.oI env σ fun ef=>Uc (ef.wr id) fun W=>SA (i+1) fun j =>
    goK ⟨env,σ,kp,bs,rs,ms⟩ d id ef fun st=>Sr T rf L ops l j (⟨i,R,W,false⟩::acc) st k)
  (SA (i+1) fun j=>Sr T rf L ops l j (⟨i,[],[],false⟩::acc) ⟨oL env d (.nK []),σ,kp,bs,rs,ms⟩ k):=by cases x<;>rfl
end
theorem aCP(env:Nat→V)(a b:Prop):gK none env a b=a:=nr rfl
theorem aCQ(t:Nat)(env:Nat→V)(on off:Prop):gK (some (t,true)) env on off=gdK true (env t) fun b=>brK b on off:=nr rfl
theorem aCR(t:Nat)(env:Nat→V)(on off:Prop):gK (some (t,false)) env on off=gdK false (env t) fun b=>brK b off on:=nr rfl
theorem asT(v:V)(k:V→Prop):aoR (.val v) k=k v:=nr rfl
theorem aCS(v:V)(id:Nat):Eff.wr id (.val v)=[]:=nr rfl
theorem aCT(ob:Obj)(id:Nat):Eff.wr id (.newP ob)=[id]:=nr rfl
theorem aCU(ob:Obj)(n:Nat)(id:Nat):Eff.wr id (.newS ob n)=[id]:=nr rfl
theorem aCV(ob:Obj)(o:Nat)(id:Nat):Eff.wr id (.upd o ob)=[o]:=nr rfl
theorem aCW(ob:Obj)(o n:Nat)(id:Nat):Eff.wr id (.mM o ob n)=[o,id]:=nr rfl
def rY(v:V)(k:List V→Prop):Prop:=nY v.cells? k
@[congr] theorem awu {v v':V} {k:List V→Prop} (h:wr v=v'):rY v k=rY v' k:=by rw [←h,qG]
theorem agf(q:IntKind)(n:Int)(k:List V→Prop):rY (.int q n) k=k [.int q n]:=nr rfl
theorem ad6(b:Bool)(k:List V→Prop):rY (.bool b) k=k [.bool b]:=nr rfl
theorem agh(s:List UInt8)(k:List V→Prop):rY (.str s) k=k [.str s]:=nr rfl
theorem ad7(k:List V→Prop):rY .jL k=k [.jL]:=nr rfl
theorem agi(k:List V→Prop):rY .one k=k [.one]:=nr rfl
theorem ajE(sz:Nat)(r:List (List V))(k:List V→Prop):rY (.sl sz r) k=k [.sl sz r]:=nr rfl
theorem agj(o s l:Nat)(k:List V→Prop):rY (.kP o s l) k=k [.kP o s l]:=nr rfl
theorem agk(o s l:Nat)(k:List V→Prop):rY (.ptr o s l) k=k [.ptr o s l]:=nr rfl
theorem ad8(r:List V)(o:Nat)(k:List V→Prop):rY (.oZ r o) k=k [.oZ r o]:=nr rfl
theorem agl(cs:List V)(k:List V→Prop):rY (.agg cs) k=if cs.all V.leaf=true then k cs else False:=by
 simp only [rY,V.cells?];split<;>rfl
def ad9(σ:Store)(v:V)(k:Nat→Nat→Nat→Prop)(kf:List V→Nat→Prop):Prop:=match v with
 |.ptr o r off=>k o r off
 |.oZ row off=>kf row off
 |_=>False
@[congr] theorem aA1 {σ:Store} {v v':V} {k:Nat→Nat→Nat→Prop} {kf:List V→Nat→Prop} (h:wr v=v'):ad9 σ v k kf=ad9 σ v' k kf:=by rw [←h,qG]
theorem asU(σ:Store)(o r off:Nat)(k:Nat→Nat→Nat→Prop)(kf:List V→Nat→Prop):ad9 σ (.ptr o r off) k kf=k o r off:=nr rfl
theorem asV(σ:Store)(r:List V)(off:Nat)(k:Nat→Nat→Nat→Prop)(kf:List V→Nat→Prop):ad9 σ (.oZ r off) k kf=kf r off:=nr rfl
def slK(v:V)(kn:Prop)(kf:Nat→List (List V)→Prop)(km:Nat→Nat→Nat→Prop):Prop:=match v with
 |.jL=>kn
 |.sl sz rows=>kf sz rows
 |.kP o s l=>km o s l
 |_=>False
@[congr] theorem aCX {v v':V} {kn:Prop} {kf:Nat→List (List V)→Prop} {km:Nat→Nat→Nat→Prop} (h:wr v=v'):slK v kn kf km=slK v' kn kf km:=by rw [←h,qG]
theorem axe(kn:Prop)(kf:Nat→List (List V)→Prop)(km:Nat→Nat→Nat→Prop):slK .jL kn kf km=kn:=nr rfl
theorem axf(sz:Nat)(r:List (List V))(kn:Prop)(kf:Nat→List (List V)→Prop)(km:Nat→Nat→Nat→Prop):slK (.sl sz r) kn kf km=kf sz r:=nr rfl
theorem axg(o s l:Nat)(kn:Prop)(kf:Nat→List (List V)→Prop)(km:Nat→Nat→Nat→Prop):slK (.kP o s l) kn kf km=km o s l:=nr rfl
def aea(v:V)(k:IntKind→Int→Prop):Prop:=match v with
 |.int q n=>k q n
 |_=>False
@[congr] theorem aA2 {v v':V} {k:IntKind→Int→Prop} (h:wr v=v'):aea v k=aea v' k:=by rw [←h,qG]
theorem asW(q:IntKind)(n:Int)(k:IntKind→Int→Prop):aea (.int q n) k=k q n:=nr rfl
def ajF(v:V)(k:List UInt8→Prop):Prop:=match v with
 |.str s=>k s
 |_=>False
@[congr] theorem aA3 {v v':V} {k:List UInt8→Prop} (h:wr v=v'):ajF v k=ajF v' k:=by rw [←h,qG]
theorem asX(s:List UInt8)(k:List UInt8→Prop):ajF (.str s) k=k s:=nr rfl
def ao3(v:V)(k:List V→Prop):Prop:=match v with
 |.nK s=>k s
 |_=>False
@[congr] theorem aA4 {v v':V} {k:List V→Prop} (h:wr v=v'):ao3 v k=ao3 v' k:=by rw [←h,qG]
def ao4(v:V)(k:List V→Prop):Prop:=match v with
 |.agg s=>k s
 |_=>False
@[congr] theorem aA5 {v v':V} {k:List V→Prop} (h:wr v=v'):ao4 v k=ao4 v' k:=by rw [←h,qG]
theorem asY(s:List V)(k:List V→Prop):ao4 (.agg s) k=k s:=nr rfl
theorem asZ(s:List V)(k:List V→Prop):ao3 (.nK s) k=k s:=nr rfl
section
variable (env : Nat → V) (σ : Store) (k : Eff → Prop)
theorem axh(x:Src):I.oI env σ (.mM x) k=F7 (x.ev env) fun v=>k (.val v):=nr rfl
theorem as1(c a b:Src):I.oI env σ (.pick c a b) k=Qi (c.ev env) fun t=>brK t (F7 (a.ev env) fun v=>k (.val v)) (F7 (b.ev env) fun v=>k (.val v)):=by
 simp only [I.oI];cases c.ev env with|bool t=>cases t<;>rfl|_=>rfl
theorem ao5(z:List V):I.oI env σ (.alloc z) k=k (.newP ⟨z.length,[z]⟩):=nr rfl
theorem axi(x:Src):I.oI env σ (.box x) k=rY (x.ev env) fun cs=>match cs with|c::cs=>k (.newP ⟨(c::cs).length,[c::cs]⟩) | []=>False:=by
 simp only [I.oI,rY];cases (x.ev env).cells? with|none=>rfl|some cs=>cases cs<;>rfl
theorem ao6(z:List V)(ps:List (Nat×Nat×Src)):I.oI env σ (.build z ps) k=nY (Ci env z ps) fun cs=>k (.val (.agg cs)):=nr rfl
theorem as3(sz:Nat)(z:List V)(ln:Nat)(ps:List (Nat×Src)):I.oI env σ (.ny sz z ln ps) k =
  nY (uF env sz (List.replicate ln z) ps) fun rows=>if ln=0 then k (.val .jL)else k (.newS ⟨sz,rows⟩ ln):=nr rfl
theorem as4(z:List V)(b:Nat)(x:Src):I.oI env σ (.make z b x) k=aea (x.ev env) fun q n=>match q with
  |.i64=>(0≤n∧n≤2 ^ 47∧n*b≤2 ^ 47)∧k (.newS ⟨z.length,List.replicate n.toNat z⟩ n.toNat)|_=>False:=by
 simp only [I.oI];cases x.ev env with|int q n=>cases q<;>rfl|_=>rfl
theorem ao7(n:Nat)(a:Src):I.oI env σ (.load n false a) k=nY (rowAt σ (a.ev env)) fun p=>nY p.1[p.2]? fun v=>F7 v fun v=>k (.val v):=nr rfl
theorem ao8(n:Nat)(a:Src):I.oI env σ (.load n true a) k=nY (rowAt σ (a.ev env)) fun p=>p.2+n≤p.1.length∧F7 (.agg ((p.1.drop p.2).take n)) fun v=>k (.val v):=nr rfl
theorem
    ao9 (n:Nat) (a x:Src):I.oI env σ (.store n a x) k=ad9 σ (a.ev env) (fun o r off=>rY (x.ev env) fun cs=>nY (jH σ o) fun ob=>nY ob.rows[r]? fun row =>
    (cs.length=n∧off+n≤row.length)∧k (.upd o ⟨ob.sz,ob.rows.set r (splice row off cs)⟩)) fun _ _=>False:=by
 simp only [I.oI];cases a.ev env<;>rfl
theorem axj(d:Nat)(a:Src):I.oI env σ (.fld d a) k=ad9 σ (a.ev env) (fun o r off=>nY (jH σ o) fun _=>F7 (.ptr o r (off+d)) fun v=>k (.val v)) fun row off=>F7 (.oZ row (off+d)) fun v=>k (.val v):=by
 simp only [I.oI];cases a.ev env<;>rfl
theorem axk(sz:Nat)(x i:Src):I.oI env σ (.idx sz x i) k=slK (x.ev env) False (fun sz' rows=>yO rows.length (i.ev env) fun j=>sz'=sz∧F7 (.oZ (rows.getD j []) 0) fun v=>k (.val v))
  (fun o s l=>nY (jH σ o) fun ob=>yO l (i.ev env) fun j=>ob.sz=sz∧F7 (.ptr o (s+j) 0) fun v=>k (.val v)):=by
 simp only [I.oI];cases x.ev env<;>rfl
theorem as5(c sz:Nat)(x i:Src):I.oI env σ (.FY c sz x i) k=ad9 σ (x.ev env) (fun o r off=>yO c (i.ev env) fun j=>nY (jH σ o) fun _=>F7 (.ptr o r (off+j*sz)) fun v=>k (.val v))
  fun row off=>yO c (i.ev env) fun j=>F7 (.oZ row (off+j*sz)) fun v=>k (.val v):=by
 simp only [I.oI];cases x.ev env<;>rfl
theorem as6(x i:Src):I.oI env σ (.adD x i) k=ajF (x.ev env) fun s=>yO s.length (i.ev env) fun j=>F7 (.int .u8 (s.getD j 0).toNat) fun v=>k (.val v):=by
 simp only [I.oI];cases x.ev env<;>rfl
theorem as7(c:Nat)(x i:Src):I.oI env σ (.abK c x i) k=ao4 (x.ev env) fun cs=>yO c (i.ev env) fun j=>nY cs[j]? fun v=>F7 v fun v=>k (.val v):=by
 simp only [I.oI];cases x.ev env<;>rfl
theorem axl(x:Src):I.oI env σ (.len x) k=nY (lenOf σ (x.ev env)) fun n=>F7 (.int .i64 n) fun v=>k (.val v):=nr rfl
theorem as8(x:Src):I.oI env σ (.adF x) k=ajF (x.ev env) fun s=>F7 (.int .i64 s.length) fun v=>k (.val v):=by
 simp only [I.oI];cases x.ev env<;>rfl
theorem axm(op:BinOp)(x y:Src):I.oI env σ (.bin op x y) k=zk op (x.ev env) (y.ev env) fun v=>F7 v fun v=>k (.val v):=nr rfl
theorem axn(ne:Bool)(x y:Src):I.oI env σ (.beq ne x y) k=Qi (x.ev env) fun a=>Qi (y.ev env) fun b=>F7 (.bool (if ne=true then !(a == b)else a == b)) fun v=>k (.val v):=by
 simp only [I.oI];cases x.ev env<;>first|rfl|(cases y.ev env<;>rfl)
theorem axo(x:Src):I.oI env σ (.un .not x) k=Qi (x.ev env) fun a=>F7 (.bool (!a)) fun v=>k (.val v):=by
 simp only [I.oI];cases x.ev env<;>rfl
theorem axp(x:Src):I.oI env σ (.un .neg x) k=aea (x.ev env) fun q n=>F7 (.int q (q.wrap (0-n))) fun v=>k (.val v):=by
 simp only [I.oI];cases x.ev env<;>rfl
theorem as9(q:IntKind)(x:Src):I.oI env σ (.conv q x) k=aea (x.ev env) fun _ n=>F7 (.int q (q.wrap n)) fun v=>k (.val v):=by
 simp only [I.oI];cases x.ev env<;>rfl
theorem axq(x y:Src):I.oI env σ (.max x y) k=aea (x.ev env) fun q a=>aea (y.ev env) fun q' b=>q=q'∧F7 (.int q (if b>a then b else a)) fun v=>k (.val v):=by
 simp only [I.oI];cases x.ev env<;>first|rfl|(cases y.ev env<;>rfl)
theorem ata(i:Nat)(x:Src):I.oI env σ (.Z8 i x) k=ao3 (x.ev env) fun vs=>nY vs[i]? fun v=>F7 v fun v=>k (.val v):=by
 simp only [I.oI];cases x.ev env<;>rfl
theorem axr(x:Src):I.oI env σ (.chk x) k=ad9 σ (x.ev env) (fun o r off=>nY (jH σ o) fun _=>k (.val (.ptr o r off))) fun row off=>k (.val (.oZ row off)):=by
 simp only [I.oI];cases x.ev env<;>rfl
theorem axt(sz b:Nat)(x y:Src):I.oI env σ (.app sz b x y) k=F7 (x.ev env) fun xv=>nY (rowsOf σ xv) fun old=>nY (rowsOf σ (y.ev env)) fun new =>
  (new.2=[]→k (.val xv))∧(new.2≠[]→(new.1=sz∧(old.2.length+new.2.length)*b≤2 ^ 40∧old.2.length+new.2.length≤2 ^ 40) ∧
   slK xv (k (.newS ⟨sz,new.2⟩ new.2.length)) (fun _ _=>False) fun o _ _=>nY (jH σ o) fun ob=>ob.sz=sz∧k (.mM o ⟨sz,old.2++new.2⟩ (old.2.length+new.2.length))):=by
 simp only [I.oI,F7];cases x.ev env<;>rfl
end
section
variable (k : V → Prop) (q : IntKind) (a b : Int)
theorem axu:zk .add (.int q a) (.int q b) k=k (.int q (q.wrap (a+b))):=by simp [zk]
theorem axv:zk .sub (.int q a) (.int q b) k=k (.int q (q.wrap (a-b))):=by simp [zk]
theorem axw:zk .mul (.int q a) (.int q b) k=k (.int q (q.wrap (a*b))):=by simp [zk]
theorem axx{b:Int}(h:b≠0):zk .quo (.int q a) (.int q b) k=k (.int q (q.wrap (a.tdiv b))):=by simp [zk,h]
theorem axy{b:Int}(h:b≠0):zk .rem (.int q a) (.int q b) k=k (.int q (a.tmod b)):=by simp [zk,h]
theorem axz:zk .eql (.int q a) (.int q b) k=k (.bool (decide (a=b))):=by simp [zk];rfl
theorem axA:zk .neq (.int q a) (.int q b) k=k (.bool (!decide (a=b))):=by simp [zk,bne];rfl
theorem axB:zk .lss (.int q a) (.int q b) k=k (.bool (decide (a<b))):=by simp [zk]
theorem axC:zk .leq (.int q a) (.int q b) k=k (.bool (decide (a≤b))):=by simp [zk]
theorem axD:zk .gtr (.int q a) (.int q b) k=k (.bool (decide (b<a))):=by simp [zk]
theorem axE:zk .geq (.int q a) (.int q b) k=k (.bool (decide (b≤a))):=by simp [zk]
theorem axF(q':IntKind)(h:0≤b):zk .shr (.int q a) (.int q' b) k=k (.int q (a.fdiv (2 ^ (min b.toNat q.bits)))):=by simp [zk,h]
theorem axG:zk .and (.int q a) (.int q b) k=k (.int q (Xy q a b)):=by simp [zk]
theorem axH:zk .xor (.int q a) (.int q b) k=k (.int q (Xz q a b)):=by simp [zk]
theorem atb(s t:List UInt8):zk .eql (.str s) (.str t) k=k (.bool (s == t)):=nr rfl
theorem atc(s t:List UInt8):zk .neq (.str s) (.str t) k=k (.bool (!(s == t))):=nr rfl
end
theorem apa(σ:Store)(row:List V)(off:Nat):rowAt σ (.oZ row off)=some (row,off):=nr rfl
theorem apb(σ:Store)(o r off:Nat):rowAt σ (.ptr o r off)=match jH σ o with|some ob=>(ob.rows[r]?).map (·,off)|none=>none:=nr rfl
theorem apc(σ:Store):lenOf σ .jL=some 0:=nr rfl
theorem apd(σ:Store)(sz:Nat)(rows:List (List V)):lenOf σ (.sl sz rows)=some rows.length:=nr rfl
theorem ape(σ:Store)(o s l:Nat):lenOf σ (.kP o s l)=(jH σ o).map fun _=>l:=nr rfl
theorem alz(σ:Store):rowsOf σ .jL=some (0,[]):=nr rfl
theorem alA(σ:Store)(sz:Nat)(rows:List (List V)):rowsOf σ (.sl sz rows)=some (sz,rows):=nr rfl
theorem alB(σ:Store)(o s l:Nat):rowsOf σ (.kP o s l)=match jH σ o with
  |some ob=>if s+l≤ob.rows.length then some (ob.sz,(ob.rows.drop s).take l)else none
  |none=>none:=nr rfl
theorem atd(env:Nat→V)(σ:Store)(k:List V→Prop):NM env σ [] k=k []:=nr rfl
theorem ate(env:Nat→V)(σ:Store)(s:Src)(as:List Src)(k:List V→Prop):NM env σ (s::as) k=F7 (s.ev env) fun v=>nY (resolve σ FD v) fun v=>NM env σ as fun vs=>k (v::vs):=nr rfl
def SB(σ:Store):List V→Option (List V)
 | []=>some []
 |
  c::cs=>match resolve σ 11 c with
  |
   some d=>match SB σ cs with
   |some ds=>some (d::ds)
   |none=>none
  |none=>none
theorem abV(σ:Store):∀cs,cs.mapM (resolve σ 11)=SB σ cs
 | []=>rfl
 |
  c::cs=>by
  simp only [bD,SB,abV σ cs]
  cases resolve σ 11 c with
  |none=>rfl
  |some d=>cases SB σ cs<;>rfl
theorem axI(σ:Store)(q:IntKind)(n:Int):resolve σ FD (.int q n)=some (.int q n):=nr rfl
theorem atf(σ:Store)(b:Bool):resolve σ FD (.bool b)=some (.bool b):=nr rfl
theorem axJ(σ:Store)(s:List UInt8):resolve σ FD (.str s)=some (.str s):=nr rfl
theorem atg(σ:Store):resolve σ FD .jL=some .jL:=nr rfl
theorem axK(σ:Store):resolve σ FD .one=some .one:=nr rfl
theorem aCY(σ:Store)(sz:Nat)(r:List (List V)):resolve σ FD (.sl sz r)=some (.sl sz r):=nr rfl
theorem ath(σ:Store)(r:List V)(o:Nat):resolve σ FD (.oZ r o)=some (.oZ r o):=nr rfl
theorem axL(σ:Store)(cs:List V):resolve σ FD (.agg cs)=(SB σ cs).map .agg:=by rw [←abV];rfl
theorem axM(σ:Store)(cs:List V):resolve σ FD (.nK cs)=(SB σ cs).map .nK:=by rw [←abV];rfl
theorem ati(σ:Store):SB σ []=some []:=nr rfl
theorem alC(σ:Store)(c:V)(cs:List V):SB σ (c::cs)=match resolve σ 11 c with
  |
   some d=>match SB σ cs with
   |some ds=>some (d::ds)
   |none=>none
  |none=>none:=nr rfl
theorem atj(σ:Store)(q:IntKind)(n:Int):resolve σ 11 (.int q n)=some (.int q n):=nr rfl
theorem apf(σ:Store)(b:Bool):resolve σ 11 (.bool b)=some (.bool b):=nr rfl
theorem atl(σ:Store)(s:List UInt8):resolve σ 11 (.str s)=some (.str s):=nr rfl
theorem apg(σ:Store):resolve σ 11 .jL=some .jL:=nr rfl
theorem atm(σ:Store):resolve σ 11 .one=some .one:=nr rfl
theorem axN(σ:Store)(sz:Nat)(r:List (List V)):resolve σ 11 (.sl sz r)=some (.sl sz r):=nr rfl
theorem aph(σ:Store)(r:List V)(o:Nat):resolve σ 11 (.oZ r o)=some (.oZ r o):=nr rfl
def V.still:V→Bool
 |.one | .int .. | .bool _ | .str _ | .jL | .sl .. | .oZ ..=>true
 |_=>false
def l7(rows:List (List V)):Prop:=∀r∈rows,∀v∈r,v.still=true
theorem NR{σ:Store}{n:Nat}{v:V}(h:v.still=true):resolve σ (n+1) v=some v:=by
 cases v<;>first|rfl|cases h
theorem zy{σ:Store}{n:Nat}:∀{r:List V},(∀v∈r,v.still=true)→r.mapM (resolve σ (n+1))=some r
 | [],_=>rfl
 |
  v::r,h=>by
  rw [bD,NR (h v (by simp)),zy fun x hx=>h x (by simp [hx])];rfl
theorem zA{σ:Store}{n:Nat}:∀{rows:List (List V)},l7 rows→(rows.mapM fun (r:List V)=>r.mapM (resolve σ (n+1)))=some rows
 | [],_=>rfl
 |
  r::rows,h=>by
  rw [bD,zy (h r (by simp)),zA fun x hx=>h x (by simp [hx])];rfl
theorem l7.part{rows:List (List V)}(h:l7 rows)(s l:Nat):l7 ((rows.drop s).take l):=fun r hr=>h r (fV (cO hr))
theorem aCZ(env:Nat→V)(σ:Store):nO env σ []=[]:=nr rfl
theorem aC0(env:Nat→V)(σ:Store)(s:Src)(as:List Src):nO env σ (s::as)=reach σ FD (s.ev env)++nO env σ as:=nr rfl
theorem DU{σ:Store}{n:Nat}{v:V}(h:v.still=true):reach σ (n+1) v=[]:=by
 cases v<;>first|rfl|cases h
theorem axO(σ:Store)(q:IntKind)(n:Int):reach σ FD (.int q n)=[]:=nr rfl
theorem atn(σ:Store)(b:Bool):reach σ FD (.bool b)=[]:=nr rfl
theorem axP(σ:Store)(s:List UInt8):reach σ FD (.str s)=[]:=nr rfl
theorem ato(σ:Store):reach σ FD .jL=[]:=nr rfl
theorem aC1(σ:Store)(sz:Nat)(r:List (List V)):reach σ FD (.sl sz r)=[]:=nr rfl
theorem atp(σ:Store)(r:List V)(o:Nat):reach σ FD (.oZ r o)=[]:=nr rfl
def SC(σ:Store)(cs:List V):List Nat:=cs.flatMap (reach σ 11)
theorem axQ(σ:Store)(cs:List V):reach σ FD (.agg cs)=SC σ cs:=nr rfl
theorem aC2(σ:Store):SC σ []=[]:=nr rfl
theorem aC3(σ:Store)(c:V)(cs:List V):SC σ (c::cs)=reach σ 11 c++SC σ cs:=nr rfl
theorem atq(σ:Store)(q:IntKind)(n:Int):reach σ 11 (.int q n)=[]:=nr rfl
theorem apj(σ:Store)(b:Bool):reach σ 11 (.bool b)=[]:=nr rfl
theorem atr(σ:Store)(s:List UInt8):reach σ 11 (.str s)=[]:=nr rfl
theorem apk(σ:Store):reach σ 11 .jL=[]:=nr rfl
theorem axR(σ:Store)(sz:Nat)(r:List (List V)):reach σ 11 (.sl sz r)=[]:=nr rfl
theorem apl(σ:Store)(r:List V)(o:Nat):reach σ 11 (.oZ r o)=[]:=nr rfl
theorem axS(q:IntKind)(n:Int):scalar SD (.int q n)=true:=nr rfl
theorem att(b:Bool):scalar SD (.bool b)=true:=nr rfl
theorem axT(s:List UInt8):scalar SD (.str s)=true:=nr rfl
def PS:List PL→List V→St→(V→Prop)→Prop
 | [],acc,st,k=>F7 (tX acc.reverse) fun v=>nY (resolve st.objs FD v) k
 |r::rs,acc,st,k=>nY (r.get st) fun v=>F7 v fun v=>PS rs (v::acc) st k
theorem VD{st:St}{k:V→Prop}:∀(rs:List PL) (acc:List V),PS rs acc st k→nY (rs.mapM (PL.get st)) fun vs=>nY (resolve st.objs FD (tX (acc.reverse++vs))) k
 | [],acc,h=>by simpa [nY,PS,F7]using h
 |
  r::rs,acc,h=>by
  obtain⟨v,e,h⟩:=lU h;have:=VD rs (v::acc) h;obtain⟨vs,e2,h⟩:=lU this;simp only [bD,e,e2];simpa [nY,wr]using h
def apm(rs:List PL)(e:Ex)(k:V→Prop)(st:St):Prop:=match e with
 |.normal=>PS rs [] st k
 |.ret=>PS rs [] st k
 |.exit _=>False
theorem atu(rs:List PL)(k:V→Prop)(st:St):apm rs .normal k st=PS rs [] st k:=nr rfl
theorem atv(rs:List PL)(k:V→Prop)(st:St):apm rs .ret k st=PS rs [] st k:=nr rfl
theorem atw(acc:List V)(st:St)(k:V→Prop):PS [] acc st k=F7 (tX acc.reverse) fun v=>nY (resolve st.objs FD v) k:=nr rfl
theorem atx(t:Nat)(rs:List PL)(acc:List V)(st:St)(k:V→Prop):PS (.tmp t::rs) acc st k=F7 (st.env t) fun v=>PS rs (v::acc) st k:=nr rfl
theorem apn(t n:Nat)(rs:List PL)(acc:List V)(st:St)(k:V→Prop):PS (.cell t n false::rs) acc st k=nY (rowAt st.objs (st.env t)) fun p=>nY p.1[p.2]? fun v=>F7 v fun v=>PS rs (v::acc) st k:=by
 simp only [PS,PL.get]
 cases rowAt st.objs (st.env t)<;>rfl
theorem axU(v:V):tX [v]=v:=nr rfl
theorem axV(v w:V):tX [v,w]=.nK [v,w]:=nr rfl
theorem axW(v w x:V):tX [v,w,x]=.nK [v,w,x]:=nr rfl
theorem kQ{T:Tb}{f:Nat}{F:Fn}{args:List V}{r:V}(rf:Nat→Nat→Bool)(hT:T f=some F)
  (h:wp T rf F.body (fun e st=>apm F.res e (· = r) st) (St.enter args [])) (hl:args.length=F.nargs:=by rfl) (hk:F.body.okC=true:=by rfl):PF T f args r:=by
 obtain⟨e,st',h1,h2⟩:=Bd hk h;have h3:(e=.normal∨e=.ret)∧PS F.res [] st' (· = r):=by
  cases e with
  |normal=>exact⟨.inl rfl,h2⟩
  |ret=>exact⟨.inr rfl,h2⟩
  |exit id=>exact h2.elim
 obtain⟨he,h3⟩:=h3;have:=VD _ _ h3;obtain⟨rs,e1,h4⟩:=lU this;obtain⟨r',e2,h5⟩:=lU h4;subst h5;exact .frz (.fn hT hl h1 he e1) e2
theorem jy{T:Tb}{f:Nat}{as:List V}{k:V→Prop}{r:V}(h:PF T f as r)(hk:k r):PFK T f as k:=⟨r,h,hk⟩
def kF(l:List Int):List (List V):=l.map fun x=>[.int .i64 x]
abbrev ints(l:List Int):V:=.sl 1 (kF l)
theorem zB(l:List Int):(kF l).length=l.length:=by simp [kF]
theorem apo{l:List Int}{j:Nat}(h:j<l.length):(kF l).getD j []=[.int .i64 (l.getD j 0)]:=by
 simp [kF,ak,aB h]
theorem aty{l:List Int}{j:Nat}(h:j<l.length):(kF l)[j]? = some [.int .i64 (l.getD j 0)]:=by
 simp [kF,ak,aB h]
theorem atz(l:List Int)(j:Nat)(x:Int):(kF l).set j [.int .i64 x]=kF (l.set j x):=by
 simp only [kF,kC]
theorem Oz(n:Nat)(x:Int):List.replicate n [V.int .i64 x]=kF (List.replicate n x):=by simp [kF]
theorem abW(l:List Int)(n:Nat):(kF l).drop n=kF (l.drop n):=by simp [kF]
theorem abX(l:List Int)(n:Nat):(kF l).take n=kF (l.take n):=by simp [kF]
theorem pF(l:List Int):l7 (kF l):=by
 intro r hr v hv;obtain⟨x,_,rfl⟩:=bM.1 hr;simp at hv;subst hv;rfl
theorem apq(a b:V):splice [a] 0 [b]=[b]:=nr rfl
end Go.Ml
end
section
namespace Go.Ml
theorem Yv:∀{x y:V},lW x y→y.leaf=true→x.leaf=true:=by
 intro x y h hl
 cases x<;>first|rfl|skip
 ·simp only [lW]at h;subst h;exact hl
 ·simp only [lW]at h;obtain⟨_,rfl,_⟩:=h;exact hl
 simp only [lW]at h;obtain⟨_,rfl,_⟩:=h;exact hl
theorem aeb:∀{xs ys:List V},uG xs ys→xs.length=ys.length
 | [],ys,h=>by simp only [uG]at h;subst h;rfl
 |
  x::xs,ys,h=>by
  simp only [uG]at h;obtain⟨y,ys',rfl,_,h2⟩:=h;simp [aeb h2]
theorem aec:∀{xs ys:List (List V)},Z9 xs ys→xs.length=ys.length
 | [],ys,h=>by simp only [Z9]at h;subst h;rfl
 |
  x::xs,ys,h=>by
  simp only [Z9]at h;obtain⟨y,ys',rfl,_,h2⟩:=h;simp [aec h2]
mutual
theorem VE{w:World}:∀(D:DM) (X:Nat→Prop) (x y:V) (v:Value),lW x y→rd w D X y v→rd w D X x v
 |
  D,X,.sl sz rows,y,v,h,hr=>by
  simp only [lW]at h;rcases h with ⟨rfl,rfl|⟨sz',rfl⟩⟩|⟨rows',rfl,h⟩
  ·simp only [rd]at hr ⊢;obtain⟨a,rfl⟩:=hr;exact⟨a,0,rfl,aP _,.inl (by trivial)⟩
  ·simp only [rd]at hr ⊢;obtain⟨a,cap,rfl,h2,_⟩:=hr;exact⟨a,cap,rfl,h2,.inl (by trivial)⟩
  simp only [rd]at hr ⊢;obtain⟨a,cap,rfl,h2,h3⟩:=hr;have hl:=aec h;refine⟨a,cap,by rw [hl],by rw [hl];exact h2,?_⟩;rcases h3 with h3|⟨b,off,h3,h4,h5,h6⟩
  ·left;subst h3;exact bf hl
  exact .inr ⟨b,off,h3,h4,h5,Yw DM.none X b sz off rows rows' h h6⟩
 |
  D,X,.agg cs,y,v,h,hr=>by
  simp only [lW]at h;obtain⟨cs',rfl,h⟩:=h;simp only [rd]at hr ⊢;obtain⟨a,rfl,hr⟩:=hr;exact⟨a,rfl,Ud D X cs cs' _ h hr⟩
 |
  D,X,.nK cs,y,v,h,hr=>by
  simp only [lW]at h;obtain⟨cs',rfl,h⟩:=h;simp only [rd]at hr ⊢;obtain⟨a,rfl,hr⟩:=hr;exact⟨a,rfl,Ud D X cs cs' _ h hr⟩
 |
  D,X,.oZ row off,y,v,h,hr=>by
  simp only [lW]at h;obtain⟨row',rfl,h⟩:=h;simp only [rd]at hr ⊢;obtain⟨b,o,rfl,h1,h2,h3⟩:=hr;exact⟨b,o,rfl,h1,h2,Qk DM.none X b o row row' h h3⟩
 |_,_,.any,y,v,h,hr=>by simp [rd]
 |_,_,.one,y,v,h,hr=>by simp only [lW]at h;subst h;exact hr
 |_,_,.int ..,y,v,h,hr=>by simp only [lW]at h;subst h;exact hr
 |_,_,.bool _,y,v,h,hr=>by simp only [lW]at h;subst h;exact hr
 |_,_,.str _,y,v,h,hr=>by simp only [lW]at h;subst h;exact hr
 |_,_,.jL,y,v,h,hr=>by simp only [lW]at h;subst h;exact hr
 |_,_,.kP ..,y,v,h,hr=>by simp only [lW]at h;subst h;exact hr
 |_,_,.ptr ..,y,v,h,hr=>by simp only [lW]at h;subst h;exact hr
termination_by structural _ _ x=>x
theorem Ud{w:World}:∀(D:DM) (X:Nat→Prop) (xs ys:List V) (vs:List Value),uG xs ys→pV w D X ys vs→pV w D X xs vs
 |D,X,[],ys,vs,h,hr=>by simp only [uG]at h;subst h;exact hr
 |
  D,X,x::xs,ys,vs,h,hr=>by
  simp only [uG]at h;obtain⟨y,ys',rfl,h1,h2⟩:=h;simp only [pV]at hr ⊢;obtain⟨v,vs',rfl,k1,k2⟩:=hr;exact⟨v,vs',rfl,VE D X x y v h1 k1,Ud D X xs ys' vs' h2 k2⟩
termination_by structural _ _ x=>x
theorem Qk{w:World}:∀(D:DM) (X:Nat→Prop) (b off:Nat) (xs ys:List V),uG xs ys→oO w D X b off ys→oO w D X b off xs
 |D,X,b,off,[],ys,h,hr=>by simp [oO]
 |
  D,X,b,off,x::xs,ys,h,hr=>by
  simp only [uG]at h;obtain⟨y,ys',rfl,h1,h2⟩:=h;simp only [oO]at hr ⊢;obtain⟨k0,⟨c,k1,k2⟩,k3⟩:=hr;exact⟨Yv h1 k0,⟨c,k1,VE D X x y c h1 k2⟩,Qk D X b (off+1) xs ys' h2 k3⟩
termination_by structural _ _ _ _ x=>x
theorem Yw{w:World}:∀(D:DM) (X:Nat→Prop) (b sz off:Nat) (xs ys:List (List V)),Z9 xs ys→qQ w D X b sz off ys→qQ w D X b sz off xs
 |D,X,b,sz,off,[],ys,h,hr=>by simp [qQ]
 |
  D,X,b,sz,off,x::xs,ys,h,hr=>by
  simp only [Z9]at h;obtain⟨y,ys',rfl,h1,h2⟩:=h;simp only [qQ]at hr ⊢;exact⟨(aeb h1).trans hr.1,Qk D X b off x y h1 hr.2.1,Yw D X b sz (off+sz) xs ys' h2 hr.2.2⟩
termination_by structural _ _ _ _ _ x=>x
end
mutual
theorem kE:∀(x:V),lW x x
 |.sl sz rows=>by simp only [lW];exact .inr ⟨rows,rfl,aa0 rows⟩
 |.agg cs=>by simp only [lW];exact⟨cs,rfl,Aa cs⟩
 |.nK cs=>by simp only [lW];exact⟨cs,rfl,Aa cs⟩
 |.oZ row off=>by simp only [lW];exact⟨row,rfl,Aa row⟩
 |.any=>by simp [lW]
 |.one=>by simp [lW]
 |.int ..=>by simp [lW]
 |.bool _=>by simp [lW]
 |.str _=>by simp [lW]
 |.jL=>by simp [lW]
 |.kP ..=>by simp [lW]
 |.ptr ..=>by simp [lW]
theorem Aa:∀(xs:List V),uG xs xs
 | []=>by simp [uG]
 |x::xs=>by simp only [uG];exact⟨x,xs,rfl,kE x,Aa xs⟩
theorem aa0:∀(xs:List (List V)),Z9 xs xs
 | []=>by simp [Z9]
 |x::xs=>by simp only [Z9];exact⟨x,xs,rfl,Aa x,aa0 xs⟩
end
def DM.win(D:DM)(W:P6)(kp:Nat):DM:=fun k=>match W[k]? with
 |
  some (some (o,s,l))=>(match D o with
  |.live d=>.live ⟨d.blk,d.NG+s*d.sz,d.sz,l,d.cap⟩
  |x=>x)
 |some Option.none=>if k<kp then(match D k with | .live _=>.oh|x=>x)else .oh
 |Option.none=>.oh
section
variable {w : World} {D : DM} {M : Nat → Prop} {σ σ2 : Store} {W : P6} {kp : Nat}
theorem KF{k:Nat}{d:aji}(h:D.win W kp k=.live d):∃o s l d0,W[k]? = some (some (o,s,l))∧D o=.live d0∧d=⟨d0.blk,d0.NG+s*d0.sz,d0.sz,l,d0.cap⟩:=by
 unfold DM.win at h;split at h
 ·rename_i o s l e;split at h
  ·rename_i d0 e2
   cases h
   exact⟨o,s,l,d0,e,e2,rfl⟩
  rename_i hx;rw [h]at hx;exact absurd rfl (hx d)
 ·split at h
  ·split at h
   ·cases h
   rename_i hx;rw [h]at hx;exact absurd rfl (hx d)
  cases h
 cases h
theorem alD:∀b,XS M (D.win W kp) b→XS M D b:=by
 rintro b (h|⟨k,d,hk,rfl⟩)
 ·exact .inl h
 obtain⟨o,s,l,d0,_,h2,rfl⟩:=KF hk;exact .inr ⟨o,d0,h2,rfl⟩
theorem alE:∀{x y:V},xG W σ x y→x.leaf=true→y.leaf=true:=by
 intro x y h hl
 cases x<;>simp only [V.leaf]at hl<;>first|(cases hl;done)|skip
 all_goals simp only [xG]at h
 case one=>subst h;rfl
 case int=>subst h;rfl
 case bool=>subst h;rfl
 case str=>subst h;rfl
 case jL=>rcases h with rfl|⟨_,rfl⟩<;>rfl
 case sl=>exact Yv h rfl
 case kP =>
  rcases h with ⟨k,s0,l0,_,_,_,rfl⟩|⟨_,_,sz,rfl⟩|⟨h,_⟩
  ·rfl
  ·rfl
  exact JM h rfl
 case ptr =>
  rcases h with ⟨k,s0,l0,_,_,_,rfl⟩|⟨h,_⟩
  ·rfl
  exact JM h rfl
 case oZ=>exact Yv h rfl
theorem aed:∀{xs ys:List V},Gf W σ xs ys→ys.length=xs.length
 | [],ys,h=>by simp only [Gf]at h;subst h;rfl
 |
  x::xs,ys,h=>by
  simp only [Gf]at h;obtain⟨y,ys',rfl,_,h2⟩:=h;simp [aed h2]
theorem aee:∀{xs ys:List V},Gf W σ xs ys→∀(i:Nat) (y:V),ys[i]? = some y→∃x,xs[i]? = some x∧xG W σ x y
 | [],ys,h,i,y,hi=>by simp only [Gf]at h;subst h;simp at hi
 |
  x::xs,ys,h,i,y,hi=>by
  simp only [Gf]at h;obtain⟨z,zs,rfl,h1,h2⟩:=h
  cases i with
  |zero=>simp at hi;subst hi;exact⟨x,rfl,h1⟩
  |succ i=>simpa using aee h2 i y (by simpa using hi)
theorem agm{D D':DM}{X X':Nat→Prop}(hX:∀b,X' b→X b){x:V}{v:Value}(hx:(∃sz rows,x=.sl sz rows)∨∃row off,x=.oZ row off)(h:rd w D X x v):rd w D' X' x v:=by
 have E:Ext w DM.none X w DM.none X':=⟨aP _,fun _ _ _=>rfl,fun b _=>hX b,fun _=>uH.refl _⟩;rcases hx with ⟨sz,rows,rfl⟩|⟨row,off,rfl⟩
 ·have h':rd w DM.none X (.sl sz rows) v:=by simpa only [rd]using h
  have:=oq _ _ E h';simpa only [rd]using this
 have h':rd w DM.none X (.oZ row off) v:=by simpa only [rd]using h
 have:=oq _ _ E h';simpa only [rd]using this
theorem apr{o s l n:Nat}{y:V}(h:resolve σ (n+1) (.kP o s l)=some y):∃sz rows,y=.sl sz rows:=by
 simp only [resolve]at h;split at h<;>first|(cases h;done)|skip
 split at h<;>first|(cases h;done)|skip
 simp only [aI]at h;obtain⟨_,_,rfl⟩:=h;exact⟨_,_,rfl⟩
theorem ah6{o r f n:Nat}{y:V}(h:resolve σ (n+1) (.ptr o r f)=some y):∃row off,y=.oZ row off:=by
 simp only [resolve]at h;split at h<;>first|(cases h;done)|skip
 split at h<;>first|(cases h;done)|skip
 simp only [aI]at h;obtain⟨_,_,rfl⟩:=h;exact⟨_,_,rfl⟩
theorem aa1(hS:tY w D M σ){x y:V}{v:Value}(h:resolve σ FD x=some y)(hq:∀q,q∈reach σ FD x→∀(k s0 l0:Nat),W[k]? ≠ some (some (q,s0,l0)))
  (hy:(∃sz rows,y=.sl sz rows)∨∃row off,y=.oZ row off) (hr:rd w D (XS M D) x v):rd w (D.win W kp) (XS M (D.win W kp)) y v:=by
 have h1:=Gj hS (R:=reach σ FD x) FD x y v h (fun _ ho=>ho) hr;refine agm (fun b hb=>?_) hy h1;rcases hb with hb|⟨k,d,hk,rfl⟩
 ·exact .inl hb
 obtain⟨o,s,l,d0,e1,e2,rfl⟩:=KF hk;exact .inr ⟨o,d0,e2,rfl,fun ho=>hq o ho k s l e1⟩
mutual
theorem abY(hS:tY w D M σ)(hW:∀(k o s l:Nat),W[k]? = some (some (o,s,l))→(jH σ o).isSome=true):∀(x y:V) (v:Value),xG W σ x y→rd w D (XS M D) x v →
  rd w (D.win W kp) (XS M (D.win W kp)) y v
 |
  .kP o s l,y,v,h,hr=>by
  simp only [xG]at h;rcases h with ⟨k,s0,l0,h1,h2,h3,rfl⟩|⟨rfl,ho,sz,rfl⟩|⟨h1,h2⟩
  ·obtain⟨ob,hob⟩:=iw.1 (hW k o s0 l0 h1);obtain⟨d,hd⟩:=hS.alive o ob hob;simp only [rd,hd]at hr;obtain⟨e1,a,cap,rfl,e2,e3⟩:=hr;simp only [rd,DM.win,h1,hd];refine⟨by omega,a,cap,rfl,e2,e3.imp ?_ id⟩;rintro⟨rfl,e4⟩;have hm:s*d.sz=s0*d.sz+(s-s0)*d.sz:=by rw [←eP];congr 1;omega
   refine⟨by congr 2;omega,?_⟩;have:(s+cap)*d.sz=s0*d.sz+(s-s0+cap)*d.sz:=by rw [←eP];congr 1;omega
   omega
  ·obtain⟨ob,hob⟩:=iw.1 ho;obtain⟨d,hd⟩:=hS.alive o ob hob;simp only [rd,hd]at hr ⊢;obtain⟨e1,a,cap,rfl,e2,e3⟩:=hr;exact⟨a,cap,rfl,dY _,.inl (by trivial)⟩
  exact aa1 hS h1 h2 (.inl (apr (n:=11) h1)) hr
 |
  .ptr o r off,y,v,h,hr=>by
  simp only [xG]at h;rcases h with ⟨k,s0,l0,h1,h2,h3,rfl⟩|⟨h1,h2⟩
  rotate_left
  ·exact aa1 hS h1 h2 (.inr (ah6 (n:=11) h1)) hr
  obtain⟨ob,hob⟩:=iw.1 (hW k o s0 l0 h1);obtain⟨d,hd⟩:=hS.alive o ob hob;simp only [rd,hd]at hr;subst hr;simp only [rd,DM.win,h1,hd];have hm:r*d.sz=s0*d.sz+(r-s0)*d.sz:=by rw [←eP];congr 1;omega
  congr 3;omega
 |
  .agg cs,y,v,h,hr=>by
  simp only [xG]at h;obtain⟨ds,rfl,h⟩:=h;simp only [rd]at hr ⊢;obtain⟨a,rfl,hr⟩:=hr;exact⟨a,rfl,abZ hS hW cs ds _ h hr⟩
 |
  .nK cs,y,v,h,hr=>by
  simp only [xG]at h;obtain⟨ds,rfl,h⟩:=h;simp only [rd]at hr ⊢;obtain⟨a,rfl,hr⟩:=hr;exact⟨a,rfl,abZ hS hW cs ds _ h hr⟩
 |
  .jL,y,v,h,hr=>by
  simp only [xG]at h;simp only [rd]at hr;obtain⟨a,rfl⟩:=hr;rcases h with rfl|⟨sz,rfl⟩
  ·simp only [rd];exact⟨a,rfl⟩
  simp only [rd];exact⟨a,0,rfl,aP _,.inl (by trivial)⟩
 |
  .sl sz rows,y,v,h,hr=>by
  simp only [xG]at h;exact VE _ _ _ _ _ h (agm alD (.inl ⟨sz,rows,rfl⟩) hr)
 |
  .oZ row off,y,v,h,hr=>by
  simp only [xG]at h;exact VE _ _ _ _ _ h (agm alD (.inr ⟨row,off,rfl⟩) hr)
 |.any,y,v,h,hr=>by simp only [xG]at h;subst h;simp [rd]
 |.one,y,v,h,hr=>by simp only [xG]at h;subst h;simpa only [rd]using hr
 |.int ..,y,v,h,hr=>by simp only [xG]at h;subst h;simpa only [rd]using hr
 |.bool _,y,v,h,hr=>by simp only [xG]at h;subst h;simpa only [rd]using hr
 |.str _,y,v,h,hr=>by simp only [xG]at h;subst h;simpa only [rd]using hr
theorem abZ(hS:tY w D M σ)(hW:∀(k o s l:Nat),W[k]? = some (some (o,s,l))→(jH σ o).isSome=true):∀(xs ys:List V) (vs:List Value),Gf W σ xs ys→pV w D (XS M D) xs vs →
  pV w (D.win W kp) (XS M (D.win W kp)) ys vs
 | [],ys,vs,h,hr=>by simp only [Gf]at h;subst h;simpa only [pV]using hr
 |
  x::xs,ys,vs,h,hr=>by
  simp only [Gf]at h;obtain⟨y,ys',rfl,h1,h2⟩:=h;simp only [pV]at hr ⊢;obtain⟨v,vs',rfl,k1,k2⟩:=hr;exact⟨v,vs',rfl,abY hS hW x y v h1 k1,abZ hS hW xs ys' vs' h2 k2⟩
end
theorem tY.re(hS:tY w D M σ)(h:ReS W σ σ2)(hkp:kp≤W.length):tY w (D.win W kp) M σ2:=by
 have hW:∀(k o s l:Nat),W[k]? = some (some (o,s,l))→(jH σ o).isSome=true:=fun k o s l hk=>by
  obtain⟨ob,_,h1,_⟩:=h.win k o s l hk;rw [h1];rfl
 refine⟨?_,?_,?_,?_,hS.mlt⟩
 ·intro k d hk;obtain⟨o,s,l,d0,e1,e2,rfl⟩:=KF hk;obtain⟨ob,ob2,w1,w2,w3,w4,w5,w6⟩:=h.win k o s l e1;obtain⟨ob',c,e,h1,h2,h3,h4,h5,h6,h7,h8,h9,h10,h11⟩:=hS.live o d0 e2;rw [w1]at h1;cases h1;have hrow:∀i r2,ob2.rows[i]? = some r2→∃r,ob.rows[s+i]? = some r∧Gf W σ r r2:=by
   intro i r2 hi;have hlt:s+i<ob.rows.length:=by have:=(aK.1 hi).1;omega
   exact⟨ob.rows[s+i],aB hlt,w6 i _ r2 (aB hlt) hi⟩
  have hlen2:∀r∈ob2.rows,r.length=ob2.sz:=by
   intro r2 hr2;obtain⟨i,hi⟩:=bF.1 hr2;obtain⟨r,hr,hc⟩:=hrow i r2 hi;rw [aed hc,w4];exact h10 r (aS hr)
  refine⟨ob2,c,e,w3,by simp only [];rw [w4];exact h2,by simp only [];exact w5.symm,h4,h5,h6,h7,h8,?_,hlen2,?_⟩
  ·simp only [];have:d0.NG+s*d0.sz+l*d0.sz=d0.NG+(s+l)*d0.sz:=by rw [eP];omega
   rw [this];refine cZ (Nat.add_le_add_left (dM _ ?_) _) h9;omega
  intro i z hz;have hpos:0<ob.sz:=by rw [←h2];exact h4
  have hilt:=(aK.1 hz).1;have hfl:=zx hlen2;have hq:i / ob.sz<ob2.rows.length:=iJ (by rw [dH,←w4];omega);have hmod:i % ob.sz<ob2.rows[i / ob.sz].length:=by rw [hlen2 _ (by simp),w4];exact jQ _ hpos
  have hz':=DR hlen2 (i:=i / ob.sz) (j:=i % ob.sz) (r:=ob2.rows[i / ob.sz]) (x:=ob2.rows[i / ob.sz][i % ob.sz]) (by simp [hq]) (by simp [hmod]);have hi:i / ob.sz*ob2.sz+i % ob.sz=i:=by rw [w4,dH];exact Nat.div_add_mod i ob.sz
  rw [hi,hz]at hz';obtain⟨r,hr,hc⟩:=hrow (i / ob.sz) ob2.rows[i / ob.sz] (by simp [hq]);obtain⟨x,hx,hcx⟩:=aee hc (i % ob.sz) z (by rw [Option.some.inj hz'];simp [hmod]);obtain⟨hlf,cv,k1,k2⟩:=h11 _ x (DR h10 hr hx);refine⟨alE hcx hlf,cv,?_,abY hS hW x z cv hcx k2⟩;rw [←k1];simp only []
  congr 1
  have hi2:i=i / ob.sz*ob.sz+i % ob.sz:=by rw [←w4];rw [w4];rw [w4]at hi;exact hi.symm
  rw [h2,eP];omega
 ·intro k ob hk;have hlt:k<W.length:=by
   rw [←h.len];rcases fG k σ2.length with h'|h'
   ·exact h'
   rw [jH,bn h']at hk;cases hk
  cases hw:W[k]with
  |
   none =>
   have:=h.hole k (by rw [aB hlt,hw]);rw [this]at hk;cases hk
  |
   some p =>
   obtain⟨o,s,l⟩:=p;have hk':W[k]? = some (some (o,s,l)):=by rw [aB hlt,hw]
   obtain⟨ob0,_,w1,_⟩:=h.win k o s l hk';obtain⟨d,hd⟩:=hS.alive o ob0 w1;exact⟨⟨d.blk,d.NG+s*d.sz,d.sz,l,d.cap⟩,by simp only [DM.win,hk',hd]⟩
 ·intro k k' d d' hk hk' hb;obtain⟨o,s,l,d0,e1,e2,rfl⟩:=KF hk;obtain⟨o',s',l',d0',e1',e2',rfl⟩:=KF hk';have:=hS.inj o o' d0 d0' e2 e2' hb;subst this;exact h.nd k k' o s l s' l' e1 e1'
 intro k hk;rw [h.len]at hk;simp only [DM.win,bn hk]
end
section
variable {P : Program} {ν : Nat → Option Nat} {nt : Nat} {M : Nat → Prop} {w0 : World} {D0 : DM} {st st2 : St} {D : DM} {a : Act} {w : World} {W : P6}
theorem ReS.some{σ σ2:Store}(h:ReS W σ σ2):∀(k o s l:Nat),W[k]? = some (some (o,s,l))→(jH σ o).isSome=true:=fun k o s l hk=>by
 obtain⟨ob,_,h1,_⟩:=h.win k o s l hk;rw [h1];rfl
theorem SR.re(h:SR nt M w0 D0 st D a w)(hr:asi W st st2):SR nt M w0 D0 st2 (D.win W st.keep) a w:=by
 have hkp:st.keep≤W.length:=by
  rcases fG W.length st.keep with h'|h'
  ·have:W[W.length]? = Option.none:=by simp
   rcases hr.kp W.length h' with ⟨ob,_,h2⟩|⟨_,h2⟩<;>rw [this]at h2<;>cases h2
  exact h'
 refine⟨fun t=>?_,h.tm,h.df,h.store.re hr.objs hkp,h.gr,?_,?_⟩
 ·rcases hr.env t with e|e
  ·rw [e];simp [rd]
  exact abY h.store hr.objs.some _ _ _ e (h.env t)
 ·intro k d hk;obtain⟨o,s,l,d0,_,e2,rfl⟩:=KF hk;exact h.fr o d0 e2
 intro k hk;rw [hr.keep]at hk;have hle:=h.kp k hk;rcases hr.kp k hk with ⟨ob,h1,h2⟩|⟨h1,h2⟩
 ·obtain⟨d,hd⟩:=h.store.alive k ob h1;obtain⟨ob',c,e,g1,g2,g3,_⟩:=h.store.live k d hd;rw [h1]at g1;cases g1;have:D.win W st.keep k=D k:=by
   simp only [DM.win,h2,hd,jP,gy,←g3]
  rw [this];exact hle
 have:D.win W st.keep k=D k:=by
  simp only [DM.win,h2,if_pos hk]
  cases hd:D k with
  |
   live d =>
   obtain⟨ob',c,e,g1,_⟩:=h.store.live k d hd;rw [h1]at g1;cases g1
  |_=>rfl
 rw [this];exact hle
theorem SR.forget(h:SR nt M w0 D0 st D a w)(he:∀t,st2.env t=.any∨lW (st2.env t) (st.env t))(ho:st2.objs=st.objs)(hk:st2.keep=st.keep):SR nt M w0 D0 st2 D a w:=by
 refine⟨fun t=>?_,h.tm,h.df,by rw [ho];exact h.store,h.gr,h.fr,by rw [hk];exact h.kp⟩;rcases he t with e|e
 ·rw [e];simp [rd]
 exact VE _ _ _ _ _ e (h.env t)
end
end Go.Ml
end
section
namespace Go.Ml
inductive Fg:St→St→Prop
 |env {st2 st:St} (he:∀t,st2.env t=.any∨lW (st2.env t) (st.env t)) (ho:st2.objs=st.objs) (hk:st2.keep=st.keep):Fg st2 st
 |re {st2 st:St} (W:P6) (h:asi W st st2):Fg st2 st
theorem Fg.run{T:Tb}{c:C}{st2 st:St}{o:Out}(h:Fg st2 st)(k:Run T (.code c st2) o):Run T (.code c st) o:=by
 cases h with
 |env he ho hk=>exact .forget he ho hk k
 |re W h=>exact .re W h k
theorem Yx{T:Tb}{rf:Nat→Nat→Bool}{c:C}{Q:Ex→St→Prop}{α:Type}(I:α→St)(P:α→Prop)(m:α→Nat)(hk:c.okC=true)
  (step:∀a,P a→wp T rf c (fun e st'=>abU e (∃a',m a'<m a∧P a'∧Fg (I a') st') (Q e st')) (I a)) :
  ∀(n:Nat) (a:α) (st:St),m a<n→P a→Fg (I a) st→Pm T c Q st
 |0,_,_,hn,_,_=>absurd hn (iG _)
 |
  n+1,a,st,hn,h,hf=>by
  obtain⟨e,st1,h1,h2⟩:=Bd hk (step a h)
  cases e with
  |
   normal =>
   obtain⟨a',hlt,h3,h3'⟩:=h2;obtain⟨e,st2,h4,h5⟩:=Yx I P m hk step n a' _ (by omega) h3 h3';exact⟨e,st2,hf.run (.akW h1 h4),h5⟩
  |exit id=>exact⟨_,_,hf.run (.adH (by simp) h1),h2⟩
  |ret=>exact⟨_,_,hf.run (.adH (by simp) h1),h2⟩
theorem kG{T:Tb}(rf:Nat→Nat→Bool){c:C}{Q:Ex→St→Prop}{α:Type}(I:α→St)(P:α→Prop)(m:α→Nat)(hk:c.okC=true)(a:α){st:St}(h0:P a)(hf:Fg (I a) st)
  (step:∀a,P a→wp T rf c (fun e st'=>abU e (∃a',m a'<m a∧P a'∧Fg (I a') st') (Q e st')) (I a)) :
  Pm T c Q st:=Yx I P m hk step (m a+1) a st (by omega) h0 hf
def EvV(v y:V):Prop:=v=.any∨lW v y
theorem ah7(y:V):EvV .any y=True:=eq_true (.inl rfl)
theorem alF(y:V):EvV y y=True:=eq_true (.inr (kE y))
theorem xH{v y:V}(h:v=y):EvV v y:=h▸.inr (kE v)
theorem vH{q:IntKind}{a b:Int}(h:a=b):EvV (.int q a) (.int q b):=xH (by rw [h])
theorem vI(sz:Nat):EvV (.sl sz []) .jL:=.inr (by simp [lW])
def NS:List V→Nat→(Nat→V)→Prop
 | [],_,_=>True
 |v::vs,i,env=>EvV v (env i)∧NS vs (i+1) env
theorem aps(i:Nat)(env:Nat→V):NS [] i env=True:=nr rfl
theorem apt(v:V)(vs:List V)(i:Nat)(env:Nat→V):NS (v::vs) i env=(EvV v (env i)∧NS vs (i+1) env):=nr rfl
theorem NS.at_:∀{l:List V} {i:Nat} {env:Nat→V},NS l i env→∀t,kX l t=.any∨lW (kX l t) (env (i+t))
 | [],_,_,_,t=>.inl rfl
 |v::vs,i,env,h,0=>h.1
 |
  v::vs,i,env,h,t+1=>by
  have:=NS.at_ h.2 t;rw [show i+1+t=i+(t+1) by omega]at this;exact this
theorem jW{l:List V}{env:Nat→V}{objs:Store}{kp b1 b2:Nat}{r1 r2 m1 m2:List Nat}(h:NS l 0 env):Fg ⟨kX l,objs,kp,b1,r1,m1⟩ ⟨env,objs,kp,b2,r2,m2⟩ :=
 .env (fun t=>by have:=h.at_ t;rwa [aN]at this) rfl rfl
theorem ah8{l:List V}{env:Nat→V}{objs arF:Store}{kp b1 b2:Nat}{r1 r2 m1 m2:List Nat}(h:NS l 0 env)(ho:arF=objs):Fg ⟨kX l,arF,kp,b1,r1,m1⟩ ⟨env,objs,kp,b2,r2,m2⟩:=by
 subst ho;exact jW h
theorem xI{W:P6}{σ:Store}{v:V}(h:v.still=true):xG W σ v v:=by
 cases v<;>simp only [V.still]at h<;>first|(cases h;done)|skip
 all_goals simp only [xG]
 ·exact .inl (by trivial)
 ·exact kE _
 exact kE _
theorem KG{W:P6}{σ:Store}:∀{r:List V},(∀v∈r,v.still=true)→Gf W σ r r
 | [],_=>by simp [Gf]
 |
  v::r,h=>by
  simp only [Gf];exact⟨v,r,rfl,xI (h v (by simp)),KG fun x hx=>h x (by simp [hx])⟩
theorem alG{σ:Store}(l:List (Nat×Obj))(hn:(l.map (·.1)).Nodup)(h:∀p∈l,jH σ p.1=some p.2∧l7 p.2.rows) :
  ReS (l.map fun p=>some (p.1,0,p.2.rows.length)) σ (l.map fun p=>some p.2):=by
 have hget:∀(k o s n:Nat),(l.map fun p=>some (p.1,0,p.2.rows.length))[k]? = some (some (o,s,n))→∃p,l[k]? = some p∧o=p.1∧s=0∧n=p.2.rows.length:=by
  intro k o s n hk;rw [bG,aI]at hk;obtain⟨p,h1,h2⟩:=hk;simp only [aC,Prod.mk.injEq]at h2;exact⟨p,h1,h2.1.symm,h2.2.1.symm,h2.2.2.symm⟩
 refine⟨by simp,?_,?_,?_⟩
 ·intro i j o s n s' n' hi hj;obtain⟨p,p1,p2,_⟩:=hget i o s n hi;obtain⟨q,q1,q2,_⟩:=hget j o s' n' hj;have hi':=(aK.1 p1).1;have hj':=(aK.1 q1).1;have e1:=(aK.1 p1).2;have e2:=(aK.1 q1).2;refine(List.getElem_inj (h₀:=by simpa using hi') (h₁:=by simpa using hj') hn).1 ?_;simp [e1,e2,←p2,←q2]
 ·intro k o s n hk;obtain⟨p,p1,rfl,rfl,rfl⟩:=hget k o s n hk;obtain⟨h1,h2⟩:=h p (aS p1);refine⟨p.2,p.2,h1,by omega,by unfold jH;rw [bG,p1];rfl,rfl,rfl,fun i r r2 hr hr2=>?_⟩;rw [aN,hr2]at hr
  cases hr
  exact KG (h2 _ (aS hr2))
 intro k hk;rw [bG,aI]at hk;obtain⟨p,_,h⟩:=hk
 cases h
def OA(W:P6)(σ:Store)(v y:V):Prop:=v=.any∨xG W σ y v
theorem alH(W:P6)(σ:Store)(y:V):OA W σ .any y=True:=eq_true (.inl rfl)
theorem alI(W:P6)(σ:Store)(q:IntKind)(a b:Int):OA W σ (.int q a) (.int q b)=(a=b):=by simp [OA,xG]
theorem ajG(W:P6)(σ:Store)(a b:Bool):OA W σ (.bool a) (.bool b)=(a=b):=by simp [OA,xG]
theorem OB(W:P6)(σ:Store){y:V}(h:y.still=true):OA W σ y y:=.inr (xI h)
theorem apu(W:P6)(σ:Store)(sz:Nat)(rows:List (List V)):OA W σ (.sl sz rows) (.sl sz rows)=True:=eq_true (OB W σ rfl)
theorem alJ(W:P6)(σ:Store)(a:List UInt8):OA W σ (.str a) (.str a)=True:=eq_true (OB W σ rfl)
theorem tH(W:P6)(σ:Store)(sz:Nat):OA W σ (.sl sz []) .jL=True:=eq_true (.inr (by simp only [xG];exact .inr ⟨sz,rfl⟩))
theorem ajH(W:P6)(σ:Store):OA W σ .jL .jL=True:=eq_true (OB W σ rfl)
theorem mW{W:P6}{σ:Store}{k o l l' n:Nat}(h:W[k]? = some (some (o,0,n)))(hl:l≤n)(e:l'=l):OA W σ (.kP k 0 l') (.kP o 0 l) :=
 .inr (by simp only [xG];exact .inl ⟨k,0,n,h,aP _,by omega,by rw [e]⟩)
theorem nP{W:P6}{σ:Store}{k o r off n:Nat}(h:W[k]? = some (some (o,0,n)))(hl:r<n):OA W σ (.ptr k r off) (.ptr o r off) :=
 .inr (by simp only [xG];exact .inl ⟨k,0,n,h,dY _,by omega,by simp⟩)
theorem tJ{W:P6}{σ:Store}{o s l:Nat}{y:V}(h:resolve σ FD (.kP o s l)=some y)(hq:∀q,q∈reach σ FD (.kP o s l)→∀(k s0 l0:Nat),W[k]? ≠ some (some (q,s0,l0))):OA W σ y (.kP o s l) :=
 .inr (by simp only [xG];exact .inr (.inr ⟨h,hq⟩))
theorem lY{W:P6}{σ:Store}{x y:V}(h:y.still=true)(e:x=y):OA W σ x y:=e▸OB W σ (e▸h)
def Jl(W:P6)(σ:Store):List V→Nat→(Nat→V)→Prop
 | [],_,_=>True
 |v::vs,i,env=>OA W σ v (env i)∧Jl W σ vs (i+1) env
theorem alK(W:P6)(σ:Store)(i:Nat)(env:Nat→V):Jl W σ [] i env=True:=nr rfl
theorem alL(W:P6)(σ:Store)(v:V)(vs:List V)(i:Nat)(env:Nat→V):Jl W σ (v::vs) i env=(OA W σ v (env i)∧Jl W σ vs (i+1) env):=nr rfl
theorem Jl.at_{W:P6}{σ:Store}:∀{l:List V} {i:Nat} {env:Nat→V},Jl W σ l i env→∀t,kX l t=.any∨xG W σ (env (i+t)) (kX l t)
 | [],_,_,_,t=>.inl rfl
 |v::vs,i,env,h,0=>h.1
 |
  v::vs,i,env,h,t+1=>by
  have:=Jl.at_ h.2 t;rw [show i+1+t=i+(t+1) by omega]at this;exact this
theorem KH(l:List (Nat×Obj)){vs:List V}{env:Nat→V}{σ σ2:Store}{b1 b2:Nat}{r1 r2 m1 m2:List Nat}(hn:(l.map (·.1)).Nodup)
  (h:∀p∈l,jH σ p.1=some p.2∧l7 p.2.rows) (ho:σ2=l.map fun p=>some p.2)
  (he:Jl (l.map fun p=>some (p.1,0,p.2.rows.length)) σ vs 0 env):Fg ⟨kX vs,σ2,0,b1,r1,m1⟩ ⟨env,σ,0,b2,r2,m2⟩:=by
 subst ho;exact .re _ ⟨alG l hn h,rfl,fun i hi=>absurd hi (iG _),fun t=>by have:=he.at_ t;rwa [aN]at this⟩
theorem apv(t n:Nat)(rs:List PL)(acc:List V)(st:St)(k:V→Prop):PS (.cell t n true::rs) acc st k=nY (rowAt st.objs (st.env t)) fun p=>if p.2+n≤p.1.length then F7 (.agg ((p.1.drop p.2).take n)) fun v=>PS rs (v::acc) st k else False:=by
 simp only [PS,PL.get]
 cases e:rowAt st.objs (st.env t)with
 |none=>rfl
 |
  some p =>
  by_cases h:p.2+n≤p.1.length
  ·simp only [nY,if_true,F7,qG,if_pos h]
  simp only [nY,if_true,F7,qG,if_neg h]
theorem apw{c:Prop} [Decidable c] {α:Type} {a b:Option α} (h:c):(if c then a else b)=a:=by rw [if_pos h]
def OC(env:Nat→V)(sz:Nat):List (List V)→List (Nat×Src)→(List (List V)→Prop)→Prop
 |rows,[],k=>k rows
 |rows,(i,s)::rest,k=>rY (s.ev env) fun cs=>(cs.length=sz∧i<rows.length)∧OC env sz (rows.set i cs) rest k
@[congr] theorem awv {env:Nat→V} {sz:Nat} {r r':List (List V)} {ps:List (Nat×Src)} {k:List (List V)→Prop} (h:wr r=r'):OC env sz r ps k=OC env sz r' ps k:=by rw [←h,qG]
theorem alM(env:Nat→V)(sz:Nat)(rows:List (List V))(k:List (List V)→Prop):OC env sz rows [] k=k rows:=nr rfl
theorem alN(env:Nat→V)(sz:Nat)(r:List V)(rows:List (List V))(i:Nat)(s:Src)(rest:List (Nat×Src))(k:List (List V)→Prop) :
  OC env sz (r::rows) ((i,s)::rest) k=rY (s.ev env) fun cs=>(cs.length=sz∧i<(r::rows).length)∧OC env sz ((r::rows).set i cs) rest k:=nr rfl
theorem aa2{env:Nat→V}{sz:Nat}:∀{ps:List (Nat×Src)} {rows:List (List V)} {k:List (List V)→Prop},nY (uF env sz rows ps) k=OC env sz rows ps k
 | [],rows,k=>rfl
 |
  (i,s)::rest,rows,k=>by
  simp only [uF,OC,rY]
  cases h:(s.ev env).cells? with
  |none=>rfl
  |
   some cs =>
   simp only [nY];by_cases hc:cs.length=sz∧i<rows.length
   ·rw [if_pos hc];simp only [hc,and_self,true_and];exact aa2
   rw [if_neg hc];simp only [hc,false_and]
theorem apx(env:Nat→V)(σ:Store)(k:Eff→Prop)(sz:Nat)(z:List V)(n:Nat)(ps:List (Nat×Src)):I.oI env σ (.ny sz z (n+1) ps) k=OC env sz (List.replicate (n+1) z) ps fun rows=>k (.newS ⟨sz,rows⟩ (n+1)):=by
 rw [as3,aa2]
 congr 1
theorem apy(env:Nat→V)(σ:Store)(k:Eff→Prop)(sz:Nat)(z:List V):I.oI env σ (.ny sz z 0 []) k=k (.val .jL):=nr rfl
def Ue(env:Nat→V):List V→List (Nat×Nat×Src)→(List V→Prop)→Prop
 |row,[],k=>k row
 |row,(off,n,s)::rest,k=>rY (s.ev env) fun cs=>(cs.length=n∧off+n≤row.length)∧Ue env (splice row off cs) rest k
@[congr] theorem axX {env:Nat→V} {r r':List V} {ps:List (Nat×Nat×Src)} {k:List V→Prop} (h:wr r=r'):Ue env r ps k=Ue env r' ps k:=by rw [←h,qG]
theorem apz(env:Nat→V)(row:List V)(k:List V→Prop):Ue env row [] k=k row:=nr rfl
theorem apA(env:Nat→V)(c:V)(row:List V)(off n:Nat)(s:Src)(rest:List (Nat×Nat×Src))(k:List V→Prop) :
  Ue env (c::row) ((off,n,s)::rest) k=rY (s.ev env) fun cs=>(cs.length=n∧off+n≤(c::row).length)∧Ue env (splice (c::row) off cs) rest k:=nr rfl
theorem aef{env:Nat→V}:∀{ps:List (Nat×Nat×Src)} {row:List V} {k:List V→Prop},nY (Ci env row ps) k=Ue env row ps k
 | [],row,k=>rfl
 |
  (off,n,s)::rest,row,k=>by
  simp only [Ci,Ue,rY]
  cases h:(s.ev env).cells? with
  |none=>rfl
  |
   some cs =>
   simp only [nY];by_cases hc:cs.length=n∧off+n≤row.length
   ·rw [if_pos hc];simp only [hc,and_self,true_and];exact aef
   rw [if_neg hc];simp only [hc,false_and]
theorem alO(env:Nat→V)(σ:Store)(k:Eff→Prop)(z:List V)(ps:List (Nat×Nat×Src)):I.oI env σ (.build z ps) k=Ue env z ps fun cs=>F7 (.agg cs) fun v=>k (.val v):=by
 rw [ao6,aef];rfl
def agn:Option Src→(Nat→V)→Nat→(Nat→Prop)→Prop
 |none,_,n,k=>SA n k
 |some h,env,n,k=>tC n (h.ev env) k
def agp:Option Src→(Nat→V)→Nat→(Nat→Prop)→Prop
 |none,_,_,k=>k 0
 |some h,env,n,k=>tC n (h.ev env) k
theorem atA(env:Nat→V)(n:Nat)(k:Nat→Prop):agn none env n k=SA n k:=nr rfl
theorem atB(h:Src)(env:Nat→V)(n:Nat)(k:Nat→Prop):agn (some h) env n k=tC n (h.ev env) k:=nr rfl
theorem atC(env:Nat→V)(n:Nat)(k:Nat→Prop):agp none env n k=k 0:=nr rfl
theorem atD(h:Src)(env:Nat→V)(n:Nat)(k:Nat→Prop):agp (some h) env n k=tC n (h.ev env) k:=nr rfl
@[congr] theorem aA6 {o:Option Src} {env:Nat→V} {n n':Nat} {k:Nat→Prop} (h:wr n=n'):agn o env n k=agn o env n' k:=by rw [←h,qG]
@[congr] theorem aA7 {o:Option Src} {env:Nat→V} {n n':Nat} {k:Nat→Prop} (h:wr n=n'):agp o env n k=agp o env n' k:=by rw [←h,qG]
theorem apB(env:Nat→V)(σ:Store)(k:Eff→Prop)(sz:Nat)(x:Src)(lo hi:Option Src):I.oI env σ (.slice sz x lo hi) k =
  nY (lenOf σ (x.ev env)) fun n=>agn hi env n fun h=>agp lo env h fun l=>slK (x.ev env) (F7 .jL fun v=>k (.val v)) (fun sz' rows=>sz'=sz∧F7 (.sl sz' ((rows.take h).drop l)) fun v=>k (.val v))
   (fun o s _=>nY (jH σ o) fun ob=>ob.sz=sz∧F7 (.kP o (s+l) (h-l)) fun v=>k (.val v)):=by
 simp only [I.oI]
 congr 1
 funext n
 cases hi<;>cases lo<;>simp only [agn,agp,SA,F7]<;>(cases x.ev env<;>rfl)
theorem alP(env:Nat→V)(σ:Store)(k:Eff→Prop)(x:Src)(lo hi:Option Src):I.oI env σ (.RX x lo hi) k =
  ajF (x.ev env) fun s=>agn hi env s.length fun h=>agp lo env h fun l=>F7 (.str ((s.take h).drop l)) fun v=>k (.val v):=by
 simp only [I.oI]
 cases x.ev env<;>first|rfl|(cases hi<;>cases lo<;>rfl)
theorem PF.lax{T:Tb}{f:Nat}{as as':List V}{r r':V}(h:PF T f as r)(ha:uG as as')(hr:lW r' r):PF T f as' r':=Run.afV ha h hr
theorem ab1{T:Tb}{f:Nat}{as as':List V}{k:V→Prop}{r:V}(h:PF T f as r)(ha:uG as as')(hk:k r):PFK T f as' k:=⟨r,h.lax ha (kE r),hk⟩
def val:List Int→Nat
 | []=>0
 |d::l=>d.toNat+1000000000*val l
def mk(n:Nat):List Int:=if h:n=0 then []else((n % 1000000000:Nat):Int)::mk (n / 1000000000)
termination_by n
decreasing_by omega
def Lb(l:List Int):Prop:=∀d∈l,0≤d∧d<1000000000
theorem mk_zero:mk 0=[]:=by rw [mk];rfl
theorem mk_pos{n:Nat}(h:n≠0):mk n=((n % 1000000000:Nat):Int)::mk (n / 1000000000):=by rw [mk];rw [dif_neg h]
theorem val_mk(n:Nat):val (mk n)=n:=by
 induction n using Nat.strongRecOn with
 |
  ind n ih =>
  by_cases h:n=0
  ·subst h;rw [mk_zero];rfl
  rw [mk_pos h];simp only [val];rw [ih _ (by omega),fU];omega
theorem uZ(n:Nat):Lb (mk n):=by
 induction n using Nat.strongRecOn with
 |
  ind n ih =>
  by_cases h:n=0
  ·subst h;rw [mk_zero];intro d hd;cases hd
  rw [mk_pos h];intro d hd;rcases aH.1 hd with rfl|hd
  ·omega
  exact ih _ (by omega) d hd
theorem val_append(a b:List Int):val (a++b)=val a+1000000000 ^ a.length*val b:=by
 induction a with
 |nil=>simp [val]
 |
  cons d a ih =>
  simp only [bP,val,ih,aj,iC,iQ];rw [dH (1000000000 ^ a.length) 1000000000,eY];omega
theorem yQ{l:List Int}(h:Lb l):val l<1000000000 ^ l.length:=by
 induction l with
 |nil=>simp [val]
 |
  cons d l ih =>
  have h1:=h d (by simp);have h2:=ih fun x hx=>h x (by simp [hx]);simp only [val,aj,iC];have:d.toNat<1000000000:=by omega
  generalize 1000000000 ^ l.length=p at *;omega
theorem Yy(n:Nat):∀(l:List Int),Lb l→val l=n→n≠0→l.getLast? ≠ some 0→mk n=l:=by
 induction n using Nat.strongRecOn with
 |
  ind n ih =>
  intro l hl hv hn ht
  cases l with
  |nil=>simp [val]at hv;omega
  |
   cons d l =>
   have hd:=hl d (by simp);have hl':Lb l:=fun x hx=>hl x (by simp [hx]);simp only [val]at hv;rw [mk_pos hn];have e1:((n % 1000000000:Nat):Int)=d:=by omega
   have e2:n / 1000000000=val l:=by omega
   rw [e1,e2]
   congr 1
   by_cases h0:val l=0
   ·rw [h0,mk_zero];have hz:∀(l:List Int),Lb l→val l=0→∀x∈l,x=0:=by
     intro l
     induction l with
     |nil=>intro _ _ x hx;cases hx
     |
      cons y l ih2 =>
      intro hl hv x hx;simp only [val]at hv;have hy:=hl y (by simp);rcases aH.1 hx with rfl|hx
      ·omega
      exact ih2 (fun z hz=>hl z (by simp [hz])) (by omega) x hx
    cases l with
    |nil=>rfl
    |
     cons y l =>
     exfalso
     apply ht
     have hlast:(d::y::l).getLast? = some ((y::l).getLast (by simp)):=by
      rw [List.getLast?_cons_cons,List.getLast?_eq_some_getLast (by simp)]
     rw [hlast]
     congr 1
     exact hz _ hl' h0 _ (List.getLast_mem _)
   refine ih (val l) (by omega) l hl' rfl h0 ?_
   cases l with
   |nil=>simp [val]at h0
   |cons y l=>rwa [List.getLast?_cons_cons]at ht
def Can(l:List Int):Prop:=Lb l∧l.getLast? ≠ some 0
theorem mk_val{l:List Int}(h:Can l):mk (val l)=l:=by
 by_cases h0:val l=0
 ·rw [h0,mk_zero]
  cases l with
  |nil=>rfl
  |
   cons d l =>
   exfalso
   apply h.2
   have hz:∀(l:List Int),Lb l→val l=0→∀x∈l,x=0:=by
    intro l
    induction l with
    |nil=>intro _ _ x hx;cases hx
    |
     cons y l ih2 =>
     intro hl hv x hx;simp only [val]at hv;have hy:=hl y (by simp);rcases aH.1 hx with rfl|hx
     ·omega
     exact ih2 (fun z hz=>hl z (by simp [hz])) (by omega) x hx
   rw [List.getLast?_eq_some_getLast (by simp)]
   congr 1
   exact hz _ h.1 h0 _ (List.getLast_mem _)
 exact Yy _ l h.1 rfl h0 h.2
theorem uI(n:Nat):Can (mk n):=by
 refine⟨uZ n,?_⟩
 induction n using Nat.strongRecOn with
 |
  ind n ih =>
  by_cases h:n=0
  ·subst h;rw [mk_zero];simp
  rw [mk_pos h];by_cases h1:n / 1000000000=0
  ·rw [h1,mk_zero];simp;omega
  rw [mk_pos h1,List.getLast?_cons_cons,←mk_pos h1];exact ih _ (by omega)
theorem lK{n k:Nat}:(mk n).length≤k↔n<1000000000 ^ k:=by
 constructor
 ·intro h;have h1:=yQ (uZ n);rw [val_mk]at h1;exact aU h1 (eG (by omega) h)
 induction k generalizing n with
 |zero =>
      intro h;have:n=0:=by simpa using h
      subst this;rw [mk_zero];simp
 |
  succ k ih =>
  intro h;by_cases h0:n=0
  ·subst h0;rw [mk_zero];simp
  rw [mk_pos h0,aj];have:n / 1000000000<1000000000 ^ k:=by
   rw [iC,dH]at h;exact iJ h
  have:=ih this;omega
theorem aa3{n k:Nat}:k<(mk n).length↔1000000000 ^ k≤n:=by
 have:=@lK n k;omega
theorem alQ{n:Nat}:mk n=[]↔n=0:=by
 constructor
 ·intro h;have:=val_mk n;rw [h]at this;simpa [val]using this.symm
 rintro rfl;exact mk_zero
theorem alR{n:Nat}(h:n≠0):0<(mk n).length:=by
 rw [mk_pos h];simp
theorem ajI{l:List Int}(h:Lb l)(hv:l≠[]→1000000000 ^ (l.length-1)≤val l):Can l:=by
 refine⟨h,fun ht=>?_⟩
 cases hl:l with
 |nil=>rw [hl]at ht;simp at ht
 |
  cons d r =>
  have hne:l≠[]:=by rw [hl];simp
  have h1:=hv hne;have h2:l=l.dropLast++[0]:=by
   have:=List.dropLast_concat_getLast hne;rw [List.getLast?_eq_some_getLast hne]at ht;rw [Option.some.inj ht]at this;exact this.symm
  have h3:Lb l.dropLast:=fun x hx=>h x (List.dropLast_subset _ hx);have h4:=yQ h3;rw [h2,val_append]at h1;simp only [val,aJ,aj,au,List.length_dropLast]at h1 h4;simp at h1;omega
def xC(l:List Int):Nat→Nat
 |0=>0
 |n+1=>if l.getD n 0=0 then xC l n else n+1
def trim(l:List Int):List Int:=l.take (xC l l.length)
theorem aeg(l:List Int):∀n,xC l n≤n
 |0=>aP _
 |n+1=>by simp only [xC];split;exact Nat.le_succ_of_le (aeg l n);exact aP _
theorem oD{l:List Int}{n:Nat}(h:n<l.length):l.take (n+1)=l.take n++[l.getD n 0]:=by
 rw [dD];simp [ak,h]
theorem aa4(l:List Int):∀n,n≤l.length→val (l.take (xC l n))=val (l.take n)∧(l.take (xC l n)).getLast? ≠ some 0
 |0,_=>by simp [xC]
 |
  n+1,h=>by
  simp only [xC];obtain⟨h1,h2⟩:=aa4 l n (by omega);split
  ·rename_i h0;refine⟨?_,h2⟩;rw [h1,oD (by omega),h0,val_append];simp [val]
  rename_i h0;refine⟨rfl,?_⟩;rw [oD (by omega)];simp only [List.getLast?_append,List.getLast?_singleton,Option.some_or,ne_eq,aC];exact h0
theorem ab2{l:List Int}(h:Lb l)(n:Nat):Lb (l.take n):=fun x hx=>h x (cO hx)
theorem Cj{l:List Int}(h:Lb l):trim l=mk (val l):=by
 obtain⟨h1,h2⟩:=aa4 l l.length (aP _);rw [bQ]at h1;have hc:Can (trim l):=⟨ab2 h _,h2⟩;rw [←h1];exact(mk_val hc).symm
theorem Ql{l:List Int}(h:Can l):trim l=l:=by rw [Cj h.1,mk_val h]
theorem agq:Lb []:=fun x hx=>by cases hx
theorem ab3{d:Int}{l:List Int}(h0:0≤d)(h1:d<1000000000)(h:Lb l):Lb (l++[d]):=by
 intro x hx;rcases aO.1 hx with hx|hx
 ·exact h x hx
 simp at hx;subst hx;exact⟨h0,h1⟩
theorem OD{l:List Int}{d:Int}{i:Nat}(h0:0≤d)(h1:d<1000000000)(h:Lb l):Lb (l.set i d):=by
 intro x hx;rcases fP hx with hx|rfl
 ·exact h x hx
 exact⟨h0,h1⟩
theorem vg{l:List Int}(h:Lb l)(i:Nat):0≤l.getD i 0∧l.getD i 0<1000000000:=by
 by_cases hi:i<l.length
 ·rw [ak,aB hi];exact h _ (dP _)
 rw [ak,bn (by omega)];simp
theorem SE(n:Nat):Lb (List.replicate n 0):=by
 intro x hx;have:=iU hx;subst this;omega
theorem xX(l:List Int)(d:Int):val (l++[d])=val l+1000000000 ^ l.length*d.toNat:=by
 rw [val_append];simp [val]
theorem alS{l:List Int}{i:Nat}(h:i<l.length):val (l.drop i)=(l.getD i 0).toNat+1000000000*val (l.drop (i+1)):=by
 rw [bT h];simp [val,ak,h]
theorem ni{l:List Int}{i:Nat}(h:l.length≤i):val (l.drop i)=0:=by
 rw [dB h];rfl
theorem Bf(l:List Int)(i:Nat):val l=val (l.take i)+1000000000 ^ (l.take i).length*val (l.drop i):=by
 rw [←val_append,fH]
theorem ah9(n:Nat):val (List.replicate n 0)=0:=by
 induction n with
 |zero=>rfl
 |succ n ih=>simp [gB,val,ih]
theorem XB{l:List Int}{i:Nat}{d:Int}(h:i<l.length):val (l.set i d)+1000000000 ^ i*(l.getD i 0).toNat=val l+1000000000 ^ i*d.toNat:=by
 induction l generalizing i with
 |nil=>simp at h
 |
  cons x l ih =>
  cases i with
  |zero=>simp [val];omega
  |
   succ i =>
   have:=ih (i:=i) (by simpa using h);simp only [List.set_cons_succ,val,iC];have e:(x::l).getD (i+1) 0=l.getD i 0:=by simp
   rw [e];have e1:∀z,1000000000 ^ i*1000000000*z=1000000000*(1000000000 ^ i*z):=fun z=>by rw [dH (1000000000 ^ i) 1000000000,eY]
   rw [e1,e1];generalize 1000000000 ^ i*(l.getD i 0).toNat=p at *;generalize 1000000000 ^ i*d.toNat=q at *;omega
def NT(a b:Nat):Int:=if a<b then -1 else if b<a then 1 else 0
theorem val_last{l:List Int}{n:Nat}(h:n<l.length):val (l.take (n+1))=val (l.take n)+1000000000 ^ n*(l.getD n 0).toNat:=by
 have e:(l.take n).length=n:=by simp;omega
 rw [oD h,xX,e]
theorem agr{l:List Int}(h:Can l)(hne:l≠[]):1000000000 ^ (l.length-1)≤val l:=by
 have h1:=@aa3 (val l) (l.length-1);rw [mk_val h]at h1
 apply h1.1
 have:l.length≠0:=fun e=>hne (bf e);omega
theorem yx{a b:List Int}(ha:Lb a)(hb:Can b)(h:a.length<b.length):val a<val b:=by
 have h1:=yQ ha;have hne:b≠[]:=by intro e;subst e;simp at h
 have h2:=agr hb hne;exact aU h1 (cZ (eG (by omega) (by omega)) h2)
theorem QT{a b:List Int}(ha:Lb a)(hb:Lb b){i:Nat}(hia:i<a.length)(hib:i<b.length)(hd:a.drop (i+1)=b.drop (i+1))(hlt:a.getD i 0<b.getD i 0):val a<val b:=by
 rw [Bf a (i+1),Bf b (i+1),hd,val_last hia,val_last hib];have h1:=yQ (ab2 ha i);have e1:(a.take (i+1)).length=i+1:=by simp;omega
 have e2:(b.take (i+1)).length=i+1:=by simp;omega
 have e3:(a.take i).length=i:=by simp;omega
 rw [e1,e2];rw [e3]at h1;have h2:=vg ha i;have h3:=vg hb i;have:1000000000 ^ i*(a.getD i 0).toNat+1000000000 ^ i≤1000000000 ^ i*(b.getD i 0).toNat:=by
  rw [←Nat.mul_succ];exact Nat.mul_le_mul_left _ (by omega)
 omega
structure R where
 neg:Bool
 mag:List Int
 den:List Int
 deriving DecidableEq
instance:Inhabited R:=⟨⟨false,[],[]⟩⟩
def fits(q:Rat):Bool:=decide (q.num.natAbs<1000000000 ^ 24)&&decide (q.den<1000000000 ^ 24)
abbrev Q:=Option Rat
def norm(q:Rat):Q:=if fits q=true then some q else none
def Q.raw:Q→R
 |none=>⟨false,[],[]⟩
 |some q=>⟨decide (q.num<0),mk q.num.natAbs,mk q.den⟩
def Q.ok:Q→Prop
 |none=>True
 |some q=>fits q=true
theorem ab4(q:Rat):(norm q).ok:=by
 unfold norm;split
 ·assumption
 trivial
theorem aa5{q:Rat}(h:fits q=true):norm q=some q:=by unfold norm;rw [if_pos h]
theorem aa6{q:Rat}(h:fits q=false):norm q=none:=by unfold norm;rw [if_neg (by simp [h])]
def negQ:Q→Q
 |some a=>some (-a)
 |none=>none
def PU:Q→Q→Q
 |some a,some b=>norm (a+b)
 |_,_=>none
def alT(a b:Q):Q:=PU a (negQ b)
def Yz:Q→Q→Q
 |some a,some b=>norm (a*b)
 |_,_=>none
def YA:Q→Q→Q
 |some a,some b=>if b=0 then none else norm (a / b)
 |_,_=>none
def Qm(n d:Int):Q:=if d=0 then none else norm (Rat.divInt n d)
def sgn(n:Int):Int:=if n<0 then -1 else if n=0 then 0 else 1
def wP:Q→Int
 |some a=>sgn a.num
 |none=>0
def axY(n:Int):Q:=some (n:Rat)
theorem ab5{a:Q}(h:a.ok):(negQ a).ok:=by
 cases a with
 |none=>trivial
 |
  some a =>
  simp only [negQ,Q.ok,fits,Rat.neg_num,Rat.neg_den,Int.natAbs_neg]at h ⊢;exact h
theorem ab6(a b:Q):(PU a b).ok:=by
 unfold PU;split<;>first|exact ab4 _|trivial
theorem apD(a b:Q):(alT a b).ok:=ab6 _ _
theorem apE(a b:Q):(Yz a b).ok:=by
 unfold Yz;split<;>first|exact ab4 _|trivial
theorem apF(a b:Q):(YA a b).ok:=by
 unfold YA;split<;>first|(split<;>first|exact ab4 _|trivial)|trivial
theorem apG{n:Int}(h:n.natAbs<1000000000 ^ 24):(axY n).ok:=by
 have h1:decide (n.natAbs<1000000000 ^ 24)=true:=decide_eq_true h;show (decide ((n:Rat).num.natAbs<1000000000 ^ 24)&&decide ((n:Rat).den<1000000000 ^ 24))=true;rw [Rat.num_intCast,Rat.den_intCast,h1];rfl
theorem XC(a b:Rat):Qm (a.num*b.den+b.num*a.den) (a.den*b.den)=norm (a+b):=by
 have ha:=a.den_nz;have hb:=b.den_nz;have h0:(a.den:Int)*b.den≠0:=by
  intro h;rcases Int.mul_eq_zero.1 h with h|h<;>omega
 unfold Qm;rw [if_neg h0,Rat.add_def',←Rat.divInt_ofNat];simp
theorem ab7(a b:Rat):Qm (a.num*b.num) (a.den*b.den)=norm (a*b):=by
 have ha:=a.den_nz;have hb:=b.den_nz;have h0:(a.den:Int)*b.den≠0:=by
  intro h;rcases Int.mul_eq_zero.1 h with h|h<;>omega
 unfold Qm;rw [if_neg h0,Rat.mul_def',←Rat.divInt_ofNat];simp
theorem ab8(a b:Rat):Qm (a.num*b.den) (b.num*a.den)=if b=0 then none else norm (a / b):=by
 have ha:=a.den_nz;have hb:=b.den_nz;unfold Qm;by_cases h:b=0
 ·subst h;simp
 have hn:b.num≠0:=fun k=>h (Rat.num_eq_zero.1 k);have h0:b.num*(a.den:Int)≠0:=by
  intro h;rcases Int.mul_eq_zero.1 h with h|h<;>omega
 rw [if_neg h0,if_neg h,Rat.div_def,Rat.inv_def]
 congr 1
 conv=>rhs;lhs;rw [←Rat.num_divInt_den a]
 rw [Rat.divInt_mul_divInt,Int.mul_comm b.num]
theorem ags{n d:Int}(h:d≠0):(Rat.divInt n d).num.natAbs=n.natAbs / Nat.gcd n.natAbs d.natAbs∧(Rat.divInt n d).den=d.natAbs / Nat.gcd n.natAbs d.natAbs ∧
  (decide ((Rat.divInt n d).num<0)=(decide (n≠0)&&(decide (n<0) != decide (d<0)))):=by
 have hg:d.gcd n=Nat.gcd n.natAbs d.natAbs:=by rw [Int.gcd_comm];rfl
 have axZ:0<Nat.gcd n.natAbs d.natAbs:=iD _ (by omega);have hdvd:((Nat.gcd n.natAbs d.natAbs:Nat):Int)∣d.sign*n:=by
  have:((Nat.gcd n.natAbs d.natAbs:Nat):Int)∣n:=Int.ofNat_dvd_left.2 (Nat.gcd_dvd_left _ _);exact Int.dvd_trans this (Int.dvd_mul_left _ _)
 rw [Rat.num_divInt,Rat.den_divInt,if_neg h,hg];obtain⟨c,hc⟩:=hdvd;have hsg:d.sign=1∨d.sign = -1:=by
  rcases Int.lt_trichotomy d 0 with h1|h1|h1
  ·right;exact Int.sign_eq_neg_one_of_neg h1
  ·exact absurd h1 h
  left;exact Int.sign_eq_one_of_pos h1
 refine⟨?_,rfl,?_⟩
 ·rw [hc,Int.mul_ediv_cancel_left _ (by omega)];have h1:(d.sign*n).natAbs=n.natAbs:=by
   rcases hsg with e|e<;>rw [e]<;>simp
  have h2:n.natAbs=Nat.gcd n.natAbs d.natAbs*c.natAbs:=by
   have h3:=congrArg Int.natAbs hc;rw [h1,jA,bW]at h3;exact h3
  generalize hG:Nat.gcd n.natAbs d.natAbs=G at *;rw [h2,Nat.mul_div_cancel_left _ axZ]
 rw [hc,Int.mul_ediv_cancel_left _ (by omega)];have hcn:(c<0)↔(d.sign*n<0):=by
  rw [hc];constructor
  ·intro hlt;exact Int.mul_neg_of_pos_of_neg (by omega) hlt
  intro hlt;by_cases k:c<0
  ·exact k
  have k:0≤c:=by omega
  have:=Int.mul_nonneg (by omega:(0:Int)≤((Nat.gcd n.natAbs d.natAbs:Nat):Int)) k;omega
 rcases Int.lt_trichotomy d 0 with h1|h1|h1
 ·rw [Int.sign_eq_neg_one_of_neg h1]at hcn;have e1:decide (d<0)=true:=by simpa using h1
  rw [e1];by_cases hn:n<0
  ·have:¬c<0:=by rw [hcn];omega
   simp [hn,this]
  by_cases hn0:n=0
  ·have:¬c<0:=by rw [hcn];omega
   simp [hn0,this]
  have:c<0:=by rw [hcn];omega
  simp [hn,hn0,this]
 ·exact absurd h1 h
 rw [Int.sign_eq_one_of_pos h1]at hcn;have e1:decide (d<0)=false:=by simp;omega
 rw [e1];by_cases hn:n<0
 ·have:c<0:=by rw [hcn];omega
  have h2:n≠0:=by omega
  simp [hn,this,h2]
 have:¬c<0:=by rw [hcn];omega
 simp [hn,this]
def xY(a:List Int):Bool:=decide (a.length≤60)&&a.all (fun d=>decide (0≤d)&&decide (d<1000000000))&&(a.isEmpty||decide (a.getD (a.length-1) 0≠0))
theorem QU{a:List Int}:xY a=true↔a.length≤60∧Can a:=by
 unfold xY Can Lb;simp only [aG,decide_eq_true_eq,aZ,fA,List.isEmpty_iff];have h:(a=[]∨a.getD (a.length-1) 0≠0)↔a.getLast? ≠ some 0:=by
  cases a with
  |nil=>simp
  |
   cons d l =>
   rw [List.getLast?_eq_getElem?,ak];simp
 rw [h,and_assoc]
theorem NU{a:List Int}(h:xY a=true):a=mk (val a):=(mk_val (QU.1 h).2).symm
theorem YB{n:Nat}(h:n<1000000000 ^ 60):xY (mk n)=true:=QU.2 ⟨lK.2 h,uI n⟩
def R.ok(r:R):Bool:=xY r.mag&&(!(r.neg&&r.mag.isEmpty))&&xY r.den && !r.den.isEmpty&&decide (r.mag.length≤24)&&decide (r.den.length≤24) &&
 decide (Nat.gcd (val r.mag) (val r.den)=1)
theorem atE{q:Rat}(h:fits q=true):(Q.raw (some q)).ok=true:=by
 simp only [fits,aG,decide_eq_true_eq]at h;obtain⟨h1,h2⟩:=h;have p:(1000000000:Nat) ^ 24≤1000000000 ^ 60:=eG (by omega) (by omega);unfold R.ok Q.raw;simp only [aG,decide_eq_true_eq,fQ,jc,List.isEmpty_eq_false_iff,val_mk];refine⟨⟨⟨⟨⟨⟨YB (by omega),?_⟩,YB (by omega)⟩,?_⟩,lK.2 h1⟩,lK.2 h2⟩,q.reduced⟩
 ·by_cases h0:q.num<0
  ·right;intro e;rw [alQ]at e;omega
  left;exact decide_eq_false h0
 intro e;rw [alQ]at e;exact q.den_nz e
theorem Dw{r:R}(h:r.ok=true):∃q:Rat,fits q=true∧r=Q.raw (some q):=by
 obtain⟨neg,mag,den⟩:=r;unfold R.ok at h;simp only [aG,decide_eq_true_eq,fQ,jc,List.isEmpty_eq_false_iff]at h;obtain⟨⟨⟨⟨⟨⟨h1,h2⟩,h3⟩,h4⟩,h5⟩,h6⟩,h7⟩:=h;have em:=NU h1;have ed:=NU h3;have hdn:val den≠0:=by intro e;rw [e,mk_zero]at ed;exact h4 ed
 refine⟨⟨if neg then -(val mag:Int)else val mag,val den,hdn,?_⟩,?_,?_⟩
 ·unfold Nat.Coprime
  cases neg<;>simpa using h7
 ·simp only [fits,aG,decide_eq_true_eq];rw [em]at h5;rw [ed]at h6;rw [lK]at h5 h6;refine⟨?_,h6⟩
  cases neg<;>simpa using h5
 simp only [Q.raw,R.mk.injEq];refine⟨?_,?_,ed⟩
 ·cases neg with
  |false=>simp
  |
   true =>
   simp only [if_true];rcases h2 with h2|h2
   ·cases h2
   have:val mag≠0:=by intro e;rw [e,mk_zero]at em;exact h2 em
   simp;omega
 have:(if neg=true then -(val mag:Int)else(val mag:Int)).natAbs=val mag:=by cases neg<;>simp
 rw [this];exact em
theorem aeh:(Q.raw none).ok=false:=by decide
def R.q(r:R):Q:=if r.ok=true then some (mkRat (if r.neg then -(val r.mag:Int)else val r.mag) (val r.den))else none
theorem Jd{q:Q}(h:q.ok):(Q.raw q).q=q:=by
 cases q with
 |none=>unfold R.q;rw [aeh];rfl
 |
  some q =>
  have h':fits q=true:=h;unfold R.q;rw [if_pos (atE h')]
  congr 1
  simp only [Q.raw,val_mk];have:(if decide (q.num<0)=true then -(q.num.natAbs:Int)else(q.num.natAbs:Int))=q.num:=by
   split
   ·rename_i h;have h:=of_decide_eq_true h;omega
   rename_i h;have h:¬q.num<0:=fun k=>h (decide_eq_true k);omega
  rw [this,Rat.mkRat_self]
theorem Qn(r:R):r.q.ok:=by
 by_cases h:r.ok=true
 ·obtain⟨q,h1,rfl⟩:=Dw h;rw [Jd (q:=some q) h1];exact h1
 unfold R.q;rw [if_neg h];trivial
theorem ax0{r:R}(h:r.ok=true):Q.raw r.q=r:=by
 obtain⟨q,h1,rfl⟩:=Dw h;rw [Jd (q:=some q) h1]
theorem agt{r:R}:r.q.isSome=r.ok:=by
 unfold R.q;split<;>simp_all
abbrev iv(n:Int):V:=.int .i64 n
structure Lk where
 a:Int
 b:Int
 w:R
 dx:R
 dy:R
 deriving Inhabited,DecidableEq
structure Pt where
 x:R
 y:R
 deriving Inhabited,DecidableEq
structure Pa where
 node:Int
 share:R
 dx:R
 dy:R
 deriving Inhabited,DecidableEq
structure Cd where
 node:Int
 total:R
 ps:List Pa
 deriving Inhabited,DecidableEq
structure Tn where
 node:Int
 up:Int
 own:List Lk
 cond:Cd
 msgs:List Lk
 Jm:R
 deriving Inhabited,DecidableEq
structure Po where
 turn:Int
 x:Int
 y:Int
 deriving Inhabited,DecidableEq
structure Bi where
 neg:Bool
 mag:List Int
 deriving Inhabited,DecidableEq
abbrev R.num(r:R):Bi:=⟨r.neg,r.mag⟩
abbrev Bi.cells(z:Bi):List V:=[.bool z.neg,ints z.mag]
abbrev R.cells(r:R):List V:=[.bool r.neg,ints r.mag,ints r.den]
abbrev Lk.cells(l:Lk):List V:=[iv l.a,iv l.b,.bool l.w.neg,ints l.w.mag,ints l.w.den,.bool l.dx.neg,ints l.dx.mag,ints l.dx.den,.bool l.dy.neg,ints l.dy.mag,ints l.dy.den]
abbrev Pt.cells(p:Pt):List V:=[.bool p.x.neg,ints p.x.mag,ints p.x.den,.bool p.y.neg,ints p.y.mag,ints p.y.den]
abbrev Pa.cells(p:Pa):List V:=[iv p.node,.bool p.share.neg,ints p.share.mag,ints p.share.den,.bool p.dx.neg,ints p.dx.mag,ints p.dx.den,.bool p.dy.neg,ints p.dy.mag,ints p.dy.den]
abbrev xJ(l:List Pa):V:=.sl 10 (l.map Pa.cells)
abbrev kY(l:List Lk):V:=.sl 11 (l.map Lk.cells)
abbrev D5(l:List Pt):V:=.sl 6 (l.map Pt.cells)
abbrev KI(l:List R):V:=.sl 3 (l.map R.cells)
abbrev Cd.cells(c:Cd):List V:=[iv c.node,.bool c.total.neg,ints c.total.mag,ints c.total.den,xJ c.ps]
abbrev Dx(l:List Cd):V:=.sl 5 (l.map Cd.cells)
abbrev Tn.cells(t:Tn):List V:=[iv t.node,iv t.up,kY t.own,iv t.cond.node,.bool t.cond.total.neg,ints t.cond.total.mag,ints t.cond.total.den,xJ t.cond.ps,kY t.msgs,
 .bool t.Jm.neg,ints t.Jm.mag,ints t.Jm.den]
abbrev aC4(l:List Tn):V:=.sl 12 (l.map Tn.cells)
abbrev SG(l:List (List R)):V:=.sl 1 (l.map fun r=>[KI r])
abbrev Po.cells(p:Po):List V:=[iv p.turn,iv p.x,iv p.y]
abbrev kN(r:R):V:=.agg r.cells
abbrev Oo(z:Bi):V:=.agg z.cells
abbrev QV(l:Lk):V:=.agg l.cells
abbrev ptV(p:Pt):V:=.agg p.cells
abbrev TQ(c:Cd):V:=.agg c.cells
theorem mg{α:Type} [Inhabited α] {l:List α} {f:α→List V} {j:Nat} (h:j<l.length):(l.map f).getD j []=f (l.getD j default):=by
 simp [ak,aB h]
theorem mg?{α:Type} [Inhabited α] {l:List α} {f:α→List V} {j:Nat} (h:j<l.length):(l.map f)[j]? = some (f (l.getD j default)):=by
 simp [ak,aB h]
theorem R.ext'{p q:R}(h1:p.neg=q.neg)(h2:p.mag=q.mag)(h3:p.den=q.den):p=q:=by cases p;cases q;simp_all
theorem Pt.ext'{p q:Pt}(h1:p.x=q.x)(h2:p.y=q.y):p=q:=by cases p;cases q;simp_all
theorem Lk.ext'{p q:Lk}(h1:p.a=q.a)(h2:p.b=q.b)(h3:p.w=q.w)(h4:p.dx=q.dx)(h5:p.dy=q.dy):p=q:=by cases p;cases q;simp_all
theorem Pa.ext'{p q:Pa}(h1:p.node=q.node)(h2:p.share=q.share)(h3:p.dx=q.dx)(h4:p.dy=q.dy):p=q:=by cases p;cases q;simp_all
theorem Cd.ext'{p q:Cd}(h1:p.node=q.node)(h2:p.total=q.total)(h3:p.ps=q.ps):p=q:=by cases p;cases q;simp_all
theorem Tn.ext'{p q:Tn}(h1:p.node=q.node)(h2:p.up=q.up)(h3:p.own=q.own)(h4:p.cond=q.cond)(h5:p.msgs=q.msgs)(h6:p.Jm=q.Jm):p=q:=by cases p;cases q;simp_all
def szr(left:Int)(n:Nat):Int:=if left<n then -1 else left-n
theorem XD{left:Int}{n:Nat}(h:szr left n<0)(h0:0≤left)(m:Nat):szr left (n+m) = -1:=by
 unfold szr at h ⊢;split at h
 ·rw [if_pos (by omega)]
 omega
theorem ab9{left:Int}{n:Nat}(h:¬szr left n<0)(m:Nat):szr (szr left n) m=szr left (n+m):=by
 unfold szr at h ⊢;split at h
 ·omega
 rename_i k;rw [if_neg k];by_cases e:left<((n+m:Nat):Int)
 ·rw [if_pos (by omega),if_pos e]
 rw [if_neg (by omega),if_neg e];omega
theorem YC{left:Int}{n:Nat}:szr left n≤left∨szr left n = -1:=by
 unfold szr;split<;>omega
def sumTo{α:Type}(f:α→Nat)(l:List α)(i:Nat):Nat:=((l.take i).map f).sum
theorem YD{α:Type}(f:α→Nat)(l:List α):sumTo f l 0=0:=by simp [sumTo]
theorem SH{α:Type} [Inhabited α] (f:α→Nat) {l:List α} {i:Nat} (h:i<l.length):sumTo f l (i+1)=sumTo f l i+f (l.getD i default):=by
 unfold sumTo;rw [dD,aB h,ak,aB h];simp only [Option.toList,Option.getD,bK,bC,fZ,List.sum_append,jU,List.sum_nil,gy]
theorem ajJ{α:Type}(f:α→Nat)(l:List α):sumTo f l l.length=(l.map f).sum:=by simp [sumTo]
theorem sumTo_le{α:Type}(f:α→Nat)(l:List α)(i:Nat):sumTo f l i≤(l.map f).sum:=by
 unfold sumTo
 conv=>rhs;rw [←fH i l]
 rw [bK,List.sum_append];omega
theorem YE{α:Type} [Inhabited α] (f:α→Nat) {l:List α} {i:Nat} (h:i<l.length):sumTo f l i+f (l.getD i default)≤(l.map f).sum:=by
 rw [←SH f h];exact sumTo_le f l _
def Dy{α:Type}(f:α→Nat)(l:List α):Nat:=l.length+(l.map f).sum
theorem vY{α:Type}(f:α→Nat)(l:List α):Dy f l=l.length+(l.map f).sum:=rfl
def R.sz(r:R):Nat:=r.mag.length+r.den.length
def Lk.sz(l:Lk):Nat:=l.w.sz+l.dx.sz+l.dy.sz
def Pt.sz(p:Pt):Nat:=p.x.sz+p.y.sz
def Pa.sz(p:Pa):Nat:=p.share.sz+p.dx.sz+p.dy.sz
def Cd.sz(c:Cd):Nat:=c.total.sz+Dy Pa.sz c.ps
def Tn.sz(t:Tn):Nat:=Dy Lk.sz t.own+t.cond.sz+Dy Lk.sz t.msgs+t.Jm.sz
def R.wf(r:R):Prop:=r.mag.length≤9223372036854775807∧r.den.length≤9223372036854775807
def Lk.wf(l:Lk):Prop:=l.w.wf∧l.dx.wf∧l.dy.wf
def Pt.wf(p:Pt):Prop:=p.x.wf∧p.y.wf
def Pa.wf(p:Pa):Prop:=p.share.wf∧p.dx.wf∧p.dy.wf
def Bg{α:Type}(f:α→Prop)(l:List α):Prop:=l.length≤9223372036854775807∧∀x∈l,f x
def Cd.wf(c:Cd):Prop:=c.total.wf∧Bg Pa.wf c.ps
def Tn.wf(t:Tn):Prop:=Bg Lk.wf t.own∧t.cond.wf∧Bg Lk.wf t.msgs∧t.Jm.wf
theorem Bg.at_{α:Type} [Inhabited α] {f:α→Prop} {l:List α} (h:Bg f l) {i:Nat} (hi:i<l.length):f (l.getD i default):=by
 refine h.2 _ ?_;simp [ak,aB hi]
theorem getD_mem{α:Type} [Inhabited α] {l:List α} {i:Nat} (hi:i<l.length):l.getD i default∈l:=by
 simp [ak,aB hi]
def KJ{α:Type}(l:List α)(z:α)(i:Nat):List α:=l.take i++List.replicate (l.length-i) z
theorem WQ{α:Type}(l:List α)(z:α):KJ l z 0=List.replicate l.length z:=by simp [KJ]
theorem YF{α:Type}(l:List α)(z:α):KJ l z l.length=l:=by simp [KJ]
theorem YG{α:Type}(l:List α)(z:α){i:Nat}(h:i≤l.length):(KJ l z i).length=l.length:=by simp [KJ];omega
theorem YH{α:Type} [Inhabited α] (l:List α) (z:α) {i:Nat} (h:i<l.length):(KJ l z i).set i (l.getD i default)=KJ l z (i+1):=by
 unfold KJ;have e:l.length-i=(l.length-(i+1))+1:=by omega
 rw [gG _ _ (by simp;omega),e,gB];have e2:i-(l.take i).length=0:=by simp;omega
 rw [e2,gU,dD,aB h,ak,aB h];simp only [Option.toList,Option.getD,bJ,bP,dL]
theorem NV{α:Type} [Inhabited α] {a b:List α} (hl:a.length=b.length) (h:∀j,j<a.length→a.getD j default=b.getD j default):a=b:=by
 refine List.ext_getElem hl fun i h1 h2=>?_;have:=h i h1;simpa [ak,h1,h2]using this
theorem map_set{α:Type}(f:α→List V)(l:List α)(i:Nat)(z:α):(l.map f).set i (f z)=(l.set i z).map f:=by simp [kC]
theorem Gp{α:Type}{f:α→List V}{l:List α}(h:∀x∈l,∀v∈f x,v.still=true):l7 (l.map f):=by
 intro r hr v hv;obtain⟨x,hx,rfl⟩:=bM.1 hr;exact h x hx v hv
end Go.Ml
namespace Go.Ml
theorem alU{left:Int}{n:Nat}(h:szr left n<0)(h0:0≤left):szr left n = -1:=XD h h0 0
theorem alV{left:Int}{n:Nat}(h:(n:Int)≤left):szr left n=left-n:=by unfold szr;rw [if_neg (by omega)]
theorem alW{left:Int}{n:Nat}(h:left<(n:Int)):szr left n = -1:=by unfold szr;rw [if_pos h]
theorem atF{left:Int}{n:Nat}(h:szr left n<0)(h0:0≤left):left<(n:Int):=by unfold szr at h;split at h<;>omega
theorem aia{left:Int}{n:Nat}(h:¬szr left n<0):(n:Int)≤left:=by unfold szr at h;split at h<;>omega
def Pn{α:Type}(f:α→List V)(l:List α)(z:List V)(i:Nat):List (List V):=(l.take i).map f++List.replicate (l.length-i) z
theorem agu{α:Type}(f:α→List V)(l:List α)(z:List V):Pn f l z 0=List.replicate l.length z:=by simp [Pn]
theorem ajK{α:Type}(f:α→List V)(l:List α)(z:List V):Pn f l z l.length=l.map f:=by simp [Pn]
theorem ajL{α:Type}(f:α→List V)(l:List α)(z:List V){i:Nat}(h:i≤l.length):(Pn f l z i).length=l.length:=by simp [Pn];omega
theorem ajM{α:Type} [Inhabited α] (f:α→List V) (l:List α) (z:List V) {i:Nat} (h:i<l.length):(Pn f l z i).set i (f (l.getD i default))=Pn f l z (i+1):=by
 unfold Pn;have e:l.length-i=(l.length-(i+1))+1:=by omega
 rw [gG _ _ (by simp;omega),e,gB];have e2:i-((l.take i).map f).length=0:=by simp;omega
 rw [e2,gU,dD,aB h,ak,aB h];simp only [Option.toList,Option.getD,bK,bC,fZ,bJ,bP,dL]
theorem ajN{α:Type}(f:α→List V)(l:List α)(z:List V){i:Nat}(h:i<l.length):(Pn f l z i)[i]? = some z:=by
 unfold Pn;rw [bI (by simp;omega)];have e2:i-((l.take i).map f).length=0:=by simp;omega
 rw [e2,show l.length-i=(l.length-(i+1))+1 by omega,gB];rfl
def VF(σ:Store)(s l:Nat)(o:Option Obj):Option V:=match o with
 |some ob=>if s+l≤ob.rows.length then(((ob.rows.drop s).take l).mapM fun (r:List V)=>r.mapM (resolve σ 11)).map (.sl ob.sz)else none
 |none=>none
def Uf(σ:Store)(s l:Nat)(o:Option Obj):Option V:=match o with
 |some ob=>if s+l≤ob.rows.length then(((ob.rows.drop s).take l).mapM fun (r:List V)=>r.mapM (resolve σ 10)).map (.sl ob.sz)else none
 |none=>none
theorem atG(σ:Store)(o s l:Nat):resolve σ FD (.kP o s l)=VF σ s l (jH σ o):=nr rfl
theorem apH(σ:Store)(o s l:Nat):resolve σ 11 (.kP o s l)=Uf σ s l (jH σ o):=nr rfl
@[congr] theorem aA8 {σ:Store} {s l:Nat} {o o':Option Obj} (h:wr o=o'):VF σ s l o=VF σ s l o':=by rw [←h,qG]
@[congr] theorem ax1 {σ:Store} {s l:Nat} {o o':Option Obj} (h:wr o=o'):Uf σ s l o=Uf σ s l o':=by rw [←h,qG]
theorem JO{σ:Store}{s l n:Nat}{rows:List (List V)}(hs:l7 rows)(h:s+l≤rows.length):VF σ s l (some ⟨n,rows⟩)=some (.sl n ((rows.drop s).take l)):=by
 unfold VF;simp only [];rw [if_pos h,zA (n:=10) (hs.part s l)];rfl
theorem Ug{σ:Store}{s l n:Nat}{rows:List (List V)}(hs:l7 rows)(h:s+l≤rows.length):Uf σ s l (some ⟨n,rows⟩)=some (.sl n ((rows.drop s).take l)):=by
 unfold Uf;simp only [];rw [if_pos h,zA (n:=9) (hs.part s l)];rfl
theorem atH{σ:Store}{s l n:Nat}{xs:List Int}(h:s+l≤xs.length):VF σ s l (some ⟨n,kF xs⟩)=some (.sl n (kF ((xs.drop s).take l))):=by
 rw [JO (pF xs) (by rw [zB];exact h),abW,abX]
theorem apI{σ:Store}{s l n:Nat}{xs:List Int}(h:s+l≤xs.length):Uf σ s l (some ⟨n,kF xs⟩)=some (.sl n (kF ((xs.drop s).take l))):=by
 rw [Ug (pF xs) (by rw [zB];exact h),abW,abX]
theorem vZ{α:Type}(f:α→List V)(L:List α)(s l:Nat):((L.map f).drop s).take l=((L.drop s).take l).map f:=by simp [jr,List.map_take]
theorem aei(L:List R):l7 (L.map R.cells):=Gp (by intro x _ v hv;simp at hv;rcases hv with rfl|rfl|rfl<;>rfl)
theorem arH(L:List Pt):l7 (L.map Pt.cells):=Gp (by intro x _ v hv;simp at hv;rcases hv with rfl|rfl|rfl|rfl|rfl|rfl<;>rfl)
theorem DV(L:List Lk):l7 (L.map Lk.cells):=Gp (by intro x _ v hv;simp at hv;rcases hv with rfl|rfl|rfl|rfl|rfl|rfl|rfl|rfl|rfl|rfl|rfl<;>rfl)
theorem Qo(L:List Pa):l7 (L.map Pa.cells):=Gp (by intro x _ v hv;simp at hv;rcases hv with rfl|rfl|rfl|rfl|rfl|rfl|rfl|rfl|rfl|rfl<;>rfl)
theorem RG(L:List Cd):l7 (L.map Cd.cells):=Gp (by intro x _ v hv;simp at hv;rcases hv with rfl|rfl|rfl|rfl|rfl<;>rfl)
theorem arI(L:List (List R)):l7 (L.map fun r=>[KI r]):=Gp (by intro x _ v hv;simp at hv;subst hv;rfl)
theorem atI{σ:Store}{s l n:Nat}{L:List R}(h:s+l≤L.length):VF σ s l (some ⟨n,L.map R.cells⟩)=some (.sl n (((L.drop s).take l).map R.cells)):=by rw [JO (aei L) (by simpa using h),vZ]
theorem apJ{σ:Store}{s l n:Nat}{L:List Pt}(h:s+l≤L.length):VF σ s l (some ⟨n,L.map Pt.cells⟩)=some (.sl n (((L.drop s).take l).map Pt.cells)):=by rw [JO (arH L) (by simpa using h),vZ]
theorem apK{σ:Store}{s l n:Nat}{L:List Lk}(h:s+l≤L.length):VF σ s l (some ⟨n,L.map Lk.cells⟩)=some (.sl n (((L.drop s).take l).map Lk.cells)):=by rw [JO (DV L) (by simpa using h),vZ]
theorem apL{σ:Store}{s l n:Nat}{L:List Pa}(h:s+l≤L.length):VF σ s l (some ⟨n,L.map Pa.cells⟩)=some (.sl n (((L.drop s).take l).map Pa.cells)):=by rw [JO (Qo L) (by simpa using h),vZ]
theorem alX{σ:Store}{s l n:Nat}{L:List Pa}(h:s+l≤L.length):Uf σ s l (some ⟨n,L.map Pa.cells⟩)=some (.sl n (((L.drop s).take l).map Pa.cells)):=by rw [Ug (Qo L) (by simpa using h),vZ]
theorem apM{σ:Store}{s l n:Nat}{L:List Cd}(h:s+l≤L.length):VF σ s l (some ⟨n,L.map Cd.cells⟩)=some (.sl n (((L.drop s).take l).map Cd.cells)):=by rw [JO (RG L) (by simpa using h),vZ]
theorem apN{σ:Store}{s l n:Nat}{L:List (List R)}(h:s+l≤L.length):VF σ s l (some ⟨n,L.map fun r=>[KI r]⟩)=some (.sl n (((L.drop s).take l).map fun r=>[KI r])):=by rw [JO (arI L) (by simpa using h),vZ]
def D8(σ:Store)(rows:List (List V)):List Nat:=rows.flatMap fun (r:List V)=>r.flatMap (reach σ 11)
def YI(σ:Store)(o:Option Obj):List Nat:=match o with
 |some ob=>D8 σ ob.rows
 |none=>[]
theorem atJ(σ:Store)(o s l:Nat):reach σ FD (.kP o s l)=o::YI σ (jH σ o):=nr rfl
@[congr] theorem aww {σ:Store} {o o':Option Obj} (h:wr o=o'):YI σ o=YI σ o':=by rw [←h,qG]
theorem alY(σ:Store)(n:Nat)(rows:List (List V)):YI σ (some ⟨n,rows⟩)=D8 σ rows:=nr rfl
theorem alZ(σ:Store):YI σ none=[]:=nr rfl
theorem Dz{σ:Store}{rows:List (List V)}(h:l7 rows):D8 σ rows=[]:=by
 unfold D8;rw [jw];intro r hr;rw [jw];intro v hv;exact DU (n:=10) (h r hr v hv)
theorem ajO(σ:Store)(xs:List Int):D8 σ (kF xs)=[]:=Dz (pF xs)
theorem ajP(σ:Store)(L:List R):D8 σ (L.map R.cells)=[]:=Dz (aei L)
theorem agv(σ:Store)(L:List Pt):D8 σ (L.map Pt.cells)=[]:=Dz (arH L)
theorem agw(σ:Store)(L:List Lk):D8 σ (L.map Lk.cells)=[]:=Dz (DV L)
theorem agx(σ:Store)(L:List Pa):D8 σ (L.map Pa.cells)=[]:=Dz (Qo L)
theorem agy(σ:Store)(L:List Cd):D8 σ (L.map Cd.cells)=[]:=Dz (RG L)
theorem agz(σ:Store)(L:List (List R)):D8 σ (L.map fun r=>[KI r])=[]:=Dz (arI L)
theorem aC5(sz:Nat)(r:List (List V)):scalar SD (.sl sz r)=false:=nr rfl
theorem atK:scalar SD .jL=true:=nr rfl
def aa7(n:Nat)(cs:List V):Bool:=cs.all (scalar n)
theorem ax2(cs:List V):scalar SD (.agg cs)=aa7 3 cs:=nr rfl
theorem ax3(cs:List V):scalar SD (.nK cs)=aa7 3 cs:=nr rfl
theorem apO(n:Nat):aa7 n []=true:=nr rfl
theorem apP(n:Nat)(c:V)(cs:List V):aa7 n (c::cs)=(scalar n c&&aa7 n cs):=nr rfl
theorem atL(q:IntKind)(n:Int):scalar 3 (.int q n)=true:=nr rfl
theorem apQ(b:Bool):scalar 3 (.bool b)=true:=nr rfl
theorem atM(s:List UInt8):scalar 3 (.str s)=true:=nr rfl
theorem apR:scalar 3 .jL=true:=nr rfl
theorem ax4(sz:Nat)(r:List (List V)):scalar 3 (.sl sz r)=false:=nr rfl
theorem atN(cs:List V):scalar 3 (.agg cs)=aa7 2 cs:=nr rfl
theorem atO(q:IntKind)(n:Int):scalar 2 (.int q n)=true:=nr rfl
theorem apS(b:Bool):scalar 2 (.bool b)=true:=nr rfl
theorem atP(s:List UInt8):scalar 2 (.str s)=true:=nr rfl
theorem apT:scalar 2 .jL=true:=nr rfl
theorem ax5(sz:Nat)(r:List (List V)):scalar 2 (.sl sz r)=false:=nr rfl
theorem aC6{t b:Int}(h:0≤t∧t≤9223372036854775807∧0<b):IntKind.i64.wrap (t.tdiv b)=t.tdiv b:=by
 rw [eU h.1];have h1:0≤t / b:=Int.ediv_nonneg h.1 (by omega);have h2:t / b≤t:=Int.ediv_le_self _ h.1;exact w64 (by omega)
theorem al0{α:Type}{l:List α}{n:Nat}(h:l.length≤n):l.take n=l:=aY h
theorem apU(env:Nat→V)(x:Src):I.reads env (.mM x)=[]:=by simp [I.reads,I.xB]
theorem apV(env:Nat→V)(x:Src):I.reads env (.box x)=[]:=by simp [I.reads,I.xB]
theorem al1(env:Nat→V)(x:Src):I.reads env (.adF x)=[]:=by simp [I.reads,I.xB]
theorem apW(env:Nat→V)(x:Src):I.reads env (.len x)=qV (x.ev env):=by simp [I.reads,I.xB]
theorem apX(env:Nat→V)(x:Src):I.reads env (.chk x)=qV (x.ev env):=by simp [I.reads,I.xB]
theorem apY(env:Nat→V)(d:Nat)(x:Src):I.reads env (.fld d x)=qV (x.ev env):=by simp [I.reads,I.xB]
theorem atQ(env:Nat→V)(d:UnOp)(x:Src):I.reads env (.un d x)=[]:=by simp [I.reads,I.xB]
theorem al2(env:Nat→V)(d:IntKind)(x:Src):I.reads env (.conv d x)=[]:=by simp [I.reads,I.xB]
theorem al3(env:Nat→V)(d:Nat)(x:Src):I.reads env (.Z8 d x)=[]:=by simp [I.reads,I.xB]
theorem al4(env:Nat→V)(n:Nat)(b:Bool)(x:Src):I.reads env (.load n b x)=qV (x.ev env):=by simp [I.reads,I.xB]
theorem al5(env:Nat→V)(z:List V)(n:Nat)(x:Src):I.reads env (.make z n x)=[]:=by simp [I.reads,I.xB]
theorem ajQ(env:Nat→V)(z:List V):I.reads env (.alloc z)=[]:=by simp [I.reads,I.xB]
theorem al6(env:Nat→V)(x y z:Src):I.reads env (.pick x y z)=[]:=by simp [I.reads,I.xB]
theorem ajR(env:Nat→V)(n:Nat)(x y:Src):I.reads env (.store n x y)=qV (x.ev env):=by simp [I.reads,I.xB]
theorem apZ(env:Nat→V)(n:Nat)(x y:Src):I.reads env (.idx n x y)=qV (x.ev env):=by simp [I.reads,I.xB]
theorem al7(env:Nat→V)(m n:Nat)(x y:Src):I.reads env (.FY m n x y)=qV (x.ev env):=by simp [I.reads,I.xB]
theorem al8(env:Nat→V)(x y:Src):I.reads env (.adD x y)=[]:=by simp [I.reads,I.xB]
theorem al9(env:Nat→V)(m:Nat)(x y:Src):I.reads env (.abK m x y)=[]:=by simp [I.reads,I.xB]
theorem ap0(env:Nat→V)(n:BinOp)(x y:Src):I.reads env (.bin n x y)=[]:=by simp [I.reads,I.xB]
theorem ap1(env:Nat→V)(n:Bool)(x y:Src):I.reads env (.beq n x y)=[]:=by simp [I.reads,I.xB]
theorem ap2(env:Nat→V)(m n:Nat)(x y:Src):I.reads env (.app m n x y)=qV (x.ev env)++qV (y.ev env):=by simp [I.reads,I.xB]
theorem ap3(env:Nat→V)(x y:Src):I.reads env (.max x y)=[]:=by simp [I.reads,I.xB]
theorem atS(env:Nat→V)(z:List V):I.reads env (.build z [])=[]:=by simp [I.reads,I.xB]
theorem atT(env:Nat→V)(z:List V)(a b:Nat)(x:Src)(l:List (Nat×Nat×Src)):I.reads env (.build z ((a,b,x)::l))=[]:=by simp [I.reads,I.xB]
theorem atU(env:Nat→V)(sz:Nat)(z:List V)(n:Nat):I.reads env (.ny sz z n [])=[]:=by simp [I.reads,I.xB]
theorem atV(env:Nat→V)(sz:Nat)(z:List V)(n a:Nat)(x:Src)(l:List (Nat×Src)):I.reads env (.ny sz z n ((a,x)::l))=[]:=by simp [I.reads,I.xB]
theorem ap4(q:IntKind)(n:Int):qV (.int q n)=[]:=nr rfl
theorem ama(b:Bool):qV (.bool b)=[]:=nr rfl
theorem ap5(b:List UInt8):qV (.str b)=[]:=nr rfl
theorem amb  : qV .jL=[]:=nr rfl
theorem ap6  : qV .one=[]:=nr rfl
theorem ap7  : qV .any=[]:=nr rfl
theorem atW(n:Nat)(r:List (List V)):qV (.sl n r)=[]:=nr rfl
theorem amc(r:List V)(n:Nat):qV (.oZ r n)=[]:=nr rfl
theorem ap8(r:List V):qV (.agg r)=[]:=nr rfl
theorem ap9(r:List V):qV (.nK r)=[]:=nr rfl
theorem aqa(o r k:Nat):qV (.ptr o r k)=[o]:=nr rfl
theorem aqb(o r k:Nat):qV (.kP o r k)=[o]:=nr rfl
end Go.Ml
end
section
set_option linter.defProp false
namespace Go.Ml
def EVp:=(ah (ah (ah (ah (ah (ah @Go.Ml.qG.{1} @Go.Ml.arz) (ah @Go.Ml.arA (ah @Go.Ml.wp_skip 
 @Go.Ml.aoZ))) (ah (ah @Go.Ml.ao0 @Go.Ml.wp_seq) (ah @Go.Ml.aly (ah @Go.Ml.wp_block @Go.Ml.wp_loop)))) (ah 
 (ah (ah @Go.Ml.wp_exit @Go.Ml.wp_ret) (ah @Go.Ml.asH (ah @Go.Ml.asI @Go.Ml.asJ))) (ah (ah @Go.Ml.asN 
 (ah @Go.Ml.asO @Go.Ml.asP)) (ah @Go.Ml.ao1 (ah @Go.Ml.ao2 @Go.Ml.asQ))))) (ah (ah (ah (ah 
 @Go.Ml.asR @Go.Ml.aCP) (ah @Go.Ml.aCQ (ah @Go.Ml.aCR @Go.Ml.asT))) (ah (ah @Go.Ml.aw9 (ah @Go.Ml.asG 
 @Go.Ml.axa)) (ah @Go.Ml.axb (ah @Go.Ml.axc @Go.Ml.axd)))) (ah (ah (ah @Go.Ml.alv @Go.Ml.axh) (ah 
 @Go.Ml.as1 (ah @Go.Ml.ao5 @Go.Ml.axi))) (ah (ah @Go.Ml.alO (ah @Go.Ml.apx @Go.Ml.apy)) (ah 
 @Go.Ml.alM (ah @Go.Ml.alN @Go.Ml.apz)))))) (ah (ah (ah (ah (ah @Go.Ml.apA @Go.Ml.as4) (ah 
 @Go.Ml.ao7 (ah @Go.Ml.ao8 @Go.Ml.ao9))) (ah (ah @Go.Ml.axj @Go.Ml.axk) (ah @Go.Ml.as5 (ah @Go.Ml.as6 
 @Go.Ml.as7)))) (ah (ah (ah @Go.Ml.axl @Go.Ml.as8) (ah @Go.Ml.axm (ah @Go.Ml.axn @Go.Ml.axo))) (ah 
 (ah @Go.Ml.axp (ah @Go.Ml.as9 @Go.Ml.axq)) (ah @Go.Ml.ata (ah @Go.Ml.axr @Go.Ml.apB))))) (ah (ah 
 (ah (ah @Go.Ml.alP @Go.Ml.atA) (ah @Go.Ml.atB (ah @Go.Ml.atC @Go.Ml.atD))) (ah (ah @Go.Ml.axt 
 (ah @Go.Ml.atd @Go.Ml.ate)) (ah @Go.Ml.atu (ah @Go.Ml.atv @Go.Ml.atw)))) (ah (ah (ah @Go.Ml.atx 
 @Go.Ml.apn) (ah @Go.Ml.apv (ah @Go.Ml.aCM @Go.Ml.aCN))) (ah (ah @Go.Ml.aoV (ah @Go.Ml.ajC @Go.Ml.asA)) 
 (ah @Go.Ml.asB (ah @Go.Ml.asC @Go.Ml.asD)))))))
def EVq:=(ah (ah (ah (ah (ah (ah (ah (ah @Go.Ml.aoT @Go.Ml.arz) (ah @Go.Ml.arA @Go.Ml.asx)) 
 (ah (ah @Go.Ml.asy @Go.Ml.aoS) (ah @Go.Ml.asz @Go.Ml.ajz))) (ah (ah (ah @Go.Ml.aoU @Go.Ml.aw5) 
 (ah @Go.Ml.aw6 @Go.Ml.alu)) (ah (ah @Go.Ml.ajA @Go.Ml.ajB) (ah @Go.Ml.ad5 (ah @Go.Ml.agf 
 @Go.Ml.ad6))))) (ah (ah (ah (ah @Go.Ml.agh @Go.Ml.ad7) (ah @Go.Ml.agi @Go.Ml.ajE)) 
 (ah (ah @Go.Ml.agj @Go.Ml.agk) (ah @Go.Ml.ad8 (ah @Go.Ml.agl @Go.Ml.asU)))) (ah (ah 
 (ah @Go.Ml.asV @Go.Ml.axe) (ah @Go.Ml.axf @Go.Ml.axg)) (ah (ah @Go.Ml.asW @Go.Ml.asX) (ah @Go.Ml.asZ 
 (ah @Go.Ml.asY @Go.Ml.axF)))))) (ah (ah (ah (ah (ah @Go.Ml.axG @Go.Ml.axH) (ah @Go.Ml.axu 
 @Go.Ml.axv)) (ah (ah @Go.Ml.axw @Go.Ml.axx) (ah @Go.Ml.axy (ah @Go.Ml.axz @Go.Ml.axA)))) (ah (ah 
 (ah @Go.Ml.axB @Go.Ml.axC) (ah @Go.Ml.axD @Go.Ml.axE)) (ah (ah @Go.Ml.atb @Go.Ml.atc) (ah @Go.Ml.w64 (ah 
 @Go.Ml.apa @Go.Ml.apb))))) (ah (ah (ah (ah @Go.Ml.apc @Go.Ml.apd) (ah @Go.Ml.ape @Go.Ml.alz)) 
 (ah (ah @Go.Ml.alA @Go.Ml.alB) (ah @Go.Ml.axI (ah @Go.Ml.atf @Go.Ml.axJ)))) (ah (ah (ah 
 @Go.Ml.atg @Go.Ml.axK) (ah @Go.Ml.aCY @Go.Ml.ath)) (ah (ah @Go.Ml.axL @Go.Ml.axM) (ah @Go.Ml.ati (ah 
 @Go.Ml.alC @Go.Ml.atj))))))) (ah (ah (ah (ah (ah (ah @Go.Ml.apf @Go.Ml.atl) (ah @Go.Ml.apg 
 @Go.Ml.atm)) (ah (ah @Go.Ml.axN @Go.Ml.aph) (ah @Go.Ml.aCZ (ah @Go.Ml.aC0 @Go.Ml.axO)))) (ah (ah 
 (ah @Go.Ml.atn @Go.Ml.axP) (ah @Go.Ml.ato @Go.Ml.aC1)) (ah (ah @Go.Ml.atp @Go.Ml.axQ) (ah @Go.Ml.aC2 
 (ah @Go.Ml.aC3 @Go.Ml.atq))))) (ah (ah (ah (ah @Go.Ml.apj @Go.Ml.atr) (ah @Go.Ml.apk @Go.Ml.axR)) 
 (ah (ah @Go.Ml.apl @Go.Ml.axS) (ah @Go.Ml.att (ah @Go.Ml.axT @Go.Ml.axU)))) (ah (ah (ah 
 @Go.Ml.axV @Go.Ml.axW) (ah @Go.Ml.aoW @Go.Ml.aoX)) (ah (ah @Go.Ml.aoY @Go.Ml.aw7) (ah @Go.Ml.aw8 (ah 
 @Go.Ml.asE @Go.Ml.asF)))))) (ah (ah (ah (ah (ah @Go.Ml.alx @Go.Ml.ajD) (ah @Go.Ml.asK 
 @Go.Ml.asL)) (ah (ah @Go.Ml.asM @Go.Ml.aCS) (ah @Go.Ml.aCT (ah @Go.Ml.aCU @Go.Ml.aCV)))) (ah (ah (ah 
 @Go.Ml.aCW @Go.Ml.zB) (ah @Go.Ml.apo @Go.Ml.aty)) (ah (ah @Go.Ml.atz @Go.Ml.apq) (ah @Go.Ml.apU (ah 
 @Go.Ml.apV @Go.Ml.al1))))) (ah (ah (ah (ah @Go.Ml.apW @Go.Ml.apX) (ah @Go.Ml.apY @Go.Ml.atQ)) 
 (ah (ah @Go.Ml.al2 @Go.Ml.al3) (ah @Go.Ml.al4 (ah @Go.Ml.al5 @Go.Ml.ajQ)))) (ah (ah 
 (ah @Go.Ml.al6 @Go.Ml.ajR) (ah @Go.Ml.apZ @Go.Ml.al7)) (ah (ah @Go.Ml.al8 @Go.Ml.al9) (ah 
 @Go.Ml.ap0 (ah @Go.Ml.ap1 @Go.Ml.ap2)))))))) (ah (ah (ah (ah (ah (ah (ah @Go.Ml.ap3 
 @Go.Ml.atS) (ah @Go.Ml.atT @Go.Ml.atU)) (ah (ah @Go.Ml.atV @Go.Ml.ap4) (ah @Go.Ml.ama @Go.Ml.ap5))) 
 (ah (ah (ah @Go.Ml.amb @Go.Ml.ap6) (ah @Go.Ml.ap7 @Go.Ml.atW)) (ah (ah @Go.Ml.amc @Go.Ml.ap8) 
 (ah @Go.Ml.ap9 (ah @Go.Ml.aqa @Go.Ml.aqb))))) (ah (ah (ah (ah @Int.toNat_zero @Int.toNat_one) (ah 
 @Go.Ml.aC6 @Bool.false_and)) (ah (ah @Bool.true_and @Bool.and_false) (ah @Go.Ml.atG (ah @Go.Ml.apH @Go.Ml.atH)))) 
 (ah (ah (ah @Go.Ml.apI @Go.Ml.atI) (ah @Go.Ml.apJ @Go.Ml.apK)) (ah (ah @Go.Ml.apL @Go.Ml.alX) 
 (ah @Go.Ml.apM (ah @Go.Ml.apN @Go.Ml.atJ)))))) (ah (ah (ah (ah (ah @Go.Ml.alY @Go.Ml.alZ) 
 (ah @Go.Ml.ajO @Go.Ml.ajP)) (ah (ah @Go.Ml.agv @Go.Ml.agw) (ah @Go.Ml.agx (ah 
 @Go.Ml.agy @Go.Ml.agz)))) (ah (ah (ah @Go.Ml.aC5 @Go.Ml.atK) (ah @Go.Ml.ax2 @Go.Ml.ax3)) (ah (ah 
 @Go.Ml.apO @Go.Ml.apP) (ah @Go.Ml.atL (ah @Go.Ml.apQ @Go.Ml.atM))))) (ah (ah (ah (ah @Go.Ml.apR 
 @Go.Ml.ax4) (ah @Go.Ml.atN @Go.Ml.atO)) (ah (ah @Go.Ml.apS @Go.Ml.atP) (ah @Go.Ml.apT (ah @Go.Ml.ax5 
 @Go.Ml.al0)))) (ah (ah (ah @Go.Ml.apw @Nat.le_refl) (ah @List.replicate_succ.{0} @List.replicate_zero.{0})) (ah 
 (ah @List.take_length.{0} @Go.Ml.aCL) (ah @Go.Ml.w8u (ah @Go.Ml.aCK @Go.Ml.abX))))))) (ah (ah (ah (ah 
 (ah (ah @Go.Ml.abW @Nat.sub_zero) (ah @implies_true.{0} @false_implies)) (ah (ah @true_implies @List.length_map.{0,0}) 
 (ah @true_or (ah @or_true @Bool.beq_eq_decide_eq.{0})))) (ah (ah (ah @List.set_cons_zero.{0} @List.set_cons_succ.{0}) 
 (ah @Go.Ml.aps @Go.Ml.apt)) (ah (ah @Go.Ml.ah7 @Go.Ml.alF) (ah @Go.Ml.alK (ah @Go.Ml.alL 
 @Go.Ml.alH))))) (ah (ah (ah (ah @Go.Ml.apu @Go.Ml.alI) (ah @Go.Ml.ajG @Go.Ml.alJ)) (ah 
 (ah @Go.Ml.tH @Go.Ml.ajH) (ah @List.reverse_cons.{0} (ah @List.reverse_nil.{0} @List.nil_append.{0})))) (ah (ah 
 (ah @List.cons_append.{0} @List.append_nil.{0}) (ah @List.length_cons.{0} @List.length_nil.{0})) (ah (ah 
 @List.getElem?_cons_zero.{0} @List.getElem?_cons_succ.{0}) (ah @Nat.zero_add (ah @Nat.add_zero @ite_self.{1})))))) (ah (ah 
 (ah (ah (ah @ite_true.{1} @ite_false.{1}) (ah @if_true.{1} @if_false.{1})) (ah (ah @eq_self.{1} @and_true) (ah 
 @true_and (ah @and_self @Bool.not_true)))) (ah (ah (ah @Bool.not_false @Bool.true_eq_false) (ah @Bool.false_eq_true 
 @Bool.not_eq_true')) (ah (ah @decide_eq_true_eq @decide_eq_false_iff_not) (ah @Bool.not_eq_eq_eq_not (ah @Option.map_some.{0,0} 
 @Option.map_none.{0,0}))))) (ah (ah (ah (ah @Int.toNat_natCast @List.drop_zero.{0}) (ah @List.drop_succ_cons.{0} 
 @List.take_succ_cons.{0})) (ah (ah @List.take_zero.{0} @List.all_cons.{0}) (ah @List.all_nil.{0} (ah @Bool.and_true 
 @Bool.and_self)))) (ah (ah (ah @Go.Ml.Ex.exit.injEq @not_false_eq_true) (ah @not_true_eq_false @decide_true)) (ah (ah 
 @decide_false @ite_not.{1}) (ah @decide_not (ah @Bool.not_not @ne_eq.{1})))))))))
theorem ev{P Q:Prop}(h:Q)(e:P=Q:=by conv=>lhs;simp (maxSteps:=1000000) (disch:=first|omega|assumption|(simp;done)|(simp;omega)) only [↓EVp,EVq,splice,Nat.reduceAdd,Nat.reduceEqDiff,Nat.reduceMul,Nat.reduceLT,Nat.reduceLeDiff,reduceIte,V.leaf,MS,NQ,PN,bU,dG,dR,dJ,eu,reduceCtorEq]):P:=Eq.mpr (e) h
theorem ev1{P Q A1:Prop}(x1:A1)(h:Q)(e:A1→P=Q:=by intro x1;conv=>lhs;simp (maxSteps:=1000000) (disch:=first|omega|assumption|(simp;done)|(simp;omega)) only [↓EVp,EVq,splice,Nat.reduceAdd,Nat.reduceEqDiff,Nat.reduceMul,Nat.reduceLT,Nat.reduceLeDiff,reduceIte,V.leaf,MS,NQ,PN,bU,dG,dR,dJ,eu,reduceCtorEq,x1]):P:=Eq.mpr (e x1) h
theorem qW{P Q A1 A2:Prop}(x1:A1)(x2:A2)(h:Q)(e:A1→A2→P=Q:=by intro x1 x2;conv=>lhs;simp (maxSteps:=1000000) (disch:=first|omega|assumption|(simp;done)|(simp;omega)) only [↓EVp,EVq,splice,Nat.reduceAdd,Nat.reduceEqDiff,Nat.reduceMul,Nat.reduceLT,Nat.reduceLeDiff,reduceIte,V.leaf,MS,NQ,PN,bU,dG,dR,dJ,eu,reduceCtorEq,x1,x2]):P:=Eq.mpr (e x1 x2) h
theorem zl{P Q A1 A2 A3:Prop}(x1:A1)(x2:A2)(x3:A3)(h:Q)(e:A1→A2→A3→P=Q:=by intro x1 x2 x3;conv=>lhs;simp (maxSteps:=1000000) (disch:=first|omega|assumption|(simp;done)|(simp;omega)) only [↓EVp,EVq,splice,Nat.reduceAdd,Nat.reduceEqDiff,Nat.reduceMul,Nat.reduceLT,Nat.reduceLeDiff,reduceIte,V.leaf,MS,NQ,PN,bU,dG,dR,dJ,eu,reduceCtorEq,x1,x2,x3]):P:=Eq.mpr (e x1 x2 x3) h
theorem ev4{P Q A1 A2 A3 A4:Prop}(x1:A1)(x2:A2)(x3:A3)(x4:A4)(h:Q)(e:A1→A2→A3→A4→P=Q:=by intro x1 x2 x3 x4;conv=>lhs;simp (maxSteps:=1000000) (disch:=first|omega|assumption|(simp;done)|(simp;omega)) only [↓EVp,EVq,splice,Nat.reduceAdd,Nat.reduceEqDiff,Nat.reduceMul,Nat.reduceLT,Nat.reduceLeDiff,reduceIte,V.leaf,MS,NQ,PN,bU,dG,dR,dJ,eu,reduceCtorEq,x1,x2,x3,x4]):P:=Eq.mpr (e x1 x2 x3 x4) h
theorem ev5{P Q A1 A2 A3 A4 A5:Prop}(x1:A1)(x2:A2)(x3:A3)(x4:A4)(x5:A5)(h:Q)(e:A1→A2→A3→A4→A5→P=Q:=by intro x1 x2 x3 x4 x5;conv=>lhs;simp (maxSteps:=1000000) (disch:=first|omega|assumption|(simp;done)|(simp;omega)) only [↓EVp,EVq,splice,Nat.reduceAdd,Nat.reduceEqDiff,Nat.reduceMul,Nat.reduceLT,Nat.reduceLeDiff,reduceIte,V.leaf,MS,NQ,PN,bU,dG,dR,dJ,eu,reduceCtorEq,x1,x2,x3,x4,x5]):P:=Eq.mpr (e x1 x2 x3 x4 x5) h
theorem ev6{P Q A1 A2 A3 A4 A5 A6:Prop}(x1:A1)(x2:A2)(x3:A3)(x4:A4)(x5:A5)(x6:A6)(h:Q)(e:A1→A2→A3→A4→A5→A6→P=Q:=by intro x1 x2 x3 x4 x5 x6;conv=>lhs;simp (maxSteps:=1000000) (disch:=first|omega|assumption|(simp;done)|(simp;omega)) only [↓EVp,EVq,splice,Nat.reduceAdd,Nat.reduceEqDiff,Nat.reduceMul,Nat.reduceLT,Nat.reduceLeDiff,reduceIte,V.leaf,MS,NQ,PN,bU,dG,dR,dJ,eu,reduceCtorEq,x1,x2,x3,x4,x5,x6]):P:=Eq.mpr (e x1 x2 x3 x4 x5 x6) h
abbrev oN(d:Nat)(i:I):qh:=⟨none,some d,0,i,[]⟩
abbrev oS(i:I):qh:=⟨none,none,0,i,[]⟩
abbrev oG(g:Nat)(b:Bool)(d:Nat)(i:I):qh:=⟨some (g,b),some d,0,i,[]⟩
abbrev oK(d k:Nat)(i:I):qh:=⟨none,some d,k,i,[]⟩
abbrev oA(d k:Nat)(i:I)(a:List Nat):qh:=⟨none,some d,k,i,a⟩
abbrev oH(g:Nat)(b:Bool)(d k:Nat)(i:I)(a:List Nat):qh:=⟨some (g,b),some d,k,i,a⟩
abbrev oV(n:Nat):I:=.mM (.t n)
abbrev cI(n:Int):Src:=.c (.int .i64 n)
end Go.Ml
end
namespace Go.Ml
abbrev nR:Nat→Nat→Bool:=fun _ _=>false
def oW(d n:Nat):qh:=⟨none,some d,0,.mM (.t n),[]⟩
def mF:I:=.mM (.c (.bool false))
def mT:I:=.mM (.c (.bool true))
def mN:I:=.mM (.c .jL)
def lT(n a:Nat):I:=.load n true (.t a)
def lF(n a:Nat):I:=.load n false (.t a)
def ix(n a b:Nat):I:=.idx n (.t a) (.t b)
def ln(a:Nat):I:=.len (.t a)
def fd(n a:Nat):I:=.fld n (.t a)
def ex(n a:Nat):I:=.Z8 n (.t a)
def nt(a:Nat):I:=.un .not (.t a)
def bt(o:BinOp)(a b:Nat):I:=.bin o (.t a) (.t b)
def bc(o:BinOp)(a:Nat)(n:Int):I:=.bin o (.t a) (.c (.int .i64 n))
def cd(a:Nat)(c e:C):C:=.cond (.t a) c e
def rf(n:Nat)(l:List qh):C:=.reg false n l
def rt(n:Nat)(l:List qh):C:=.reg true n l
def rg(l:List qh):C:=.reg false 0 l
def sr(l:List qh)(c:C):C:=.seq (.reg false 0 l) c
def qL:List V:=[.bool false,.jL,.jL]
def D6:List V:=[.int .i64 0,.int .i64 0,.bool false,.jL,.jL,.bool false,.jL,.jL,.bool false,.jL,.jL]
def F8:List V:=[.int .i64 0]
def QW:List V:=[.int .i64 0,.bool false,.jL,.jL,.jL]
def VG:List V:=[.int .i64 0,.bool false,.jL,.jL,.bool false,.jL,.jL,.bool false,.jL,.jL]
def Z4:List V:=[.bool false,.jL]
def zz6:List V:=[.bool false,.jL,.jL,.bool false,.jL,.jL]
def zz7:List V:=[.bool false,.bool false,.bool false,.bool false,.bool false,.bool false,.bool false,.bool false,.bool false,.bool false,.bool false,.bool false,.bool false,.bool false,.bool false,.bool false,.bool false,.bool false,.bool false,.bool false,.bool false,.bool false,.bool false,.bool false,.bool false,.bool false,.bool false,.bool false,.bool false,.bool false,.bool false,.bool false,.bool false,.bool false,.bool false,.bool false,.bool false,.bool false,.bool false,.bool false,.bool false,.bool false,.bool false,.bool false,.bool false,.bool false,.bool false,.bool false,.bool false,.bool false,.bool false,.bool false,.bool false,.bool false,.bool false,.bool false,.bool false,.bool false,.bool false,.bool false,.bool false,.bool false,.bool false,.bool false,.bool false,.bool false,.bool false,.bool false,.bool false,.bool false,.bool false,.bool false,.bool false,.bool false,.bool false,.bool false,.bool false,.bool false,.bool false,.bool false,.bool false,.bool false,.bool false,.bool false,.bool false,.bool false,.bool false,.bool false,.bool false,.bool false,.bool false,.bool false,.bool false,.bool false,.bool false,.bool false,.bool false,.bool false,.bool false,.bool false]
def cl(f:Nat)(l:List Nat):I:=.call f (l.map .t)
theorem Lz:(∀(d:Nat),∀(i:I),oN d i=(⟨none,some d,0,i,[]⟩:qh))∧(∀(i:I),oS i=(⟨none,none,0,i,[]⟩:qh))∧(∀(g:Nat),∀(b:Bool),∀(d:Nat),∀(i:I),oG g b d i=(⟨some (g,b),some d,0,i,[]⟩:qh))∧(∀(d k:Nat),∀(i:I),oK d k i=(⟨none,some d,k,i,[]⟩:qh))∧(∀(d k:Nat),∀(i:I),∀(a:List Nat),oA d k i a=(⟨none,some d,k,i,a⟩:qh))∧(∀(g:Nat),∀(b:Bool),∀(d k:Nat),∀(i:I),∀(a:List Nat),oH g b d k i a=(⟨some (g,b),some d,k,i,a⟩:qh))∧(∀(n:Nat),oV n=(.mM (.t n):I))∧(∀(n:Int),cI n=(.c (.int .i64 n):Src))∧(∀(d n:Nat),oW d n=(⟨none,some d,0,.mM (.t n),[]⟩:qh))∧(mF=(.mM (.c (.bool false)):I))∧(mT=(.mM (.c (.bool true)):I))∧(mN=(.mM (.c .jL):I))∧(∀(n a:Nat),lT n a=(.load n true (.t a):I))∧(∀(n a:Nat),lF n a=(.load n false (.t a):I))∧(∀(n a b:Nat),ix n a b=(.idx n (.t a) (.t b):I))∧(∀(a:Nat),ln a=(.len (.t a):I))∧(∀(n a:Nat),fd n a=(.fld n (.t a):I))∧(∀(n a:Nat),ex n a=(.Z8 n (.t a):I))∧(∀(a:Nat),nt a=(.un .not (.t a):I))∧(∀(o:BinOp),∀(a b:Nat),bt o a b=(.bin o (.t a) (.t b):I))∧(∀(o:BinOp),∀(a:Nat),∀(n:Int),bc o a n=(.bin o (.t a) (.c (.int .i64 n)):I))∧(∀(a:Nat),∀(c e:C),cd a c e=(.cond (.t a) c e:C))∧(∀(n:Nat),∀(l:List qh),rf n l=(.reg false n l:C))∧(∀(n:Nat),∀(l:List qh),rt n l=(.reg true n l:C))∧(∀(l:List qh),rg l=(.reg false 0 l:C))∧(∀(l:List qh),∀(c:C),sr l c=(.seq (.reg false 0 l) c:C))∧(qL=([.bool false,.jL,.jL]:List V))∧(D6=([.int .i64 0,.int .i64 0,.bool false,.jL,.jL,.bool false,.jL,.jL,.bool false,.jL,.jL]:List V))∧(F8=([.int .i64 0]:List V))∧(QW=([.int .i64 0,.bool false,.jL,.jL,.jL]:List V))∧(VG=([.int .i64 0,.bool false,.jL,.jL,.bool false,.jL,.jL,.bool false,.jL,.jL]:List V))∧(Z4=([.bool false,.jL]:List V))∧(zz6=([.bool false,.jL,.jL,.bool false,.jL,.jL]:List V))∧(zz7=([.bool false,.bool false,.bool false,.bool false,.bool false,.bool false,.bool false,.bool false,.bool false,.bool false,.bool false,.bool false,.bool false,.bool false,.bool false,.bool false,.bool false,.bool false,.bool false,.bool false,.bool false,.bool false,.bool false,.bool false,.bool false,.bool false,.bool false,.bool false,.bool false,.bool false,.bool false,.bool false,.bool false,.bool false,.bool false,.bool false,.bool false,.bool false,.bool false,.bool false,.bool false,.bool false,.bool false,.bool false,.bool false,.bool false,.bool false,.bool false,.bool false,.bool false,.bool false,.bool false,.bool false,.bool false,.bool false,.bool false,.bool false,.bool false,.bool false,.bool false,.bool false,.bool false,.bool false,.bool false,.bool false,.bool false,.bool false,.bool false,.bool false,.bool false,.bool false,.bool false,.bool false,.bool false,.bool false,.bool false,.bool false,.bool false,.bool false,.bool false,.bool false,.bool false,.bool false,.bool false,.bool false,.bool false,.bool false,.bool false,.bool false,.bool false,.bool false,.bool false,.bool false,.bool false,.bool false,.bool false,.bool false,.bool false,.bool false,.bool false]:List V))∧(nR=fun _ _=>false)∧(∀f:Nat,cl f []=.call f [])∧(∀f a:Nat,cl f [a]=.call f [.t a])∧(∀f a b:Nat,cl f [a,b]=.call f [.t a,.t b])∧(∀f a b c:Nat,cl f [a,b,c]=.call f [.t a,.t b,.t c])∧(∀f a b c d:Nat,cl f [a,b,c,d]=.call f [.t a,.t b,.t c,.t d])∧(∀f a b c d e:Nat,cl f [a,b,c,d,e]=.call f [.t a,.t b,.t c,.t d,.t e])∧(∀f a b c d e f:Nat,cl f [a,b,c,d,e,f]=.call f [.t a,.t b,.t c,.t d,.t e,.t f])∧(∀f a b c d e f g:Nat,cl f [a,b,c,d,e,f,g]=.call f [.t a,.t b,.t c,.t d,.t e,.t f,.t g])∧(∀f a b c d e f g h:Nat,cl f [a,b,c,d,e,f,g,h]=.call f [.t a,.t b,.t c,.t d,.t e,.t f,.t g,.t h]) :=
 ⟨fun _ _=>rfl,fun _=>rfl,fun _ _ _ _=>rfl,fun _ _ _=>rfl,fun _ _ _ _=>rfl,fun _ _ _ _ _ _=>rfl,fun _=>rfl,fun _=>rfl,fun _ _=>rfl,rfl,rfl,rfl,fun _ _=>rfl,fun _ _=>rfl,fun _ _ _=>rfl,fun _=>rfl,fun _ _=>rfl,fun _ _=>rfl,fun _=>rfl,fun _ _ _=>rfl,fun _ _ _=>rfl,fun _ _ _=>rfl,fun _ _=>rfl,fun _ _=>rfl,fun _=>rfl,fun _ _=>rfl,rfl,rfl,rfl,rfl,rfl,rfl,rfl,rfl,rfl,fun _=>rfl,fun _ _=>rfl,fun _ _ _=>rfl,fun _ _ _ _=>rfl,fun _ _ _ _ _=>rfl,fun _ _ _ _ _ _=>rfl,fun _ _ _ _ _ _ _=>rfl,fun _ _ _ _ _ _ _ _=>rfl,fun _ _ _ _ _ _ _ _ _=>rfl⟩
end Go.Ml
namespace Go.Ml
theorem zX{l:List V}{env:Nat→V}(h:NS l 0 env:=by (try (refine ev ?_;try with_reducible exact True.intro))<;>(repeat' (first|refine⟨?_,?_⟩|exact vH (by omega)|exact xH (by simp)|exact vI _))):NS l 0 env:=h
end Go.Ml
section
namespace Go.Ml
def slV:Nat→V
 |0=>.jL
 |n+1=>.kP 0 0 (n+1)
def VH(n:Nat):List (List V)→Store
 | []=>[]
 |r::rs=>[some ⟨n,r::rs⟩]
theorem qX:slV 0=.jL:=nr rfl
theorem qH(n:Nat):slV (n+1)=.kP 0 0 (n+1):=nr rfl
theorem aek(n:Nat):VH n []=[]:=nr rfl
theorem aa8(n:Nat)(r:List V)(rs:List (List V)):VH n (r::rs)=[some ⟨n,r::rs⟩]:=nr rfl
theorem amd(n:Nat)(rows:List (List V))(r:List V):VH n (rows++[r])=[some ⟨n,rows++[r]⟩]:=by cases rows<;>rfl
theorem JQ{vs:List V}{env:Nat→V}{σ:Store}{b1 b2 n k:Nat}{r1 r2 m1 m2:List Nat}{rows:List (List V)}{r:List V}(hs:l7 (rows++[r]))
  (h:jH σ k=some ⟨n,rows++[r]⟩) (he:Jl [some (k,0,rows.length+1)] σ vs 0 env):Fg ⟨kX vs,VH n (rows++[r]),0,b1,r1,m1⟩ ⟨env,σ,0,b2,r2,m2⟩:=by
 rw [amd];refine KH [(k,⟨n,rows++[r]⟩)] (by simp) ?_ rfl (by simpa using he);intro p hp;simp only [aH,bV,or_false]at hp;subst hp;exact⟨h,hs⟩
theorem Ac{σ:Store}{k l n m:Nat}(hl:l≤m)(e:n=l)(h0:0<n):OA [some (k,0,m)] σ (slV n) (.kP k 0 l):=by
 subst e;obtain⟨j,rfl⟩:∃j,n=j+1:=⟨n-1,by omega⟩;rw [qH];exact mW rfl hl rfl
theorem kH{T:Tb}{f:Nat}{F:Fn}{args:List V}{r:V}(rf:Nat→Nat→Bool)(hT:T f=some F)
  (h:wp T rf F.body (fun e st=>apm F.res e (lW r) st) (St.enter args [])) (hl:args.length=F.nargs:=by rfl) (hk:F.body.okC=true:=by rfl):PF T f args r:=by
 obtain⟨e,st',h1,h2⟩:=Bd hk h;have h3:(e=.normal∨e=.ret)∧PS F.res [] st' (lW r):=by
  cases e with
  |normal=>exact⟨.inl rfl,h2⟩
  |ret=>exact⟨.inr rfl,h2⟩
  |exit id=>exact h2.elim
 obtain⟨he,h3⟩:=h3;have:=VD _ _ h3;obtain⟨rs,e1,h4⟩:=lU this;obtain⟨r',e2,h5⟩:=lU h4;exact .afV (Aa _) (.frz (.fn hT hl h1 he e1) e2) h5
theorem ame(q:IntKind)(a b:Int):lW (.int q a) (.int q b)=(b=a):=by simp [lW]
theorem Ku(a b:Bool):lW (.bool a) (.bool b)=(b=a):=by simp [lW]
theorem mX(sz:Nat):lW (.sl sz []) .jL=True:=by simp [lW]
theorem NW(xs ys:List V):lW (.agg xs) (.agg ys)=uG xs ys:=by simp [lW]
theorem SI:uG [] []=True:=by simp [uG]
theorem SK(x y:V)(xs ys:List V):uG (x::xs) (y::ys)=(lW x y∧uG xs ys):=by
 simp only [uG,List.cons.injEq];exact propext ⟨fun ⟨_,_,⟨e1,e2⟩,h1,h2⟩=>by subst e1;subst e2;exact⟨h1,h2⟩,fun ⟨h1,h2⟩=>⟨y,ys,⟨rfl,rfl⟩,h1,h2⟩⟩
theorem Uh{T:Tb}{f:Nat}{as as':List V}{k:V→Prop}{r:V}(h:PF T f as' r)(ha:uG as' as)(hk:k r):PFK T f as k:=⟨r,h.lax ha (kE r),hk⟩
theorem sO(l:List Int)(d:Int):kF l++[[V.int .i64 d]]=kF (l++[d]):=by simp [kF]
theorem EVi:(∀x:Int,[[V.int .i64 x]]=kF [x])∧(∀(x:Int) (l:List Int),[V.int .i64 x]::kF l=kF (x::l))∧(∀(l:List Int) (x:Int),kF l++[[V.int .i64 x]]=kF (l++[x])) ∧
  (∀l m:List Int,kF l++kF m=kF (l++m)) :=
 ⟨fun _=>rfl,fun _ _=>rfl,fun l x=>by simp [kF],fun l m=>by simp [kF]⟩
theorem OE{l:List Int}:kF l=[]↔l=[]:=by simp [kF]
theorem mO:VH 1 (kF [])=[]:=rfl
theorem lI(x:Int)(l:List Int):VH 1 (kF (x::l))=[some ⟨1,kF (x::l)⟩]:=rfl
theorem Je(l:List Int)(d:Int):l7 (kF l++[[V.int .i64 d]]):=by rw [sO];exact pF _
theorem ajS:kF []=[]:=rfl
theorem YJ(x:Int)(l:List Int):kF (x::l)=[V.int .i64 x]::kF l:=rfl
theorem SL{t:Int}(h:0≤t):t.tmod 1000000000=t % 1000000000:=gI h
theorem SN{t:Int}(h:0≤t):t.tdiv 1000000000=t / 1000000000:=eU h
theorem ael{N i va vb va' vb':Nat}{xs:List Int}{c x y:Int}(hl:xs.length=i)(hc:0≤c)(hx:0≤x)(hy:0≤y)
  (h:val xs+1000000000 ^ i*(c.toNat+va+vb)=N) (ha:va=x.toNat+1000000000*va') (hb:vb=y.toNat+1000000000*vb') :
  val (xs++[(c+x+y) % 1000000000])+1000000000 ^ (i+1)*(((c+x+y) / 1000000000).toNat+va'+vb')=N:=by
 rw [xX,hl,iC];have e:c.toNat+va+vb=((c+x+y) % 1000000000).toNat+1000000000*(((c+x+y) / 1000000000).toNat+va'+vb'):=by omega
 rw [e,iQ,←eY]at h;omega
theorem aem{vx va vb p x y d bo bo':Nat}(h:vx+vb=va+bo*p)(hd:d+y+bo=x+bo'*1000000000) :
  (vx+p*d)+(vb+p*y)=(va+p*x)+bo'*(p*1000000000):=by
 have e:=congrArg (fun z=>p*z) hd;simp only [iQ]at e;have e1:p*bo=bo*p:=dH _ _;have e2:p*(bo'*1000000000)=bo'*(p*1000000000):=by rw [←eY,dH p bo',eY]
 omega
theorem aaj{l:List Int}{i:Nat}{d:Int}(h:i<l.length):(l.set i d).take (i+1)=l.take i++[d]:=by
 rw [oD (by simpa using h)]
 congr 1
 ·rw [List.take_set,List.set_eq_of_length_le (by simp;omega)]
 simp [ak,h]
theorem aeo{vp vp' V0 a p q pb x y:Nat}{c t:Nat}
  (h:vp+c*(p*q)=V0+a*(p*pb)) (hs:vp'+(p*q)*x=vp+(p*q)*(t % 1000000000)) (ht:t=c+x+a*y) :
  vp'+t / 1000000000*(p*(q*1000000000))=V0+a*(p*(pb+q*y)):=by
 have e1:(p*q)*(t % 1000000000)+t / 1000000000*(p*(q*1000000000))=(p*q)*t:=by
  have:t / 1000000000*(p*(q*1000000000))=(p*q)*(1000000000*(t / 1000000000)):=by
   rw [←eY p q,dH (t / 1000000000),eY]
  rw [this,←iQ]
  congr 1
  omega
 have e2:(p*q)*t=(p*q)*c+(p*q)*x+(p*q)*(a*y):=by rw [ht,iQ,iQ]
 have e3:a*(p*(pb+q*y))=a*(p*pb)+(p*q)*(a*y):=by
  rw [iQ,iQ,←eY p q y]
  congr 1
  rw [←eY,dH a (p*q),eY]
 have e4:c*(p*q)=(p*q)*c:=dH _ _;omega
theorem OG{a b q r:Nat}(h:a=q*b+r)(hr:r<b):q=a / b∧r=a % b:=by
 have hb:0<b:=by omega
 subst h;constructor
 ·rw [dH,Nat.mul_add_div hb,Nat.div_eq_of_lt hr,gy]
 rw [dH,Nat.mul_add_mod,Nat.mod_eq_of_lt hr]
end Go.Ml
namespace Go.Ml
theorem WR{l:List Int}(i:Nat):val (l.drop i)≤val l:=by
 rw [Bf l i];have:val (l.drop i)≤1000000000 ^ (l.take i).length*val (l.drop i):=Nat.le_mul_of_pos_left _ (Nat.pow_pos (by omega));omega
theorem QX{l:List Int}{i:Nat}(h:i<l.length):l.drop i=l.getD i 0::l.drop (i+1):=by
 rw [bT h,ak,aB h];rfl
theorem aib{m n:Nat}{xs:List Int}(hv:val xs=m+n)(hb:Lb xs)(hl:xs.length≤max (mk m).length (mk n).length∨xs.getLast? ≠ some 0):mk (m+n)=xs:=by
 rw [←hv];refine mk_val ⟨hb,?_⟩;rcases hl with hl|hl
 ·refine(ajI hb fun hne=>?_).2;have hpos:0<xs.length:=by
   cases xs with
   |nil=>exact absurd rfl hne
   |cons=>simp
  rw [hv];have p1:∀k:Nat,mk k≠[]→1000000000 ^ ((mk k).length-1)≤k:=fun k hk=>by
   have:=agr (uI k) hk
   rwa [val_mk]at this
  by_cases hmn:(mk n).length≤(mk m).length
  ·have hm:mk m≠[]:=by intro e;have h0:(mk m).length=0:=(by rw [e];rfl);omega
   have:=p1 m hm;have h2:(1000000000:Nat) ^ (xs.length-1)≤1000000000 ^ ((mk m).length-1):=eG (by omega) (by omega);omega
  have hm:mk n≠[]:=by intro e;have h0:(mk n).length=0:=(by rw [e];rfl);omega
  have:=p1 n hm;have h2:(1000000000:Nat) ^ (xs.length-1)≤1000000000 ^ ((mk n).length-1):=eG (by omega) (by omega);omega
 exact hl
theorem OH{l:List Int}{i:Nat}(h:l.length≤i):l.getD i 0=0:=by
 rw [ak,bn h];rfl
theorem qp(l:List Int)(i:Nat):val (l.drop i)=(l.getD i 0).toNat+1000000000*val (l.drop (i+1)):=by
 by_cases h:i<l.length
 ·exact alS h
 rw [ni (by omega),ni (by omega),OH (by omega)];rfl
end Go.Ml
namespace Go.Ml
theorem rG(l:List Int)(i j:Nat)(v:Int):(l.set i v).getD j 0=if i=j∧i<l.length then v else l.getD j 0:=by
 simp only [ak,eX];by_cases h:i=j
 ·subst h;by_cases h2:i<l.length
  ·simp [h2]
  simp [h2,bn (Nat.le_of_not_lt h2)]
 simp [h]
end Go.Ml
namespace Go.Ml
theorem drop_set_self{l:List Int}{i:Nat}{d:Int}(h:i<l.length):(l.set i d).drop i=d::l.drop (i+1):=by
 induction l generalizing i with
 |nil=>simp at h
 |
  cons x l ih =>
  cases i with
  |zero=>simp
  |succ i=>simpa using ih (by simpa using h)
theorem xE{a b:Nat}:0≤NT a b↔b≤a:=by
 unfold NT;by_cases h:a<b
 ·rw [if_pos h];omega
 rw [if_neg h];split<;>omega
theorem mk_one{d:Nat}(h0:0<d)(h1:d<1000000000):mk d=[(d:Int)]:=by
 rw [mk_pos (by omega),Nat.mod_eq_of_lt h1,Nat.div_eq_of_lt h1,mk_zero]
theorem amf{r b:Nat}(hb:0<b)(hle:b≤r)(hlt:r<b*1000000000) :
  (mk b).length≤(mk r).length∧(mk r).length≤(mk b).length+1∧0<(mk b).length ∧
  ((mk b).length=1→let d:=val ((mk r).drop 0) / ((mk b).getD 0 0).toNat;0<d∧d<1000000000∧d*b≤r∧0<((mk b).getD 0 0).toNat) ∧
  (let d:=val ((mk r).drop ((mk b).length-1)) / (((mk b).getD ((mk b).length-1) 0).toNat+1);d<1000000000∧d*b≤r):=by
 have hbm:=alR (n:=b) (by omega);have h1:(mk b).length≤(mk r).length:=by
  have:(mk b).length-1<(mk r).length:=by
   rw [aa3];have:=agr (uI b) (by intro e;rw [e]at hbm;simp at hbm);rw [val_mk]at this;omega
  omega
 have h2:(mk r).length≤(mk b).length+1:=by
  rw [lK,iC];have:=yQ (uZ b);rw [val_mk]at this;exact aU hlt (dM _ (Nat.le_of_lt this))
 refine⟨h1,h2,hbm,?_,?_⟩
 ·intro hm;have eb:((mk b).getD 0 0).toNat=b:=by
   have h3:=qp (mk b) 0;rw [bZ,val_mk,ni (by omega)]at h3;omega
  rw [bZ,val_mk,eb];refine⟨Nat.div_pos hle hb,iJ (by omega),Nat.div_mul_le_self r b,hb⟩
 have er:=Bf (mk r) ((mk b).length-1);have eb:=Bf (mk b) ((mk b).length-1);rw [val_mk]at er eb;have l1:((mk r).take ((mk b).length-1)).length=(mk b).length-1:=by simp;omega
 have l2:((mk b).take ((mk b).length-1)).length=(mk b).length-1:=by simp
 rw [l1]at er;rw [l2]at eb;have ed:=qp (mk b) ((mk b).length-1);rw [show (mk b).length-1+1=(mk b).length by omega,ni (aP _)]at ed;have hlo:=yQ (ab2 (uZ b) ((mk b).length-1));rw [l2]at hlo;generalize hP:1000000000 ^ ((mk b).length-1)=P at *;generalize hT:val ((mk r).drop ((mk b).length-1))=t at *;generalize hB:((mk b).getD ((mk b).length-1) 0).toNat=bt at *;have hd:=Nat.div_mul_le_self t (bt+1);generalize hq:t / (bt+1)=d at *;have hbb:b≤P*(bt+1):=by rw [Nat.mul_succ];rw [ed]at eb;simp only [jR,gy]at eb;omega
 have key:d*b≤r:=by
  have s1:d*b≤d*(P*(bt+1)):=Nat.mul_le_mul_left _ hbb;have s2:d*(P*(bt+1))=P*(d*(bt+1)):=by rw [Nat.mul_left_comm]
  have s3:P*(d*(bt+1))≤P*t:=Nat.mul_le_mul_left _ hd;omega
 refine⟨?_,key⟩;have:d*b<1000000000*b:=by rw [dH 1000000000];omega
 exact Nat.lt_of_mul_lt_mul_right this
def JR:Fn:=⟨1,33,[.tmp 2],(sr [oN 2 mF] (.seq (sr [oW 5 0,oN 6 (ln 5),oN 7 (bc .gtr 6 60)] (cd 7 (sr [oN 2 mF] .ret) .skip)) (.seq (sr [oW 8 0,oN 9 (ln 8),oN 10 (.mM (cI 0))] (.block 0 (.loop (sr [oN 11 (bt .lss 10 9)] (.seq (cd 11 .skip (.exit 0)) (.seq (.block 1 (sr [oN 12 (ix 1 8 10),oN 13 (lF 1 12),oW 4 13] (sr [oW 14 4,oN 15 (bc .lss 14 0),oW 16 15,oG 16 false 17 (oV 4),oG 16 false 18 (bc .geq 17 1000000000),oN 19 (.pick (.t 16) (.c (.bool true)) (.t 18))] (cd 19 (sr [oN 2 mF] .ret) .skip)))) (rg [oN 20 (bc .add 10 1),oW 10 20]))))))) (sr [oW 21 0,oN 22 (ln 21),oN 23 (bc .eql 22 0),oW 24 23,oG 24 false 25 (oV 0),oG 24 false 26 (oV 0),oG 24 false 27 (ln 26),oG 24 false 28 (bc .sub 27 1),oG 24 false 29 (ix 1 25 28),oG 24 false 30 (lF 1 29),oG 24 false 31 (bc .neq 30 0),oN 32 (.pick (.t 24) (.c (.bool true)) (.t 31)),oW 2 32] .ret))))⟩
structure JU (T:Tb):Prop where
 hT:T 126=some JR
def wQ:Fn:=⟨1,16,[.tmp 2],(sr [oN 2 mN] (.seq (rf 1 [oN 4 (.ny 1 F8 0 []),oK 3 1 (oV 4)]) (.seq (.block 0 (.loop (.seq (sr [oW 5 0,oN 6 (.bin .gtr (.t 5) (.c (.int .u64 0)))] (cd 6 .skip (.exit 0))) (.block 1 (.seq (rf 2 [oK 7 2 (oV 3),oK 8 2 (oV 0),oK 9 2 (.bin .rem (.t 8) (.c (.int .u64 1000000000))),oK 10 2 (.conv .i64 (.t 9)),oN 11 (.ny 1 F8 1 [(0,(.t 10))]),oK 12 1 (.app 1 8 (.t 7) (.t 11)),oK 3 2 (oV 12)]) (rg [oW 13 0,oN 14 (.bin .quo (.t 13) (.c (.int .u64 1000000000))),oW 0 14])))))) (sr [oW 15 3,oW 2 15] .ret))))⟩
structure uD (T:Tb):Prop where
 hT:T 69=some wQ
def G6:Fn:=⟨2,41,[.tmp 4],(sr [oN 4 (.mM (cI 0))] (.seq (sr [oW 6 0,oN 7 (ln 6),oW 8 1,oN 9 (ln 8),oN 10 (bt .lss 7 9)] (cd 10 (sr [oN 4 (.mM (cI (-1)))] .ret) .skip)) (.seq (sr [oW 11 0,oN 12 (ln 11),oW 13 1,oN 14 (ln 13),oN 15 (bt .gtr 12 14)] (cd 15 (sr [oN 4 (.mM (cI 1))] .ret) .skip)) (.seq (sr [oW 16 0,oN 17 (ln 16),oN 18 (bc .sub 17 1),oW 5 18] (.block 0 (.loop (.seq (sr [oW 19 5,oN 20 (bc .geq 19 0)] (cd 20 .skip (.exit 0))) (.seq (.block 1 (.seq (.seq (rt 0 [oW 23 0,oW 24 5,oA 25 0 (ix 1 23 24) [0,1],oA 26 0 (lF 1 25) [2],oW 27 1,oW 28 5,oA 29 0 (ix 1 27 28) [4,5],oA 30 0 (lF 1 29) [6],oA 31 0 (bt .lss 26 30) [3,7]]) (cd 31 (sr [oN 4 (.mM (cI (-1)))] .ret) .skip)) (.seq (rt 0 [oW 32 0,oW 33 5,oA 34 0 (ix 1 32 33) [0,1],oA 35 0 (lF 1 34) [2],oW 36 1,oW 37 5,oA 38 0 (ix 1 36 37) [4,5],oA 39 0 (lF 1 38) [6],oA 40 0 (bt .gtr 35 39) [3,7]]) (cd 40 (sr [oN 4 (.mM (cI 1))] .ret) .skip)))) (rg [oW 21 5,oN 22 (bc .sub 21 1),oW 5 22])))))) (sr [oN 4 (.mM (cI 0))] .ret)))))⟩
structure G7 (T:Tb):Prop where
 hT:T 152=some G6
def zC:Fn:=⟨1,21,[.tmp 2],(sr [oN 2 mN] (sr [oW 4 0,oN 5 (ln 4),oW 3 5] (.seq (.block 0 (.loop (.seq (sr [oW 6 3,oN 7 (bc .gtr 6 0),oW 8 7,oG 8 true 9 (oV 0),oG 8 true 10 (oV 3),oG 8 true 11 (bc .sub 10 1),oG 8 true 12 (ix 1 9 11),oG 8 true 13 (lF 1 12),oG 8 true 14 (bc .eql 13 0),oN 15 (.pick (.t 8) (.t 14) (.c (.bool false)))] (cd 15 .skip (.exit 0))) (.block 1 (rg [oW 16 3,oN 17 (bc .sub 16 1),oW 3 17]))))) (sr [oW 18 0,oW 19 3,oN 20 (.slice 1 (.t 18) none (some (.t 19))),oW 2 20] .ret))))⟩
structure wR (T:Tb):Prop where
 hT:T 151=some zC
def G8:Fn:=⟨2,53,[.tmp 4],(sr [oN 4 mN] (.seq (rf 1 [oN 8 (.ny 1 F8 0 []),oK 5 1 (oV 8)]) (sr [oN 6 (.mM (cI 0))] (.seq (sr [oN 7 (.mM (cI 0))] (.block 0 (.loop (.seq (sr [oW 9 7,oW 10 0,oN 11 (ln 10),oN 12 (bt .lss 9 11),oW 13 12,oG 13 false 14 (oV 7),oG 13 false 15 (oV 1),oG 13 false 16 (ln 15),oG 13 false 17 (bt .lss 14 16),oN 18 (.pick (.t 13) (.c (.bool true)) (.t 17)),oW 19 18,oG 19 false 20 (oV 6),oG 19 false 21 (bc .gtr 20 0),oN 22 (.pick (.t 19) (.c (.bool true)) (.t 21))] (cd 22 .skip (.exit 0))) (.seq (.block 1 (.seq (sr [oW 25 7,oW 26 0,oN 27 (ln 26),oN 28 (bt .lss 25 27)] (cd 28 (rg [oW 29 6,oW 30 0,oW 31 7,oN 32 (ix 1 30 31),oN 33 (lF 1 32),oN 34 (bt .add 29 33),oW 6 34]) .skip)) (.seq (sr [oW 35 7,oW 36 1,oN 37 (ln 36),oN 38 (bt .lss 35 37)] (cd 38 (rg [oW 39 6,oW 40 1,oW 41 7,oN 42 (ix 1 40 41),oN 43 (lF 1 42),oN 44 (bt .add 39 43),oW 6 44]) .skip)) (.seq (rf 2 [oK 45 2 (oV 5),oK 46 2 (oV 6),oK 47 2 (bc .rem 46 1000000000),oN 48 (.ny 1 F8 1 [(0,(.t 47))]),oK 49 1 (.app 1 8 (.t 45) (.t 48)),oK 5 2 (oV 49)]) (rg [oW 50 6,oN 51 (bc .quo 50 1000000000),oW 6 51]))))) (rg [oW 23 7,oN 24 (bc .add 23 1),oW 7 24])))))) (sr [oW 52 5,oW 4 52] .ret)))))⟩
structure MV (T:Tb):Prop where
 hT:T 160=some G8
def G9:Fn:=⟨2,44,[.tmp 4],(sr [oN 4 mN] (.seq (rf 1 [oK 9 1 (oV 0),oK 10 1 (ln 9),oN 11 (.make F8 8 (.t 10)),oK 5 1 (oV 11)]) (sr [oN 6 (.mM (cI 0))] (.seq (sr [oW 12 0,oN 13 (ln 12),oN 14 (.mM (cI 0))] (.block 0 (.loop (sr [oN 15 (bt .lss 14 13)] (.seq (cd 15 .skip (.exit 0)) (.seq (.block 1 (sr [oW 16 14,oW 7 16] (sr [oW 17 0,oW 18 7,oN 19 (ix 1 17 18),oN 20 (lF 1 19),oW 21 6,oN 22 (bt .sub 20 21),oW 8 22] (.seq (sr [oW 23 7,oW 24 1,oN 25 (ln 24),oN 26 (bt .lss 23 25)] (cd 26 (rg [oW 27 8,oW 28 1,oW 29 7,oN 30 (ix 1 28 29),oN 31 (lF 1 30),oN 32 (bt .sub 27 31),oW 8 32]) .skip)) (sr [oN 6 (.mM (cI 0))] (.seq (sr [oW 33 8,oN 34 (bc .lss 33 0)] (cd 34 (sr [oW 35 8,oN 36 (bc .add 35 1000000000),oW 8 36] (rg [oN 6 (.mM (cI 1))])) .skip)) (rg [oW 37 5,oW 38 7,oW 39 8,oN 40 (ix 1 37 38),oS (.store 1 (.t 40) (.t 39))]))))))) (rg [oN 41 (bc .add 14 1),oW 14 41]))))))) (sr [oW 42 5,oN 43 (cl 151 [42]),oW 4 43] .ret)))))⟩
structure He (T:Tb):Prop where
 hT:T 154=some G9
 rZ:wR T
def Hf:Fn:=⟨2,71,[.tmp 4],(sr [oN 4 mN] (.seq (sr [oW 9 0,oN 10 (ln 9),oN 11 (bc .eql 10 0),oW 12 11,oG 12 false 13 (oV 1),oG 12 false 14 (ln 13),oG 12 false 15 (bc .eql 14 0),oN 16 (.pick (.t 12) (.c (.bool true)) (.t 15))] (cd 16 (sr [oN 4 mN] .ret) .skip)) (.seq (rf 1 [oK 17 1 (oV 0),oK 18 1 (ln 17),oK 19 1 (oV 1),oK 20 1 (ln 19),oK 21 1 (bt .add 18 20),oN 22 (.make F8 8 (.t 21)),oK 5 1 (oV 22)]) (.seq (sr [oW 23 0,oN 24 (ln 23),oN 25 (.mM (cI 0))] (.block 0 (.loop (sr [oN 26 (bt .lss 25 24)] (.seq (cd 26 .skip (.exit 0)) (.seq (.block 1 (sr [oW 27 25,oW 6 27] (sr [oN 7 (.mM (cI 0))] (.seq (sr [oW 28 1,oN 29 (ln 28),oN 30 (.mM (cI 0))] (.block 2 (.loop (sr [oN 31 (bt .lss 30 29)] (.seq (cd 31 .skip (.exit 2)) (.seq (.block 3 (sr [oW 32 30,oW 8 32] (.seq (rt 0 [oW 33 7,oW 34 5,oW 35 6,oW 36 8,oA 37 0 (bt .add 35 36) [2,3],oA 38 0 (ix 1 34 37) [1,4],oA 39 0 (lF 1 38) [5],oW 40 0,oW 41 6,oA 42 0 (ix 1 40 41) [7,8],oA 43 0 (lF 1 42) [9],oW 44 1,oW 45 8,oA 46 0 (ix 1 44 45) [11,12],oA 47 0 (lF 1 46) [13],oA 48 0 (bt .mul 43 47) [10,14],oA 49 0 (bt .add 39 48) [6,15],oA 50 0 (bt .add 33 49) [0,16],oA 7 0 (oV 50) [17,0,1,2,3,4,5,6,7,8,9,10,11,12,13,14,15,16,17]]) (sr [oW 51 5,oW 52 6,oW 53 8,oN 54 (bt .add 52 53),oW 55 7,oN 56 (bc .rem 55 1000000000),oN 57 (ix 1 51 54),oS (.store 1 (.t 57) (.t 56))] (rg [oW 58 7,oN 59 (bc .quo 58 1000000000),oW 7 59]))))) (rg [oN 60 (bc .add 30 1),oW 30 60]))))))) (rg [oW 61 5,oW 62 6,oW 63 1,oN 64 (ln 63),oN 65 (bt .add 62 64),oW 66 7,oN 67 (ix 1 61 65),oS (.store 1 (.t 67) (.t 66))]))))) (rg [oN 68 (bc .add 25 1),oW 25 68]))))))) (sr [oW 69 5,oN 70 (cl 151 [69]),oW 4 70] .ret)))))⟩
structure Hg (T:Tb):Prop where
 hT:T 155=some Hf
 rZ:wR T
def Cm:Fn:=⟨1,20,[.tmp 2],(sr [oN 2 (.mM (cI 0))] (sr [oN 3 (.mM (cI 0))] (.seq (sr [oW 5 0,oN 6 (ln 5),oN 7 (bc .sub 6 1),oW 4 7] (.block 0 (.loop (.seq (sr [oW 8 4,oN 9 (bc .geq 8 0)] (cd 9 .skip (.exit 0))) (.seq (.block 1 (rg [oW 12 3,oN 13 (bc .mul 12 1000000000),oW 14 0,oW 15 4,oN 16 (ix 1 14 15),oN 17 (lF 1 16),oN 18 (bt .add 13 17),oW 3 18])) (rg [oW 10 4,oN 11 (bc .sub 10 1),oW 4 11])))))) (sr [oW 19 3,oW 2 19] .ret))))⟩
structure CB (T:Tb):Prop where
 hT:T 137=some Cm
theorem lX{p:Prop}(h:p:=by
 first|omega|assumption|(simp;omega)):p:=h
theorem NY{T:Tb}(h:wR T){l:List Int}(hl:l.length≤1048576:=by exact lX):PF T 151 [ints l] (ints (trim l)):=by
 refine kQ nR h.hT ?_;simp only [zC,Lz];refine ev ?_;refine kG (fun _ _=>false) (α:=Nat) (fun n=>⟨kX [ints l,.any,.any,iv (n:Nat)],[],0,0,[],[]⟩) (fun n=>n≤l.length∧xC l l.length=xC l n) (fun n=>n) rfl l.length ?_ ?_ ?_
 ·exact⟨by omega,rfl⟩
 ·(refine jW ?_;exact zX)
 rintro n ⟨hn,ht⟩;refine ev ?_;refine kD (fun hb=>?_) fun hb=>?_<;>(refine ev1 @hb ?_;try with_reducible exact True.intro)
 ·obtain⟨m,rfl⟩:∃m,n=m+1:=⟨n-1,by omega⟩;have e1:((m+1:Nat):Int)-1=(m:Nat):=by omega
  refine ev1 @e1 ?_;refine kD (fun hc=>?_) fun hc=>?_<;>(refine ev1 @hc ?_;try with_reducible exact True.intro)
  ·refine⟨m,by omega,⟨by omega,?_⟩,by (refine jW ?_;exact zX)⟩;rw [ht];simp only [xC,hc,if_true]
  rw [trim,ht];simp only [xC,hc,if_false]
 have:n=0:=by omega
 subst this;rw [trim,ht];simp [xC,kF]
theorem PV{a b:St}(h:Fg a b:=by
 (refine KH [] (by simp) (by intro p hp;cases hp) rfl ?_)<;>(try (refine ev ?_;try with_reducible exact True.intro))<;>(repeat' (first|exact True.intro|omega|exact nP rfl (by simp)|refine⟨?_,?_⟩|exact of_eq_true (tH _ _ _)|exact lY rfl (by simp;done)|exact lY rfl rfl|(refine mW rfl ?_ rfl;simp [kF];done)|(refine mW rfl ?_ rfl;simp [kF];omega)|(refine tJ ?_ ?_;(focus ((refine ev ?_;try with_reducible exact True.intro);done));(intro q hq k s0 l0;simp;done))))):Fg a b:=h
theorem LQ{a b:St}(h:Fg a b:=by
 first|((refine jW ?_;exact zX);done)|(exact PV;done)):Fg a b:=h
theorem LU{a b:St}(h:Fg a b:=by
 (simp only [←sO];refine JQ (k:=1) (Je _ _) rfl ?_;(try (refine ev ?_;try with_reducible exact True.intro));(repeat' (first|exact True.intro|omega|exact Ac (by simp) (by simp) (by simp)|refine⟨?_,?_⟩|exact lY rfl (by simp))))):Fg a b:=h
theorem JV{a b:St}(h:Fg a b:=by
 (simp only [←sO];refine JQ (k:=2) (Je _ _) rfl ?_;(try (refine ev ?_;try with_reducible exact True.intro));(repeat' (first|exact True.intro|omega|exact Ac (by simp) (by simp) (by simp)|refine⟨?_,?_⟩|exact lY rfl (by simp))))):Fg a b:=h
theorem zD{T:Tb}(h:uD T){n:Int}(hn:0≤n∧n<18446744073709551616:=by exact lX):PF T 69 [.int .u64 n] (ints (mk n.toNat)):=by
 have hlen:(mk n.toNat).length≤3:=lK.2 (by omega);refine kH nR h.hT ?_;simp only [wQ,Lz];refine ev ?_;refine kG (fun _ _=>false) (α:=Nat×List Int) (fun q=>⟨kX [.int .u64 (q.1:Nat),.any,.any,slV q.2.length],VH 1 (kF q.2),0,0,[],[]⟩) (fun q=>q.2++mk q.1=mk n.toNat∧q.1≤n.toNat) (fun q=>q.1) rfl (n.toNat,[]) ?_ ?_ ?_
 ·exact⟨rfl,aP _⟩
 ·exact LQ
 rintro⟨m,xs⟩ ⟨hm,hle⟩;dsimp only at hm hle;have hx:xs.length≤3:=by
  have:=congrArg List.length hm;simp at this;omega
 have e1:((m:Int).tmod 1000000000)=((m % 1000000000:Nat):Int):=by rw [SL (by omega)];omega
 have e2:((m:Int).tdiv 1000000000)=((m / 1000000000:Nat):Int):=by rw [SN (by omega)];omega
 have key:0<m→(xs++[((m % 1000000000:Nat):Int)])++mk (m / 1000000000)=mk n.toNat:=fun h=>by
  rw [←hm,mk_pos (n:=m) (by omega)];simp
 (rcases xs with _|⟨x,xs⟩<;>simp only [au,aj,qX,qH,mO,lI]at hx ⊢)
 ·refine ev ?_;refine kD (fun hb=>?_) fun hb=>?_<;>(refine zl @hb @e1 @e2 ?_;try with_reducible exact True.intro)
  ·exact⟨by omega,(m / 1000000000,[]++[((m % 1000000000:Nat):Int)]),by dsimp only;omega,⟨key (by omega),by dsimp only;omega⟩,by exact LU⟩
  have e:mk n.toNat=[]:=by rw [←hm,show m=0 by omega,mk_zero];rfl
  rw [e];exact(mX 1▸trivial)
 refine ev ?_;refine kD (fun hb=>?_) fun hb=>?_<;>(refine zl @hb @e1 @e2 ?_;try with_reducible exact True.intro)
 ·refine⟨by omega,(m / 1000000000,(x::xs)++[((m % 1000000000:Nat):Int)]),by dsimp only;omega,⟨key (by omega),by dsimp only;omega⟩,by exact JV⟩
 have e:x::xs=mk n.toNat:=by rw [←hm,show m=0 by omega,mk_zero];simp
 rw [←e];exact kE _
theorem aic{T:Tb}(h:JU T){l:List Int}(hl:l.length≤9223372036854775807:=by exact lX):PF T 126 [ints l] (.bool (xY l)):=by
 refine kQ nR h.hT ?_;simp only [JR,Lz];refine ev ?_;refine kD (fun h1=>?_) fun h1=>?_<;>(refine ev1 @h1 ?_;try with_reducible exact True.intro)
 ·simp [xY];intro h2;omega
 refine kG (fun _ _=>false) (α:=Nat) (fun i=>⟨kX [ints l,.any,.any,.any,.any,.any,.any,.any,ints l,iv (l.length:Nat),iv (i:Nat)],[],0,0,[],[]⟩) (fun i=>i≤l.length∧∀j,j<i→0≤l.getD j 0∧l.getD j 0<1000000000) (fun i=>l.length-i) rfl 0 ?_ ?_ ?_
 ·exact⟨by omega,by intro j hj;omega⟩
 ·(refine jW ?_;exact zX)
 rintro i ⟨hi,hj⟩;refine ev ?_;refine kD (fun h2=>?_) fun h2=>?_<;>(refine ev1 @h2 ?_;try with_reducible exact True.intro)
 ·have bad:¬(0≤l.getD i 0∧l.getD i 0<1000000000)→xY l=false:=fun hn=>by
   have:¬xY l=true:=fun e=>by
    have hc:=(QU.1 e).2.1;exact hn (vg hc i)
   simpa using this
  repeat' (first|((refine kD (fun hb=>?_) fun hb=>?_)<;>(try (refine ev1 @hb ?_;try with_reducible exact True.intro))))
  all_goals first
   |(rw [bad (by omega)];done)
   |(
     refine⟨i+1,by omega,⟨by omega,fun j hj'=>?_⟩,by (refine jW ?_;exact zX)⟩;by_cases e:j=i
     ·subst e;omega
     exact hj j (by omega))
 have hi2:i=l.length:=by omega
 subst hi2;have hall:l.all (fun d=>decide (0≤d)&&decide (d<1000000000))=true:=by
  rw [aZ];intro d hd;obtain⟨j,hj1,rfl⟩:=List.mem_iff_getElem.1 hd;have:=hj j hj1;rw [ak,aB hj1]at this;simpa using this
 repeat' (first|((refine kD (fun hb=>?_) fun hb=>?_)<;>(try (refine ev1 @hb ?_;try with_reducible exact True.intro))))
 ·have:l=[]:=bf (by omega);subst this;rfl
 have e1:((l.length:Nat):Int)-1=((l.length-1:Nat):Int):=by omega
 have e2:((l.length:Int)-1).toNat=l.length-1:=by omega
 have e3:l.isEmpty=false:=by cases l<;>simp_all
 have e4:decide (l.length≤60)=true:=by simp;omega
 unfold xY;rw [hall,e3,e4,e2];simp
theorem YK{T:Tb}(h:G7 T){a b:List Int}(ha:Can a)(hb:Can b)(la:a.length≤1048576:=by exact lX)(lb:b.length≤1048576:=by exact lX):PF T 152 [ints a,ints b] (iv (NT (val a) (val b))):=by
 refine kQ nR h.hT ?_;simp only [G6,Lz];refine ev ?_;refine kD (fun h1=>?_) fun h1=>?_<;>(refine ev1 @h1 ?_;try with_reducible exact True.intro)
 ·have:=yx ha.1 hb (by omega);simp [NT,this]
 refine kD (fun h2=>?_) fun h2=>?_<;>(refine ev1 @h2 ?_;try with_reducible exact True.intro)
 ·have:=yx hb.1 ha (by omega);have h3:¬val a<val b:=by omega
  simp [NT,this,h3]
 have hl:a.length=b.length:=by omega
 refine kG (fun _ _=>false) (α:=Nat) (fun n=>⟨kX [ints a,ints b,.any,.any,.any,iv ((n:Int)-1)],[],0,0,[],[]⟩) (fun n=>n≤a.length∧a.drop n=b.drop n) (fun n=>n) rfl a.length ?_ ?_ ?_
 ·exact⟨by omega,by rw [dB (by omega),dB (by omega)]⟩
 ·(refine jW ?_;exact zX)
 rintro n ⟨hn,hd⟩;refine ev ?_;refine kD (fun h3=>?_) fun h3=>?_<;>(refine ev1 @h3 ?_;try with_reducible exact True.intro)
 ·obtain⟨m,rfl⟩:∃m,n=m+1:=⟨n-1,by omega⟩;have e1:((m+1:Nat):Int)-1=(m:Nat):=by omega
  refine ev1 @e1 ?_;refine kD (fun h4=>?_) fun h4=>?_<;>(refine qW @h4 @e1 ?_;try with_reducible exact True.intro)
  ·have:=QT ha.1 hb.1 (i:=m) (by omega) (by omega) hd h4;simp [NT,this]
  refine kD (fun h5=>?_) fun h5=>?_<;>(refine qW @h5 @e1 ?_;try with_reducible exact True.intro)
  ·have:=QT hb.1 ha.1 (i:=m) (by omega) (by omega) hd.symm h5;have h6:¬val a<val b:=by omega
   simp [NT,this,h6]
  have e:a.getD m 0=b.getD m 0:=by omega
  refine⟨m,by omega,⟨by omega,?_⟩,by (refine jW ?_;exact zX)⟩;rw [QX (by omega),QX (l:=b) (by omega),e,hd]
 have:n=0:=by omega
 subst this;simp only [bZ]at hd;subst hd;simp [NT]
theorem Gq{T:Tb}(h:CB T){n:Nat}(hn:n<1000000000000000000:=by exact lX):PF T 137 [ints (mk n)] (iv (n:Nat)):=by
 have hl:(mk n).length≤2:=lK.2 (by omega);have hv:=val_mk n;refine kQ nR h.hT ?_;simp only [Cm,Lz];refine ev ?_;refine kG (fun _ _=>false) (α:=Nat) (fun k=>⟨kX [ints (mk n),.any,.any,iv (val ((mk n).drop k):Nat),iv ((k:Int)-1)],[],0,0,[],[]⟩) (fun k=>k≤(mk n).length) (fun k=>k) rfl (mk n).length ?_ ?_ ?_
 ·omega
 ·have e:val ((mk n).drop (mk n).length)=0:=ni (aP _);simp only [e]
  (refine jW ?_;exact zX)
 intro k hk;refine ev ?_;refine kD (fun h3=>?_) fun h3=>?_<;>(refine ev1 @h3 ?_;try with_reducible exact True.intro)
 ·obtain⟨m,rfl⟩:∃m,k=m+1:=⟨k-1,by omega⟩;have e1:((m+1:Nat):Int)-1=(m:Nat):=by omega
  have e2:=qp (mk n) m;have e3:=WR (l:=mk n) m;have e4:=vg (uZ n) m;refine ev1 @e1 ?_;exact⟨m,by omega,by omega,by (refine jW ?_;exact zX)⟩
 have:k=0:=by omega
 subst this;rw [bZ,hv]
theorem amg{T:Tb}(h:MV T){m n:Nat}(la:(mk m).length≤1000:=by exact lX)(lb:(mk n).length≤1000:=by exact lX):PF T 160 [ints (mk m),ints (mk n)] (ints (mk (m+n))):=by
 obtain⟨a,hA⟩:∃a,mk m=a:=⟨_,rfl⟩;obtain⟨b,hB⟩:∃b,mk n=b:=⟨_,rfl⟩;have hva:val a=m:=by rw [←hA,val_mk]
 have hvb:val b=n:=by rw [←hB,val_mk]
 have hba:Lb a:=hA▸uZ m;have hbb:Lb b:=hB▸uZ n;rw [hA]at la ⊢;rw [hB]at lb ⊢;refine kH nR h.hT ?_;simp only [G8,Lz];refine ev ?_;refine kG (fun _ _=>false) (α:=Nat×Int×List Int) (fun q=>⟨kX [ints a,ints b,.any,.any,.any,slV q.2.2.length,iv q.2.1,iv (q.1:Nat)],VH 1 (kF q.2.2),0,0,[],[]⟩) (fun q=>q.2.2.length=q.1∧Lb q.2.2∧(0≤q.2.1∧q.2.1≤1)∧val q.2.2+1000000000 ^ q.1*(q.2.1.toNat+val (a.drop q.1)+val (b.drop q.1))=m+n∧(q.1≤max a.length b.length∨(q.1=max a.length b.length+1∧q.2.1=0∧q.2.2.getLast? ≠ some 0))) (fun q=>max a.length b.length+1-q.1) rfl (0,0,[]) ?_ ?_ ?_
 ·exact⟨rfl,agq,⟨by dsimp only;omega,by dsimp only;omega⟩,by simp [val,hva,hvb],by dsimp only;omega⟩
 ·exact LQ
 rintro⟨i,c,xs⟩ ⟨hl,hlb,hc,hv,hi⟩;dsimp only at hl hlb hc hv hi;have hi':i≤max a.length b.length∨(i=max a.length b.length+1∧c=0):=hi.imp id fun h=>⟨h.1,h.2.1⟩;have hx:xs.length≤1001:=by omega
 have ea:=qp a i;have eb:=qp b i;have ga:=vg hba i;have gb:=vg hbb i;have step:=ael hl hc.1 ga.1 gb.1 hv ea eb;have za:a.length≤i→a.getD i 0=0:=OH;have zb:b.length≤i→b.getD i 0=0:=OH;have key:∀t:Int,t=c+a.getD i 0+b.getD i 0→((i:Int)<a.length∨(i:Int)<b.length∨0<c)→∃a':Nat×Int×List Int,a'=(i+1,t.tdiv 1000000000,xs++[t.tmod 1000000000]) ∧
   max a.length b.length+1-a'.1<max a.length b.length+1-i∧(a'.2.2.length=a'.1∧Lb a'.2.2∧(0≤a'.2.1∧a'.2.1≤1)∧val a'.2.2+1000000000 ^ a'.1*(a'.2.1.toNat+val (a.drop a'.1)+val (b.drop a'.1))=m+n ∧
    (a'.1≤max a.length b.length∨(a'.1=max a.length b.length+1∧a'.2.1=0∧a'.2.2.getLast? ≠ some 0))):=by
  intro t ht hor;have ht0:0≤t:=by omega
  refine⟨_,rfl,?_⟩;dsimp only;rw [SL ht0,SN ht0];refine⟨by omega,by simp [hl],ab3 (by omega) (by omega) hlb,⟨by omega,by omega⟩,by rw [ht];exact step,?_⟩;by_cases hlt:i<max a.length b.length
  ·left;omega
  right;have h1:=za (by omega);have h2:=zb (by omega);refine⟨by omega,by omega,?_⟩;intro hlast;rw [List.getLast?_concat]at hlast;have:=Option.some.inj hlast;omega
 have fin:¬((i:Int)<a.length∨(i:Int)<b.length∨0<c)→xs=mk (m+n):=by
  intro hno;have e1:val (a.drop i)=0:=ni (by omega);have e2:val (b.drop i)=0:=ni (by omega);rw [e1,e2,show c.toNat=0 by omega]at hv;simp only [gy,jR]at hv;refine(aib hv hlb ?_).symm;rw [hA,hB];rcases hi with k|k
  ·left;omega
  right;exact k.2.2
 by_cases ca:(i:Int)<(a.length:Nat)<;>by_cases cb:(i:Int)<(b.length:Nat)<;>by_cases cc:0<c
 ·obtain⟨_,rfl,k1,k2⟩:=key (c+a.getD i 0+b.getD i 0) (by omega) (by omega);clear key step fin ea eb hi hv hlb hba hbb za zb
  (rcases xs with _|⟨x,xs⟩<;>simp only [au,aj,qX,qH,mO,lI]at hx ⊢)
  ·refine zl @ca @cb @cc ?_;exact⟨by omega,_,k1,k2,by exact LU⟩
  refine zl @ca @cb @cc ?_;exact⟨by omega,_,k1,k2,by exact JV⟩
 ·obtain⟨_,rfl,k1,k2⟩:=key (c+a.getD i 0+b.getD i 0) (by omega) (by omega);clear key step fin ea eb hi hv hlb hba hbb za zb
  (rcases xs with _|⟨x,xs⟩<;>simp only [au,aj,qX,qH,mO,lI]at hx ⊢)
  ·refine zl @ca @cb @cc ?_;exact⟨by omega,_,k1,k2,by exact LU⟩
  refine zl @ca @cb @cc ?_;exact⟨by omega,_,k1,k2,by exact JV⟩
 ·obtain⟨_,rfl,k1,k2⟩:=key (c+a.getD i 0) (by omega) (by omega);clear key step fin ea eb hi hv hlb hba hbb za zb
  (rcases xs with _|⟨x,xs⟩<;>simp only [au,aj,qX,qH,mO,lI]at hx ⊢)
  ·refine zl @ca @cb @cc ?_;exact⟨by omega,_,k1,k2,by exact LU⟩
  refine zl @ca @cb @cc ?_;exact⟨by omega,_,k1,k2,by exact JV⟩
 ·obtain⟨_,rfl,k1,k2⟩:=key (c+a.getD i 0) (by omega) (by omega);clear key step fin ea eb hi hv hlb hba hbb za zb
  (rcases xs with _|⟨x,xs⟩<;>simp only [au,aj,qX,qH,mO,lI]at hx ⊢)
  ·refine zl @ca @cb @cc ?_;exact⟨by omega,_,k1,k2,by exact LU⟩
  refine zl @ca @cb @cc ?_;exact⟨by omega,_,k1,k2,by exact JV⟩
 ·obtain⟨_,rfl,k1,k2⟩:=key (c+b.getD i 0) (by omega) (by omega);clear key step fin ea eb hi hv hlb hba hbb za zb
  (rcases xs with _|⟨x,xs⟩<;>simp only [au,aj,qX,qH,mO,lI]at hx ⊢)
  ·refine zl @ca @cb @cc ?_;exact⟨by omega,_,k1,k2,by exact LU⟩
  refine zl @ca @cb @cc ?_;exact⟨by omega,_,k1,k2,by exact JV⟩
 ·obtain⟨_,rfl,k1,k2⟩:=key (c+b.getD i 0) (by omega) (by omega);clear key step fin ea eb hi hv hlb hba hbb za zb
  (rcases xs with _|⟨x,xs⟩<;>simp only [au,aj,qX,qH,mO,lI]at hx ⊢)
  ·refine zl @ca @cb @cc ?_;exact⟨by omega,_,k1,k2,by exact LU⟩
  refine zl @ca @cb @cc ?_;exact⟨by omega,_,k1,k2,by exact JV⟩
 ·obtain⟨_,rfl,k1,k2⟩:=key (c) (by omega) (by omega);clear key step fin ea eb hi hv hlb hba hbb za zb
  (rcases xs with _|⟨x,xs⟩<;>simp only [au,aj,qX,qH,mO,lI]at hx ⊢)
  ·refine zl @ca @cb @cc ?_;exact⟨by omega,_,k1,k2,by exact LU⟩
  refine zl @ca @cb @cc ?_;exact⟨by omega,_,k1,k2,by exact JV⟩
 have e:=fin (by omega);clear key step fin ea eb hi hv hlb hba hbb za zb
 (rcases xs with _|⟨x,xs⟩<;>simp only [au,aj,qX,qH,mO,lI]at hx ⊢)
 ·refine zl @ca @cb @cc ?_;rw [←e];exact(mX 1▸trivial)
 refine zl @ca @cb @cc ?_;rw [←e];exact kE _
theorem Ui{T:Tb}(h:He T){m n:Nat}(hle:n≤m)(la:(mk m).length≤1000:=by exact lX)(lb:(mk n).length≤1000:=by exact lX):PF T 154 [ints (mk m),ints (mk n)] (ints (mk (m-n))):=by
 obtain⟨a,hA⟩:∃a,mk m=a:=⟨_,rfl⟩;obtain⟨b,hB⟩:∃b,mk n=b:=⟨_,rfl⟩;have hva:val a=m:=by rw [←hA,val_mk]
 have hvb:val b=n:=by rw [←hB,val_mk]
 have hba:Lb a:=hA▸uZ m;have hbb:Lb b:=hB▸uZ n;have hlen:b.length≤a.length:=by
  rcases fG a.length b.length with k|k
  ·have:=yx hba (hB▸uI n) k;omega
  exact k
 rw [hA]at la ⊢;rw [hB]at lb ⊢;refine kQ nR h.hT ?_;simp only [G9,Lz];refine ev ?_;refine⟨by omega,?_⟩;rw [Oz];refine kG (fun _ _=>false) (α:=Nat×Int×List Int) (fun q=>⟨kX [ints a,ints b,.any,.any,.any,.kP 0 0 a.length,iv q.2.1,.any,.any,.any,.any,.any,ints a,iv (a.length:Nat),iv (q.1:Nat)],[some ⟨1,kF q.2.2⟩],0,0,[],[]⟩) (fun q=>q.1≤a.length∧q.2.2.length=a.length∧Lb q.2.2∧(q.2.1=0∨q.2.1=1)∧val (q.2.2.take q.1)+val (b.take q.1)=val (a.take q.1)+q.2.1.toNat*1000000000 ^ q.1) (fun q=>a.length-q.1) rfl (0,0,List.replicate a.length 0) ?_ ?_ ?_
 ·exact⟨by omega,by simp,SE _,.inl rfl,by simp [val]⟩
 ·(refine jW ?_;exact zX)
 rintro⟨i,bo,D⟩ ⟨hi,hD,SQ,hbo,hv⟩;dsimp only at hi hD SQ hbo hv;have ga:=vg hba i;have gb:=vg hbb i;have zb:b.length≤i→b.getD i 0=0:=OH;by_cases c1:(i:Int)<(a.length:Nat)
 ·have key:∀d bo':Int,d+b.getD i 0+bo=a.getD i 0+bo'*1000000000→0≤d→d<1000000000→(bo'=0∨bo'=1)→∃a':Nat×Int×List Int,a'=(i+1,bo',D.set i d) ∧
    a.length-a'.1<a.length-i∧(a'.1≤a.length∧a'.2.2.length=a.length∧Lb a'.2.2∧(a'.2.1=0∨a'.2.1=1)∧val (a'.2.2.take a'.1)+val (b.take a'.1)=val (a.take a'.1)+a'.2.1.toNat*1000000000 ^ a'.1):=by
   intro d bo' hd d0 d1 hb';refine⟨_,rfl,by dsimp only;omega,by dsimp only;omega,by simp [hD],OD d0 d1 SQ,hb',?_⟩;dsimp only;have e1:(D.take i).length=i:=by simp;omega
   have e2:(a.take i).length=i:=by simp;omega
   rw [aaj (by omega),xX,e1,oD (l:=a) (by omega),xX,e2];have e3:val (b.take (i+1))=val (b.take i)+1000000000 ^ i*(b.getD i 0).toNat:=by
    by_cases hb2:i<b.length
    ·rw [oD hb2,xX];congr 3;simp;omega
    rw [aY (by omega),aY (by omega),zb (by omega)];simp
   rw [e3,iC];exact aem hv (by omega)
  by_cases c2:(i:Int)<(b.length:Nat)
  ·by_cases c3:a.getD i 0-bo-b.getD i 0<0
   ·obtain⟨_,rfl,k1,k2⟩:=key (a.getD i 0-bo-b.getD i 0+1000000000) 1 (by omega) (by omega) (by omega) (.inr rfl);clear key hv zb hba hbb SQ;refine ev4 @c1 @c2 @c3 @hD ?_;exact⟨_,k1,k2,by (refine jW ?_;exact zX)⟩
   obtain⟨_,rfl,k1,k2⟩:=key (a.getD i 0-bo-b.getD i 0) 0 (by omega) (by omega) (by omega) (.inl rfl);clear key hv zb hba hbb SQ;refine ev4 @c1 @c2 @c3 @hD ?_;exact⟨_,k1,k2,by (refine jW ?_;exact zX)⟩
  have z:=zb (by omega);by_cases c3:a.getD i 0-bo<0
  ·obtain⟨_,rfl,k1,k2⟩:=key (a.getD i 0-bo+1000000000) 1 (by omega) (by omega) (by omega) (.inr rfl);clear key hv zb hba hbb SQ;refine ev4 @c1 @c2 @c3 @hD ?_;exact⟨_,k1,k2,by (refine jW ?_;exact zX)⟩
  obtain⟨_,rfl,k1,k2⟩:=key (a.getD i 0-bo) 0 (by omega) (by omega) (by omega) (.inl rfl);clear key hv zb hba hbb SQ;refine ev4 @c1 @c2 @c3 @hD ?_;exact⟨_,k1,k2,by (refine jW ?_;exact zX)⟩
 have hi2:i=a.length:=by omega
 subst hi2;rw [←hD,bQ,hD,bQ,aY (by omega)]at hv;have hlt:=yQ SQ;rw [hD]at hlt;have hz:bo=0:=by
  rcases hbo with h|h
  ·exact h
  rw [h]at hv;simp at hv;omega
 subst hz;refine qW @c1 @hD ?_;refine jy (NY h.rZ (l:=D) (by omega)) ?_;refine ev ?_;rw [Cj SQ]
 congr 3
 simp at hv;omega
theorem amh{x y:Int}(hx:0≤x∧x<1000000000)(hy:0≤y∧y<1000000000):0≤x*y∧x*y≤999999998000000001:=by
 refine⟨Int.mul_nonneg hx.1 hy.1,?_⟩;have:x*y≤999999999*999999999:=Int.mul_le_mul (by omega) (by omega) hy.1 (by omega);omega
theorem YL{T:Tb}(h:Hg T){m n:Nat}(la:(mk m).length≤1000:=by exact lX)(lb:(mk n).length≤1000:=by exact lX):PF T 155 [ints (mk m),ints (mk n)] (ints (mk (m*n))):=by
 obtain⟨a,hA⟩:∃a,mk m=a:=⟨_,rfl⟩;obtain⟨b,hB⟩:∃b,mk n=b:=⟨_,rfl⟩;have hva:val a=m:=by rw [←hA,val_mk]
 have hvb:val b=n:=by rw [←hB,val_mk]
 have hba:Lb a:=hA▸uZ m;have hbb:Lb b:=hB▸uZ n;rw [hA]at la ⊢;rw [hB]at lb ⊢;refine kH nR h.hT ?_;simp only [Hf,Lz];refine ev ?_;by_cases h1:a.length=0
 ·have:a=[]:=bf h1;have e:m=0:=by rw [←hva,this];rfl
  have h1':((a.length:Nat):Int)=0:=by omega
  refine ev1 @h1' ?_;rw [e,jP,mk_zero];exact(mX 1▸trivial)
 by_cases h2:b.length=0
 ·have:b=[]:=bf h2;have e:n=0:=by rw [←hvb,this];rfl
  have h1':¬((a.length:Nat):Int)=0:=by omega
  have h2':((b.length:Nat):Int)=0:=by omega
  refine qW @h1' @h2' ?_;rw [e,jR,mk_zero];exact(mX 1▸trivial)
 have h1':¬((a.length:Nat):Int)=0:=by omega
 have h2':¬((b.length:Nat):Int)=0:=by omega
 refine qW @h1' @h2' ?_;refine⟨⟨by omega,by omega,by omega⟩,?_⟩;have eL:((a.length:Int)+(b.length:Int)).toNat=a.length+b.length:=by omega
 rw [eL,Oz];refine kG (fun _ _=>false) (α:=Nat×List Int) (fun q=>⟨kX [ints a,ints b,.any,.any,.any,.kP 0 0 (a.length+b.length),.any,.any,.any,.any,.any,.any,.any,.any,.any,.any,.any,.any,.any,.any,.any,.any,.any,ints a,iv (a.length:Nat),iv (q.1:Nat)],[some ⟨1,kF q.2⟩],0,0,[],[]⟩) (fun q=>q.1≤a.length∧q.2.length=a.length+b.length∧Lb q.2∧val q.2=val (a.take q.1)*n∧∀k,q.1+b.length≤k→q.2.getD k 0=0) (fun q=>a.length-q.1) rfl (0,List.replicate (a.length+b.length) 0) ?_ ?_ ?_
 ·exact⟨by omega,by simp,SE _,by rw [ah9];simp [val],by intro k _;simp [ak,jq];split<;>rfl⟩
 ·(refine jW ?_;exact zX)
 rintro⟨i,P⟩ ⟨hi,hP,hPb,hv,hz⟩;dsimp only at hi hP hPb hv hz;refine ev ?_;refine kD (fun c1=>?_) fun c1=>?_<;>(refine ev1 @c1 ?_;try with_reducible exact True.intro)
 ·have ga:=vg hba i;have eA:val (a.take (i+1))=val (a.take i)+1000000000 ^ i*(a.getD i 0).toNat:=by
   rw [oD (by omega),xX];congr 3;simp;omega
  refine kG (fun _ _=>false) (α:=Nat×Int×List Int) (fun q=>⟨kX [ints a,ints b,.any,.any,.any,.kP 0 0 (a.length+b.length),iv (i:Nat),iv q.2.1,.any,.any,.any,.any,.any,.any,.any,.any,.any,.any,.any,.any,.any,.any,.any,ints a,iv (a.length:Nat),iv (i:Nat),.any,.any,ints b,iv (b.length:Nat),iv (q.1:Nat)],[some ⟨1,kF q.2.2⟩],0,0,[],[]⟩) (fun q=>q.1≤b.length∧q.2.2.length=a.length+b.length∧Lb q.2.2∧(0≤q.2.1∧q.2.1<1000000000)∧val q.2.2+q.2.1.toNat*(1000000000 ^ i*1000000000 ^ q.1)=val P+(a.getD i 0).toNat*(1000000000 ^ i*val (b.take q.1))∧∀k,i+b.length≤k→q.2.2.getD k 0=0) (fun q=>b.length-q.1) rfl (0,0,P) ?_ ?_ ?_
  ·exact⟨by omega,hP,hPb,⟨by dsimp only;omega,by dsimp only;omega⟩,by simp [val],hz⟩
  ·(refine jW ?_;exact zX)
  rintro⟨j,c,D⟩ ⟨hj,hD,SQ,hc,hw,hzD⟩;dsimp only at hj hD SQ hc hw hzD;have gb:=vg hbb j;have gd:=vg SQ (i+j);have hm:=amh ga gb;by_cases c2:(j:Int)<(b.length:Nat)
  ·have k2:(val (D.set (i+j) ((c+(D.getD (i+j) 0+a.getD i 0*b.getD j 0)) % 1000000000))+((c+(D.getD (i+j) 0+a.getD i 0*b.getD j 0)) / 1000000000).toNat*(1000000000 ^ i*1000000000 ^ (j+1)))=val P+(a.getD i 0).toNat*(1000000000 ^ i*val (b.take (j+1))):=by
    have e1:val (b.take (j+1))=val (b.take j)+1000000000 ^ j*(b.getD j 0).toNat:=by
     rw [oD (by omega),xX];congr 3;simp;omega
    have e2:=XB (l:=D) (i:=i+j) (d:=(c+(D.getD (i+j) 0+a.getD i 0*b.getD j 0)) % 1000000000) (by omega);have e3:(a.getD i 0*b.getD j 0).toNat=(a.getD i 0).toNat*(b.getD j 0).toNat:=Int.toNat_mul ga.1 gb.1;have e4:(c+(D.getD (i+j) 0+a.getD i 0*b.getD j 0)).toNat=c.toNat+(D.getD (i+j) 0).toNat+(a.getD i 0).toNat*(b.getD j 0).toNat:=by
     rw [←e3];omega
    rw [e1,iC];rw [Nat.pow_add]at e2;have e5:((c+(D.getD (i+j) 0+a.getD i 0*b.getD j 0)) % 1000000000).toNat=(c+(D.getD (i+j) 0+a.getD i 0*b.getD j 0)).toNat % 1000000000:=by omega
    have e6:((c+(D.getD (i+j) 0+a.getD i 0*b.getD j 0)) / 1000000000).toNat=(c+(D.getD (i+j) 0+a.getD i 0*b.getD j 0)).toNat / 1000000000:=by omega
    rw [e5]at e2;rw [e6];exact aeo hw e2 e4
   have k3:∀k,i+b.length≤k→(D.set (i+j) ((c+(D.getD (i+j) 0+a.getD i 0*b.getD j 0)) % 1000000000)).getD k 0=0:=by
    intro k hk;rw [rG,if_neg (by omega)];exact hzD k hk
   have k4:=OD (l:=D) (i:=i+j) (d:=(c+(D.getD (i+j) 0+a.getD i 0*b.getD j 0)) % 1000000000) (by omega) (by omega) SQ;have t1:(c+(D.getD (i+j) 0+a.getD i 0*b.getD j 0)).tmod 1000000000=(c+(D.getD (i+j) 0+a.getD i 0*b.getD j 0)) % 1000000000:=SL (by omega);have t2:(c+(D.getD (i+j) 0+a.getD i 0*b.getD j 0)).tdiv 1000000000=(c+(D.getD (i+j) 0+a.getD i 0*b.getD j 0)) / 1000000000:=SN (by omega);have t3:((i:Int)+(j:Int)).toNat=i+j:=by omega
   clear hv hz hPb SQ eA hw hzD hba hbb;refine ev5 @c2 @hD @t1 @t2 @t3 ?_;refine⟨(j+1,(c+(D.getD (i+j) 0+a.getD i 0*b.getD j 0)) / 1000000000,D.set (i+j) ((c+(D.getD (i+j) 0+a.getD i 0*b.getD j 0)) % 1000000000)),by dsimp only;omega,⟨by dsimp only;omega,by simp [hD],k4,⟨by dsimp only;omega,by dsimp only;omega⟩,k2,k3⟩,by (refine jW ?_;exact zX)⟩
  have hj2:j=b.length:=by omega
  subst hj2;rw [bQ]at hw;have e2:=XB (l:=D) (i:=i+b.length) (d:=c) (by omega);rw [hzD (i+b.length) (aP _),Nat.pow_add]at e2;have k1:val (D.set (i+b.length) c)=val (a.take (i+1))*n:=by
   rw [eA,eP,←hv,←hvb];have:1000000000 ^ i*(a.getD i 0).toNat*val b=(a.getD i 0).toNat*(1000000000 ^ i*val b):=by rw [dH (1000000000 ^ i),eY]
   rw [this];have:c.toNat*(1000000000 ^ i*1000000000 ^ b.length)=1000000000 ^ i*1000000000 ^ b.length*c.toNat:=dH _ _;simp only [Int.toNat_zero,jR,gy]at e2;omega
  have k2:∀k,(i+1)+b.length≤k→(D.set (i+b.length) c).getD k 0=0:=by
   intro k hk;rw [rG,if_neg (by omega)];exact hzD k (by omega)
  have k3:=OD (l:=D) (i:=i+b.length) hc.1 hc.2 SQ;have t3:((i:Int)+(b.length:Int)).toNat=i+b.length:=by omega
  clear hv hz hPb SQ eA hw hzD hba hbb e2;refine zl @c2 @hD @t3 ?_;exact⟨(i+1,D.set (i+b.length) c),by dsimp only;omega,⟨by dsimp only;omega,by simp [hD],k3,k1,k2⟩,by (refine jW ?_;exact zX)⟩
 have hi2:i=a.length:=by omega
 subst hi2;rw [bQ,hva]at hv;refine ev1 @hP ?_;refine jy (NY h.rZ (l:=P) (by omega)) ?_;refine ev ?_;rw [Cj hPb,hv];exact kE _
def D9:Fn:=⟨1,21,[.tmp 2],(sr [oN 2 mN] (sr [oW 4 0,oN 5 (ln 4),oW 3 5] (.seq (.block 0 (.loop (.seq (sr [oW 6 3,oN 7 (bc .gtr 6 0),oW 8 7,oG 8 true 9 (oV 0),oG 8 true 10 (oV 3),oG 8 true 11 (bc .sub 10 1),oG 8 true 12 (ix 1 9 11),oG 8 true 13 (lF 1 12),oG 8 true 14 (bc .eql 13 0),oN 15 (.pick (.t 8) (.t 14) (.c (.bool false)))] (cd 15 .skip (.exit 0))) (.block 1 (rg [oW 16 3,oN 17 (bc .sub 16 1),oW 3 17]))))) (sr [oW 18 0,oW 19 3,oN 20 (.slice 1 (.t 18) none (some (.t 19))),oW 2 20] .ret))))⟩
structure sD (T:Tb):Prop where
 hT:T 71=some D9
def Hl:Fn:=⟨2,41,[.tmp 4],(sr [oN 4 (.mM (cI 0))] (.seq (sr [oW 6 0,oN 7 (ln 6),oW 8 1,oN 9 (ln 8),oN 10 (bt .neq 7 9)] (cd 10 (.seq (sr [oW 11 0,oN 12 (ln 11),oW 13 1,oN 14 (ln 13),oN 15 (bt .lss 12 14)] (cd 15 (sr [oN 4 (.mM (cI (-1)))] .ret) .skip)) (sr [oN 4 (.mM (cI 1))] .ret)) .skip)) (.seq (sr [oW 16 0,oN 17 (ln 16),oN 18 (bc .sub 17 1),oW 5 18] (.block 0 (.loop (.seq (sr [oW 19 5,oN 20 (bc .geq 19 0)] (cd 20 .skip (.exit 0))) (.seq (.block 1 (.seq (.seq (rt 0 [oW 23 0,oW 24 5,oA 25 0 (ix 1 23 24) [0,1],oA 26 0 (lF 1 25) [2],oW 27 1,oW 28 5,oA 29 0 (ix 1 27 28) [4,5],oA 30 0 (lF 1 29) [6],oA 31 0 (bt .lss 26 30) [3,7]]) (cd 31 (sr [oN 4 (.mM (cI (-1)))] .ret) .skip)) (.seq (rt 0 [oW 32 0,oW 33 5,oA 34 0 (ix 1 32 33) [0,1],oA 35 0 (lF 1 34) [2],oW 36 1,oW 37 5,oA 38 0 (ix 1 36 37) [4,5],oA 39 0 (lF 1 38) [6],oA 40 0 (bt .gtr 35 39) [3,7]]) (cd 40 (sr [oN 4 (.mM (cI 1))] .ret) .skip)))) (rg [oW 21 5,oN 22 (bc .sub 21 1),oW 5 22])))))) (sr [oN 4 (.mM (cI 0))] .ret))))⟩
structure yA (T:Tb):Prop where
 hT:T 146=some Hl
def Ho:Fn:=⟨2,55,[.tmp 4],(sr [oN 4 mN] (.seq (rf 1 [oN 9 (.ny 1 F8 0 []),oK 5 1 (oV 9)]) (sr [oN 6 (.mM (cI 0))] (.seq (sr [oN 7 (.mM (cI 0))] (.block 0 (.loop (.seq (sr [oW 10 7,oW 11 0,oN 12 (ln 11),oN 13 (bt .lss 10 12),oW 14 13,oG 14 false 15 (oV 7),oG 14 false 16 (oV 1),oG 14 false 17 (ln 16),oG 14 false 18 (bt .lss 15 17),oN 19 (.pick (.t 14) (.c (.bool true)) (.t 18)),oW 20 19,oG 20 false 21 (oV 6),oG 20 false 22 (bc .gtr 21 0),oN 23 (.pick (.t 20) (.c (.bool true)) (.t 22))] (cd 23 .skip (.exit 0))) (.seq (.block 1 (sr [oW 26 6,oW 8 26] (.seq (sr [oW 27 7,oW 28 0,oN 29 (ln 28),oN 30 (bt .lss 27 29)] (cd 30 (rg [oW 31 8,oW 32 0,oW 33 7,oN 34 (ix 1 32 33),oN 35 (lF 1 34),oN 36 (bt .add 31 35),oW 8 36]) .skip)) (.seq (sr [oW 37 7,oW 38 1,oN 39 (ln 38),oN 40 (bt .lss 37 39)] (cd 40 (rg [oW 41 8,oW 42 1,oW 43 7,oN 44 (ix 1 42 43),oN 45 (lF 1 44),oN 46 (bt .add 41 45),oW 8 46]) .skip)) (.seq (rf 2 [oK 47 2 (oV 5),oK 48 2 (oV 8),oK 49 2 (bc .rem 48 1000000000),oN 50 (.ny 1 F8 1 [(0,(.t 49))]),oK 51 1 (.app 1 8 (.t 47) (.t 50)),oK 5 2 (oV 51)]) (rg [oW 52 8,oN 53 (bc .quo 52 1000000000),oW 6 53])))))) (rg [oW 24 7,oN 25 (bc .add 24 1),oW 7 25])))))) (sr [oW 54 5,oW 4 54] .ret)))))⟩
structure MW (T:Tb):Prop where
 hT:T 209=some Ho
def Hq:Fn:=⟨2,42,[.tmp 4],(sr [oN 4 mN] (.seq (rf 1 [oN 9 (.ny 1 F8 0 []),oK 5 1 (oV 9)]) (sr [oN 6 (.mM (cI 0))] (.seq (sr [oW 10 0,oN 11 (ln 10),oN 12 (.mM (cI 0))] (.block 0 (.loop (sr [oN 13 (bt .lss 12 11)] (.seq (cd 13 .skip (.exit 0)) (.seq (.block 1 (sr [oW 14 12,oW 7 14] (sr [oW 15 0,oW 16 7,oN 17 (ix 1 15 16),oN 18 (lF 1 17),oW 19 6,oN 20 (bt .sub 18 19),oW 8 20] (.seq (sr [oW 21 7,oW 22 1,oN 23 (ln 22),oN 24 (bt .lss 21 23)] (cd 24 (rg [oW 25 8,oW 26 1,oW 27 7,oN 28 (ix 1 26 27),oN 29 (lF 1 28),oN 30 (bt .sub 25 29),oW 8 30]) .skip)) (sr [oN 6 (.mM (cI 0))] (.seq (sr [oW 31 8,oN 32 (bc .lss 31 0)] (cd 32 (sr [oW 33 8,oN 34 (bc .add 33 1000000000),oW 8 34] (rg [oN 6 (.mM (cI 1))])) .skip)) (rf 2 [oK 35 2 (oV 5),oK 36 2 (oV 8),oN 37 (.ny 1 F8 1 [(0,(.t 36))]),oK 38 1 (.app 1 8 (.t 35) (.t 37)),oK 5 2 (oV 38)]))))))) (rg [oN 39 (bc .add 12 1),oW 12 39]))))))) (sr [oW 40 5,oN 41 (cl 71 [40]),oW 4 41] .ret)))))⟩
structure Hr (T:Tb):Prop where
 hT:T 149=some Hq
 mY:sD T
def Ht:Fn:=⟨2,72,[.tmp 4],(sr [oN 4 mN] (.seq (sr [oW 12 0,oN 13 (ln 12),oN 14 (bc .eql 13 0),oW 15 14,oG 15 false 16 (oV 1),oG 15 false 17 (ln 16),oG 15 false 18 (bc .eql 17 0),oN 19 (.pick (.t 15) (.c (.bool true)) (.t 18))] (cd 19 (sr [oN 4 mN] .ret) .skip)) (.seq (rf 1 [oK 20 1 (oV 0),oK 21 1 (ln 20),oK 22 1 (oV 1),oK 23 1 (ln 22),oK 24 1 (bt .add 21 23),oN 25 (.make F8 8 (.t 24)),oK 5 1 (oV 25)]) (.seq (sr [oW 26 0,oN 27 (ln 26),oN 28 (.mM (cI 0))] (.block 0 (.loop (sr [oN 29 (bt .lss 28 27)] (.seq (cd 29 .skip (.exit 0)) (.seq (.block 1 (sr [oW 30 28,oN 31 (ix 1 26 28),oN 32 (lF 1 31),oW 6 30,oW 7 32] (sr [oN 8 (.mM (cI 0))] (.seq (sr [oW 33 1,oN 34 (ln 33),oN 35 (.mM (cI 0))] (.block 2 (.loop (sr [oN 36 (bt .lss 35 34)] (.seq (cd 36 .skip (.exit 2)) (.seq (.block 3 (sr [oW 37 35,oN 38 (ix 1 33 35),oN 39 (lF 1 38),oW 9 37,oW 10 39] (sr [oW 40 5,oW 41 6,oW 42 9,oN 43 (bt .add 41 42),oN 44 (ix 1 40 43),oN 45 (lF 1 44),oW 46 7,oW 47 10,oN 48 (bt .mul 46 47),oN 49 (bt .add 45 48),oW 50 8,oN 51 (bt .add 49 50),oW 11 51] (sr [oW 52 5,oW 53 6,oW 54 9,oN 55 (bt .add 53 54),oW 56 11,oN 57 (bc .rem 56 1000000000),oN 58 (ix 1 52 55),oS (.store 1 (.t 58) (.t 57))] (rg [oW 59 11,oN 60 (bc .quo 59 1000000000),oW 8 60]))))) (rg [oN 61 (bc .add 35 1),oW 35 61]))))))) (rg [oW 62 5,oW 63 6,oW 64 1,oN 65 (ln 64),oN 66 (bt .add 63 65),oW 67 8,oN 68 (ix 1 62 66),oS (.store 1 (.t 68) (.t 67))]))))) (rg [oN 69 (bc .add 28 1),oW 28 69]))))))) (sr [oW 70 5,oN 71 (cl 71 [70]),oW 4 71] .ret)))))⟩
structure wu (T:Tb):Prop where
 hT:T 150=some Ht
 mY:sD T
def JW:Fn:=⟨1,15,[.tmp 2],(sr [oN 2 mN] (.seq (rf 1 [oN 4 (.ny 1 F8 0 []),oK 3 1 (oV 4)]) (.seq (.block 0 (.loop (.seq (sr [oW 5 0,oN 6 (bc .gtr 5 0)] (cd 6 .skip (.exit 0))) (.block 1 (.seq (rf 2 [oK 7 2 (oV 3),oK 8 2 (oV 0),oK 9 2 (bc .rem 8 1000000000),oN 10 (.ny 1 F8 1 [(0,(.t 9))]),oK 11 1 (.app 1 8 (.t 7) (.t 10)),oK 3 2 (oV 11)]) (rg [oW 12 0,oN 13 (bc .quo 12 1000000000),oW 0 13])))))) (sr [oW 14 3,oW 2 14] .ret))))⟩
structure Ad (T:Tb):Prop where
 hT:T 67=some JW
def JX:Fn:=⟨3,15,[.tmp 6],(sr [oN 6 mF] (sr [oW 7 0,oW 8 1,oN 9 (bt .geq 7 8),oW 10 9,oG 10 true 11 (oV 0),oG 10 true 12 (oV 2),oG 10 true 13 (bt .leq 11 12),oN 14 (.pick (.t 10) (.t 13) (.c (.bool false))),oW 6 14] .ret))⟩
structure Ae (T:Tb):Prop where
 hT:T 35=some JX
def JY:Fn:=⟨1,32,[.tmp 2],(sr [oN 2 mF] (.seq (sr [oW 5 0,oN 6 (ln 5),oN 7 (.mM (cI 0))] (.block 0 (.loop (sr [oN 8 (bt .lss 7 6)] (.seq (cd 8 .skip (.exit 0)) (.seq (.block 1 (sr [oN 9 (ix 1 5 7),oN 10 (lF 1 9),oW 4 10] (sr [oW 11 4,oN 12 (.call 35 [(.t 11),(cI 0),(cI 999999999)]),oN 13 (nt 12)] (cd 13 (sr [oN 2 mF] .ret) .skip)))) (rg [oN 14 (bc .add 7 1),oW 7 14]))))))) (sr [oW 15 0,oN 16 (ln 15),oN 17 (bc .leq 16 60),oW 18 17,oG 18 true 19 (oV 0),oG 18 true 20 (ln 19),oG 18 true 21 (bc .eql 20 0),oG 18 true 22 (oV 21),oG 22 false 23 (oV 0),oG 22 false 24 (oV 0),oG 22 false 25 (ln 24),oG 22 false 26 (bc .sub 25 1),oG 22 false 27 (ix 1 23 26),oG 22 false 28 (lF 1 27),oG 22 false 29 (bc .neq 28 0),oG 18 true 30 (.pick (.t 22) (.c (.bool true)) (.t 29)),oN 31 (.pick (.t 18) (.t 30) (.c (.bool false))),oW 2 31] .ret)))⟩
structure Ea (T:Tb):Prop where
 hT:T 121=some JY
 xK:Ae T
def Hu:Fn:=⟨1,10,[.tmp 2],(sr [oN 2 mN] (sr [oW 4 0,oN 5 (cl 71 [4]),oW 3 5] (.seq (sr [oW 6 3,oN 7 (ln 6),oN 8 (bc .gtr 7 60)] (cd 8 (sr [oN 2 mN] .ret) .skip)) (sr [oW 9 3,oW 2 9] .ret))))⟩
structure MX (T:Tb):Prop where
 hT:T 70=some Hu
 mY:sD T
theorem yB{T:Tb}(h:sD T){l:List Int}(hl:l.length≤1048576:=by exact lX):PF T 71 [ints l] (ints (trim l)):=by
 refine kQ nR h.hT ?_;simp only [D9,Lz];refine ev ?_;refine kG (fun _ _=>false) (α:=Nat) (fun n=>⟨kX [ints l,.any,.any,iv (n:Nat)],[],0,0,[],[]⟩) (fun n=>n≤l.length∧xC l l.length=xC l n) (fun n=>n) rfl l.length ?_ ?_ ?_
 ·exact⟨by omega,rfl⟩
 ·(refine jW ?_;exact zX)
 rintro n ⟨hn,ht⟩;refine ev ?_;refine kD (fun hb=>?_) fun hb=>?_<;>(refine ev1 @hb ?_;try with_reducible exact True.intro)
 ·obtain⟨m,rfl⟩:∃m,n=m+1:=⟨n-1,by omega⟩;have e1:((m+1:Nat):Int)-1=(m:Nat):=by omega
  refine ev1 @e1 ?_;refine kD (fun hc=>?_) fun hc=>?_<;>(refine ev1 @hc ?_;try with_reducible exact True.intro)
  ·refine⟨m,by omega,⟨by omega,?_⟩,by (refine jW ?_;exact zX)⟩;rw [ht];simp only [xC,hc,if_true]
  rw [trim,ht];simp only [xC,hc,if_false]
 have:n=0:=by omega
 subst this;rw [trim,ht];simp [xC,kF]
theorem aep{T:Tb}(h:MX T){n:Nat}(hl:(mk n).length≤60:=by exact lX):PF T 70 [ints (mk n)] (ints (mk n)):=by
 have ct:=yB h.mY (l:=mk n) (by omega);rw [Ql (uI n)]at ct;have c1:¬(60:Int)<((mk n).length:Nat):=by omega
 refine kQ nR h.hT ?_;simp only [Hu,Lz];refine ev ?_;refine jy ct ?_
 (refine ev1 @c1 ?_;try with_reducible exact True.intro)
theorem Uj{T:Tb}(h:yA T){a b:List Int}(ha:Can a)(hb:Can b)(la:a.length≤1048576:=by exact lX)(lb:b.length≤1048576:=by exact lX):PF T 146 [ints a,ints b] (iv (NT (val a) (val b))):=by
 refine kQ nR h.hT ?_;simp only [Hl,Lz];refine ev ?_;by_cases h1:((a.length:Nat):Int)<(b.length:Nat)
 ·have:=yx ha.1 hb (by omega);have h0:¬((a.length:Nat):Int)=(b.length:Nat):=by omega
  refine qW @h0 @h1 ?_;simp [NT,this]
 by_cases h2:((b.length:Nat):Int)<(a.length:Nat)
 ·have:=yx hb.1 ha (by omega);have h3:¬val a<val b:=by omega
  have h0:¬((a.length:Nat):Int)=(b.length:Nat):=by omega
  refine qW @h0 @h1 ?_;simp [NT,this,h3]
 have hl:a.length=b.length:=by omega
 have h0:=iff_true_intro (show ((a.length:Nat):Int)=(b.length:Nat) by omega);refine ev1 @h0 ?_;refine kG (fun _ _=>false) (α:=Nat) (fun n=>⟨kX [ints a,ints b,.any,.any,.any,iv ((n:Int)-1)],[],0,0,[],[]⟩) (fun n=>n≤a.length∧a.drop n=b.drop n) (fun n=>n) rfl a.length ?_ ?_ ?_
 ·exact⟨by omega,by rw [dB (by omega),dB (by omega)]⟩
 ·(refine jW ?_;exact zX)
 rintro n ⟨hn,hd⟩;refine ev ?_;refine kD (fun h3=>?_) fun h3=>?_<;>(refine ev1 @h3 ?_;try with_reducible exact True.intro)
 ·obtain⟨m,rfl⟩:∃m,n=m+1:=⟨n-1,by omega⟩;have e1:((m+1:Nat):Int)-1=(m:Nat):=by omega
  refine ev1 @e1 ?_;refine kD (fun h4=>?_) fun h4=>?_<;>(refine qW @h4 @e1 ?_;try with_reducible exact True.intro)
  ·have:=QT ha.1 hb.1 (i:=m) (by omega) (by omega) hd h4;simp [NT,this]
  refine kD (fun h5=>?_) fun h5=>?_<;>(refine qW @h5 @e1 ?_;try with_reducible exact True.intro)
  ·have:=QT hb.1 ha.1 (i:=m) (by omega) (by omega) hd.symm h5;have h6:¬val a<val b:=by omega
   simp [NT,this,h6]
  have e:a.getD m 0=b.getD m 0:=by omega
  refine⟨m,by omega,⟨by omega,?_⟩,by (refine jW ?_;exact zX)⟩;rw [QX (by omega),QX (l:=b) (by omega),e,hd]
 have:n=0:=by omega
 subst this;simp only [bZ]at hd;subst hd;simp [NT]
theorem ami{T:Tb}(h:MW T){m n:Nat}(la:(mk m).length≤1000:=by exact lX)(lb:(mk n).length≤1000:=by exact lX):PF T 209 [ints (mk m),ints (mk n)] (ints (mk (m+n))):=by
 obtain⟨a,hA⟩:∃a,mk m=a:=⟨_,rfl⟩;obtain⟨b,hB⟩:∃b,mk n=b:=⟨_,rfl⟩;have hva:val a=m:=by rw [←hA,val_mk]
 have hvb:val b=n:=by rw [←hB,val_mk]
 have hba:Lb a:=hA▸uZ m;have hbb:Lb b:=hB▸uZ n;rw [hA]at la ⊢;rw [hB]at lb ⊢;refine kH nR h.hT ?_;simp only [Ho,Lz];refine ev ?_;refine kG (fun _ _=>false) (α:=Nat×Int×List Int) (fun q=>⟨kX [ints a,ints b,.any,.any,.any,slV q.2.2.length,iv q.2.1,iv (q.1:Nat)],VH 1 (kF q.2.2),0,0,[],[]⟩) (fun q=>q.2.2.length=q.1∧Lb q.2.2∧(0≤q.2.1∧q.2.1≤1)∧val q.2.2+1000000000 ^ q.1*(q.2.1.toNat+val (a.drop q.1)+val (b.drop q.1))=m+n∧(q.1≤max a.length b.length∨(q.1=max a.length b.length+1∧q.2.1=0∧q.2.2.getLast? ≠ some 0))) (fun q=>max a.length b.length+1-q.1) rfl (0,0,[]) ?_ ?_ ?_
 ·exact⟨rfl,agq,⟨by dsimp only;omega,by dsimp only;omega⟩,by simp [val,hva,hvb],by dsimp only;omega⟩
 ·exact LQ
 rintro⟨i,c,xs⟩ ⟨hl,hlb,hc,hv,hi⟩;dsimp only at hl hlb hc hv hi;have hi':i≤max a.length b.length∨(i=max a.length b.length+1∧c=0):=hi.imp id fun h=>⟨h.1,h.2.1⟩;have hx:xs.length≤1001:=by omega
 have ea:=qp a i;have eb:=qp b i;have ga:=vg hba i;have gb:=vg hbb i;have step:=ael hl hc.1 ga.1 gb.1 hv ea eb;have za:a.length≤i→a.getD i 0=0:=OH;have zb:b.length≤i→b.getD i 0=0:=OH;have key:∀t:Int,t=c+a.getD i 0+b.getD i 0→((i:Int)<a.length∨(i:Int)<b.length∨0<c)→∃a':Nat×Int×List Int,a'=(i+1,t.tdiv 1000000000,xs++[t.tmod 1000000000]) ∧
   max a.length b.length+1-a'.1<max a.length b.length+1-i∧(a'.2.2.length=a'.1∧Lb a'.2.2∧(0≤a'.2.1∧a'.2.1≤1)∧val a'.2.2+1000000000 ^ a'.1*(a'.2.1.toNat+val (a.drop a'.1)+val (b.drop a'.1))=m+n ∧
    (a'.1≤max a.length b.length∨(a'.1=max a.length b.length+1∧a'.2.1=0∧a'.2.2.getLast? ≠ some 0))):=by
  intro t ht hor;have ht0:0≤t:=by omega
  refine⟨_,rfl,?_⟩;dsimp only;rw [SL ht0,SN ht0];refine⟨by omega,by simp [hl],ab3 (by omega) (by omega) hlb,⟨by omega,by omega⟩,by rw [ht];exact step,?_⟩;by_cases hlt:i<max a.length b.length
  ·left;omega
  right;have h1:=za (by omega);have h2:=zb (by omega);refine⟨by omega,by omega,?_⟩;intro hlast;rw [List.getLast?_concat]at hlast;have:=Option.some.inj hlast;omega
 have fin:¬((i:Int)<a.length∨(i:Int)<b.length∨0<c)→xs=mk (m+n):=by
  intro hno;have e1:val (a.drop i)=0:=ni (by omega);have e2:val (b.drop i)=0:=ni (by omega);rw [e1,e2,show c.toNat=0 by omega]at hv;simp only [gy,jR]at hv;refine(aib hv hlb ?_).symm;rw [hA,hB];rcases hi with k|k
  ·left;omega
  right;exact k.2.2
 by_cases ca:(i:Int)<(a.length:Nat)<;>by_cases cb:(i:Int)<(b.length:Nat)<;>by_cases cc:0<c
 ·obtain⟨_,rfl,k1,k2⟩:=key (c+a.getD i 0+b.getD i 0) (by omega) (by omega);clear key step fin ea eb hi hv hlb hba hbb za zb
  (rcases xs with _|⟨x,xs⟩<;>simp only [au,aj,qX,qH,mO,lI]at hx ⊢)
  ·refine zl @ca @cb @cc ?_;exact⟨by omega,_,k1,k2,by exact LU⟩
  refine zl @ca @cb @cc ?_;exact⟨by omega,_,k1,k2,by exact JV⟩
 ·obtain⟨_,rfl,k1,k2⟩:=key (c+a.getD i 0+b.getD i 0) (by omega) (by omega);clear key step fin ea eb hi hv hlb hba hbb za zb
  (rcases xs with _|⟨x,xs⟩<;>simp only [au,aj,qX,qH,mO,lI]at hx ⊢)
  ·refine zl @ca @cb @cc ?_;exact⟨by omega,_,k1,k2,by exact LU⟩
  refine zl @ca @cb @cc ?_;exact⟨by omega,_,k1,k2,by exact JV⟩
 ·obtain⟨_,rfl,k1,k2⟩:=key (c+a.getD i 0) (by omega) (by omega);clear key step fin ea eb hi hv hlb hba hbb za zb
  (rcases xs with _|⟨x,xs⟩<;>simp only [au,aj,qX,qH,mO,lI]at hx ⊢)
  ·refine zl @ca @cb @cc ?_;exact⟨by omega,_,k1,k2,by exact LU⟩
  refine zl @ca @cb @cc ?_;exact⟨by omega,_,k1,k2,by exact JV⟩
 ·obtain⟨_,rfl,k1,k2⟩:=key (c+a.getD i 0) (by omega) (by omega);clear key step fin ea eb hi hv hlb hba hbb za zb
  (rcases xs with _|⟨x,xs⟩<;>simp only [au,aj,qX,qH,mO,lI]at hx ⊢)
  ·refine zl @ca @cb @cc ?_;exact⟨by omega,_,k1,k2,by exact LU⟩
  refine zl @ca @cb @cc ?_;exact⟨by omega,_,k1,k2,by exact JV⟩
 ·obtain⟨_,rfl,k1,k2⟩:=key (c+b.getD i 0) (by omega) (by omega);clear key step fin ea eb hi hv hlb hba hbb za zb
  (rcases xs with _|⟨x,xs⟩<;>simp only [au,aj,qX,qH,mO,lI]at hx ⊢)
  ·refine zl @ca @cb @cc ?_;exact⟨by omega,_,k1,k2,by exact LU⟩
  refine zl @ca @cb @cc ?_;exact⟨by omega,_,k1,k2,by exact JV⟩
 ·obtain⟨_,rfl,k1,k2⟩:=key (c+b.getD i 0) (by omega) (by omega);clear key step fin ea eb hi hv hlb hba hbb za zb
  (rcases xs with _|⟨x,xs⟩<;>simp only [au,aj,qX,qH,mO,lI]at hx ⊢)
  ·refine zl @ca @cb @cc ?_;exact⟨by omega,_,k1,k2,by exact LU⟩
  refine zl @ca @cb @cc ?_;exact⟨by omega,_,k1,k2,by exact JV⟩
 ·obtain⟨_,rfl,k1,k2⟩:=key (c) (by omega) (by omega);clear key step fin ea eb hi hv hlb hba hbb za zb
  (rcases xs with _|⟨x,xs⟩<;>simp only [au,aj,qX,qH,mO,lI]at hx ⊢)
  ·refine zl @ca @cb @cc ?_;exact⟨by omega,_,k1,k2,by exact LU⟩
  refine zl @ca @cb @cc ?_;exact⟨by omega,_,k1,k2,by exact JV⟩
 have e:=fin (by omega);clear key step fin ea eb hi hv hlb hba hbb za zb
 (rcases xs with _|⟨x,xs⟩<;>simp only [au,aj,qX,qH,mO,lI]at hx ⊢)
 ·refine zl @ca @cb @cc ?_;rw [←e];exact(mX 1▸trivial)
 refine zl @ca @cb @cc ?_;rw [←e];exact kE _
theorem xZ{T:Tb}(h:wu T){m n:Nat}(la:(mk m).length≤1000:=by exact lX)(lb:(mk n).length≤1000:=by exact lX):PF T 150 [ints (mk m),ints (mk n)] (ints (mk (m*n))):=by
 obtain⟨a,hA⟩:∃a,mk m=a:=⟨_,rfl⟩;obtain⟨b,hB⟩:∃b,mk n=b:=⟨_,rfl⟩;have hva:val a=m:=by rw [←hA,val_mk]
 have hvb:val b=n:=by rw [←hB,val_mk]
 have hba:Lb a:=hA▸uZ m;have hbb:Lb b:=hB▸uZ n;rw [hA]at la ⊢;rw [hB]at lb ⊢;refine kH nR h.hT ?_;simp only [Ht,Lz];refine ev ?_;by_cases h1:a.length=0
 ·have:a=[]:=bf h1;have e:m=0:=by rw [←hva,this];rfl
  have h1':((a.length:Nat):Int)=0:=by omega
  refine ev1 @h1' ?_;rw [e,jP,mk_zero];exact(mX 1▸trivial)
 by_cases h2:b.length=0
 ·have:b=[]:=bf h2;have e:n=0:=by rw [←hvb,this];rfl
  have h1':¬((a.length:Nat):Int)=0:=by omega
  have h2':((b.length:Nat):Int)=0:=by omega
  refine qW @h1' @h2' ?_;rw [e,jR,mk_zero];exact(mX 1▸trivial)
 have h1':¬((a.length:Nat):Int)=0:=by omega
 have h2':¬((b.length:Nat):Int)=0:=by omega
 refine qW @h1' @h2' ?_;refine⟨⟨by omega,by omega,by omega⟩,?_⟩;have eL:((a.length:Int)+(b.length:Int)).toNat=a.length+b.length:=by omega
 rw [eL,Oz];refine kG (fun _ _=>false) (α:=Nat×List Int) (fun q=>⟨kX [ints a,ints b,.any,.any,.any,.kP 0 0 (a.length+b.length),.any,.any,.any,.any,.any,.any,.any,.any,.any,.any,.any,.any,.any,.any,.any,.any,.any,.any,.any,.any,ints a,iv (a.length:Nat),iv (q.1:Nat)],[some ⟨1,kF q.2⟩],0,0,[],[]⟩) (fun q=>q.1≤a.length∧q.2.length=a.length+b.length∧Lb q.2∧val q.2=val (a.take q.1)*n∧∀k,q.1+b.length≤k→q.2.getD k 0=0) (fun q=>a.length-q.1) rfl (0,List.replicate (a.length+b.length) 0) ?_ ?_ ?_
 ·exact⟨by omega,by simp,SE _,by rw [ah9];simp [val],by intro k _;simp [ak,jq];split<;>rfl⟩
 ·(refine jW ?_;exact zX)
 rintro⟨i,P⟩ ⟨hi,hP,hPb,hv,hz⟩;dsimp only at hi hP hPb hv hz;refine ev ?_;refine kD (fun c1=>?_) fun c1=>?_<;>(refine ev1 @c1 ?_;try with_reducible exact True.intro)
 ·have ga:=vg hba i;have eA:val (a.take (i+1))=val (a.take i)+1000000000 ^ i*(a.getD i 0).toNat:=by
   rw [oD (by omega),xX];congr 3;simp;omega
  refine kG (fun _ _=>false) (α:=Nat×Int×List Int) (fun q=>⟨kX [ints a,ints b,.any,.any,.any,.kP 0 0 (a.length+b.length),iv (i:Nat),iv (a.getD i 0),iv q.2.1,.any,.any,.any,.any,.any,.any,.any,.any,.any,.any,.any,.any,.any,.any,.any,.any,.any,ints a,iv (a.length:Nat),iv (i:Nat),.any,.any,.any,.any,ints b,iv (b.length:Nat),iv (q.1:Nat)],[some ⟨1,kF q.2.2⟩],0,0,[],[]⟩) (fun q=>q.1≤b.length∧q.2.2.length=a.length+b.length∧Lb q.2.2∧(0≤q.2.1∧q.2.1<1000000000)∧val q.2.2+q.2.1.toNat*(1000000000 ^ i*1000000000 ^ q.1)=val P+(a.getD i 0).toNat*(1000000000 ^ i*val (b.take q.1))∧∀k,i+b.length≤k→q.2.2.getD k 0=0) (fun q=>b.length-q.1) rfl (0,0,P) ?_ ?_ ?_
  ·exact⟨by omega,hP,hPb,⟨by dsimp only;omega,by dsimp only;omega⟩,by simp [val],hz⟩
  ·(refine jW ?_;exact zX)
  rintro⟨j,c,D⟩ ⟨hj,hD,SQ,hc,hw,hzD⟩;dsimp only at hj hD SQ hc hw hzD;have gb:=vg hbb j;have gd:=vg SQ (i+j);have hm:=amh ga gb;by_cases c2:(j:Int)<(b.length:Nat)
  ·have k2:(val (D.set (i+j) ((D.getD (i+j) 0+a.getD i 0*b.getD j 0+c) % 1000000000))+((D.getD (i+j) 0+a.getD i 0*b.getD j 0+c) / 1000000000).toNat*(1000000000 ^ i*1000000000 ^ (j+1)))=val P+(a.getD i 0).toNat*(1000000000 ^ i*val (b.take (j+1))):=by
    have e1:val (b.take (j+1))=val (b.take j)+1000000000 ^ j*(b.getD j 0).toNat:=by
     rw [oD (by omega),xX];congr 3;simp;omega
    have e2:=XB (l:=D) (i:=i+j) (d:=(D.getD (i+j) 0+a.getD i 0*b.getD j 0+c) % 1000000000) (by omega);have e3:(a.getD i 0*b.getD j 0).toNat=(a.getD i 0).toNat*(b.getD j 0).toNat:=Int.toNat_mul ga.1 gb.1;have e4:(D.getD (i+j) 0+a.getD i 0*b.getD j 0+c).toNat=c.toNat+(D.getD (i+j) 0).toNat+(a.getD i 0).toNat*(b.getD j 0).toNat:=by
     rw [←e3];omega
    rw [e1,iC];rw [Nat.pow_add]at e2;have e5:((D.getD (i+j) 0+a.getD i 0*b.getD j 0+c) % 1000000000).toNat=(D.getD (i+j) 0+a.getD i 0*b.getD j 0+c).toNat % 1000000000:=by omega
    have e6:((D.getD (i+j) 0+a.getD i 0*b.getD j 0+c) / 1000000000).toNat=(D.getD (i+j) 0+a.getD i 0*b.getD j 0+c).toNat / 1000000000:=by omega
    rw [e5]at e2;rw [e6];exact aeo hw e2 e4
   have k3:∀k,i+b.length≤k→(D.set (i+j) ((D.getD (i+j) 0+a.getD i 0*b.getD j 0+c) % 1000000000)).getD k 0=0:=by
    intro k hk;rw [rG,if_neg (by omega)];exact hzD k hk
   have k4:=OD (l:=D) (i:=i+j) (d:=(D.getD (i+j) 0+a.getD i 0*b.getD j 0+c) % 1000000000) (by omega) (by omega) SQ;have t1:(D.getD (i+j) 0+a.getD i 0*b.getD j 0+c).tmod 1000000000=(D.getD (i+j) 0+a.getD i 0*b.getD j 0+c) % 1000000000:=SL (by omega);have t2:(D.getD (i+j) 0+a.getD i 0*b.getD j 0+c).tdiv 1000000000=(D.getD (i+j) 0+a.getD i 0*b.getD j 0+c) / 1000000000:=SN (by omega);have t3:((i:Int)+(j:Int)).toNat=i+j:=by omega
   clear hv hz hPb SQ eA hw hzD hba hbb;refine ev5 @c2 @hD @t1 @t2 @t3 ?_;refine⟨(j+1,(D.getD (i+j) 0+a.getD i 0*b.getD j 0+c) / 1000000000,D.set (i+j) ((D.getD (i+j) 0+a.getD i 0*b.getD j 0+c) % 1000000000)),by dsimp only;omega,⟨by dsimp only;omega,by simp [hD],k4,⟨by dsimp only;omega,by dsimp only;omega⟩,k2,k3⟩,by (refine jW ?_;exact zX)⟩
  have hj2:j=b.length:=by omega
  subst hj2;rw [bQ]at hw;have e2:=XB (l:=D) (i:=i+b.length) (d:=c) (by omega);rw [hzD (i+b.length) (aP _),Nat.pow_add]at e2;have k1:val (D.set (i+b.length) c)=val (a.take (i+1))*n:=by
   rw [eA,eP,←hv,←hvb];have:1000000000 ^ i*(a.getD i 0).toNat*val b=(a.getD i 0).toNat*(1000000000 ^ i*val b):=by rw [dH (1000000000 ^ i),eY]
   rw [this];have:c.toNat*(1000000000 ^ i*1000000000 ^ b.length)=1000000000 ^ i*1000000000 ^ b.length*c.toNat:=dH _ _;simp only [Int.toNat_zero,jR,gy]at e2;omega
  have k2:∀k,(i+1)+b.length≤k→(D.set (i+b.length) c).getD k 0=0:=by
   intro k hk;rw [rG,if_neg (by omega)];exact hzD k (by omega)
  have k3:=OD (l:=D) (i:=i+b.length) hc.1 hc.2 SQ;have t3:((i:Int)+(b.length:Int)).toNat=i+b.length:=by omega
  clear hv hz hPb SQ eA hw hzD hba hbb e2;refine zl @c2 @hD @t3 ?_;exact⟨(i+1,D.set (i+b.length) c),by dsimp only;omega,⟨by dsimp only;omega,by simp [hD],k3,k1,k2⟩,by (refine jW ?_;exact zX)⟩
 have hi2:i=a.length:=by omega
 subst hi2;rw [bQ,hva]at hv;refine ev1 @hP ?_;refine jy (yB h.mY (l:=P) (by omega)) ?_;refine ev ?_;rw [Cj hPb,hv];exact kE _
theorem XE{T:Tb}(h:Ae T){a b c:Int}:PF T 35 [iv a,iv b,iv c] (.bool (decide (b≤a)&&decide (a≤c))):=by
 refine kQ nR h.hT ?_;simp only [JX,Lz];refine ev ?_;by_cases h1:b≤a
 ·(refine ev1 @h1 ?_;try with_reducible exact True.intro)
 (refine ev1 @h1 ?_;try with_reducible exact True.intro)
theorem YM{T:Tb}(h:Ea T){l:List Int}(hl:l.length≤9223372036854775807:=by exact lX):PF T 121 [ints l] (.bool (xY l)):=by
 refine kQ nR h.hT ?_;simp only [JY,Lz];refine ev ?_;refine kG (fun _ _=>false) (α:=Nat) (fun i=>⟨kX [ints l,.any,.any,.any,.any,ints l,iv (l.length:Nat),iv (i:Nat)],[],0,0,[],[]⟩) (fun i=>i≤l.length∧∀j,j<i→0≤l.getD j 0∧l.getD j 0<1000000000) (fun i=>l.length-i) rfl 0 ?_ ?_ ?_
 ·exact⟨by omega,by intro j hj;omega⟩
 ·(refine jW ?_;exact zX)
 rintro i ⟨hi,hj⟩;refine ev ?_;refine kD (fun h2=>?_) fun h2=>?_<;>(refine ev1 @h2 ?_;try with_reducible exact True.intro)
 ·have bad:¬(0≤l.getD i 0∧l.getD i 0<1000000000)→xY l=false:=fun hn=>by
   have:¬xY l=true:=fun e=>by
    have hc:=(QU.1 e).2.1;exact hn (vg hc i)
   simpa using this
  refine jy (XE h.xK) ?_;by_cases g:0≤l.getD i 0∧l.getD i 0<1000000000
  ·have g1:0≤l.getD i 0:=g.1;have g2:l.getD i 0≤999999999:=by omega
   refine qW @g1 @g2 ?_;refine⟨i+1,by omega,⟨by omega,fun j hj'=>?_⟩,by (refine jW ?_;exact zX)⟩;by_cases e:j=i
   ·subst e;omega
   exact hj j (by omega)
  rw [bad g];have g2:(decide (0≤l.getD i 0)&&decide (l.getD i 0≤999999999))=false:=by
   simp only [jc,decide_eq_false_iff_not];omega
  (refine ev1 @g2 ?_;try with_reducible exact True.intro)
 have hi2:i=l.length:=by omega
 subst hi2;have hall:l.all (fun d=>decide (0≤d)&&decide (d<1000000000))=true:=by
  rw [aZ];intro d hd;obtain⟨j,hj1,rfl⟩:=List.mem_iff_getElem.1 hd;have:=hj j hj1;rw [ak,aB hj1]at this;simpa using this
 unfold xY;rw [hall];by_cases q1:((l.length:Nat):Int)≤60
 ·have q1':decide (l.length≤60)=true:=by simp;omega
  rw [q1'];by_cases q2:((l.length:Nat):Int)=0
  ·have q2':=iff_true_intro q2;refine qW @q1 @q2' ?_;have:l=[]:=bf (by omega);subst this;rfl
  refine qW @q1 @q2 ?_;have e1:((l.length:Nat):Int)-1=((l.length-1:Nat):Int):=by omega
  have e2:((l.length:Int)-1).toNat=l.length-1:=by omega
  have e3:l.isEmpty=false:=by cases l<;>simp_all
  rw [e3,e2];simp
 have q1':decide (l.length≤60)=false:=by simp;omega
 rw [q1']
 (refine ev1 @q1 ?_;try with_reducible exact True.intro)
theorem L9{T:Tb}(h:Ad T){n:Int}(hn:0≤n∧n≤9223372036854775807:=by exact lX):PF T 67 [iv n] (ints (mk n.toNat)):=by
 have hlen:(mk n.toNat).length≤3:=lK.2 (by omega);refine kH nR h.hT ?_;simp only [JW,Lz];refine ev ?_;refine kG (fun _ _=>false) (α:=Nat×List Int) (fun q=>⟨kX [iv (q.1:Nat),.any,.any,slV q.2.length],VH 1 (kF q.2),0,0,[],[]⟩) (fun q=>q.2++mk q.1=mk n.toNat∧q.1≤n.toNat) (fun q=>q.1) rfl (n.toNat,[]) ?_ ?_ ?_
 ·exact⟨rfl,aP _⟩
 ·exact LQ
 rintro⟨m,xs⟩ ⟨hm,hle⟩;dsimp only at hm hle;have hx:xs.length≤3:=by
  have:=congrArg List.length hm;simp at this;omega
 have e1:((m:Int).tmod 1000000000)=((m % 1000000000:Nat):Int):=by rw [SL (by omega)];omega
 have e2:((m:Int).tdiv 1000000000)=((m / 1000000000:Nat):Int):=by rw [SN (by omega)];omega
 have key:0<m→(xs++[((m % 1000000000:Nat):Int)])++mk (m / 1000000000)=mk n.toNat:=fun h=>by
  rw [←hm,mk_pos (n:=m) (by omega)];simp
 (rcases xs with _|⟨x,xs⟩<;>simp only [au,aj,qX,qH,mO,lI]at hx ⊢)
 ·refine ev ?_;refine kD (fun hb=>?_) fun hb=>?_<;>(refine zl @hb @e1 @e2 ?_;try with_reducible exact True.intro)
  ·exact⟨by omega,(m / 1000000000,[]++[((m % 1000000000:Nat):Int)]),by dsimp only;omega,⟨key (by omega),by dsimp only;omega⟩,by exact LU⟩
  have e:mk n.toNat=[]:=by rw [←hm,show m=0 by omega,mk_zero];rfl
  rw [e];exact(mX 1▸trivial)
 refine ev ?_;refine kD (fun hb=>?_) fun hb=>?_<;>(refine zl @hb @e1 @e2 ?_;try with_reducible exact True.intro)
 ·refine⟨by omega,(m / 1000000000,(x::xs)++[((m % 1000000000:Nat):Int)]),by dsimp only;omega,⟨key (by omega),by dsimp only;omega⟩,by exact JV⟩
 have e:x::xs=mk n.toNat:=by rw [←hm,show m=0 by omega,mk_zero];simp
 rw [←e];exact kE _
def sQ:Fn:=⟨2,44,[.tmp 4],(sr [oN 4 (.mM (cI 0))] (sr [oW 8 1,oN 9 (ln 8),oW 5 9] (sr [oW 10 0,oW 11 5,oN 12 (bc .sub 11 1),oN 13 (ix 1 10 12),oN 14 (lF 1 13),oW 6 14] (.seq (sr [oW 15 0,oN 16 (ln 15),oW 17 5,oN 18 (bt .gtr 16 17)] (cd 18 (rg [oW 19 6,oW 20 0,oW 21 5,oN 22 (ix 1 20 21),oN 23 (lF 1 22),oN 24 (bc .mul 23 1000000000),oN 25 (bt .add 19 24),oW 6 25]) .skip)) (.seq (sr [oW 26 5,oN 27 (bc .eql 26 1)] (cd 27 (sr [oW 28 6,oW 29 1,oN 30 (.idx 1 (.t 29) (cI 0)),oN 31 (lF 1 30),oN 32 (bt .quo 28 31),oW 4 32] .ret) .skip)) (sr [oW 33 6,oW 34 1,oW 35 5,oN 36 (bc .sub 35 1),oN 37 (ix 1 34 36),oN 38 (lF 1 37),oN 39 (bc .add 38 1),oN 40 (bt .quo 33 39),oW 7 40] (.seq (sr [oW 41 7,oN 42 (bc .eql 41 0)] (cd 42 (sr [oN 4 (.mM (cI 1))] .ret) .skip)) (sr [oW 43 7,oW 4 43] .ret))))))))⟩
structure Jo (T:Tb):Prop where
 hT:T 153=some sQ
def Bh:Fn:=⟨2,76,[.tmp 4,.tmp 5],(sr [oN 4 mN,oN 5 mN] (.seq (sr [oW 12 0,oN 13 (ln 12),oN 14 (bc .leq 13 2),oW 15 14,oG 15 true 16 (oV 1),oG 15 true 17 (ln 16),oG 15 true 18 (bc .leq 17 2),oN 19 (.pick (.t 15) (.t 18) (.c (.bool false)))] (cd 19 (sr [oW 20 0,oN 21 (cl 137 [20]),oW 22 1,oN 23 (cl 137 [22]),oW 6 21,oW 7 23] (.seq (rt 0 [oW 24 6,oW 25 7,oA 26 0 (bt .quo 24 25) [0,1],oA 27 0 (.conv .u64 (.t 26)) [2],oA 28 0 (cl 69 [27]) [3],oW 29 6,oW 30 7,oA 31 0 (bt .rem 29 30) [5,6],oA 32 0 (.conv .u64 (.t 31)) [7],oA 33 0 (cl 69 [32]) [8,4],oA 4 0 (oV 28) [4,9,0,1,2,3,4],oA 5 0 (oV 33) [9,10,0,1,2,3,4,5,6,7,8,9,10]]) .ret)) .skip)) (.seq (rf 1 [oK 34 1 (oV 0),oK 35 1 (ln 34),oN 36 (.make F8 8 (.t 35)),oK 8 1 (oV 36)]) (.seq (rf 1 [oN 37 (.ny 1 F8 0 []),oK 9 1 (oV 37)]) (.seq (sr [oW 38 0,oN 39 (ln 38),oN 40 (bc .sub 39 1),oW 10 40] (.block 0 (.loop (.seq (sr [oW 41 10,oN 42 (bc .geq 41 0)] (cd 42 .skip (.exit 0))) (.seq (.block 1 (.seq (rf 2 [oK 45 2 (oV 0),oK 46 2 (oV 10),oK 47 2 (ix 1 45 46),oK 48 2 (lF 1 47),oN 49 (.ny 1 F8 1 [(0,(.t 48))]),oK 50 2 (oV 9),oK 51 1 (.app 1 8 (.t 49) (.t 50)),oK 52 2 (cl 151 [51]),oK 9 2 (oV 52)]) (.block 2 (.loop (.seq (sr [oW 53 9,oW 54 1,oN 55 (cl 152 [53,54]),oN 56 (bc .geq 55 0)] (cd 56 .skip (.exit 2))) (.block 3 (sr [oW 57 9,oW 58 1,oN 59 (cl 153 [57,58]),oW 11 59] (.seq (rf 1 [oK 60 1 (oV 9),oK 61 1 (oV 1),oK 62 1 (oV 11),oN 63 (.ny 1 F8 1 [(0,(.t 62))]),oK 64 1 (cl 155 [61,63]),oK 65 1 (cl 154 [60,64]),oK 9 1 (oV 65)]) (rg [oW 66 8,oW 67 10,oN 68 (ix 1 66 67),oN 69 (lF 1 68),oW 70 11,oN 71 (bt .add 69 70),oN 72 (ix 1 66 67),oS (.store 1 (.t 72) (.t 71))]))))))))) (rg [oW 43 10,oN 44 (bc .sub 43 1),oW 10 44])))))) (sr [oW 73 8,oN 74 (cl 151 [73]),oW 75 9,oW 4 74,oW 5 75] .ret))))))⟩
structure Bj (T:Tb):Prop where
 hT:T 138=some Bh
 nG:uD T
 sU:CB T
 rZ:wR T
 Hw:G7 T
 Pq:Jo T
 Bl:He T
 Hy:Hg T
theorem YN{T:Tb}(h:Jo T){r b:Nat}(hb:0<b)(hle:b≤r)(hlt:r<b*1000000000)(lr:(mk r).length≤1000:=by exact lX)(lb:(mk b).length≤1000:=by exact lX) :
  ∃d:Nat,PF T 153 [ints (mk r),ints (mk b)] (iv (d:Nat))∧0<d∧d<1000000000∧d*b≤r:=by
 obtain⟨h1,h2,h3,h4,h5⟩:=amf hb hle hlt;obtain⟨A,hA⟩:∃A,mk r=A:=⟨_,rfl⟩;obtain⟨B,hB⟩:∃B,mk b=B:=⟨_,rfl⟩;have hbA:Lb A:=hA▸uZ r;have hbB:Lb B:=hB▸uZ b;rw [hA]at h1 h2 h4 h5 lr ⊢;rw [hB]at h1 h2 h3 h4 h5 lb ⊢;obtain⟨k,hk⟩:∃k,B.length=k+1:=⟨B.length-1,by omega⟩;have g1:=vg hbA k;have g2:=vg hbA (k+1);have g3:=vg hbB k;have g4:=vg hbB 0;have eT:(val (A.drop k):Int)=A.getD k 0+(if k+1<A.length then A.getD (k+1) 0*1000000000 else 0):=by
  rw [qp A k];split
  ·rw [qp A (k+1),ni (l:=A) (i:=k+1+1) (by omega)];omega
  rw [ni (l:=A) (i:=k+1) (by omega)];omega
 have e1:((B.length:Nat):Int)-1=(k:Nat):=by omega
 have ebk:B.length-1=k:=by omega
 rw [ebk]at h5;by_cases hk0:k=0
 ·subst hk0;obtain⟨d1,d2,d3,d4⟩:=h4 (by omega);refine⟨_,?_,d1,d2,d3⟩;have c0:((B.length:Nat):Int)=1:=by omega
  have e2:((val (A.drop 0) / (B.getD 0 0).toNat:Nat):Int)=(val (A.drop 0):Int).tdiv (B.getD 0 0):=by
   rw [eU (by omega)];have:((B.getD 0 0).toNat:Int)=B.getD 0 0:=by omega
   rw [←this];simp
  have d5:0≤(val (A.drop 0):Int).tdiv (B.getD 0 0)∧(val (A.drop 0):Int).tdiv (B.getD 0 0)<1000000000:=by rw [←e2];omega
  rw [eT]at e2 d5;rw [e2];clear h4 h5 eT hbA hbB e2 d1 d2 d3 hlt hle hb hA hB h2;have c0':=iff_true_intro c0;have nb:¬B.getD 0 0=0:=by omega
  clear d4;have e3:((0:Nat):Int).toNat=0:=rfl;have e4:(((0:Nat):Int)+1).toNat=0+1:=rfl;by_cases c1:(1:Int)<(A.length:Nat)
  ·have c2:0+1<A.length:=by omega
   have c3:=iff_true_intro (show ((B.length:Nat):Int)<(A.length:Nat) by omega);rw [if_pos c2]at d5 ⊢;refine kQ nR h.hT ?_;simp only [sQ,Lz];refine ev ?_;refine ev5 @c0' @c3 @e1 @e3 @nb ?_;rw [hk,w64 (n:=A.getD (0+1) 0*1000000000) (by omega),w64 (n:=A.getD 0 0+_) (by omega),w64 (by omega)]
  have c2:¬0+1<A.length:=by omega
  have c3:¬((B.length:Nat):Int)<(A.length:Nat):=by omega
  rw [if_neg c2]at d5 ⊢;refine kQ nR h.hT ?_;simp only [sQ,Lz];refine ev ?_;refine ev5 @c0' @c3 @e1 @e3 @nb ?_;simp only [Int.add_zero]at d5 ⊢
 have c0:¬((B.length:Nat):Int)=1:=by omega
 have e4:(((k:Nat):Int)+1).toNat=k+1:=by omega
 obtain⟨d2,d3⟩:=h5;have e2:((val (A.drop k) / ((B.getD k 0).toNat+1):Nat):Int)=(val (A.drop k):Int).tdiv (B.getD k 0+1):=by
  rw [eU (by omega)];have:(((B.getD k 0).toNat+1:Nat):Int)=B.getD k 0+1:=by omega
  rw [←this,Int.natCast_ediv]
 have d5:0≤(val (A.drop k):Int).tdiv (B.getD k 0+1)∧(val (A.drop k):Int).tdiv (B.getD k 0+1)<1000000000:=⟨by rw [←e2];exact Int.natCast_nonneg _,by rw [←e2];exact Int.ofNat_lt.mpr d2⟩;generalize hd:val (A.drop k) / ((B.getD k 0).toNat+1)=d at d2 d3 e2;rw [eT]at e2 d5;have fin:∀t:Int,t=(if k+1<A.length then A.getD (k+1) 0*1000000000 else 0)→∃d:Nat,(if (A.getD k 0+t).tdiv (B.getD k 0+1)=0 then iv 1 else iv ((A.getD k 0+t).tdiv (B.getD k 0+1)))=iv (d:Nat)∧0<d∧d<1000000000∧d*b≤r:=by
  intro t ht;rw [←ht]at e2;rw [←e2];by_cases z:d=0
  ·exact⟨1,by simp [z],by omega,by omega,by omega⟩
  exact⟨d,by rw [if_neg (by omega)],by omega,d2,d3⟩
 clear h4 eT hbA hbB e2 d2 d3 hlt hle hb hA hB hd h2;by_cases c1:((k:Nat):Int)+1<(A.length:Nat)
 ·have c2:k+1<A.length:=by omega
  have c3:((B.length:Nat):Int)<(A.length:Nat):=by omega
  rw [if_pos c2]at d5 fin;obtain⟨u,f1,f2⟩:=fin _ rfl;refine⟨u,?_,f2⟩;clear f2 fin;rw [←f1];have nb:¬B.getD k 0+1=0:=by omega
  refine kQ nR h.hT ?_;simp only [sQ,Lz];refine ev ?_;refine ev5 @c0 @c3 @e1 @e4 @nb ?_;rw [hk,w64 (n:=A.getD (k+1) 0*1000000000) (by omega),w64 (n:=A.getD k 0+_) (by omega),w64 (by omega)];refine kD (fun z=>?_) fun z=>?_<;>(refine ev1 @z ?_;try with_reducible exact True.intro)
 have c2:¬k+1<A.length:=by omega
 have c3:¬((B.length:Nat):Int)<(A.length:Nat):=by omega
 rw [if_neg c2]at d5 fin;obtain⟨u,f1,f2⟩:=fin _ rfl;refine⟨u,?_,f2⟩;clear f2 fin;rw [←f1];have nb:¬B.getD k 0+1=0:=by omega
 refine kQ nR h.hT ?_;simp only [sQ,Lz];refine ev ?_;refine ev5 @c0 @c3 @e1 @e4 @nb ?_;simp only [Int.add_zero]at d5 ⊢;refine kD (fun z=>?_) fun z=>?_<;>(refine ev1 @z ?_;try with_reducible exact True.intro)
theorem VI{a b:St}(h:Fg a b:=by
 (refine KH [(0,_)] (by simp) (by intro p hp;simp only [aH,bV,or_false]at hp;rcases hp with rfl<;>refine⟨rfl,?_⟩<;>first|exact pF _|simp [l7,V.still]) rfl ?_)<;>(try (refine ev ?_;try with_reducible exact True.intro))<;>(repeat' (first|exact True.intro|omega|exact nP rfl (by simp)|refine⟨?_,?_⟩|exact of_eq_true (tH _ _ _)|exact lY rfl (by simp;done)|exact lY rfl rfl|(refine mW rfl ?_ rfl;simp [kF];done)|(refine mW rfl ?_ rfl;simp [kF];omega)|(refine tJ ?_ ?_;(focus ((refine ev ?_;try with_reducible exact True.intro);done));(intro q hq k s0 l0;simp;done))))):Fg a b:=h
theorem YO{T:Tb}(h:Bj T){m n:Nat}(hn:0<n)(la:(mk m).length≤900:=by exact lX)(lb:(mk n).length≤900:=by exact lX) :
  PF T 138 [ints (mk m),ints (mk n)] (.nK [ints (mk (m / n)),ints (mk (m % n))]):=by
 obtain⟨A,hA⟩:∃A,mk m=A:=⟨_,rfl⟩;obtain⟨B,hB⟩:∃B,mk n=B:=⟨_,rfl⟩;have hva:val A=m:=by rw [←hA,val_mk]
 have hbA:Lb A:=hA▸uZ m;have hbB:Lb B:=hB▸uZ n;rw [hA]at la ⊢;rw [hB]at lb ⊢;refine kH nR h.hT ?_;simp only [Bh,Lz];refine ev ?_;have cas:(((A.length:Nat):Int)≤2∧((B.length:Nat):Int)≤2)∨((((A.length:Nat):Int)≤2∧¬((B.length:Nat):Int)≤2)∨¬((A.length:Nat):Int)≤2):=by omega
 rcases cas with ⟨c1,c2⟩|big
 ·have sm:m<1000000000000000000:=by
   have:=yQ hbA;rw [hva]at this;exact aU this (cZ (eG (by omega) (show A.length≤2 by omega)) (by omega))
  have sn:n<1000000000000000000:=by
   have:=yQ hbB;rw [←hB,val_mk]at this;exact aU this (cZ (eG (by omega) (show (mk n).length≤2 by rw [hB];omega)) (by omega))
  have cs:=Gq h.sU sm;have ct:=Gq h.sU sn;rw [hA]at cs;rw [hB]at ct;have e1:((m:Nat):Int).tdiv (n:Nat)=((m / n:Nat):Int):=by rw [eU (by omega),Int.natCast_ediv]
  have e2:((m:Nat):Int).tmod (n:Nat)=((m % n:Nat):Int):=by rw [gI (by omega),jM]
  have d1:m / n≤m:=Nat.div_le_self ..;have d2:m % n≤m:=Nat.mod_le ..;have nz:¬((n:Nat):Int)=0:=by omega
  generalize m / n=q at *;generalize m % n=r at *;have c3:=zD h.nG (n:=((q:Nat):Int)) (by omega);have c4:=zD h.nG (n:=((r:Nat):Int)) (by omega);rw [fU]at c3 c4;refine qW @c1 @c2 ?_;refine jy cs ?_;refine ev ?_;refine jy ct ?_;refine zl @nz @e1 @e2 ?_;refine jy c3 ?_;refine zl @nz @e1 @e2 ?_;refine jy c4 ?_;refine ev ?_;exact kE _
 rcases big with ⟨c1,c2⟩|c1
 case' inl=>(refine qW @c1 @c2 ?_;try with_reducible exact True.intro)
 case' inr=>(refine ev1 @c1 ?_;try with_reducible exact True.intro)
 all_goals
  refine⟨by omega,?_⟩;rw [Oz];refine kG (fun _ _=>false) (α:=Nat×List Int×Nat) (fun q=>⟨kX [ints A,ints B,.any,.any,.any,.any,.any,.any,.kP 0 0 A.length,ints (mk q.2.2),iv ((q.1:Nat)-1)],[some ⟨1,kF q.2.1⟩],0,0,[],[]⟩) (fun q=>q.1≤A.length∧q.2.1.length=A.length∧Lb q.2.1∧(∀j,j<q.1→q.2.1.getD j 0=0)∧q.2.2<n∧val (A.drop q.1)=val (q.2.1.drop q.1)*n+q.2.2) (fun q=>q.1) rfl (A.length,List.replicate A.length 0,0) ?_ ?_ ?_
  ·exact⟨by omega,by simp,SE _,by intro j _;simp [List.getD_eq_getElem?_getD,List.getElem?_replicate];split<;>rfl,hn,by dsimp only;rw [ni (Nat.le_refl _),ni (by simp)];simp⟩
  ·rw [mk_zero];exact VI
  rintro⟨k,Q,x⟩ ⟨hk,hQ,hQb,hz,hx,hv⟩;dsimp only at hk hQ hQb hz hx hv;by_cases k0:k=0
  ·subst k0;rw [bZ,bZ,hva]at hv;obtain⟨q1,q2⟩:=OG hv hx;have e0:¬(0:Int)≤((0:Nat):Int)-1:=by omega
   refine ev1 @e0 ?_;refine jy (NY h.rZ (l:=Q) (by omega)) ?_;refine ev ?_;rw [Cj hQb,←q1,←q2];exact kE _
  obtain⟨i,rfl⟩:∃i,k=i+1:=⟨k-1,by omega⟩;have e0:(((i+1:Nat):Int)-1)=(i:Nat):=by omega
  have e1:((i:Nat):Int)<(A.length:Nat):=by omega
  have e2:(0:Int)≤(i:Nat):=by omega
  rw [e0];have ga:=vg hbA i;have hvi:=qp A i;obtain⟨t,ht⟩:∃t,(A.getD i 0).toNat+1000000000*x=t:=⟨_,rfl⟩;have htn:t<n*1000000000:=by omega
  have lt':(A.getD i 0::mk x).length≤1048576:=by
   have:(mk x).length≤B.length:=by rw [lK];exact Nat.lt_trans hx (by have:=yQ hbB;rw [←hB,val_mk,hB]at this;exact this)
   simp only [aj];omega
  have tr:trim (A.getD i 0::mk x)=mk t:=by
   rw [Cj (by intro y hy;rcases aH.1 hy with rfl|hy;exact ga;exact uZ x y hy),←ht,val,val_mk]
  have ct:=NY h.rZ (l:=A.getD i 0::mk x) lt';rw [tr]at ct;have ely:∀y,y≤t→(mk y).length≤901:=by
   intro y hy;have:(mk y).length≤B.length+1:=by
    rw [lK,iC];have:=yQ hbB;rw [←hB,val_mk,hB]at this;exact aU (Nat.lt_of_le_of_lt hy htn) (dM _ (Nat.le_of_lt this))
   omega
  have lx:=ely;refine qW @e2 @e1 ?_;refine⟨fun e3=>?_,fun e3=>?_⟩
  case' refine_1 =>
   have x0:mk x=[]:=by cases hm:mk x with|nil=>rfl|cons a l=>rw [hm]at e3;cases e3
   rw [x0]at ct;rw [show [[V.int IntKind.i64 (A.getD i 0)]]=kF [A.getD i 0]from rfl]
   (refine ev ?_;try with_reducible exact True.intro)
  case' refine_2 =>
   refine ev1 @e3 ?_;rw [show [V.int IntKind.i64 (A.getD i 0)]::kF (mk x)=kF (A.getD i 0::mk x)from rfl];refine ev ?_;have lm:=lt';simp only [aj]at lm;refine⟨by omega,?_⟩
  all_goals
   clear lt';refine jy ct ?_;refine ev ?_;refine kG (fun _ _=>false) (α:=List Int×Nat) (fun q=>⟨kX [ints A,ints B,.any,.any,.any,.any,.any,.any,.kP 0 0 A.length,ints (mk q.2),iv (i:Nat)],[some ⟨1,kF q.1⟩],0,0,[],[]⟩) (fun q=>q.1.length=A.length∧Lb q.1∧(∀j,j<i→q.1.getD j 0=0)∧q.1.drop (i+1)=Q.drop (i+1)∧q.2+(q.1.getD i 0).toNat*n=t) (fun q=>q.2) rfl (Q,t) ?_ ?_ ?_
   ·exact⟨hQ,hQb,fun j hj=>hz j (by omega),rfl,by dsimp only;rw [hz i (by omega)];simp⟩
   ·exact VI
   rintro⟨P,y⟩ ⟨hP,hPb,hzP,hd,hy⟩;dsimp only at hP hPb hzP hd hy;have yt:y≤t:=by omega
   have ly:=ely y yt;have cc:=YK h.Hw (uI y) (uI n) (by omega) (by rw [hB];omega);rw [val_mk,val_mk,hB]at cc;refine ev ?_;refine jy cc ?_;refine ev ?_;refine kD (fun c3=>?_) fun c3=>?_<;>(refine ev1 @c3 ?_;try with_reducible exact True.intro)
   ·have hny:n≤y:=xE.1 c3;obtain⟨d,pg,d0,d1,d2⟩:=YN h.Pq hn hny (by omega) (by omega) (by rw [hB];omega);rw [hB]at pg;have pm:=YL h.Hy (m:=n) (n:=d) (by rw [hB];omega) (by rw [mk_one d0 d1];simp);have dn:n*d≤y:=by rw [dH];exact d2
    have lnd:=ely (n*d) (by omega);have ps:=Ui h.Bl dn (by omega) (by omega);rw [hB,mk_one d0 d1]at pm;have gp:=vg hPb i;have y2:y-n*d+((P.getD i 0).toNat+d)*n=t:=by rw [eP,dH d n];omega
    have gp2:P.getD i 0+d<1000000000:=by
     have:((P.getD i 0).toNat+d)*n<1000000000*n:=by rw [dH 1000000000];omega
     have:=Nat.lt_of_mul_lt_mul_right this;omega
    have d0':0<n*d:=Nat.mul_pos hn d0;have k1:=OD (l:=P) (i:=i) (d:=P.getD i 0+d) (by omega) gp2 hPb;have k2:∀j,j<i→(P.set i (P.getD i 0+d)).getD j 0=0:=by
     intro j hj;rw [rG,if_neg (by omega)];exact hzP j hj
    have k3:(P.set i (P.getD i 0+d)).drop (i+1)=Q.drop (i+1):=by rw [List.drop_set_of_lt (by omega),hd]
    have k4:((P.set i (P.getD i 0+d)).getD i 0)=P.getD i 0+d:=by rw [rG,if_pos ⟨rfl,by omega⟩]
    have k5:y-n*d+((P.set i (P.getD i 0+d)).getD i 0).toNat*n=t:=by
     rw [k4,show (P.getD i 0+(d:Int)).toNat=(P.getD i 0).toNat+d by omega];exact y2
    have k6:y-n*d<y:=by omega
    clear y2 hy htn ht hvi k4 hzP hd d2 lx ely hv hz hx;refine jy pg ?_;refine ev ?_;rw [show [[V.int IntKind.i64 (d:Int)]]=kF [(d:Int)]from rfl];refine ev ?_;refine jy pm ?_;refine ev ?_;refine jy ps ?_;refine qW @e1 @hP ?_;exact⟨(P.set i (P.getD i 0+d),y-n*d),k6,⟨by simp [hP],k1,k2,k3,k5⟩,by exact VI⟩
   have hny:y<n:=by
    have:=@xE y n;omega
   have k1:=qp P i;rw [hd]at k1;have k2:val (A.drop i)=val (P.drop i)*n+y:=by
    rw [hvi,hv,k1,eP,iQ,←eY];omega
   exact⟨(i,P,y),by dsimp only;omega,⟨by dsimp only;omega,hP,hPb,hzP,hny,k2⟩,by (refine jW ?_;exact zX)⟩
def yc:Fn:=⟨1,6,[.tmp 2],(sr [oN 2 mN] (.seq (rf 2 [oN 3 (.ny 1 F8 0 []),oK 4 2 (oV 0),oK 5 1 (.app 1 8 (.t 3) (.t 4)),oK 2 2 (oV 5)]) .ret))⟩
structure vk (T:Tb):Prop where
 hT:T 139=some yc
def Hz:Fn:=⟨2,43,[.tmp 4],(sr [oN 4 mN] (.seq (.block 0 (.loop (.seq (sr [oW 9 1,oN 10 (ln 9),oN 11 (bc .gtr 10 0)] (cd 11 .skip (.exit 0))) (.block 1 (.seq (sr [oW 12 0,oN 13 (ln 12),oN 14 (bc .leq 13 2),oW 15 14,oG 15 true 16 (oV 1),oG 15 true 17 (ln 16),oG 15 true 18 (bc .leq 17 2),oN 19 (.pick (.t 15) (.t 18) (.c (.bool false)))] (cd 19 (sr [oW 20 0,oN 21 (cl 137 [20]),oW 22 1,oN 23 (cl 137 [22]),oW 5 21,oW 6 23] (.seq (.block 2 (.loop (.seq (sr [oW 24 6,oN 25 (bc .gtr 24 0)] (cd 25 .skip (.exit 2))) (.block 3 (rt 0 [oW 26 6,oW 27 5,oW 28 6,oA 29 0 (bt .rem 27 28) [1,2],oA 5 0 (oV 26) [0,0,1],oA 6 0 (oV 29) [3,4,0,1,2,3,4]]))))) (sr [oW 30 5,oN 31 (.conv .u64 (.t 30)),oN 32 (cl 69 [31]),oW 4 32] .ret))) .skip)) (sr [oW 34 0,oW 35 1,oN 36 (cl 138 [34,35]),oW 33 36,oN 37 (ex 0 33),oN 38 (ex 1 33),oW 7 37,oW 8 38] (rg [oW 39 1,oW 40 8,oW 0 39,oW 1 40]))))))) (sr [oW 41 0,oN 42 (cl 139 [41]),oW 4 42] .ret)))⟩
structure HY (T:Tb):Prop where
 hT:T 127=some Hz
 nG:uD T
 sU:CB T
 yC:Bj T
 sV:vk T
theorem SS{T:Tb}(h:vk T){l:List Int}(hl:l.length≤1048576:=by exact lX):PF T 139 [ints l] (ints l):=by
 refine kH nR h.hT ?_;simp only [yc,Lz];refine ev ?_;refine⟨fun e=>?_,fun e=>⟨by omega,kE _⟩⟩;show lW (.sl 1 (kF l)) .jL;rw [e];exact of_eq_true (mX 1)
theorem YP{T:Tb}(h:HY T){m n:Nat}(la:(mk m).length≤900:=by exact lX)(lb:(mk n).length≤900:=by exact lX) :
  PF T 127 [ints (mk m),ints (mk n)] (ints (mk (Nat.gcd m n))):=by
 refine kH nR h.hT ?_;simp only [Hz,Lz];refine ev ?_;refine kG (fun _ _=>false) (α:=Nat×Nat) (fun q=>⟨kX [ints (mk q.1),ints (mk q.2)],[],0,0,[],[]⟩) (fun q=>Nat.gcd q.1 q.2=Nat.gcd m n∧(mk q.1).length≤900∧(mk q.2).length≤900) (fun q=>q.2) rfl (m,n) ?_ ?_ ?_
 ·exact⟨rfl,la,lb⟩
 ·exact LQ
 rintro⟨x,y⟩ ⟨hg,lx,ly⟩;dsimp only at hg lx ly;rw [←hg];clear hg la lb;refine ev ?_;refine kD (fun c1=>?_) fun c1=>?_<;>(refine ev1 @c1 ?_;try with_reducible exact True.intro)
 ·have hy:0<y:=by
   rcases iH y with rfl|h
   ·rw [mk_zero]at c1;simp at c1
   exact h
  have cas:((((mk x).length:Nat):Int)≤2∧(((mk y).length:Nat):Int)≤2)∨(((((mk x).length:Nat):Int)≤2∧¬(((mk y).length:Nat):Int)≤2)∨¬(((mk x).length:Nat):Int)≤2):=by omega
  rcases cas with ⟨c2,c3⟩|big
  ·have sx:x<1000000000000000000:=by have:=lK (n:=x) (k:=2);omega
   have sy:y<1000000000000000000:=by have:=lK (n:=y) (k:=2);omega
   refine qW @c2 @c3 ?_;refine jy (Gq h.sU sx) ?_;refine ev ?_;refine jy (Gq h.sU sy) ?_;refine ev ?_;refine kG (fun _ _=>false) (α:=Nat×Nat) (fun q=>⟨kX [.any,.any,.any,.any,.any,iv (q.1:Nat),iv (q.2:Nat)],[],0,0,[],[]⟩) (fun q=>Nat.gcd q.1 q.2=Nat.gcd x y∧q.1<1000000000000000000∧q.2<1000000000000000000) (fun q=>q.2) rfl (x,y) ?_ ?_ ?_
   ·exact⟨rfl,sx,sy⟩
   ·exact LQ
   rintro⟨u,v⟩ ⟨hg,su,sv⟩;dsimp only at hg su sv;rw [←hg];clear hg;refine ev ?_;refine kD (fun c4=>?_) fun c4=>?_<;>(refine ev1 @c4 ?_;try with_reducible exact True.intro)
   ·have v0:0<v:=by omega
    have er:((u:Nat):Int).tmod (v:Nat)=((u % v:Nat):Int):=by rw [gI (by omega),jM]
    have lr:=jQ u v0;have eg:Nat.gcd v (u % v)=Nat.gcd u v:=by rw [jD u v,Nat.gcd_rec v u,jD]
    exact⟨(v,u % v),lr,⟨eg,sv,by dsimp only;omega⟩,by (refine jW ?_)<;>(try (refine ev1 @er ?_;try with_reducible exact True.intro))<;>(repeat' (first|refine⟨?_,?_⟩|exact vH (by omega)|exact xH (by simp)|exact vI _))⟩
   have v0:v=0:=by omega
   have cu:=zD h.nG (n:=((u:Nat):Int)) (by omega);rw [fU]at cu;refine jy cu ?_;refine ev ?_;rw [v0,Nat.gcd_zero_right];exact kE _
  have lr:=jQ x hy;have lr2:(mk (x % y)).length≤900:=cZ (lK.2 (Nat.lt_trans lr (lK.1 (aP _)))) ly;have eg:Nat.gcd y (x % y)=Nat.gcd x y:=by rw [jD x y,Nat.gcd_rec y x,jD]
  rcases big with ⟨c2,c3⟩|c2
  case' inl=>(refine qW @c2 @c3 ?_;try with_reducible exact True.intro)
  case' inr=>(refine ev1 @c2 ?_;try with_reducible exact True.intro)
  all_goals
   refine jy (YO h.yC hy lx ly) ?_;refine ev ?_;exact⟨(y,x % y),lr,⟨eg,ly,lr2⟩,by (refine jW ?_;exact zX)⟩
 have y0:y=0:=by
  rcases iH y with h|h
  ·exact h
  have:=alR (n:=y) (by omega);omega
 refine jy (SS h.sV (l:=mk x) (by omega)) ?_;refine ev ?_;rw [y0,Nat.gcd_zero_right];exact kE _
end Go.Ml
end
