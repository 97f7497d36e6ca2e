/- Contracts of functions. -/
import Derived.Test.YtbccjdlcbhknoaaGreatPart0
set_option linter.unusedSimpArgs false
set_option linter.unusedVariables false
set_option maxRecDepth 100000
set_option maxHeartbeats 16000000
section
namespace Go.Ml
def xk(n:Nat)(v:V)(k:Nat→Prop):Prop:=match v with
 |.int _ i=>(0≤i∧i<n)∧k i.toNat
 |_=>False
def rH(n:Nat)(v:V)(k:Nat→Prop):Prop:=match v with
 |.int _ i=>(0≤i∧i≤n)∧k i.toNat
 |_=>False
theorem Ae{n:Nat}{v:V}{k:Nat→Prop}(h:xk n v k):∃j,OT n v=some j∧k j:=by
 cases v<;>simp only [xk]at h<;>first|exact h.elim|skip
 exact⟨_,by simp only [OT];rw [if_pos h.1],h.2⟩
theorem Nw{n:Nat}{v:V}{k:Nat→Prop}(h:rH n v k):∃j,G7 n v=some j∧k j:=by
 cases v<;>simp only [rH]at h<;>first|exact h.elim|skip
 exact⟨_,by simp only [G7];rw [if_pos h.1],h.2⟩
def nK{α:Type}(o:Option α)(k:α→Prop):Prop:=match o with
 |some a=>k a
 |none=>False
theorem kV{α:Type}{o:Option α}{k:α→Prop}(h:nK o k):∃a,o=some a∧k a:=by
 cases o with
 |none=>exact h.elim
 |some a=>exact⟨a,rfl,h⟩
def xH(op:BinOp)(x y:V)(k:V→Prop):Prop:=match op,x,y with
 |.add,.int q a,.int q' b=>q=q'∧k (.int q (q.wrap (a+b)))
 |.sub,.int q a,.int q' b=>q=q'∧k (.int q (q.wrap (a-b)))
 |.mul,.int q a,.int q' b=>q=q'∧k (.int q (q.wrap (a*b)))
 |.quo,.int q a,.int q' b=>(q=q'∧b≠0)∧k (.int q (q.wrap (a.tdiv b)))
 |.rem,.int q a,.int q' b=>(q=q'∧b≠0)∧k (.int q (a.tmod b))
 |.eql,.int q a,.int q' b=>q=q'∧k (.bool (a == b))
 |.neq,.int q a,.int q' b=>q=q'∧k (.bool (a != b))
 |.lss,.int q a,.int q' b=>q=q'∧k (.bool (decide (a<b)))
 |.leq,.int q a,.int q' b=>q=q'∧k (.bool (decide (a≤b)))
 |.gtr,.int q a,.int q' b=>q=q'∧k (.bool (decide (b<a)))
 |.geq,.int q a,.int q' b=>q=q'∧k (.bool (decide (b≤a)))
 |.eql,.str a,.str b=>k (.bool (a == b))
 |.neq,.str a,.str b=>k (.bool (!(a == b)))
 |.add,.str a,.str b=>a.length+b.length<2 ^ 62∧k (.str (a++b))
 |.shr,.int q a,.int _ b=>0≤b∧k (.int q (a.fdiv (2 ^ (min b.toNat q.bits))))
 |.and,.int q a,.int q' b=>q=q'∧k (.int q (G6 q a b))
 |.xor,.int q a,.int q' b=>q=q'∧k (.int q (SX q a b))
 |_,_,_=>False
theorem afx{op:BinOp}{x y:V}{k:V→Prop}(h:xH op x y k):∃v,WJ op x y=some v∧k v:=by
 unfold xH at h;split at h<;>first|exact h.elim|skip
 all_goals first
  |exact⟨_,by simp only [WJ];rw [if_pos h.1],h.2⟩
  |exact⟨_,by simp only [WJ],h⟩
def I.nM(env:Nat→V)(σ:Store)(i:I)(k:Eff→Prop):Prop:=match i with
 |.oO x=>k (.val (x.ev env))
 |
  .pick c a b=>match c.ev env with
  |.bool t=>k (.val (if t then a.ev env else b.ev env))
  |_=>False
 |.alloc zero=>k (.newP ⟨zero.length,[zero]⟩)
 |
  .box x=>match (x.ev env).cells? with
  |some (c::cs)=>k (.newP ⟨(c::cs).length,[c::cs]⟩)
  |_=>False
 |.build zero parts=>nK (zi env zero parts) fun cs=>k (.val (.agg cs))
 |.oI sz zero ln parts=>nK (sJ env sz (List.replicate ln zero) parts) fun rows=>if ln=0 then k (.val .jF)else k (.newS ⟨sz,rows⟩ ln)
 |
  .make zero bytes x=>match x.ev env with
  |.int .i64 n=>(0≤n∧n≤2 ^ 47∧n*bytes≤2 ^ 47)∧k (.newS ⟨zero.length,List.replicate n.toNat zero⟩ n.toNat)
  |_=>False
 |.load n isAgg a=>nK (rowAt σ (a.ev env)) fun p =>
   if isAgg then(p.2+n≤p.1.length∧k (.val (.agg ((p.1.drop p.2).take n))))else nK p.1[p.2]? fun v=>k (.val v)
 |
  .store n a x=>match a.ev env with
  |.ptr o r off=>nK (x.ev env).cells? fun cs=>nK (iZ σ o) fun ob=>nK ob.rows[r]? fun row =>
    (cs.length=n∧off+n≤row.length)∧k (.upd o ⟨ob.sz,ob.rows.set r (splice row off cs)⟩)
  |_=>False
 |
  .fld d a=>match a.ev env with
  |.ptr o r off=>nK (iZ σ o) fun _=>k (.val (.ptr o r (off+d)))
  |.ou row off=>k (.val (.ou row (off+d)))
  |_=>False
 |
  .idx sz x i=>match x.ev env with
  |.kQ o s l=>nK (iZ σ o) fun ob=>xk l (i.ev env) fun j=>ob.sz=sz∧k (.val (.ptr o (s+j) 0))
  |.sl sz' rows=>xk rows.length (i.ev env) fun j=>sz'=sz∧k (.val (.ou (rows.getD j []) 0))
  |_=>False
 |
  .BZ cnt sz x i=>match x.ev env with
  |.ptr o r off=>xk cnt (i.ev env) fun j=>nK (iZ σ o) fun _=>k (.val (.ptr o r (off+j*sz)))
  |.ou row off=>xk cnt (i.ev env) fun j=>k (.val (.ou row (off+j*sz)))
  |_=>False
 |
  .Zm x i=>match x.ev env with
  |.str s=>xk s.length (i.ev env) fun j=>k (.val (.int .u8 (s.getD j 0).toNat))
  |_=>False
 |.len x=>nK (lenOf σ (x.ev env)) fun n=>k (.val (.int .i64 n))
 |
  .Zn x=>match x.ev env with
  |.str s=>k (.val (.int .i64 s.length))
  |_=>False
 |.bin op x y=>xH op (x.ev env) (y.ev env) fun v=>k (.val v)
 |
  .beq ne x y=>match x.ev env,y.ev env with
  |.bool a,.bool b=>k (.val (.bool (if ne then !(a == b)else a == b)))
  |_,_=>False
 |
  .un op x=>match op,x.ev env with
  |.neg,.int q n=>k (.val (.int q (q.wrap (0-n))))
  |.not,.bool b=>k (.val (.bool (!b)))
  |_,_=>False
 |
  .conv q x=>match x.ev env with
  |.int _ n=>k (.val (.int q (q.wrap n)))
  |_=>False
 |.app sz bytes x y=>nK (rowsOf σ (x.ev env)) fun old=>nK (rowsOf σ (y.ev env)) fun new =>
   (new.2=[]→k (.val (x.ev env)))∧(new.2≠[]→(new.1=sz∧(old.2.length+new.2.length)*bytes≤2 ^ 40∧old.2.length+new.2.length≤2 ^ 40) ∧
    match x.ev env with
    |.jF=>k (.newS ⟨sz,new.2⟩ new.2.length)
    |.kQ o _ _=>nK (iZ σ o) fun ob=>ob.sz=sz∧k (.oO o ⟨sz,old.2++new.2⟩ (old.2.length+new.2.length))
    |_=>False)
 |
  .max x y=>match x.ev env,y.ev env with
  |.int q a,.int q' b=>q=q'∧k (.val (.int q (if b>a then b else a)))
  |_,_=>False
 |
  .VP i x=>match x.ev env with
  |.nJ vs=>nK vs[i]? fun v=>k (.val v)
  |_=>False
 |
  .chk x=>match x.ev env with
  |.ptr o r off=>nK (iZ σ o) fun _=>k (.val (.ptr o r off))
  |.ou row off=>k (.val (.ou row off))
  |_=>False
 |
  .NJ x lo hi=>match x.ev env with
  |.str s=>(match hi with|some h=>rH s.length (h.ev env)|none=>fun k=>k s.length) fun h =>
    (match lo with|some l=>rH h (l.ev env)|none=>fun k=>k 0) fun l=>k (.val (.str ((s.take h).drop l)))
  |_=>False
 |.slice sz x lo hi=>nK (lenOf σ (x.ev env)) fun n=>(match hi with|some h=>rH n (h.ev env)|none=>fun k=>k n) fun h =>
   (match lo with|some l=>rH h (l.ev env)|none=>fun k=>k 0) fun l=>match x.ev env with
    |.jF=>k (.val .jF)
    |.sl sz' rows=>sz'=sz∧k (.val (.sl sz' ((rows.take h).drop l)))
    |.kQ o s _=>nK (iZ σ o) fun ob=>ob.sz=sz∧k (.val (.kQ o (s+l) (h-l)))
    |_=>False
 |
  .XV cnt x i=>match x.ev env with
  |.agg cs=>xk cnt (i.ev env) fun j=>nK cs[j]? fun v=>k (.val v)
  |_=>False
 |i=>nK (i.eff env σ) k
theorem ZF{env:Nat→V}{n:Nat}{hi:Option Src}{k:Nat→Prop}(h:(match hi with|some h=>rH n (h.ev env)|none=>fun k=>k n) k):∃j,hiB env n hi=some j∧k j:=by
 cases hi with
 |none=>exact⟨n,rfl,h⟩
 |some x=>exact Nw h
theorem ZG{env:Nat→V}{n:Nat}{lo:Option Src}{k:Nat→Prop}(h:(match lo with|some h=>rH n (h.ev env)|none=>fun k=>k 0) k):∃j,loB env n lo=some j∧k j:=by
 cases lo with
 |none=>exact⟨0,rfl,h⟩
 |some x=>exact Nw h
theorem QD{env:Nat→V}{σ:Store}{i:I}{k:Eff→Prop}(h:i.nM env σ k):∃ef,i.eff env σ=some ef∧k ef:=by
 cases i with
 |oO x=>exact⟨_,rfl,h⟩
 |
  pick c a b =>
  simp only [I.nM]at h;split at h<;>first|exact h.elim|skip
  rename_i t e;exact⟨_,by simp only [I.eff,e],h⟩
 |alloc z=>exact⟨_,rfl,h⟩
 |
  box x =>
  simp only [I.nM]at h;split at h<;>first|exact h.elim|skip
  rename_i c cs e;exact⟨_,by simp only [I.eff,e],h⟩
 |
  build z ps =>
  obtain⟨cs,e,h⟩:=kV h;exact⟨_,by simp only [I.eff,e],h⟩
 |
  oI sz z ln ps =>
  obtain⟨rows,e,h⟩:=kV h;split at h
  ·rename_i h0;exact⟨_,by simp only [I.eff,e];rw [if_pos h0],h⟩
  rename_i h0;exact⟨_,by simp only [I.eff,e];rw [if_neg h0],h⟩
 |
  make z b x =>
  simp only [I.nM]at h;split at h<;>first|exact h.elim|skip
  rename_i n e;exact⟨_,by simp only [I.eff,e];rw [if_pos h.1],h.2⟩
 |
  load n g a =>
  obtain⟨p,e,h⟩:=kV h;obtain⟨row,off⟩:=p;simp only []at h
  cases g with
  |
   true =>
   simp only [if_true]at h;exact⟨_,by simp only [I.eff,e,if_true];rw [if_pos h.1],h.2⟩
  |
   false =>
   simp only [bn,if_false]at h;obtain⟨v,e2,h⟩:=kV h;exact⟨_,by simp only [I.eff,e,bn,if_false,e2],h⟩
 |
  store n a x =>
  simp only [I.nM]at h;split at h<;>first|exact h.elim|skip
  rename_i o r off e;obtain⟨cs,e1,h⟩:=kV h;obtain⟨ob,e2,h⟩:=kV h;obtain⟨row,e3,h⟩:=kV h;exact⟨_,by simp only [I.eff,e,e1,e2,e3];rw [if_pos h.1],h.2⟩
 |
  fld d a =>
  simp only [I.nM]at h;split at h<;>first|exact h.elim|skip
  ·rename_i o r off e;obtain⟨ob,e2,h⟩:=kV h;exact⟨_,by simp only [I.eff,e,e2],h⟩
  rename_i row off e;exact⟨_,by simp only [I.eff,e],h⟩
 |
  idx sz x i =>
  simp only [I.nM]at h;split at h<;>first|exact h.elim|skip
  ·rename_i o s l e;obtain⟨ob,e2,h⟩:=kV h;obtain⟨j,e3,h⟩:=Ae h;exact⟨_,by simp only [I.eff,e,e2,e3];rw [if_pos h.1],h.2⟩
  rename_i sz' rows e;obtain⟨j,e3,h⟩:=Ae h;exact⟨_,by simp only [I.eff,e,e3];rw [if_pos h.1],h.2⟩
 |
  BZ c sz x i =>
  simp only [I.nM]at h;split at h<;>first|exact h.elim|skip
  ·rename_i o r off e;obtain⟨j,e3,h⟩:=Ae h;obtain⟨ob,e2,h⟩:=kV h;exact⟨_,by simp only [I.eff,e,e2,e3],h⟩
  rename_i row off e;obtain⟨j,e3,h⟩:=Ae h;exact⟨_,by simp only [I.eff,e,e3],h⟩
 |
  Zm x i =>
  simp only [I.nM]at h;split at h<;>first|exact h.elim|skip
  rename_i s e;obtain⟨j,e3,h⟩:=Ae h;exact⟨_,by simp only [I.eff,e,e3],h⟩
 |
  len x =>
  obtain⟨n,e,h⟩:=kV h;exact⟨_,by simp only [I.eff,e],h⟩
 |
  Zn x =>
  simp only [I.nM]at h;split at h<;>first|exact h.elim|skip
  rename_i s e;exact⟨_,by simp only [I.eff,e],h⟩
 |
  bin op x y =>
  simp only [I.nM]at h;obtain⟨v,e,h⟩:=afx h;exact⟨_,by simp only [I.eff,e],h⟩
 |
  beq ne x y =>
  simp only [I.nM]at h;split at h<;>first|exact h.elim|skip
  rename_i p q e1 e2;exact⟨_,by simp only [I.eff,e1,e2],h⟩
 |
  un op x =>
  simp only [I.nM]at h;split at h<;>first|exact h.elim|skip
  ·rename_i q n e;exact⟨_,by simp only [I.eff,e,agR],h⟩
  rename_i b e;exact⟨_,by simp only [I.eff,e,agR],h⟩
 |
  conv q x =>
  simp only [I.nM]at h;split at h<;>first|exact h.elim|skip
  rename_i q' n e;exact⟨_,by simp only [I.eff,e],h⟩
 |
  app sz b x y =>
  obtain⟨old,e1,h⟩:=kV h;obtain⟨new,e2,h⟩:=kV h;obtain⟨so,old⟩:=old;obtain⟨sn,new⟩:=new;simp only []at h;by_cases hn:new=[]
  ·exact⟨_,by simp only [I.eff,e1,e2];rw [if_pos hn],h.1 hn⟩
  obtain⟨hc,h⟩:=h.2 hn;split at h<;>first|exact h.elim|skip
  ·rename_i e;rw [e]at e1;refine⟨_,?_,h⟩;simp only [I.eff,e,e1,e2];rw [if_neg hn,if_pos hc]
  rename_i o s l e;obtain⟨ob,e3,h⟩:=kV h;rw [e]at e1;refine⟨_,?_,h.2⟩;simp only [I.eff,e,e1,e2,e3];rw [if_neg hn,if_pos hc,if_pos h.1]
 |
  max x y =>
  simp only [I.nM]at h;split at h<;>first|exact h.elim|skip
  rename_i q p q' r e1 e2;exact⟨_,by simp only [I.eff,e1,e2];rw [if_pos h.1],h.2⟩
 |
  VP i x =>
  simp only [I.nM]at h;split at h<;>first|exact h.elim|skip
  rename_i vs e;obtain⟨v,e2,h⟩:=kV h;exact⟨_,by simp only [I.eff,e,e2],h⟩
 |
  chk x =>
  simp only [I.nM]at h;split at h<;>first|exact h.elim|skip
  ·rename_i o r off e;obtain⟨ob,e2,h⟩:=kV h;exact⟨_,by simp only [I.eff,e,e2],h⟩
  rename_i row off e;exact⟨_,by simp only [I.eff,e],h⟩
 |
  NJ x lo hi =>
  simp only [I.nM]at h;split at h<;>first|exact h.elim|skip
  rename_i s e;obtain⟨hh,e1,h⟩:=ZF h;obtain⟨l,e2,h⟩:=ZG h;exact⟨_,by simp only [I.eff,e,e1,e2],h⟩
 |
  slice sz x lo hi =>
  obtain⟨n,e0,h⟩:=kV h;obtain⟨hh,e1,h⟩:=ZF h;obtain⟨l,e2,h⟩:=ZG h;split at h<;>first|exact h.elim|skip
  ·rename_i e;rw [e]at e0;exact⟨_,by simp only [I.eff,e,e0,e1,e2],h⟩
  ·rename_i sz' rows e;rw [e]at e0;exact⟨_,by simp only [I.eff,e,e0,e1,e2];rw [if_pos h.1],h.2⟩
  rename_i o s q e;obtain⟨ob,e3,h⟩:=kV h;rw [e]at e0;exact⟨_,by simp only [I.eff,e,e0,e1,e2,e3];rw [if_pos h.1],h.2⟩
 |
  XV cnt x i =>
  simp only [I.nM]at h;split at h<;>first|exact h.elim|skip
  rename_i cs e;obtain⟨j,e2,h⟩:=Ae h;obtain⟨v,e3,h⟩:=kV h;exact⟨_,by simp only [I.eff,e,e2,e3],h⟩
 |_=>exact kV h
def PF(T:Tb)(f:Nat)(args:List V)(r:V):Prop:=Run T (.fn f args []) (.fn r [])
def KW(v:V)(k:Bool→Prop):Prop:=match v with
 |.bool b=>k b
 |_=>False
theorem abS{v:V}{k:Bool→Prop}(h:KW v k):∃b,v=.bool b∧k b:=by
 cases v<;>first|exact h.elim|exact⟨_,rfl,h⟩
def gdK(want:Bool)(v:V)(k:Bool→Prop):Prop:=match v with
 |.bool b=>k b
 |.nJ []=>k (!want)
 |_=>False
theorem ZH{want:Bool}{v:V}{k:Bool→Prop}(h:gdK want v k):(v=.bool want∧k want)∨(afm want v∧k (!want)):=by
 unfold gdK at h;split at h
 ·rename_i b;by_cases e:b=want
  ·subst e;exact .inl ⟨rfl,h⟩
  have:b = !want:=by cases b<;>cases want<;>simp_all
  subst this;exact .inr ⟨.inr ⟨_,rfl,e⟩,h⟩
 ·exact .inr ⟨.inl rfl,h⟩
 exact h.elim
def gK(g:Option (Nat×Bool))(env:Nat→V)(on off:Prop):Prop:=match g with
 |none=>on
 |some (t,true)=>gdK true (env t) fun b=>if b=true then on else off
 |some (t,false)=>gdK false (env t) fun b=>if b=true then off else on
theorem X7{g:Option (Nat×Bool)}{env:Nat→V}{on off:Prop}(h:gK g env on off) :
  ((∀t want,g=some (t,want)→env t=.bool want)∧on)∨(∃t want,g=some (t,want)∧afm want (env t)∧off):=by
 cases g with
 |none=>exact .inl ⟨fun _ _ h=>(by cases h),h⟩
 |
  some p =>
  obtain⟨t,want⟩:=p
  cases want with
  |
   true =>
   rcases ZH h with ⟨e,h⟩|⟨e,h⟩
   ·exact .inl ⟨fun _ _ h=>(by cases h;exact e),(by simpa using h)⟩
   exact .inr ⟨t,true,rfl,e,by simpa using h⟩
  |
   false =>
   rcases ZH h with ⟨e,h⟩|⟨e,h⟩
   ·exact .inl ⟨fun _ _ h=>(by cases h;exact e),(by simpa using h)⟩
   exact .inr ⟨t,false,rfl,e,by simpa using h⟩
def IJ(env:Nat→V)(σ:Store):List Src→(List V→Prop)→Prop
 | [],k=>k []
 |s::as,k=>nK (resolve σ FD (s.ev env)) fun v=>IJ env σ as fun vs=>k (v::vs)
theorem yh{env:Nat→V}{σ:Store}:∀{as:List Src} {k:List V→Prop},IJ env σ as k→∃vs,as.mapM (fun s=>resolve σ FD (s.ev env))=some vs∧k vs
 | [],k,h=>⟨[],rfl,h⟩
 |
  s::as,k,h=>by
  obtain⟨v,e,h⟩:=kV h;obtain⟨vs,e2,h⟩:=yh h;exact⟨v::vs,by simp [bF,e,e2],h⟩
def lX(env:Nat→V)(σ:Store)(as:List Src):List Nat:=as.flatMap fun s=>reach σ FD (s.ev env)
def PFK(T:Tb)(f:Nat)(as:List V)(k:V→Prop):Prop:=∃r,PF T f as r∧k r
inductive OY (T:Tb) (f:Nat) (as:List Src) (dst:Option Nat) (st:St):St→Prop
 |ref (ρ:List Nat) {r:V} {σ':Store} (hn:ρ.Nodup) (hρ:∀o,o∈ρ→(iZ st.objs o).isSome=true) (h:Run T (.fn f (as.map fun s=>kH (place ρ) (s.ev st.env)) (Fv ρ st.objs)) (.fn r σ')) :
   OY T f as dst st { st with env:=nG st.env dst (kH (back ρ st.objs.length) r),objs:=qC ρ st.objs σ' }
 |own {as':List V} {r:V} {σ':Store} {R:List Nat} (ha:as.mapM (fun s=>resolve st.objs FD (s.ev st.env))=some as') (h:Run T (.fn f as' []) (.fn r σ'))
   (hR:R=if mM r&&Ci σ' then []else as.flatMap fun s=>reach st.objs FD (s.ev st.env)) :
   OY T f as dst st { st with env:=nG st.env dst (kH (lG st.objs.length) r),objs:=yH (lW st.objs R) σ' }
 |idn {r:V} {σ':Store} (h:Run T (.fn f (as.map fun s=>s.ev st.env) st.objs) (.fn r σ')) (hl:st.objs.length≤σ'.length) (hb:st.objs.length≤st.base) :
   OY T f as dst st { st with env:=nG st.env dst r,objs:=σ' }
 |WL {as':List V} {r:V} {R:List Nat} (ha:as.mapM (fun s=>resolve st.objs FD (s.ev st.env))=some as') (h:Run T (.fn f as' []) (.fn r []))
   (hR:R=if scalar SD r then []else as.flatMap fun s=>reach st.objs FD (s.ev st.env)) :
   OY T f as dst st { st with env:=nG st.env dst r,objs:=lW st.objs R }
def KX(T:Tb)(f:Nat)(as:List Src)(dst:Option Nat)(st:St)(k:St→Prop):Prop:=∃st',OY T f as dst st st'∧k st'
def dN:Option Nat→Nat
 |some n=>n
 |none=>0
theorem KY(n:Nat):dN (some n)=n:=by have h:dN (some n)=n:=rfl;exact h
def opK(T:Tb)(rf:Nat→Nat→Bool)(o:oM)(st:St)(k:St→Prop):Prop :=
 gK o.g st.env (match o.i with
  |.call f as=>if rf f (dN o.dst)=true then KX T f as o.dst st k else IJ st.env st.objs as fun as'=>PFK T f as' fun r =>
    k { st with env:=nG st.env o.dst r,objs:=lW st.objs (if scalar SD r then []else lX st.env st.objs as) }
  |i=>i.nM st.env st.objs fun ef=>k (ef.go st o.dst (st.base+o.k)))
  (k { st with env:=nG st.env o.dst (.nJ []) })
theorem aho{T:Tb}{rf:Nat→Nat→Bool}{o:oM}{st:St}{k:St→Prop}(h:opK T rf o st k):∃st',Run T (.op o st) (.code .normal st')∧k st':=by
 rcases X7 h with ⟨hg,h⟩|⟨t,want,hg,he,h⟩
 ·split at h
  ·rename_i f as hi;split at h
   ·obtain⟨st',h1,h4⟩:=h;refine⟨st',?_,h4⟩
    cases h1 with
    |ref ρ h1 h2 h3=>exact .agV ρ h1 h2 hg hi h3
    |own h1 h2 h3=>exact .agW hg hi h1 h2 h3
    |idn h1 h2 h3=>exact .agX hg hi h1 h2 h3
    |WL h1 h2 h3=>exact .Zp hg hi h1 h2 h3
   obtain⟨vs,e,h⟩:=yh h;obtain⟨r,h1,h⟩:=h;exact⟨_,.Zp hg hi e h1 rfl,h⟩
  obtain⟨ef,e,h⟩:=QD h;exact⟨_,.op hg e,h⟩
 exact⟨_,.off hg he,h⟩
def abT(T:Tb)(rf:Nat→Nat→Bool):List oM→St→(St→Prop)→Prop
 | [],st,k=>k st
 |o::l,st,k=>opK T rf o st fun st=>abT T rf l st k
theorem WX{T:Tb}{rf:Nat→Nat→Bool}:∀{l:List oM} {st:St} {k:St→Prop},abT T rf l st k→∃st',Run T (.ops l st) (.code .normal st')∧k st'
 | [],st,k,h=>⟨st,.nil st,h⟩
 |
  o::l,st,k,h=>by
  obtain⟨st1,h1,h⟩:=aho h;obtain⟨st2,h2,h⟩:=WX h;exact⟨st2,.cons h1 h2,h⟩
def uni(a b:List Nat):List Nat:=b.foldl (fun s x=>if s.contains x then s else x::s) a
def atY:List oM→List (List Nat)→List (List Nat)
 | [],acc=>acc
 |o::l,acc=>atY l (acc++[o.aft.foldl (fun s e=>uni s (acc.getD e [])) o.aft])
def okB(B:Nat→List Nat)(l:List oM):Nat→Bool
 |
  i=>match l with
  | []=>true
  |o::l=>(B i).all (fun j=>o.aft.contains j||o.aft.any fun e=>(B e).contains j)&&o.aft.all (fun e=>decide (e<i))&&okB B l (i+1)
theorem Uk{B:Nat→List Nat}:∀{l:List oM} {n:Nat},okB B l n=true→∀i o,l[i]? = some o→(∀j,j∈B (n+i)→j∈o.aft∨∃e∈o.aft,j∈B e)∧∀e∈o.aft,e<n+i
 | [],n,_,i,o,h=>by simp at h
 |
  x::l,n,hk,i,o,h=>by
  unfold okB at hk;simp only [aG,aT]at hk;obtain⟨⟨h1,h2⟩,h3⟩:=hk
  cases i with
  |
   zero =>
   simp only [jh,aB]at h;subst h;refine⟨fun j hj=>?_,fun e he=>by simpa using h2 e he⟩;have:=h1 j hj;simpa using this
  |
   succ i =>
   simp only [List.getElem?_cons_succ]at h;have:=Uk h3 i o h;rw [show n+(i+1)=n+1+i by omega];exact this
def VZ(l:List oM):Nat→List Nat:=let b:=atY l [];fun i=>b.getD i []
structure Acc where
 i:Nat
 R:List Nat
 W:List Nat
 n:Bool:=false
def yI(L:Nat)(a b:Acc):Bool:=!a.n||(!b.n&&b.R.all (fun o=>decide (o<L))&&b.W.all fun p=>decide (p<L))
def uf(L:Nat)(d e:oM)(a b:Acc):Bool :=
 !JZ d.dst e.looks && !JZ e.dst d.looks && !(d.dst.isSome&&d.dst == e.dst) &&
  a.W.all (fun p=>!b.R.contains p&&b.W.all fun q=>q != p)&&b.W.all (fun q=>!a.R.contains q)&&yI L a b&&yI L b a
def KZ(l:List oM)(i:Nat):oM:=l.getD i ⟨none,none,0,.alloc [],[]⟩
def okA(L:Nat)(B:Nat→List Nat)(ops:List oM):List Acc→Bool
 | []=>true
 |a::l=>l.all (fun b=>(B b.i).contains a.i||uf L (KZ ops a.i) (KZ ops b.i) a b)&&okA L B ops l
def vH(L:Nat)(ops:List oM)(l:List Acc):Prop:=okA L (VZ ops) ops l.reverse=true
def abU(T:Tb)(f:Nat)(as:List Src)(dst:Option Nat)(st:St)(k:List Nat→List Nat→Bool→St→Prop):Prop :=
 (∃as' r σ',as.mapM (fun s=>resolve st.objs FD (s.ev st.env))=some as'∧Run T (.fn f as' []) (.fn r σ')∧(mM r&&Ci σ')=true ∧
  k (lX st.env st.objs as) [] true { st with env:=nG st.env dst (kH (lG st.objs.length) r),objs:=yH st.objs σ' }) ∨
 (∃as' r,as.mapM (fun s=>resolve st.objs FD (s.ev st.env))=some as'∧Run T (.fn f as' []) (.fn r [])∧scalar SD r=false ∧
  k (lX st.env st.objs as) (lX st.env st.objs as) false { st with env:=nG st.env dst r,objs:=lW st.objs (lX st.env st.objs as) }) ∨
 (∃r σ',Run T (.fn f (as.map fun s=>s.ev st.env) st.objs) (.fn r σ')∧st.objs.length≤σ'.length∧st.objs.length≤st.base ∧
  k (List.range st.objs.length) (List.range st.objs.length) true { st with env:=nG st.env dst r,objs:=σ' }) ∨
 ∃
  ρ r v,ρ.Nodup∧(∀o,o∈ρ→∃ob,iZ st.objs o=some ob∧∀g,oQ g ob=ob)∧Run T (.fn f (as.map fun s=>kH (place ρ) (s.ev st.env)) (Fv ρ st.objs)) (.fn r (Fv ρ st.objs))∧(∀n,kH (back ρ n) r=v) ∧
  k ρ [] false { st with env:=nG st.env dst v }
def OZ(l:List Nat)(k:List Nat→Prop):Prop:=k l
def Eff.wr(id:Nat):Eff→List Nat
 |.val _=>[]
 |.newP _=>[id]
 |.newS _ _=>[id]
 |.upd o _=>[o]
 |.oO o _ _=>[o,id]
def NT(T:Tb)(rf:Nat→Nat→Bool)(L:Nat)(ops:List oM):List oM→Nat→List Acc→St→(St→Prop)→Prop
 | [],_,acc,st,k=>vH L ops acc∧k st
 |
  o::l,i,acc,st,k=>gK o.g st.env (match o.i with
  |.call f as=>if rf f (dN o.dst)=true then abU T f as o.dst st fun R W n st=>NT T rf L ops l (i+1) (⟨i,R,W,n⟩::acc) st k
    else IJ st.env st.objs as fun as'=>PFK T f as' fun r=>OZ (lX st.env st.objs as) fun R =>
    (R=[]∨scalar SD r=true)∧NT T rf L ops l (i+1) (⟨i,R,[],false⟩::acc) { st with env:=nG st.env o.dst r } k
  |x
    => OZ (x.reads st.env) fun R=>x.nM st.env st.objs fun ef=>OZ (ef.wr (st.base+o.k)) fun W =>
    NT T rf L ops l (i+1) (⟨i,R,W,false⟩::acc) (ef.go st o.dst (st.base+o.k)) k)
  (NT T rf L ops l (i+1) (⟨i,[],[],false⟩::acc) { st with env:=nG st.env o.dst (.nJ []) } k)
def WY(ops:List oM)(p:Nat×Dat)(a:Acc):Prop:=a.i=p.1∧KZ ops a.i=p.2.x∧a.R=p.2.R∧a.W=p.2.W.map (·.1)∧a.n=p.2.N.isSome
theorem WZ{L:Nat}{ops:List oM}{p q:Nat×Dat}{a b:Acc}(h:WY ops p a)(k:WY ops q b):yI L a b=below L p.2 q.2:=by
 obtain⟨h1,h2,h3,h4,h5⟩:=h;obtain⟨k1,k2,k3,k4,k5⟩:=k;unfold yI below;rw [h5,k5,k3,k4,jg];simp only [Option.not_isSome];rfl
theorem afy{L:Nat}{ops:List oM}{p q:Nat×Dat}{a b:Acc}(h:WY ops p a)(k:WY ops q b):uf L (KZ ops a.i) (KZ ops b.i) a b=apart L p.2 q.2:=by
 have e1:=WZ (L:=L) h k;have e2:=WZ (L:=L) k h;obtain⟨h1,h2,h3,h4,h5⟩:=h;obtain⟨k1,k2,k3,k4,k5⟩:=k;unfold uf apart;rw [e1,e2,h2,k2,h3,k3,h4,k4];simp only [jg];rfl
inductive xq (ops:List oM):List (Nat×Dat)→List Acc→Prop
 |nil:xq ops [] []
 |cons {p a l m} (h:WY ops p a) (t:xq ops l m):xq ops (p::l) (a::m)
theorem xq.all{ops:List oM}{f:Nat×Dat→Bool}{g:Acc→Bool}:∀{l m},xq ops l m→(∀p a,WY ops p a→f p=g a)→l.all f=m.all g
 |_,_,.nil,_=>rfl
 |_,_,.cons h t,hfg=>by simp only [dU];rw [hfg _ _ h,t.all hfg]
theorem abV{L:Nat}{B:Nat→List Nat}{ops:List oM}:∀{l m},xq ops l m→okA L B ops m=true→okD L B l=true
 |_,_,.nil,_=>rfl
 |
  _,_,.cons (p:=p) (a:=a) h t,hk=>by
  simp only [okA,aG]at hk;obtain⟨i,d⟩:=p;simp only [okD,aG];refine⟨?_,abV t hk.2⟩;rw [t.all fun q b hq=>?_]
  ·exact hk.1
  rw [afy h hq,hq.1,h.1]
theorem xq.append{ops:List oM}:∀{l m l' m'},xq ops l m→xq ops l' m'→xq ops (l++l') (m++m')
 |_,_,_,_,.nil,h=>h
 |_,_,_,_,.cons h t,k=>.cons h (t.append k)
theorem atZ(ef:Eff)(id:Nat):ef.wr id=(ef.writes id).map (·.1):=by cases ef<;>rfl
theorem NU{T:Tb}{d:Dat}:∀(l:List Dat) (st:St),Chain T l st→Fp T d (Cc l st)→Chain T (l++[d]) st
 | [],_,_,h=>⟨h,trivial⟩
 |_::l,_,h,k=>⟨h.1,NU l _ h.2 k⟩
theorem NV{d:Dat}:∀(l:List Dat) (st:St),Cc (l++[d]) st=d.go (Cc l st)
 | [],_=>rfl
 |_::l,_=>NV l _
theorem Xa{T:Tb}{rf:Nat→Nat→Bool}{L:Nat}{ops:List oM}{st0:St}:∀{l:List oM} {i:Nat} {acc:List Acc} {st:St} {k:St→Prop} (ds:List (Nat×Dat)),NT T rf L ops l i acc st k →
  i≤ops.length→ops.drop i=l→ds.length=i→ds.map (·.1)=List.range i→xq ops ds acc.reverse→Chain T (ds.map (·.2)) st0→Cc (ds.map (·.2)) st0=st →
  ∃ds',ds'.map (·.1)=List.range ops.length∧(∃acc',xq ops ds' acc'∧okA L (VZ ops) ops acc'=true)∧Chain T (ds'.map (·.2)) st0∧k (Cc (ds'.map (·.2)) st0)
 |
  [],i,acc,st,k,ds,h,hil,hd,hi,hr,hf,hc,hg=>by
  have hl:ops.length=i:=by
   have:=congrArg List.length hd;simp at this;omega
  exact⟨ds,by rw [hr,hl],⟨_,hf,h.1⟩,hc,by rw [hg];exact h.2⟩
 |
  o::l,i,acc,st,k,ds,h,_,hd,hi,hr,hf,hc,hg=>by
  have hio:ops[i]? = some o:=by
   have:=congrArg (·[0]?) hd;simpa using this
  have hd':ops.drop (i+1)=l:=by
   rw [←List.drop_drop,hd];rfl
  have hgo:KZ ops i=o:=by simp [KZ,aj,hio]
  have step:∀(d:Dat),d.x=o→∀(a:Acc),a.i=i→a.R=d.R→a.W=d.W.map (·.1)→a.n=d.N.isSome→Fp T d st→NT T rf L ops l (i+1) (a::acc) (d.go st) k→_:=fun d hdx a ha hR hW hN hfp hk =>
   Xa (ds++[(i,d)]) hk (aN.1 hio).1 hd' (by simp [hi]) (by simp [hr,jd]) (by
    rw [List.reverse_cons];exact hf.append (.cons ⟨ha,by rw [ha,hgo,hdx],hR,hW,hN⟩ .nil)) (by
    rw [cZ];exact NU _ _ hc (by rw [hg];exact hfp)) (by rw [cZ,bU,iO,NV,hg])
  rcases X7 h with ⟨hgd,h⟩|⟨t,want,hgd,he,h⟩
  ·split at h
   ·rename_i f as hi2;split at h
    ·rcases h with ⟨vs,r,σ',e,h1,h2,h⟩|⟨vs,r,e,h1,h2,h⟩|⟨r,σ',h1,h2,h3,h⟩|⟨ρ,r,v,h1,h2,h3,h4,h⟩
     rotate_right
     ·refine step ⟨o,ρ,v,[],none⟩ rfl ⟨i,ρ,[],false⟩ rfl rfl rfl rfl (ahl hgd hi2 h1 h2 h3 h4) ?_;have e2:(⟨o,ρ,v,[],none⟩:Dat).go st={ st with env:=nG st.env o.dst v }:=by
       simp only [Dat.go,uT,iD,dQ,aP]
      rw [e2];exact h
     rotate_right
     ·refine step ⟨o,_,r,(List.range st.objs.length).map fun o=>(o,iZ σ' o),some (σ'.drop st.objs.length)⟩ rfl ⟨i,_,List.range st.objs.length,true⟩ rfl rfl (by rw [gu];exact(List.map_id _).symm) rfl (ahm hgd hi2 h1 h2 h3) ?_;have e2:(⟨o,List.range st.objs.length,r,(List.range st.objs.length).map fun o=>(o,iZ σ' o),some (σ'.drop st.objs.length)⟩:Dat).go st={ st with env:=nG st.env o.dst r,objs:=σ' }:=by
       simp only [Dat.go,iV]
       congr 1
       exact ZE h2
      rw [e2];exact h
     rotate_left
     ·refine step ⟨o,_,r,(as.flatMap fun s=>reach st.objs FD (s.ev st.env)).map fun o=>(o,none),none⟩ rfl ⟨i,_,as.flatMap fun s=>reach st.objs FD (s.ev st.env),false⟩ rfl rfl (by rw [gu];exact(List.map_id _).symm) rfl (ahj hgd hi2 e h1 h2) ?_;have e2:(⟨o,as.flatMap fun s=>reach st.objs FD (s.ev st.env),r,(as.flatMap fun s=>reach st.objs FD (s.ev st.env)).map fun o=>(o,none),none⟩:Dat).go st =
        { st with env:=nG st.env o.dst r,objs:=lW st.objs (as.flatMap fun s=>reach st.objs FD (s.ev st.env)) }:=by
       simp only [Dat.go,QC,dQ,aP]
      rw [e2];exact h
     refine step ⟨o,_,_,[],some _⟩ rfl ⟨i,_,[],true⟩ rfl rfl rfl rfl (ahk hgd hi2 e h1 h2) ?_;have e2:(⟨o,as.flatMap fun s=>reach st.objs FD (s.ev st.env),kH (lG st.objs.length) r,[],some (σ'.map (Option.map (oQ (lG st.objs.length))))⟩:Dat).go st =
       { st with env:=nG st.env o.dst (kH (lG st.objs.length) r),objs:=yH st.objs σ' }:=by
      simp only [Dat.go,uT,iD,yH,iV]
     rw [e2];exact h
    obtain⟨vs,e,h⟩:=yh h;obtain⟨r,h1,h⟩:=h;obtain⟨hR,h⟩:=h;refine step ⟨o,_,r,[],none⟩ rfl ⟨i,_,[],false⟩ rfl rfl rfl rfl (ZC hgd hi2 e h1 hR.symm) ?_;have e2:(⟨o,as.flatMap fun s=>reach st.objs FD (s.ev st.env),r,[],none⟩:Dat).go st={ st with env:=nG st.env o.dst r }:=by
     simp only [Dat.go,uT,iD,dQ,aP]
    rw [e2];exact h
   unfold OZ at h;obtain⟨ef,e,h⟩:=QD h;refine step ⟨o,o.i.reads st.env,ef.dv (st.base+o.k),ef.writes (st.base+o.k),none⟩ rfl ⟨i,_,_,false⟩ rfl rfl (atZ _ _) rfl (ahb hgd e) ?_;have e2:(⟨o,o.i.reads st.env,ef.dv (st.base+o.k),ef.writes (st.base+o.k),none⟩:Dat).go st=ef.go st o.dst (st.base+o.k):=by
    simp only [Dat.go,Eff.go,Zz,dQ,aP]
   rw [e2];exact h
  refine step ⟨o,[],.nJ [],[],none⟩ rfl ⟨i,[],[],false⟩ rfl rfl rfl rfl (ahc hgd he) ?_;have e2:(⟨o,[],.nJ [],[],none⟩:Dat).go st={ st with env:=nG st.env o.dst (.nJ []) }:=by
   simp only [Dat.go,uT,iD,dQ,aP]
  rw [e2];exact h
theorem ahp{T:Tb}{rf:Nat→Nat→Bool}{ops:List oM}{st:St}{k:St→Prop}(hb:okB (VZ ops) ops 0=true)(h:NT T rf st.objs.length ops ops 0 [] st k):∃st',Run T (.any ops [] st) (.code .normal st')∧k st':=by
 obtain⟨ds,h1,⟨acc,h2,h3⟩,h4,h5⟩:=Xa (ops:=ops) (st0:=st) [] h (fH _) rfl rfl rfl .nil trivial rfl;have hB:=Uk hb;simp only [aQ]at hB;have hfit:∀{l m},xq ops l m→∀p∈l,KZ ops p.1=p.2.x:=by
  intro l m hf
  induction hf with
  |nil=>intro p hp;cases hp
  |
   cons h t ih =>
   intro p hp;rcases aH.1 hp with rfl|hp
   ·rw [←h.1];exact h.2.1
   exact ih p hp
 have hlt:∀p∈ds,p.1<ops.length:=by
  intro p hp;have:p.1∈ds.map (·.1):=ig hp;rw [h1]at this;exact fP.1 this
 refine⟨_,run_any (B:=VZ ops) (fun i o j ho hj=>(hB i o ho).1 j hj) ds.length ds [] st (aJ _) rfl (abV h2 h3) (fun e he=>by cases he) h4 ?_ ?_ ?_,h5⟩
 ·rw [h1];exact List.pairwise_lt_range
 ·intro p hp;have hp2:ops[p.1]? = some p.2.x:=by
   have:=hfit h2 p hp;unfold KZ at this;rw [aj]at this;rw [au (hlt p hp)]at this ⊢;exact congrArg some this
  exact⟨hp2,by simp,(hB p.1 p.2.x hp2).2⟩
 intro i hi _;have:i∈ds.map (·.1):=by rw [h1];exact fP.2 hi
 obtain⟨p,hp,e⟩:=bG.1 this;exact⟨p.2,by rw [←e];exact hp⟩
def alk(ef:Eff)(k:V→Prop):Prop:=match ef with
 |.val v=>k v
 |_=>False
theorem afz{ef:Eff}{k:V→Prop}(h:alk ef k):∃v,ef=.val v∧k v:=by
 cases ef<;>first|exact h.elim|exact⟨_,rfl,h⟩
def IK(T:Tb):List oM→St→(St→Prop)→Prop
 | [],st,k=>k st
 |
  o::l,st,k=>gK o.g st.env (match o.i with
  |.call f as=>IJ st.env st.objs as fun as'=>PFK T f as' fun r=>OZ (lX st.env st.objs as) fun R =>
    (R=[]∨scalar SD r=true)∧IK T l { st with env:=nG st.env o.dst r } k
  |x=>x.nM st.env st.objs fun ef=>alk ef fun v=>IK T l { st with env:=nG st.env o.dst v } k)
  (IK T l { st with env:=nG st.env o.dst (.nJ []) } k)
def Jf(rf:Nat→Nat→Bool)(l:List oM):Bool:=l.all fun o=>match o.i with
 |.call f _=>!rf f (dN o.dst)
 |_=>true
theorem Ul{T:Tb}{ops:List oM}{st0:St}:∀{l:List oM} {i:Nat} {acc:List Acc} {st:St} {k:St→Prop} (ds:List (Nat×Dat)),IK T l st k →
  i≤ops.length→ops.drop i=l→ds.length=i→ds.map (·.1)=List.range i→xq ops ds acc.reverse→(∀a∈acc,a.W=[]∧a.n=false)→Chain T (ds.map (·.2)) st0→Cc (ds.map (·.2)) st0=st →
  ∃ds',ds'.map (·.1)=List.range ops.length∧(∃acc',xq ops ds' acc'∧∀a∈acc',a.W=[]∧a.n=false)∧Chain T (ds'.map (·.2)) st0∧k (Cc (ds'.map (·.2)) st0)
 |
  [],i,acc,st,k,ds,h,hil,hd,hi,hr,hf,hw,hc,hg=>by
  have hl:ops.length=i:=by
   have:=congrArg List.length hd;simp at this;omega
  exact⟨ds,by rw [hr,hl],⟨_,hf,by simpa using hw⟩,hc,by rw [hg];exact h⟩
 |
  o::l,i,acc,st,k,ds,h,_,hd,hi,hr,hf,hw,hc,hg=>by
  have hio:ops[i]? = some o:=by
   have:=congrArg (·[0]?) hd;simpa using this
  have hd':ops.drop (i+1)=l:=by
   rw [←List.drop_drop,hd];rfl
  have hgo:KZ ops i=o:=by simp [KZ,aj,hio]
  have step:∀(R:List Nat) (v:V),Fp T ⟨o,R,v,[],none⟩ st→IK T l { st with env:=nG st.env o.dst v } k→_:=fun R v hfp hk =>
   Ul (acc:=⟨i,R,[],false⟩::acc) (ds++[(i,⟨o,R,v,[],none⟩)]) hk (aN.1 hio).1 hd' (by simp [hi]) (by simp [hr,jd]) (by
    rw [List.reverse_cons];exact hf.append (.cons ⟨rfl,hgo,rfl,rfl,rfl⟩ .nil)) (by
    intro a ha;rcases aH.1 ha with rfl|ha
    ·exact⟨rfl,rfl⟩
    ·exact hw a ha) (by
    rw [cZ];exact NU _ _ hc (by rw [hg];exact hfp)) (by rw [cZ,bU,iO,NV,hg,go_val])
  rcases X7 h with ⟨hgd,h⟩|⟨t,want,hgd,he,h⟩
  ·split at h
   ·rename_i f as hi2;obtain⟨vs,e,h⟩:=yh h;obtain⟨r,h1,h⟩:=h;obtain⟨hR,h⟩:=h;exact step _ r (ZC hgd hi2 e h1 hR.symm) h
   obtain⟨ef,e,h⟩:=QD h;obtain⟨v,rfl,h⟩:=afz h;exact step _ v (ahb hgd e) h
  exact step [] (.nJ []) (ahc hgd he) h
def at1(ops:List oM):Bool:=okA 0 (VZ ops) ops ((List.range ops.length).map fun i=>⟨i,[],[],false⟩)
theorem Xb{L:Nat}{B:Nat→List Nat}{ops:List oM}:∀{l:List Acc},(∀a∈l,a.W=[]∧a.n=false)→okA 0 B ops (l.map fun a=>⟨a.i,[],[],false⟩)=okA L B ops l
 | [],_=>rfl
 |
  a::l,h=>by
  simp only [bU,okA];rw [Xb fun b hb=>h b (by simp [hb])]
  congr 1
  rw [jg];have hall:∀(m:List Acc),(∀b∈m,b.W=[]∧b.n=false)→(m.all ((fun b:Acc=>(B b.i).contains a.i||uf 0 (KZ ops a.i) (KZ ops b.i) ⟨a.i,[],[],false⟩ b) ∘ fun b=>⟨b.i,[],[],false⟩)) =
    m.all fun b=>(B b.i).contains a.i||uf L (KZ ops a.i) (KZ ops b.i) a b:=by
   intro m
   induction m with
   |nil=>intro _;rfl
   |
    cons b m ih =>
    intro hm;simp only [dU];rw [ih fun c hc=>hm c (by simp [hc])]
    congr 1
    simp only [Function.comp,uf,yI,(h a (by simp)).1,(hm b (by simp)).1,(h a (by simp)).2,(hm b (by simp)).2,iP,Bool.not_false,fC]
  exact hall l fun b hb=>h b (by simp [hb])
theorem afA{T:Tb}{ops:List oM}{st:St}{k:St→Prop}(L:Nat)(h0:at1 ops=true)(h:IK T ops st k) :
  ∃ds:List (Nat×Dat),ds.map (·.1)=List.range ops.length∧(∃acc',xq ops ds acc'∧okA L (VZ ops) ops acc'=true)∧Chain T (ds.map (·.2)) st∧k (Cc (ds.map (·.2)) st):=by
 obtain⟨ds,h1,⟨acc,h2,h3⟩,h4,h5⟩:=Ul (ops:=ops) (acc:=[]) (st0:=st) [] h (fH _) rfl rfl rfl .nil (by simp) trivial rfl;refine⟨ds,h1,⟨acc,h2,?_⟩,h4,h5⟩;rw [←Xb h3];have:(acc.map fun a=>(⟨a.i,[],[],false⟩:Acc))=(List.range ops.length).map fun i=>⟨i,[],[],false⟩:=by
  rw [←h1,gu];clear h1 h3 h4 h5 h h0
  induction h2 with
  |nil=>rfl
  |cons h t ih=>simp only [bU,Function.comp,h.1,ih]
 rw [this];exact h0
theorem ao4{T:Tb}{ops:List oM}{st:St}(hb:okB (VZ ops) ops 0=true){ds:List (Nat×Dat)}(h1:ds.map (·.1)=List.range ops.length)
  {acc:List Acc} (h2:xq ops ds acc) (h3:okA st.objs.length (VZ ops) ops acc=true) (h4:Chain T (ds.map (·.2)) st):Run T (.any ops [] st) (.code .normal (Cc (ds.map (·.2)) st)):=by
 have hB:=Uk hb;simp only [aQ]at hB;have hfit:∀{l m},xq ops l m→∀p∈l,KZ ops p.1=p.2.x:=by
  intro l m hf
  induction hf with
  |nil=>intro p hp;cases hp
  |
   cons h t ih =>
   intro p hp;rcases aH.1 hp with rfl|hp
   ·rw [←h.1];exact h.2.1
   exact ih p hp
 have hlt:∀p∈ds,p.1<ops.length:=by
  intro p hp;have:p.1∈ds.map (·.1):=ig hp;rw [h1]at this;exact fP.1 this
 refine run_any (B:=VZ ops) (fun i o j ho hj=>(hB i o ho).1 j hj) ds.length ds [] st (aJ _) rfl (abV h2 h3) (fun e he=>by cases he) h4 ?_ ?_ ?_
 ·rw [h1];exact List.pairwise_lt_range
 ·intro p hp;have hp2:ops[p.1]? = some p.2.x:=by
   have:=hfit h2 p hp;unfold KZ at this;rw [aj]at this;rw [au (hlt p hp)]at this ⊢;exact congrArg some this
  exact⟨hp2,by simp,(hB p.1 p.2.x hp2).2⟩
 intro i hi _;have:i∈ds.map (·.1):=by rw [h1];exact fP.2 hi
 obtain⟨p,hp,e⟩:=bG.1 this;exact⟨p.2,by rw [←e];exact hp⟩
def IL(l:List oM):Bool:=l.all fun o=>match o.i with
 |.store .. | .alloc _ | .box _ | .oI .. | .make .. | .app ..=>false
 |_=>true
def C.ZI:C→Bool
 |.reg d m l=>Zh m l&&(!d||(okB (VZ l) l 0&&(!IL l||at1 l)))
 |.seq a b=>a.ZI&&b.ZI
 |.cond _ a b=>a.ZI&&b.ZI
 |.block _ c=>c.ZI
 |.loop c=>c.ZI
 |_=>true
def ZJ(σ:Store)(m:Nat):Store:=σ++List.replicate m none
def St.in(st:St)(m:Nat):St:={ st with objs:=ZJ st.objs m,base:=st.objs.length,rds:=[],muts:=[] }
def ZK(e:Ex)(k q:Prop):Prop:=match e with
 |.normal=>k
 |_=>q
def Xc(T:Tb)(c:C)(Q:Ex→St→Prop)(st:St):Prop:=∃e st',Run T (.code (.loop c) st) (.code e st')∧Q e st'
def wp(T:Tb)(rf:Nat→Nat→Bool):C→(Ex→St→Prop)→St→Prop
 |.skip,Q,st=>Q .normal st
 |.reg d m l,Q,st=>if d then(if IL l&&Jf rf l then IK T l (st.in m) (Q .normal)else NT T rf (st.in m).objs.length l l 0 [] (st.in m) (Q .normal))else abT T rf l (st.in m) (Q .normal)
 |.seq a b,Q,st=>wp T rf a (fun e st=>ZK e (wp T rf b Q st) (Q e st)) st
 |.cond x a b,Q,st=>KW (x.ev st.env) fun t=>if t=true then wp T rf a Q st else wp T rf b Q st
 |.block id c,Q,st=>wp T rf c (fun e st=>Q (Zo id e) st) st
 |.loop c,Q,st=>Xc T c Q st
 |.exit id,Q,st=>Q (.exit id) st
 |.ret,Q,st=>Q .ret st
 |.lib _,_,_=>False
theorem AA{T:Tb}{rf:Nat→Nat→Bool}:∀{c:C} {Q:Ex→St→Prop} {st:St},c.ZI=true→wp T rf c Q st→∃e st',Run T (.code c st) (.code e st')∧Q e st'
 |.skip,Q,st,_,h=>⟨_,_,.skip st,h⟩
 |
  .reg d m l,Q,st,hk,h=>by
  simp only [C.ZI,aG,dB,fO]at hk;obtain⟨hk,hk2⟩:=hk;unfold wp at h
  cases d with
  |
   false =>
   obtain⟨st',h1,h2⟩:=WX (by simpa using h);exact⟨_,_,.reg hk h1,h2⟩
  |
   true =>
   simp only [Bool.true_eq_false,false_or]at hk2;simp only [if_true]at h;split at h
   ·rename_i hw;simp only [aG]at hw;rcases hk2.2 with h'|h'
    ·rw [h']at hw;cases hw.1
    obtain⟨ds,h1,⟨acc,h2,h3⟩,h4,h5⟩:=afA (st.in m).objs.length h' h;exact⟨_,_,.aoW hk (ao4 hk2.1 h1 h2 h3 h4),h5⟩
   obtain⟨st',h1,h2⟩:=ahp hk2.1 h;exact⟨_,_,.aoW hk h1,h2⟩
 |
  .seq a b,Q,st,hk,h=>by
  simp only [C.ZI,aG]at hk;obtain⟨e,st1,h1,h2⟩:=AA hk.1 (Q:=fun e st=>ZK e (wp T rf b Q st) (Q e st)) h
  cases e with
  |
   normal =>
   obtain⟨e,st2,h3,h4⟩:=AA hk.2 (Q:=Q) h2;exact⟨e,st2,.atH h1 h3,h4⟩
  |exit id=>exact⟨_,_,.aoX (by simp) h1,h2⟩
  |ret=>exact⟨_,_,.aoX (by simp) h1,h2⟩
 |
  .cond x a b,Q,st,hk,h=>by
  simp only [C.ZI,aG]at hk;obtain⟨t,e,h⟩:=abS h
  cases t with
  |
   true =>
   obtain⟨e2,st2,h1,h2⟩:=AA hk.1 (Q:=Q) (by simpa using h);exact⟨e2,st2,.cond e h1,h2⟩
  |
   false =>
   obtain⟨e2,st2,h1,h2⟩:=AA hk.2 (Q:=Q) (by simpa using h);exact⟨e2,st2,.cond e h1,h2⟩
 |
  .block id c,Q,st,hk,h=>by
  obtain⟨e,st1,h1,h2⟩:=AA (c:=c) (Q:=fun e st=>Q (Zo id e) st) hk h;exact⟨_,_,.block h1,h2⟩
 |.loop c,Q,st,_,h=>h
 |.exit id,Q,st,_,h=>⟨_,_,.exit id st,h⟩
 |.ret,Q,st,_,h=>⟨_,_,.ret st,h⟩
 |.lib _,_,_,_,h=>by simp [wp]at h
def wr{α:Sort _}(a:α):α:=a
theorem nr{α:Sort _}{a b:α}(h:a=b):a=b:=h
theorem pJ{α:Sort _}(a:α):wr a=a:=nr rfl
def QE(σ:Store)(k:Store→Prop):Prop:=k σ
theorem ao5(k:Store→Prop):QE [] k=k []:=nr rfl
theorem ao6(a:Option Obj)(σ:Store)(k:Store→Prop):QE (a::σ) k=k (a::σ):=nr rfl
@[congr] theorem axn {v v':Store} {k:Store→Prop} (h:wr v=v'):QE v k=QE v' k:=by rw [←h,pJ]
def NW(n:Nat)(k:Nat→Prop):Prop:=k n
theorem alm(n:Nat)(k:Nat→Prop):NW n k=k n:=nr rfl
@[congr] theorem axo {v v':Nat} {k:Nat→Prop} (h:wr v=v'):NW v k=NW v' k:=by rw [←h,pJ]
def brK(t:Bool)(a b:Prop):Prop:=if t=true then a else b
@[congr] theorem ay2 {t t':Bool} {a b:Prop} (h:wr t=t'):brK t a b=brK t' a b:=by rw [←h,pJ]
theorem aoh(a b:Prop):brK true a b=a:=by simp [brK]
theorem aoi(a b:Prop):brK false a b=b:=by simp [brK]
theorem aln(t:Bool)(a b:Prop):brK (!t) a b=brK t b a:=by cases t<;>simp [brK]
theorem jW{c:Prop} [Decidable c] {a b:Prop} (h1:c→a) (h2:¬c→b):brK (decide c) a b:=by
 unfold brK;by_cases h:c
 ·rw [if_pos (decide_eq_true h)];exact h1 h
 rw [if_neg (by simpa using h)];exact h2 h
def Ce(v:V)(k:V→Prop):Prop:=k v
theorem ao7(v:V)(k:V→Prop):Ce v k=k v:=nr rfl
@[congr] theorem ay3 {v v':V} {k:V→Prop} (h:wr v=v'):Ce v k=Ce v' k:=by rw [←h,pJ]
@[congr] theorem axp {α:Type} {v v':Option α} {k:α→Prop} (h:wr v=v'):nK v k=nK v' k:=by rw [←h,pJ]
@[congr] theorem at6 {v v':V} {k:Bool→Prop} (h:wr v=v'):KW v k=KW v' k:=by rw [←h,pJ]
@[congr] theorem ay4 {w:Bool} {v v':V} {k:Bool→Prop} (h:wr v=v'):gdK w v k=gdK w v' k:=by rw [←h,pJ]
@[congr] theorem axq {v v':List Nat} {k:List Nat→Prop} (h:wr v=v'):OZ v k=OZ v' k:=by rw [←h,pJ]
@[congr] theorem atl {n n':Nat} {v v':V} {k:Nat→Prop} (h0:wr n=n') (h:wr v=v'):xk n v k=xk n' v' k:=by rw [←h0,←h,pJ,pJ]
@[congr] theorem aoj {n n':Nat} {v v':V} {k:Nat→Prop} (h0:wr n=n') (h:wr v=v'):rH n v k=rH n' v' k:=by rw [←h0,←h,pJ,pJ]
@[congr] theorem axr {op:BinOp} {x x' y y':V} {k:V→Prop} (h0:wr x=x') (h:wr y=y'):xH op x y k=xH op x' y' k:=by rw [←h0,←h,pJ,pJ]
@[congr] theorem ay5 {T:Tb} {f:Nat} {as as':List V} {k:V→Prop} (h:wr as=as'):PFK T f as k=PFK T f as' k:=by rw [←h,pJ]
@[congr] theorem axt {T:Tb} {f f':Nat} {as:List Src} {d:Option Nat} {st:St} {k:St→Prop} (h:wr f=f'):KX T f as d st k=KX T f' as d st k:=by rw [←h,pJ]
@[congr] theorem at7 {T T':Tb} {c:C} {Q:Ex→St→Prop} {st:St} (h:wr T=T'):Xc T c Q st=Xc T' c Q st:=by rw [←h,pJ]
@[congr] theorem ay6 {L:Nat} {ops:List oM} {l l':List Acc} (h:wr l=l'):vH L ops l=vH L ops l':=by rw [←h,pJ]
@[congr] theorem axu {T:Tb} {f f':Nat} {as:List Src} {d:Option Nat} {st:St} {k:List Nat→List Nat→Bool→St→Prop} (h:wr f=f'):abU T f as d st k=abU T f' as d st k:=by rw [←h,pJ]
theorem afB{α:Type}(a:α)(k:α→Prop):nK (some a) k=k a:=nr rfl
theorem aua(want b:Bool)(k:Bool→Prop):gdK want (.bool b) k=k b:=nr rfl
theorem aub(want:Bool)(k:Bool→Prop):gdK want (.nJ []) k=k (!want):=nr rfl
theorem alo(b:Bool)(k:Bool→Prop):KW (.bool b) k=k b:=nr rfl
theorem ahq(k:List Nat→Prop):OZ [] k=k []:=nr rfl
theorem afC(a:Nat)(l:List Nat)(k:List Nat→Prop):OZ (a::l) k=k (a::l):=nr rfl
theorem afD{n:Nat}{q:IntKind}{i:Int}{k:Nat→Prop}(h:0≤i∧i<n):xk n (.int q i) k=k i.toNat:=by
 simp [xk,h]
theorem ZL{n:Nat}{q:IntKind}{i:Int}{k:Nat→Prop}(h:0≤i∧i≤n):rH n (.int q i) k=k i.toNat:=by
 simp [rH,h]
theorem w64{n:Int}(h : -9223372036854775808≤n∧n≤9223372036854775807):IntKind.i64.wrap n=n:=IntWalk.i64_in n h
theorem ay7{n:Int}(h:0≤n∧n≤4294967295):IntKind.u32.wrap n=n:=IntWalk.u32_in n h
theorem ay8{n:Int}(h:0≤n∧n≤18446744073709551615):IntKind.u64.wrap n=n:=IntWalk.u64_in n h
theorem w8u{n:Int}(h:0≤n∧n≤255):IntKind.u8.wrap n=n:=IntWalk.u8_in n h
theorem ay9(n:Nat)(env:Nat→V):Src.ev env (.t n)=env n:=nr rfl
theorem aza(v:V)(env:Nat→V):Src.ev env (.c v)=v:=nr rfl
theorem afE(env:Nat→V)(v:V):nG env none v=env:=nr rfl
theorem alp(env:Nat→V)(t:Nat)(v:V)(s:Nat):nG env (some t) v s=if s=t then v else env s:=nr rfl
theorem ao8(env:Nat→V)(t:Nat)(v:V)(s:Nat):upd env t v s=if s=t then v else env s:=nr rfl
theorem ao9(a:V)(l:List V):lS (a::l) 0=a:=nr rfl
theorem apa(a:V)(l:List V)(n:Nat):lS (a::l) (n+1)=lS l n:=nr rfl
theorem apb(n:Nat):lS [] n=.any:=nr rfl
theorem alq(a:Option Obj)(l:Store):iZ (a::l) 0=a:=nr rfl
theorem alr(a:Option Obj)(l:Store)(n:Nat):iZ (a::l) (n+1)=iZ l n:=nr rfl
theorem als(n:Nat):iZ [] n=none:=nr rfl
theorem auc(a:Option Obj)(l:Store)(x:Option Obj):List.set (a::l) 0 x=x::l:=nr rfl
theorem aud(a:Option Obj)(l:Store)(n:Nat)(x:Option Obj):List.set (a::l) (n+1) x=a::List.set l n x:=nr rfl
theorem apc(σ:Store):ZJ σ 0=σ:=by simp [ZJ]
theorem apd(σ:Store)(n:Nat):ZJ σ (n+1)=ZJ (σ++[none]) n:=by simp [ZJ,jJ]
theorem ahr(args:List V)(σ:Store):St.enter args σ=⟨lS args,σ,σ.length,0,[],[]⟩:=nr rfl
theorem ahs(σ:Store):lW σ []=σ:=nr rfl
theorem afF(σ:Store)(o:Nat)(l:List Nat):lW σ (o::l)=lW (σ.set o none) l:=nr rfl
section
variable (T : Tb) (rf : Nat → Nat → Bool) (Q : Ex → St → Prop) (st : St) (k : St → Prop) (env : Nat → V) (σ : Store) (kp bs : Nat) (rs ms : List Nat)
def goK(st:St)(d:Option Nat)(id:Nat)(ef:Eff)(k:St→Prop):Prop:=k (ef.go st d id)
@[congr] theorem azb {st:St} {d:Option Nat} {id id':Nat} {ef:Eff} {k:St→Prop} (h:wr id=id'):goK st d id ef k=goK st d id' ef k:=by rw [←h,pJ]
theorem aue(t id:Nat)(v:V):goK ⟨env,σ,kp,bs,rs,ms⟩ (some t) id (.val v) k=k ⟨upd env t v,σ,kp,bs,rs,ms⟩:=nr rfl
theorem ape(id:Nat)(v:V):goK ⟨env,σ,kp,bs,rs,ms⟩ none id (.val v) k=k ⟨env,σ,kp,bs,rs,ms⟩:=nr rfl
theorem auf(t id:Nat)(ob:Obj):goK ⟨env,σ,kp,bs,rs,ms⟩ (some t) id (.newP ob) k=QE (σ.set id (some ob)) fun σ=>k ⟨upd env t (.ptr id 0 0),σ,kp,bs,rs,ms⟩:=nr rfl
theorem aug(t id:Nat)(ob:Obj)(n:Nat):goK ⟨env,σ,kp,bs,rs,ms⟩ (some t) id (.newS ob n) k=QE (σ.set id (some ob)) fun σ=>k ⟨upd env t (.kQ id 0 n),σ,kp,bs,rs,ms⟩:=nr rfl
theorem auh(id o:Nat)(ob:Obj):goK ⟨env,σ,kp,bs,rs,ms⟩ none id (.upd o ob) k=QE (σ.set o (some ob)) fun σ=>k ⟨env,σ,kp,bs,rs,ms⟩:=nr rfl
theorem aui(t id o:Nat)(ob:Obj)(n:Nat):goK ⟨env,σ,kp,bs,rs,ms⟩ (some t) id (.oO o ob n) k=QE ((σ.set o none).set id (some ob)) fun σ=>k ⟨upd env t (.kQ id 0 n),σ,kp,bs,rs,ms⟩:=nr rfl
theorem wp_skip:wp T rf .skip Q st=Q .normal st:=nr rfl
theorem alu(m:Nat)(l:List oM):wp T rf (.reg false m l) Q ⟨env,σ,kp,bs,rs,ms⟩=NW σ.length fun b=>QE (ZJ σ m) fun σ=>abT T rf l ⟨env,σ,kp,b,[],[]⟩ (Q .normal):=nr rfl
theorem alv(m:Nat)(l:List oM):wp T rf (.reg true m l) Q ⟨env,σ,kp,bs,rs,ms⟩=NW σ.length fun b=>QE (ZJ σ m) fun σ=>if (IL l&&Jf rf l)=true then IK T l ⟨env,σ,kp,b,[],[]⟩ (Q .normal)else NW σ.length fun L=>NT T rf L l l 0 [] ⟨env,σ,kp,b,[],[]⟩ (Q .normal):=nr rfl
theorem wp_seq(a b:C):wp T rf (.seq a b) Q st=wp T rf a (fun e st=>ZK e (wp T rf b Q st) (Q e st)) st:=nr rfl
theorem wp_cond(x:Src)(a b:C):wp T rf (.cond x a b) Q st=KW (x.ev st.env) fun t=>if t=true then wp T rf a Q st else wp T rf b Q st:=nr rfl
theorem aht(x:Src)(a b:C):wp T rf (.cond x a b) Q ⟨env,σ,kp,bs,rs,ms⟩=KW (x.ev env) fun t=>brK t (wp T rf a Q ⟨env,σ,kp,bs,rs,ms⟩) (wp T rf b Q ⟨env,σ,kp,bs,rs,ms⟩):=nr rfl
theorem wp_block(id:Nat)(c:C):wp T rf (.block id c) Q st=wp T rf c (fun e st=>Q (Zo id e) st) st:=nr rfl
theorem wp_loop(c:C):wp T rf (.loop c) Q st=Xc T c Q st:=nr rfl
theorem wp_exit(id:Nat):wp T rf (.exit id) Q st=Q (.exit id) st:=nr rfl
theorem wp_ret:wp T rf .ret Q st=Q .ret st:=nr rfl
theorem apf(a b:Prop):ZK .normal a b=a:=nr rfl
theorem apg(id:Nat)(a b:Prop):ZK (.exit id) a b=b:=nr rfl
theorem aph(a b:Prop):ZK .ret a b=b:=nr rfl
theorem apj(id:Nat):Zo id .normal=.normal:=nr rfl
theorem apk(id:Nat):Zo id .ret=.ret:=nr rfl
theorem apl(id j:Nat):Zo id (.exit j)=if j=id then .normal else .exit j:=nr rfl
theorem apm:abT T rf [] st k=k st:=nr rfl
theorem apn(o:oM)(l:List oM):abT T rf (o::l) st k=opK T rf o st fun st=>abT T rf l st k:=nr rfl
theorem apo(g:Option (Nat×Bool))(d:Option Nat)(n:Nat)(i:I)(a:List Nat):opK T rf ⟨g,d,n,i,a⟩ ⟨env,σ,kp,bs,rs,ms⟩ k=gK g env (match i with
  |.call f as=>if rf f (dN d)=true then KX T f as d ⟨env,σ,kp,bs,rs,ms⟩ k else IJ env σ as fun as'=>PFK T f as' fun r =>
    QE (lW σ (if scalar SD r then []else lX env σ as)) fun σ=>k ⟨nG env d r,σ,kp,bs,rs,ms⟩
  |i=>NW (bs+n) fun id=>i.nM env σ fun ef=>goK ⟨env,σ,kp,bs,rs,ms⟩ d id ef k)
  (k ⟨nG env d (.nJ []),σ,kp,bs,rs,ms⟩):=by cases i<;>rfl
theorem alx:IK T [] st k=k st:=nr rfl
theorem aly(g:Option (Nat×Bool))(d:Option Nat)(n:Nat)(i:I)(a:List Nat)(l:List oM):IK T (⟨g,d,n,i,a⟩::l) ⟨env,σ,kp,bs,rs,ms⟩ k=gK g env (match i with
  |.call f as=>IJ env σ as fun as'=>PFK T f as' fun r=>OZ (lX env σ as) fun R =>
    (R=[]∨scalar SD r=true)∧IK T l ⟨nG env d r,σ,kp,bs,rs,ms⟩ k
  |x=>x.nM env σ fun ef=>alk ef fun v=>IK T l ⟨nG env d v,σ,kp,bs,rs,ms⟩ k)
  (IK T l ⟨nG env d (.nJ []),σ,kp,bs,rs,ms⟩ k):=by cases i<;>rfl
theorem apq(L:Nat)(ops:List oM)(i:Nat)(acc:List Acc):NT T rf L ops [] i acc st k=(vH L ops acc∧k st):=nr rfl
theorem apr(L:Nat)(ops:List oM)(g:Option (Nat×Bool))(d:Option Nat)(n:Nat)(x:I)(a:List Nat)(l:List oM)(i:Nat)(acc:List Acc):NT T rf L ops (⟨g,d,n,x,a⟩::l) i acc ⟨env,σ,kp,bs,rs,ms⟩ k=gK g env (match x with
  |.call f as=>if rf f (dN d)=true then abU T f as d ⟨env,σ,kp,bs,rs,ms⟩ fun R W n st=>NW (i+1) fun j=>NT T rf L ops l j (⟨i,R,W,n⟩::acc) st k
    else IJ env σ as fun as'=>PFK T f as' fun r=>OZ (lX env σ as) fun R =>
    (R=[]∨scalar SD r=true)∧NW (i+1) fun j=>NT T rf L ops l j (⟨i,R,[],false⟩::acc) ⟨nG env d r,σ,kp,bs,rs,ms⟩ k
  |x
    => OZ (x.reads env) fun R=>NW (bs+n) fun id=>x.nM env σ fun ef=>OZ (ef.wr id) fun W=>NW (i+1) fun j =>
    goK ⟨env,σ,kp,bs,rs,ms⟩ d id ef fun st=>NT T rf L ops l j (⟨i,R,W,false⟩::acc) st k)
  (NW (i+1) fun j=>NT T rf L ops l j (⟨i,[],[],false⟩::acc) ⟨nG env d (.nJ []),σ,kp,bs,rs,ms⟩ k):=by cases x<;>rfl
end
theorem azc(env:Nat→V)(a b:Prop):gK none env a b=a:=nr rfl
theorem azd(t:Nat)(env:Nat→V)(on off:Prop):gK (some (t,true)) env on off=gdK true (env t) fun b=>brK b on off:=nr rfl
theorem aze(t:Nat)(env:Nat→V)(on off:Prop):gK (some (t,false)) env on off=gdK false (env t) fun b=>brK b off on:=nr rfl
theorem aps(v:V)(k:V→Prop):alk (.val v) k=k v:=nr rfl
theorem azf(v:V)(id:Nat):Eff.wr id (.val v)=[]:=nr rfl
theorem azg(ob:Obj)(id:Nat):Eff.wr id (.newP ob)=[id]:=nr rfl
theorem azh(ob:Obj)(n:Nat)(id:Nat):Eff.wr id (.newS ob n)=[id]:=nr rfl
theorem azi(ob:Obj)(o:Nat)(id:Nat):Eff.wr id (.upd o ob)=[o]:=nr rfl
theorem azj(ob:Obj)(o n:Nat)(id:Nat):Eff.wr id (.oO o ob n)=[o,id]:=nr rfl
def qL(v:V)(k:List V→Prop):Prop:=nK v.cells? k
@[congr] theorem atm {v v':V} {k:List V→Prop} (h:wr v=v'):qL v k=qL v' k:=by rw [←h,pJ]
theorem abX(q:IntKind)(n:Int)(k:List V→Prop):qL (.int q n) k=k [.int q n]:=nr rfl
theorem ZM(b:Bool)(k:List V→Prop):qL (.bool b) k=k [.bool b]:=nr rfl
theorem abY(s:List UInt8)(k:List V→Prop):qL (.str s) k=k [.str s]:=nr rfl
theorem ZN(k:List V→Prop):qL .jF k=k [.jF]:=nr rfl
theorem abZ(k:List V→Prop):qL .one k=k [.one]:=nr rfl
theorem afG(sz:Nat)(r:List (List V))(k:List V→Prop):qL (.sl sz r) k=k [.sl sz r]:=nr rfl
theorem ab1(o s l:Nat)(k:List V→Prop):qL (.kQ o s l) k=k [.kQ o s l]:=nr rfl
theorem ab2(o s l:Nat)(k:List V→Prop):qL (.ptr o s l) k=k [.ptr o s l]:=nr rfl
theorem ZO(r:List V)(o:Nat)(k:List V→Prop):qL (.ou r o) k=k [.ou r o]:=nr rfl
theorem ab3(cs:List V)(k:List V→Prop):qL (.agg cs) k=if cs.all V.leaf=true then k cs else False:=by
 simp only [qL,V.cells?];split<;>rfl
def ZP(σ:Store)(v:V)(k:Nat→Nat→Nat→Prop)(kf:List V→Nat→Prop):Prop:=match v with
 |.ptr o r off=>k o r off
 |.ou row off=>kf row off
 |_=>False
@[congr] theorem axv {σ:Store} {v v':V} {k:Nat→Nat→Nat→Prop} {kf:List V→Nat→Prop} (h:wr v=v'):ZP σ v k kf=ZP σ v' k kf:=by rw [←h,pJ]
theorem apt(σ:Store)(o r off:Nat)(k:Nat→Nat→Nat→Prop)(kf:List V→Nat→Prop):ZP σ (.ptr o r off) k kf=k o r off:=nr rfl
theorem apu(σ:Store)(r:List V)(off:Nat)(k:Nat→Nat→Nat→Prop)(kf:List V→Nat→Prop):ZP σ (.ou r off) k kf=kf r off:=nr rfl
def slK(v:V)(kn:Prop)(kf:Nat→List (List V)→Prop)(km:Nat→Nat→Nat→Prop):Prop:=match v with
 |.jF=>kn
 |.sl sz rows=>kf sz rows
 |.kQ o s l=>km o s l
 |_=>False
@[congr] theorem azk {v v':V} {kn:Prop} {kf:Nat→List (List V)→Prop} {km:Nat→Nat→Nat→Prop} (h:wr v=v'):slK v kn kf km=slK v' kn kf km:=by rw [←h,pJ]
theorem auj(kn:Prop)(kf:Nat→List (List V)→Prop)(km:Nat→Nat→Nat→Prop):slK .jF kn kf km=kn:=nr rfl
theorem auk(sz:Nat)(r:List (List V))(kn:Prop)(kf:Nat→List (List V)→Prop)(km:Nat→Nat→Nat→Prop):slK (.sl sz r) kn kf km=kf sz r:=nr rfl
theorem aul(o s l:Nat)(kn:Prop)(kf:Nat→List (List V)→Prop)(km:Nat→Nat→Nat→Prop):slK (.kQ o s l) kn kf km=km o s l:=nr rfl
def ZQ(v:V)(k:IntKind→Int→Prop):Prop:=match v with
 |.int q n=>k q n
 |_=>False
@[congr] theorem axw {v v':V} {k:IntKind→Int→Prop} (h:wr v=v'):ZQ v k=ZQ v' k:=by rw [←h,pJ]
theorem apv(q:IntKind)(n:Int)(k:IntKind→Int→Prop):ZQ (.int q n) k=k q n:=nr rfl
def afH(v:V)(k:List UInt8→Prop):Prop:=match v with
 |.str s=>k s
 |_=>False
@[congr] theorem axx {v v':V} {k:List UInt8→Prop} (h:wr v=v'):afH v k=afH v' k:=by rw [←h,pJ]
theorem apw(s:List UInt8)(k:List UInt8→Prop):afH (.str s) k=k s:=nr rfl
def alz(v:V)(k:List V→Prop):Prop:=match v with
 |.nJ s=>k s
 |_=>False
@[congr] theorem axy {v v':V} {k:List V→Prop} (h:wr v=v'):alz v k=alz v' k:=by rw [←h,pJ]
def alA(v:V)(k:List V→Prop):Prop:=match v with
 |.agg s=>k s
 |_=>False
@[congr] theorem axz {v v':V} {k:List V→Prop} (h:wr v=v'):alA v k=alA v' k:=by rw [←h,pJ]
theorem apx(s:List V)(k:List V→Prop):alA (.agg s) k=k s:=nr rfl
theorem apy(s:List V)(k:List V→Prop):alz (.nJ s) k=k s:=nr rfl
section
variable (env : Nat → V) (σ : Store) (k : Eff → Prop)
theorem aum(x:Src):I.nM env σ (.oO x) k=Ce (x.ev env) fun v=>k (.val v):=nr rfl
theorem apz(c a b:Src):I.nM env σ (.pick c a b) k=KW (c.ev env) fun t=>brK t (Ce (a.ev env) fun v=>k (.val v)) (Ce (b.ev env) fun v=>k (.val v)):=by
 simp only [I.nM];cases c.ev env with|bool t=>cases t<;>rfl|_=>rfl
theorem alB(z:List V):I.nM env σ (.alloc z) k=k (.newP ⟨z.length,[z]⟩):=nr rfl
theorem aun(x:Src):I.nM env σ (.box x) k=qL (x.ev env) fun cs=>match cs with|c::cs=>k (.newP ⟨(c::cs).length,[c::cs]⟩) | []=>False:=by
 simp only [I.nM,qL];cases (x.ev env).cells? with|none=>rfl|some cs=>cases cs<;>rfl
theorem alC(z:List V)(ps:List (Nat×Nat×Src)):I.nM env σ (.build z ps) k=nK (zi env z ps) fun cs=>k (.val (.agg cs)):=nr rfl
theorem apA(sz:Nat)(z:List V)(ln:Nat)(ps:List (Nat×Src)):I.nM env σ (.oI sz z ln ps) k =
  nK (sJ env sz (List.replicate ln z) ps) fun rows=>if ln=0 then k (.val .jF)else k (.newS ⟨sz,rows⟩ ln):=nr rfl
theorem apB(z:List V)(b:Nat)(x:Src):I.nM env σ (.make z b x) k=ZQ (x.ev env) fun q n=>match q with
  |.i64=>(0≤n∧n≤2 ^ 47∧n*b≤2 ^ 47)∧k (.newS ⟨z.length,List.replicate n.toNat z⟩ n.toNat)|_=>False:=by
 simp only [I.nM];cases x.ev env with|int q n=>cases q<;>rfl|_=>rfl
theorem alD(n:Nat)(a:Src):I.nM env σ (.load n false a) k=nK (rowAt σ (a.ev env)) fun p=>nK p.1[p.2]? fun v=>Ce v fun v=>k (.val v):=nr rfl
theorem alE(n:Nat)(a:Src):I.nM env σ (.load n true a) k=nK (rowAt σ (a.ev env)) fun p=>p.2+n≤p.1.length∧Ce (.agg ((p.1.drop p.2).take n)) fun v=>k (.val v):=nr rfl
theorem
    alF (n:Nat) (a x:Src):I.nM env σ (.store n a x) k=ZP σ (a.ev env) (fun o r off=>qL (x.ev env) fun cs=>nK (iZ σ o) fun ob=>nK ob.rows[r]? fun row =>
    (cs.length=n∧off+n≤row.length)∧k (.upd o ⟨ob.sz,ob.rows.set r (splice row off cs)⟩)) fun _ _=>False:=by
 simp only [I.nM];cases a.ev env<;>rfl
theorem auo(d:Nat)(a:Src):I.nM env σ (.fld d a) k=ZP σ (a.ev env) (fun o r off=>nK (iZ σ o) fun _=>Ce (.ptr o r (off+d)) fun v=>k (.val v)) fun row off=>Ce (.ou row (off+d)) fun v=>k (.val v):=by
 simp only [I.nM];cases a.ev env<;>rfl
theorem aup(sz:Nat)(x i:Src):I.nM env σ (.idx sz x i) k=slK (x.ev env) False (fun sz' rows=>xk rows.length (i.ev env) fun j=>sz'=sz∧Ce (.ou (rows.getD j []) 0) fun v=>k (.val v))
  (fun o s l=>nK (iZ σ o) fun ob=>xk l (i.ev env) fun j=>ob.sz=sz∧Ce (.ptr o (s+j) 0) fun v=>k (.val v)):=by
 simp only [I.nM];cases x.ev env<;>rfl
theorem apC(c sz:Nat)(x i:Src):I.nM env σ (.BZ c sz x i) k=ZP σ (x.ev env) (fun o r off=>xk c (i.ev env) fun j=>nK (iZ σ o) fun _=>Ce (.ptr o r (off+j*sz)) fun v=>k (.val v))
  fun row off=>xk c (i.ev env) fun j=>Ce (.ou row (off+j*sz)) fun v=>k (.val v):=by
 simp only [I.nM];cases x.ev env<;>rfl
theorem apD(x i:Src):I.nM env σ (.Zm x i) k=afH (x.ev env) fun s=>xk s.length (i.ev env) fun j=>Ce (.int .u8 (s.getD j 0).toNat) fun v=>k (.val v):=by
 simp only [I.nM];cases x.ev env<;>rfl
theorem apE(c:Nat)(x i:Src):I.nM env σ (.XV c x i) k=alA (x.ev env) fun cs=>xk c (i.ev env) fun j=>nK cs[j]? fun v=>Ce v fun v=>k (.val v):=by
 simp only [I.nM];cases x.ev env<;>rfl
theorem auq(x:Src):I.nM env σ (.len x) k=nK (lenOf σ (x.ev env)) fun n=>Ce (.int .i64 n) fun v=>k (.val v):=nr rfl
theorem apF(x:Src):I.nM env σ (.Zn x) k=afH (x.ev env) fun s=>Ce (.int .i64 s.length) fun v=>k (.val v):=by
 simp only [I.nM];cases x.ev env<;>rfl
theorem aur(op:BinOp)(x y:Src):I.nM env σ (.bin op x y) k=xH op (x.ev env) (y.ev env) fun v=>Ce v fun v=>k (.val v):=nr rfl
theorem aus(ne:Bool)(x y:Src):I.nM env σ (.beq ne x y) k=KW (x.ev env) fun a=>KW (y.ev env) fun b=>Ce (.bool (if ne=true then !(a == b)else a == b)) fun v=>k (.val v):=by
 simp only [I.nM];cases x.ev env<;>first|rfl|(cases y.ev env<;>rfl)
theorem aut(x:Src):I.nM env σ (.un .not x) k=KW (x.ev env) fun a=>Ce (.bool (!a)) fun v=>k (.val v):=by
 simp only [I.nM];cases x.ev env<;>rfl
theorem auu(x:Src):I.nM env σ (.un .neg x) k=ZQ (x.ev env) fun q n=>Ce (.int q (q.wrap (0-n))) fun v=>k (.val v):=by
 simp only [I.nM];cases x.ev env<;>rfl
theorem apG(q:IntKind)(x:Src):I.nM env σ (.conv q x) k=ZQ (x.ev env) fun _ n=>Ce (.int q (q.wrap n)) fun v=>k (.val v):=by
 simp only [I.nM];cases x.ev env<;>rfl
theorem auv(x y:Src):I.nM env σ (.max x y) k=ZQ (x.ev env) fun q a=>ZQ (y.ev env) fun q' b=>q=q'∧Ce (.int q (if b>a then b else a)) fun v=>k (.val v):=by
 simp only [I.nM];cases x.ev env<;>first|rfl|(cases y.ev env<;>rfl)
theorem apH(i:Nat)(x:Src):I.nM env σ (.VP i x) k=alz (x.ev env) fun vs=>nK vs[i]? fun v=>Ce v fun v=>k (.val v):=by
 simp only [I.nM];cases x.ev env<;>rfl
theorem auw(x:Src):I.nM env σ (.chk x) k=ZP σ (x.ev env) (fun o r off=>nK (iZ σ o) fun _=>k (.val (.ptr o r off))) fun row off=>k (.val (.ou row off)):=by
 simp only [I.nM];cases x.ev env<;>rfl
theorem auy(sz b:Nat)(x y:Src):I.nM env σ (.app sz b x y) k=Ce (x.ev env) fun xv=>nK (rowsOf σ xv) fun old=>nK (rowsOf σ (y.ev env)) fun new =>
  (new.2=[]→k (.val xv))∧(new.2≠[]→(new.1=sz∧(old.2.length+new.2.length)*b≤2 ^ 40∧old.2.length+new.2.length≤2 ^ 40) ∧
   slK xv (k (.newS ⟨sz,new.2⟩ new.2.length)) (fun _ _=>False) fun o _ _=>nK (iZ σ o) fun ob=>ob.sz=sz∧k (.oO o ⟨sz,old.2++new.2⟩ (old.2.length+new.2.length))):=by
 simp only [I.nM,Ce];cases x.ev env<;>rfl
end
section
variable (k : V → Prop) (q : IntKind) (a b : Int)
theorem auz:xH .add (.int q a) (.int q b) k=k (.int q (q.wrap (a+b))):=by simp [xH]
theorem auA:xH .sub (.int q a) (.int q b) k=k (.int q (q.wrap (a-b))):=by simp [xH]
theorem auB:xH .mul (.int q a) (.int q b) k=k (.int q (q.wrap (a*b))):=by simp [xH]
theorem auC{b:Int}(h:b≠0):xH .quo (.int q a) (.int q b) k=k (.int q (q.wrap (a.tdiv b))):=by simp [xH,h]
theorem auD{b:Int}(h:b≠0):xH .rem (.int q a) (.int q b) k=k (.int q (a.tmod b)):=by simp [xH,h]
theorem auE:xH .eql (.int q a) (.int q b) k=k (.bool (decide (a=b))):=by simp [xH];rfl
theorem auF:xH .neq (.int q a) (.int q b) k=k (.bool (!decide (a=b))):=by simp [xH,bne];rfl
theorem auG:xH .lss (.int q a) (.int q b) k=k (.bool (decide (a<b))):=by simp [xH]
theorem auH:xH .leq (.int q a) (.int q b) k=k (.bool (decide (a≤b))):=by simp [xH]
theorem auI:xH .gtr (.int q a) (.int q b) k=k (.bool (decide (b<a))):=by simp [xH]
theorem auJ:xH .geq (.int q a) (.int q b) k=k (.bool (decide (b≤a))):=by simp [xH]
theorem auK(q':IntKind)(h:0≤b):xH .shr (.int q a) (.int q' b) k=k (.int q (a.fdiv (2 ^ (min b.toNat q.bits)))):=by simp [xH,h]
theorem auL:xH .and (.int q a) (.int q b) k=k (.int q (G6 q a b)):=by simp [xH]
theorem auM:xH .xor (.int q a) (.int q b) k=k (.int q (SX q a b)):=by simp [xH]
theorem apI(s t:List UInt8):xH .eql (.str s) (.str t) k=k (.bool (s == t)):=nr rfl
theorem apJ(s t:List UInt8):xH .neq (.str s) (.str t) k=k (.bool (!(s == t))):=nr rfl
end
theorem alG(σ:Store)(row:List V)(off:Nat):rowAt σ (.ou row off)=some (row,off):=nr rfl
theorem alH(σ:Store)(o r off:Nat):rowAt σ (.ptr o r off)=match iZ σ o with|some ob=>(ob.rows[r]?).map (·,off)|none=>none:=nr rfl
theorem alI(σ:Store):lenOf σ .jF=some 0:=nr rfl
theorem alJ(σ:Store)(sz:Nat)(rows:List (List V)):lenOf σ (.sl sz rows)=some rows.length:=nr rfl
theorem alK(σ:Store)(o s l:Nat):lenOf σ (.kQ o s l)=(iZ σ o).map fun _=>l:=nr rfl
theorem ahu(σ:Store):rowsOf σ .jF=some (0,[]):=nr rfl
theorem ahv(σ:Store)(sz:Nat)(rows:List (List V)):rowsOf σ (.sl sz rows)=some (sz,rows):=nr rfl
theorem ahw(σ:Store)(o s l:Nat):rowsOf σ (.kQ o s l)=match iZ σ o with
  |some ob=>if s+l≤ob.rows.length then some (ob.sz,(ob.rows.drop s).take l)else none
  |none=>none:=nr rfl
theorem apK(env:Nat→V)(σ:Store)(k:List V→Prop):IJ env σ [] k=k []:=nr rfl
theorem apL(env:Nat→V)(σ:Store)(s:Src)(as:List Src)(k:List V→Prop):IJ env σ (s::as) k=Ce (s.ev env) fun v=>nK (resolve σ FD v) fun v=>IJ env σ as fun vs=>k (v::vs):=nr rfl
def SB(σ:Store):List V→Option (List V)
 | []=>some []
 |
  c::cs=>match resolve σ 11 c with
  |
   some d=>match SB σ cs with
   |some ds=>some (d::ds)
   |none=>none
  |none=>none
theorem X8(σ:Store):∀cs,cs.mapM (resolve σ 11)=SB σ cs
 | []=>rfl
 |
  c::cs=>by
  simp only [bF,SB,X8 σ cs]
  cases resolve σ 11 c with
  |none=>rfl
  |some d=>cases SB σ cs<;>rfl
theorem auN(σ:Store)(q:IntKind)(n:Int):resolve σ FD (.int q n)=some (.int q n):=nr rfl
theorem apM(σ:Store)(b:Bool):resolve σ FD (.bool b)=some (.bool b):=nr rfl
theorem auO(σ:Store)(s:List UInt8):resolve σ FD (.str s)=some (.str s):=nr rfl
theorem apN(σ:Store):resolve σ FD .jF=some .jF:=nr rfl
theorem auP(σ:Store):resolve σ FD .one=some .one:=nr rfl
theorem azl(σ:Store)(sz:Nat)(r:List (List V)):resolve σ FD (.sl sz r)=some (.sl sz r):=nr rfl
theorem apO(σ:Store)(r:List V)(o:Nat):resolve σ FD (.ou r o)=some (.ou r o):=nr rfl
theorem auQ(σ:Store)(cs:List V):resolve σ FD (.agg cs)=(SB σ cs).map .agg:=by rw [←X8];rfl
theorem auR(σ:Store)(cs:List V):resolve σ FD (.nJ cs)=(SB σ cs).map .nJ:=by rw [←X8];rfl
theorem apP(σ:Store):SB σ []=some []:=nr rfl
theorem ahx(σ:Store)(c:V)(cs:List V):SB σ (c::cs)=match resolve σ 11 c with
  |
   some d=>match SB σ cs with
   |some ds=>some (d::ds)
   |none=>none
  |none=>none:=nr rfl
theorem apQ(σ:Store)(q:IntKind)(n:Int):resolve σ 11 (.int q n)=some (.int q n):=nr rfl
theorem alL(σ:Store)(b:Bool):resolve σ 11 (.bool b)=some (.bool b):=nr rfl
theorem apR(σ:Store)(s:List UInt8):resolve σ 11 (.str s)=some (.str s):=nr rfl
theorem alM(σ:Store):resolve σ 11 .jF=some .jF:=nr rfl
theorem apS(σ:Store):resolve σ 11 .one=some .one:=nr rfl
theorem auS(σ:Store)(sz:Nat)(r:List (List V)):resolve σ 11 (.sl sz r)=some (.sl sz r):=nr rfl
theorem alN(σ:Store)(r:List V)(o:Nat):resolve σ 11 (.ou r o)=some (.ou r o):=nr rfl
def V.still:V→Bool
 |.one | .int .. | .bool _ | .str _ | .jF | .sl .. | .ou ..=>true
 |_=>false
def l9(rows:List (List V)):Prop:=∀r∈rows,∀v∈r,v.still=true
theorem MC{σ:Store}{n:Nat}{v:V}(h:v.still=true):resolve σ (n+1) v=some v:=by
 cases v<;>first|rfl|cases h
theorem Jg{σ:Store}{n:Nat}:∀{r:List V},(∀v∈r,v.still=true)→r.mapM (resolve σ (n+1))=some r
 | [],_=>rfl
 |
  v::r,h=>by
  rw [bF,MC (h v (by simp)),Jg fun x hx=>h x (by simp [hx])];rfl
theorem vJ{σ:Store}{n:Nat}:∀{rows:List (List V)},l9 rows→(rows.mapM fun (r:List V)=>r.mapM (resolve σ (n+1)))=some rows
 | [],_=>rfl
 |
  r::rows,h=>by
  rw [bF,Jg (h r (by simp)),vJ fun x hx=>h x (by simp [hx])];rfl
theorem l9.part{rows:List (List V)}(h:l9 rows)(s l:Nat):l9 ((rows.drop s).take l):=fun r hr=>h r (eF (bZ hr))
theorem apT{σ:Store}{n o s l:Nat}{ob:Obj}(ho:iZ σ o=some ob)(hs:l9 ob.rows)(hl:s+l≤ob.rows.length):resolve σ (n+2) (.kQ o s l)=some (.sl ob.sz ((ob.rows.drop s).take l)):=by
 rw [resolve];simp only [ho];rw [if_pos hl,vJ (hs.part s l)];rfl
theorem auT{σ:Store}{o s l:Nat}{ob:Obj}(ho:iZ σ o=some ob)(hs:l9 ob.rows)(hl:s+l≤ob.rows.length):resolve σ FD (.kQ o s l)=some (.sl ob.sz ((ob.rows.drop s).take l)):=apT (n:=10) ho hs hl
theorem azm(env:Nat→V)(σ:Store):lX env σ []=[]:=nr rfl
theorem azn(env:Nat→V)(σ:Store)(s:Src)(as:List Src):lX env σ (s::as)=reach σ FD (s.ev env)++lX env σ as:=nr rfl
theorem Af{σ:Store}{n:Nat}{v:V}(h:v.still=true):reach σ (n+1) v=[]:=by
 cases v<;>first|rfl|cases h
theorem auU(σ:Store)(q:IntKind)(n:Int):reach σ FD (.int q n)=[]:=nr rfl
theorem apU(σ:Store)(b:Bool):reach σ FD (.bool b)=[]:=nr rfl
theorem auV(σ:Store)(s:List UInt8):reach σ FD (.str s)=[]:=nr rfl
theorem apV(σ:Store):reach σ FD .jF=[]:=nr rfl
theorem azo(σ:Store)(sz:Nat)(r:List (List V)):reach σ FD (.sl sz r)=[]:=nr rfl
theorem apW(σ:Store)(r:List V)(o:Nat):reach σ FD (.ou r o)=[]:=nr rfl
def NY(σ:Store)(cs:List V):List Nat:=cs.flatMap (reach σ 11)
theorem auW(σ:Store)(cs:List V):reach σ FD (.agg cs)=NY σ cs:=nr rfl
theorem azp(σ:Store):NY σ []=[]:=nr rfl
theorem azq(σ:Store)(c:V)(cs:List V):NY σ (c::cs)=reach σ 11 c++NY σ cs:=nr rfl
theorem apX(σ:Store)(q:IntKind)(n:Int):reach σ 11 (.int q n)=[]:=nr rfl
theorem alO(σ:Store)(b:Bool):reach σ 11 (.bool b)=[]:=nr rfl
theorem apY(σ:Store)(s:List UInt8):reach σ 11 (.str s)=[]:=nr rfl
theorem alP(σ:Store):reach σ 11 .jF=[]:=nr rfl
theorem auX(σ:Store)(sz:Nat)(r:List (List V)):reach σ 11 (.sl sz r)=[]:=nr rfl
theorem alQ(σ:Store)(r:List V)(o:Nat):reach σ 11 (.ou r o)=[]:=nr rfl
theorem auY(q:IntKind)(n:Int):scalar SD (.int q n)=true:=nr rfl
theorem apZ(b:Bool):scalar SD (.bool b)=true:=nr rfl
theorem auZ(s:List UInt8):scalar SD (.str s)=true:=nr rfl
def KA:List Kz→List V→St→(V→Prop)→Prop
 | [],acc,st,k=>Ce (sZ acc.reverse) fun v=>nK (resolve st.objs FD v) k
 |r::rs,acc,st,k=>nK (r.get st) fun v=>Ce v fun v=>KA rs (v::acc) st k
theorem QF{st:St}{k:V→Prop}:∀(rs:List Kz) (acc:List V),KA rs acc st k→nK (rs.mapM (Kz.get st)) fun vs=>nK (resolve st.objs FD (sZ (acc.reverse++vs))) k
 | [],acc,h=>by simpa [nK,KA,Ce]using h
 |
  r::rs,acc,h=>by
  obtain⟨v,e,h⟩:=kV h;have:=QF rs (v::acc) h;obtain⟨vs,e2,h⟩:=kV this;simp only [bF,e,e2];simpa [nK,wr]using h
def alR(rs:List Kz)(e:Ex)(k:V→Prop)(st:St):Prop:=match e with
 |.normal=>KA rs [] st k
 |.ret=>KA rs [] st k
 |.exit _=>False
theorem ap0(rs:List Kz)(k:V→Prop)(st:St):alR rs .normal k st=KA rs [] st k:=nr rfl
theorem ap1(rs:List Kz)(k:V→Prop)(st:St):alR rs .ret k st=KA rs [] st k:=nr rfl
theorem ap2(acc:List V)(st:St)(k:V→Prop):KA [] acc st k=Ce (sZ acc.reverse) fun v=>nK (resolve st.objs FD v) k:=nr rfl
theorem ap3(t:Nat)(rs:List Kz)(acc:List V)(st:St)(k:V→Prop):KA (.tmp t::rs) acc st k=Ce (st.env t) fun v=>KA rs (v::acc) st k:=nr rfl
theorem alS(t n:Nat)(rs:List Kz)(acc:List V)(st:St)(k:V→Prop):KA (.cell t n false::rs) acc st k=nK (rowAt st.objs (st.env t)) fun p=>nK p.1[p.2]? fun v=>Ce v fun v=>KA rs (v::acc) st k:=by
 simp only [KA,Kz.get]
 cases rowAt st.objs (st.env t)<;>rfl
theorem au0(v:V):sZ [v]=v:=nr rfl
theorem au1(v w:V):sZ [v,w]=.nJ [v,w]:=nr rfl
theorem au2(v w x:V):sZ [v,w,x]=.nJ [v,w,x]:=nr rfl
theorem kR{T:Tb}{f:Nat}{F:Fn}{args:List V}{r:V}(rf:Nat→Nat→Bool)(hT:T f=some F)
  (h:wp T rf F.body (fun e st=>alR F.res e (· = r) st) (St.enter args [])) (hl:args.length=F.nargs:=by rfl) (hk:F.body.ZI=true:=by rfl):PF T f args r:=by
 obtain⟨e,st',h1,h2⟩:=AA hk h;have h3:(e=.normal∨e=.ret)∧KA F.res [] st' (· = r):=by
  cases e with
  |normal=>exact⟨.inl rfl,h2⟩
  |ret=>exact⟨.inr rfl,h2⟩
  |exit id=>exact h2.elim
 obtain⟨he,h3⟩:=h3;have:=QF _ _ h3;obtain⟨rs,e1,h4⟩:=kV this;obtain⟨r',e2,h5⟩:=kV h4;subst h5;exact .WL (.fn hT hl h1 he e1) e2
theorem jl{T:Tb}{f:Nat}{as:List V}{k:V→Prop}{r:V}(h:PF T f as r)(hk:k r):PFK T f as k:=⟨r,h,hk⟩
def jR(l:List Int):List (List V):=l.map fun x=>[.int .i64 x]
abbrev ints(l:List Int):V:=.sl 1 (jR l)
theorem CQ(l:List Int):(jR l).length=l.length:=by simp [jR]
theorem alT{l:List Int}{j:Nat}(h:j<l.length):(jR l).getD j []=[.int .i64 (l.getD j 0)]:=by
 simp [jR,aj,au h]
theorem ap4{l:List Int}{j:Nat}(h:j<l.length):(jR l)[j]? = some [.int .i64 (l.getD j 0)]:=by
 simp [jR,aj,au h]
theorem ap5(l:List Int)(j:Nat)(x:Int):(jR l).set j [.int .i64 x]=jR (l.set j x):=by
 simp only [jR,List.map_set]
theorem NZ(n:Nat)(x:Int):List.replicate n [V.int .i64 x]=jR (List.replicate n x):=by simp [jR]
theorem X9(l:List Int)(n:Nat):(jR l).drop n=jR (l.drop n):=by simp [jR]
theorem Ya(l:List Int)(n:Nat):(jR l).take n=jR (l.take n):=by simp [jR]
theorem oz(l:List Int):l9 (jR l):=by
 intro r hr v hv;obtain⟨x,_,rfl⟩:=bG.1 hr;simp at hv;subst hv;rfl
theorem alU(a b:V):splice [a] 0 [b]=[b]:=nr rfl
end Go.Ml
end
section
namespace Go.Ml
theorem Um:∀{x y:V},lU x y→y.leaf=true→x.leaf=true:=by
 intro x y h hl
 cases x<;>first|rfl|skip
 ·simp only [lU]at h;subst h;exact hl
 ·simp only [lU]at h;obtain⟨_,rfl,_⟩:=h;exact hl
 simp only [lU]at h;obtain⟨_,rfl,_⟩:=h;exact hl
theorem ZR:∀{xs ys:List V},uJ xs ys→xs.length=ys.length
 | [],ys,h=>by simp only [uJ]at h;subst h;rfl
 |
  x::xs,ys,h=>by
  simp only [uJ]at h;obtain⟨y,ys',rfl,_,h2⟩:=h;simp [ZR h2]
theorem ZT:∀{xs ys:List (List V)},VQ xs ys→xs.length=ys.length
 | [],ys,h=>by simp only [VQ]at h;subst h;rfl
 |
  x::xs,ys,h=>by
  simp only [VQ]at h;obtain⟨y,ys',rfl,_,h2⟩:=h;simp [ZT h2]
mutual
theorem QG{w:World}:∀(D:DM) (X:Nat→Prop) (x y:V) (v:Value),lU x y→rd w D X y v→rd w D X x v
 |
  D,X,.sl sz rows,y,v,h,hr=>by
  simp only [lU]at h;rcases h with ⟨rfl,rfl|⟨sz',rfl⟩⟩|⟨rows',rfl,h⟩
  ·simp only [rd]at hr ⊢;obtain⟨a,rfl⟩:=hr;exact⟨a,0,rfl,aJ _,.inl (by trivial)⟩
  ·simp only [rd]at hr ⊢;obtain⟨a,cap,rfl,h2,_⟩:=hr;exact⟨a,cap,rfl,h2,.inl (by trivial)⟩
  simp only [rd]at hr ⊢;obtain⟨a,cap,rfl,h2,h3⟩:=hr;have hl:=ZT h;refine⟨a,cap,by rw [hl],by rw [hl];exact h2,?_⟩;rcases h3 with h3|⟨b,off,h3,h4,h5,h6⟩
  ·left;subst h3;exact aY hl
  exact .inr ⟨b,off,h3,h4,h5,Un DM.none X b sz off rows rows' h h6⟩
 |
  D,X,.agg cs,y,v,h,hr=>by
  simp only [lU]at h;obtain⟨cs',rfl,h⟩:=h;simp only [rd]at hr ⊢;obtain⟨a,rfl,hr⟩:=hr;exact⟨a,rfl,O1 D X cs cs' _ h hr⟩
 |
  D,X,.nJ cs,y,v,h,hr=>by
  simp only [lU]at h;obtain⟨cs',rfl,h⟩:=h;simp only [rd]at hr ⊢;obtain⟨a,rfl,hr⟩:=hr;exact⟨a,rfl,O1 D X cs cs' _ h hr⟩
 |
  D,X,.ou row off,y,v,h,hr=>by
  simp only [lU]at h;obtain⟨row',rfl,h⟩:=h;simp only [rd]at hr ⊢;obtain⟨b,o,rfl,h1,h2,h3⟩:=hr;exact⟨b,o,rfl,h1,h2,La DM.none X b o row row' h h3⟩
 |_,_,.any,y,v,h,hr=>by simp [rd]
 |_,_,.one,y,v,h,hr=>by simp only [lU]at h;subst h;exact hr
 |_,_,.int ..,y,v,h,hr=>by simp only [lU]at h;subst h;exact hr
 |_,_,.bool _,y,v,h,hr=>by simp only [lU]at h;subst h;exact hr
 |_,_,.str _,y,v,h,hr=>by simp only [lU]at h;subst h;exact hr
 |_,_,.jF,y,v,h,hr=>by simp only [lU]at h;subst h;exact hr
 |_,_,.kQ ..,y,v,h,hr=>by simp only [lU]at h;subst h;exact hr
 |_,_,.ptr ..,y,v,h,hr=>by simp only [lU]at h;subst h;exact hr
termination_by structural _ _ x=>x
theorem O1{w:World}:∀(D:DM) (X:Nat→Prop) (xs ys:List V) (vs:List Value),uJ xs ys→oL w D X ys vs→oL w D X xs vs
 |D,X,[],ys,vs,h,hr=>by simp only [uJ]at h;subst h;exact hr
 |
  D,X,x::xs,ys,vs,h,hr=>by
  simp only [uJ]at h;obtain⟨y,ys',rfl,h1,h2⟩:=h;simp only [oL]at hr ⊢;obtain⟨v,vs',rfl,k1,k2⟩:=hr;exact⟨v,vs',rfl,QG D X x y v h1 k1,O1 D X xs ys' vs' h2 k2⟩
termination_by structural _ _ x=>x
theorem La{w:World}:∀(D:DM) (X:Nat→Prop) (b off:Nat) (xs ys:List V),uJ xs ys→nO w D X b off ys→nO w D X b off xs
 |D,X,b,off,[],ys,h,hr=>by simp [nO]
 |
  D,X,b,off,x::xs,ys,h,hr=>by
  simp only [uJ]at h;obtain⟨y,ys',rfl,h1,h2⟩:=h;simp only [nO]at hr ⊢;obtain⟨k0,⟨c,k1,k2⟩,k3⟩:=hr;exact⟨Um h1 k0,⟨c,k1,QG D X x y c h1 k2⟩,La D X b (off+1) xs ys' h2 k3⟩
termination_by structural _ _ _ _ x=>x
theorem Un{w:World}:∀(D:DM) (X:Nat→Prop) (b sz off:Nat) (xs ys:List (List V)),VQ xs ys→qh w D X b sz off ys→qh w D X b sz off xs
 |D,X,b,sz,off,[],ys,h,hr=>by simp [qh]
 |
  D,X,b,sz,off,x::xs,ys,h,hr=>by
  simp only [VQ]at h;obtain⟨y,ys',rfl,h1,h2⟩:=h;simp only [qh]at hr ⊢;exact⟨(ZR h1).trans hr.1,La D X b off x y h1 hr.2.1,Un D X b sz (off+sz) xs ys' h2 hr.2.2⟩
termination_by structural _ _ _ _ _ x=>x
end
mutual
theorem jP:∀(x:V),lU x x
 |.sl sz rows=>by simp only [lU];exact .inr ⟨rows,rfl,Xd rows⟩
 |.agg cs=>by simp only [lU];exact⟨cs,rfl,yj cs⟩
 |.nJ cs=>by simp only [lU];exact⟨cs,rfl,yj cs⟩
 |.ou row off=>by simp only [lU];exact⟨row,rfl,yj row⟩
 |.any=>by simp [lU]
 |.one=>by simp [lU]
 |.int ..=>by simp [lU]
 |.bool _=>by simp [lU]
 |.str _=>by simp [lU]
 |.jF=>by simp [lU]
 |.kQ ..=>by simp [lU]
 |.ptr ..=>by simp [lU]
theorem yj:∀(xs:List V),uJ xs xs
 | []=>by simp [uJ]
 |x::xs=>by simp only [uJ];exact⟨x,xs,rfl,jP x,yj xs⟩
theorem Xd:∀(xs:List (List V)),VQ xs xs
 | []=>by simp [VQ]
 |x::xs=>by simp only [VQ];exact⟨x,xs,rfl,yj x,Xd xs⟩
end
def DM.win(D:DM)(W:L8)(kp:Nat):DM:=fun k=>match W[k]? with
 |
  some (some (o,s,l))=>(match D o with
  |.live d=>.live ⟨d.blk,d.IB+s*d.sz,d.sz,l,d.cap⟩
  |x=>x)
 |some Option.none=>if k<kp then(match D k with | .live _=>.mV|x=>x)else .mV
 |Option.none=>.mV
section
variable {w : World} {D : DM} {M : Nat → Prop} {σ σ2 : Store} {W : L8} {kp : Nat}
theorem Gj{k:Nat}{d:afk}(h:D.win W kp k=.live d):∃o s l d0,W[k]? = some (some (o,s,l))∧D o=.live d0∧d=⟨d0.blk,d0.IB+s*d0.sz,d0.sz,l,d0.cap⟩:=by
 unfold DM.win at h;split at h
 ·rename_i o s l e;split at h
  ·rename_i d0 e2
   cases h
   exact⟨o,s,l,d0,e,e2,rfl⟩
  rename_i hx;rw [h]at hx;exact absurd rfl (hx d)
 ·split at h
  ·split at h
   ·cases h
   rename_i hx;rw [h]at hx;exact absurd rfl (hx d)
  cases h
 cases h
theorem ahy:∀b,XS M (D.win W kp) b→XS M D b:=by
 rintro b (h|⟨k,d,hk,rfl⟩)
 ·exact .inl h
 obtain⟨o,s,l,d0,_,h2,rfl⟩:=Gj hk;exact .inr ⟨o,d0,h2,rfl⟩
theorem ahz:∀{x y:V},wZ W σ x y→x.leaf=true→y.leaf=true:=by
 intro x y h hl
 cases x<;>simp only [V.leaf]at hl<;>first|(cases hl;done)|skip
 all_goals simp only [wZ]at h
 case one=>subst h;rfl
 case int=>subst h;rfl
 case bool=>subst h;rfl
 case str=>subst h;rfl
 case jF=>rcases h with rfl|⟨_,rfl⟩<;>rfl
 case sl=>exact Um h rfl
 case kQ =>
  rcases h with ⟨k,s0,l0,_,_,_,rfl⟩|⟨_,_,sz,rfl⟩|⟨h,_⟩
  ·rfl
  ·rfl
  exact Fz h rfl
 case ptr =>
  rcases h with ⟨k,s0,l0,_,_,_,rfl⟩|⟨h,_⟩
  ·rfl
  exact Fz h rfl
 case ou=>exact Um h rfl
theorem ZU:∀{xs ys:List V},Eu W σ xs ys→ys.length=xs.length
 | [],ys,h=>by simp only [Eu]at h;subst h;rfl
 |
  x::xs,ys,h=>by
  simp only [Eu]at h;obtain⟨y,ys',rfl,_,h2⟩:=h;simp [ZU h2]
theorem ZV:∀{xs ys:List V},Eu W σ xs ys→∀(i:Nat) (y:V),ys[i]? = some y→∃x,xs[i]? = some x∧wZ W σ x y
 | [],ys,h,i,y,hi=>by simp only [Eu]at h;subst h;simp at hi
 |
  x::xs,ys,h,i,y,hi=>by
  simp only [Eu]at h;obtain⟨z,zs,rfl,h1,h2⟩:=h
  cases i with
  |zero=>simp at hi;subst hi;exact⟨x,rfl,h1⟩
  |succ i=>simpa using ZV h2 i y (by simpa using hi)
theorem ab4{D D':DM}{X X':Nat→Prop}(hX:∀b,X' b→X b){x:V}{v:Value}(hx:(∃sz rows,x=.sl sz rows)∨∃row off,x=.ou row off)(h:rd w D X x v):rd w D' X' x v:=by
 have E:Ext w DM.none X w DM.none X':=⟨aJ _,fun _ _ _=>rfl,fun b _=>hX b,fun _=>sK.refl _⟩;rcases hx with ⟨sz,rows,rfl⟩|⟨row,off,rfl⟩
 ·have h':rd w DM.none X (.sl sz rows) v:=by simpa only [rd]using h
  have:=ni _ _ E h';simpa only [rd]using this
 have h':rd w DM.none X (.ou row off) v:=by simpa only [rd]using h
 have:=ni _ _ E h';simpa only [rd]using this
theorem alV{o s l n:Nat}{y:V}(h:resolve σ (n+1) (.kQ o s l)=some y):∃sz rows,y=.sl sz rows:=by
 simp only [resolve]at h;split at h<;>first|(cases h;done)|skip
 split at h<;>first|(cases h;done)|skip
 simp only [aI]at h;obtain⟨_,_,rfl⟩:=h;exact⟨_,_,rfl⟩
theorem adP{o r f n:Nat}{y:V}(h:resolve σ (n+1) (.ptr o r f)=some y):∃row off,y=.ou row off:=by
 simp only [resolve]at h;split at h<;>first|(cases h;done)|skip
 split at h<;>first|(cases h;done)|skip
 simp only [aI]at h;obtain⟨_,_,rfl⟩:=h;exact⟨_,_,rfl⟩
theorem Xe(hS:rU w D M σ){x y:V}{v:Value}(h:resolve σ FD x=some y)(hq:∀q,q∈reach σ FD x→∀(k s0 l0:Nat),W[k]? ≠ some (some (q,s0,l0)))
  (hy:(∃sz rows,y=.sl sz rows)∨∃row off,y=.ou row off) (hr:rd w D (XS M D) x v):rd w (D.win W kp) (XS M (D.win W kp)) y v:=by
 have h1:=CG hS (R:=reach σ FD x) FD x y v h (fun _ ho=>ho) hr;refine ab4 (fun b hb=>?_) hy h1;rcases hb with hb|⟨k,d,hk,rfl⟩
 ·exact .inl hb
 obtain⟨o,s,l,d0,e1,e2,rfl⟩:=Gj hk;exact .inr ⟨o,d0,e2,rfl,fun ho=>hq o ho k s l e1⟩
mutual
theorem Yb(hS:rU w D M σ)(hW:∀(k o s l:Nat),W[k]? = some (some (o,s,l))→(iZ σ o).isSome=true):∀(x y:V) (v:Value),wZ W σ x y→rd w D (XS M D) x v →
  rd w (D.win W kp) (XS M (D.win W kp)) y v
 |
  .kQ o s l,y,v,h,hr=>by
  simp only [wZ]at h;rcases h with ⟨k,s0,l0,h1,h2,h3,rfl⟩|⟨rfl,ho,sz,rfl⟩|⟨h1,h2⟩
  ·obtain⟨ob,hob⟩:=iw.1 (hW k o s0 l0 h1);obtain⟨d,hd⟩:=hS.alive o ob hob;simp only [rd,hd]at hr;obtain⟨e1,a,cap,rfl,e2,e3⟩:=hr;simp only [rd,DM.win,h1,hd];refine⟨by omega,a,cap,rfl,e2,e3.imp ?_ id⟩;rintro⟨rfl,e4⟩;have hm:s*d.sz=s0*d.sz+(s-s0)*d.sz:=by rw [←eP];congr 1;omega
   refine⟨by congr 2;omega,?_⟩;have:(s+cap)*d.sz=s0*d.sz+(s-s0+cap)*d.sz:=by rw [←eP];congr 1;omega
   omega
  ·obtain⟨ob,hob⟩:=iw.1 ho;obtain⟨d,hd⟩:=hS.alive o ob hob;simp only [rd,hd]at hr ⊢;obtain⟨e1,a,cap,rfl,e2,e3⟩:=hr;exact⟨a,cap,rfl,fH _,.inl (by trivial)⟩
  exact Xe hS h1 h2 (.inl (alV (n:=11) h1)) hr
 |
  .ptr o r off,y,v,h,hr=>by
  simp only [wZ]at h;rcases h with ⟨k,s0,l0,h1,h2,h3,rfl⟩|⟨h1,h2⟩
  rotate_left
  ·exact Xe hS h1 h2 (.inr (adP (n:=11) h1)) hr
  obtain⟨ob,hob⟩:=iw.1 (hW k o s0 l0 h1);obtain⟨d,hd⟩:=hS.alive o ob hob;simp only [rd,hd]at hr;subst hr;simp only [rd,DM.win,h1,hd];have hm:r*d.sz=s0*d.sz+(r-s0)*d.sz:=by rw [←eP];congr 1;omega
  congr 3;omega
 |
  .agg cs,y,v,h,hr=>by
  simp only [wZ]at h;obtain⟨ds,rfl,h⟩:=h;simp only [rd]at hr ⊢;obtain⟨a,rfl,hr⟩:=hr;exact⟨a,rfl,Yc hS hW cs ds _ h hr⟩
 |
  .nJ cs,y,v,h,hr=>by
  simp only [wZ]at h;obtain⟨ds,rfl,h⟩:=h;simp only [rd]at hr ⊢;obtain⟨a,rfl,hr⟩:=hr;exact⟨a,rfl,Yc hS hW cs ds _ h hr⟩
 |
  .jF,y,v,h,hr=>by
  simp only [wZ]at h;simp only [rd]at hr;obtain⟨a,rfl⟩:=hr;rcases h with rfl|⟨sz,rfl⟩
  ·simp only [rd];exact⟨a,rfl⟩
  simp only [rd];exact⟨a,0,rfl,aJ _,.inl (by trivial)⟩
 |
  .sl sz rows,y,v,h,hr=>by
  simp only [wZ]at h;exact QG _ _ _ _ _ h (ab4 ahy (.inl ⟨sz,rows,rfl⟩) hr)
 |
  .ou row off,y,v,h,hr=>by
  simp only [wZ]at h;exact QG _ _ _ _ _ h (ab4 ahy (.inr ⟨row,off,rfl⟩) hr)
 |.any,y,v,h,hr=>by simp only [wZ]at h;subst h;simp [rd]
 |.one,y,v,h,hr=>by simp only [wZ]at h;subst h;simpa only [rd]using hr
 |.int ..,y,v,h,hr=>by simp only [wZ]at h;subst h;simpa only [rd]using hr
 |.bool _,y,v,h,hr=>by simp only [wZ]at h;subst h;simpa only [rd]using hr
 |.str _,y,v,h,hr=>by simp only [wZ]at h;subst h;simpa only [rd]using hr
theorem Yc(hS:rU w D M σ)(hW:∀(k o s l:Nat),W[k]? = some (some (o,s,l))→(iZ σ o).isSome=true):∀(xs ys:List V) (vs:List Value),Eu W σ xs ys→oL w D (XS M D) xs vs →
  oL w (D.win W kp) (XS M (D.win W kp)) ys vs
 | [],ys,vs,h,hr=>by simp only [Eu]at h;subst h;simpa only [oL]using hr
 |
  x::xs,ys,vs,h,hr=>by
  simp only [Eu]at h;obtain⟨y,ys',rfl,h1,h2⟩:=h;simp only [oL]at hr ⊢;obtain⟨v,vs',rfl,k1,k2⟩:=hr;exact⟨v,vs',rfl,Yb hS hW x y v h1 k1,Yc hS hW xs ys' vs' h2 k2⟩
end
theorem rU.re(hS:rU w D M σ)(h:ReS W σ σ2)(hkp:kp≤W.length):rU w (D.win W kp) M σ2:=by
 have hW:∀(k o s l:Nat),W[k]? = some (some (o,s,l))→(iZ σ o).isSome=true:=fun k o s l hk=>by
  obtain⟨ob,_,h1,_⟩:=h.win k o s l hk;rw [h1];rfl
 refine⟨?_,?_,?_,?_,hS.mlt⟩
 ·intro k d hk;obtain⟨o,s,l,d0,e1,e2,rfl⟩:=Gj hk;obtain⟨ob,ob2,w1,w2,w3,w4,w5,w6⟩:=h.win k o s l e1;obtain⟨ob',c,e,h1,h2,h3,h4,h5,h6,h7,h8,h9,h10,h11⟩:=hS.live o d0 e2;rw [w1]at h1;cases h1;have hrow:∀i r2,ob2.rows[i]? = some r2→∃r,ob.rows[s+i]? = some r∧Eu W σ r r2:=by
   intro i r2 hi;have hlt:s+i<ob.rows.length:=by have:=(aN.1 hi).1;omega
   exact⟨ob.rows[s+i],au hlt,w6 i _ r2 (au hlt) hi⟩
  have hlen2:∀r∈ob2.rows,r.length=ob2.sz:=by
   intro r2 hr2;obtain⟨i,hi⟩:=bD.1 hr2;obtain⟨r,hr,hc⟩:=hrow i r2 hi;rw [ZU hc,w4];exact h10 r (aS hr)
  refine⟨ob2,c,e,w3,by simp only [];rw [w4];exact h2,by simp only [];exact w5.symm,h4,h5,h6,h7,h8,?_,hlen2,?_⟩
  ·simp only [];have:d0.IB+s*d0.sz+l*d0.sz=d0.IB+(s+l)*d0.sz:=by rw [eP];omega
   rw [this];refine bV (Nat.add_le_add_left (dA _ ?_) _) h9;omega
  intro i z hz;have hpos:0<ob.sz:=by rw [←h2];exact h4
  have hilt:=(aN.1 hz).1;have hfl:=xK hlen2;have hq:i / ob.sz<ob2.rows.length:=iJ (by rw [dw,←w4];omega);have hmod:i % ob.sz<ob2.rows[i / ob.sz].length:=by rw [hlen2 _ (by simp),w4];exact jL _ hpos
  have hz':=Ad hlen2 (i:=i / ob.sz) (j:=i % ob.sz) (r:=ob2.rows[i / ob.sz]) (x:=ob2.rows[i / ob.sz][i % ob.sz]) (by simp [hq]) (by simp [hmod]);have hi:i / ob.sz*ob2.sz+i % ob.sz=i:=by rw [w4,dw];exact Nat.div_add_mod i ob.sz
  rw [hi,hz]at hz';obtain⟨r,hr,hc⟩:=hrow (i / ob.sz) ob2.rows[i / ob.sz] (by simp [hq]);obtain⟨x,hx,hcx⟩:=ZV hc (i % ob.sz) z (by rw [Option.some.inj hz'];simp [hmod]);obtain⟨hlf,cv,k1,k2⟩:=h11 _ x (Ad h10 hr hx);refine⟨ahz hcx hlf,cv,?_,Yb hS hW x z cv hcx k2⟩;rw [←k1];simp only []
  congr 1
  have hi2:i=i / ob.sz*ob.sz+i % ob.sz:=by rw [←w4];rw [w4];rw [w4]at hi;exact hi.symm
  rw [h2,eP];omega
 ·intro k ob hk;have hlt:k<W.length:=by
   rw [←h.len];rcases dD k σ2.length with h'|h'
   ·exact h'
   rw [iZ,aW h']at hk;cases hk
  cases hw:W[k]with
  |
   none =>
   have:=h.hole k (by rw [au hlt,hw]);rw [this]at hk;cases hk
  |
   some p =>
   obtain⟨o,s,l⟩:=p;have hk':W[k]? = some (some (o,s,l)):=by rw [au hlt,hw]
   obtain⟨ob0,_,w1,_⟩:=h.win k o s l hk';obtain⟨d,hd⟩:=hS.alive o ob0 w1;exact⟨⟨d.blk,d.IB+s*d.sz,d.sz,l,d.cap⟩,by simp only [DM.win,hk',hd]⟩
 ·intro k k' d d' hk hk' hb;obtain⟨o,s,l,d0,e1,e2,rfl⟩:=Gj hk;obtain⟨o',s',l',d0',e1',e2',rfl⟩:=Gj hk';have:=hS.inj o o' d0 d0' e2 e2' hb;subst this;exact h.nd k k' o s l s' l' e1 e1'
 intro k hk;rw [h.len]at hk;simp only [DM.win,aW hk]
end
section
variable {P : Program} {ν : Nat → Option Nat} {nt : Nat} {M : Nat → Prop} {w0 : World} {D0 : DM} {st st2 : St} {D : DM} {a : Act} {w : World} {W : L8}
theorem ReS.some{σ σ2:Store}(h:ReS W σ σ2):∀(k o s l:Nat),W[k]? = some (some (o,s,l))→(iZ σ o).isSome=true:=fun k o s l hk=>by
 obtain⟨ob,_,h1,_⟩:=h.win k o s l hk;rw [h1];rfl
theorem SR.re(h:SR nt M w0 D0 st D a w)(hr:aoV W st st2):SR nt M w0 D0 st2 (D.win W st.keep) a w:=by
 have hkp:st.keep≤W.length:=by
  rcases dD W.length st.keep with h'|h'
  ·have:W[W.length]? = Option.none:=by simp
   rcases hr.kp W.length h' with ⟨ob,_,h2⟩|⟨_,h2⟩<;>rw [this]at h2<;>cases h2
  exact h'
 refine⟨fun t=>?_,h.tm,h.df,h.store.re hr.objs hkp,h.gr,?_,?_⟩
 ·rcases hr.env t with e|e
  ·rw [e];simp [rd]
  exact Yb h.store hr.objs.some _ _ _ e (h.env t)
 ·intro k d hk;obtain⟨o,s,l,d0,_,e2,rfl⟩:=Gj hk;exact h.fr o d0 e2
 intro k hk;rw [hr.keep]at hk;have hle:=h.kp k hk;rcases hr.kp k hk with ⟨ob,h1,h2⟩|⟨h1,h2⟩
 ·obtain⟨d,hd⟩:=h.store.alive k ob h1;obtain⟨ob',c,e,g1,g2,g3,_⟩:=h.store.live k d hd;rw [h1]at g1;cases g1;have:D.win W st.keep k=D k:=by
   simp only [DM.win,h2,hd,jK,gq,←g3]
  rw [this];exact hle
 have:D.win W st.keep k=D k:=by
  simp only [DM.win,h2,if_pos hk]
  cases hd:D k with
  |
   live d =>
   obtain⟨ob',c,e,g1,_⟩:=h.store.live k d hd;rw [h1]at g1;cases g1
  |_=>rfl
 rw [this];exact hle
theorem SR.forget(h:SR nt M w0 D0 st D a w)(he:∀t,st2.env t=.any∨lU (st2.env t) (st.env t))(ho:st2.objs=st.objs)(hk:st2.keep=st.keep):SR nt M w0 D0 st2 D a w:=by
 refine⟨fun t=>?_,h.tm,h.df,by rw [ho];exact h.store,h.gr,h.fr,by rw [hk];exact h.kp⟩;rcases he t with e|e
 ·rw [e];simp [rd]
 exact QG _ _ _ _ _ e (h.env t)
end
end Go.Ml
end
section
namespace Go.Ml
inductive Fg:St→St→Prop
 |env {st2 st:St} (he:∀t,st2.env t=.any∨lU (st2.env t) (st.env t)) (ho:st2.objs=st.objs) (hk:st2.keep=st.keep):Fg st2 st
 |re {st2 st:St} (W:L8) (h:aoV W st st2):Fg st2 st
theorem Fg.run{T:Tb}{c:C}{st2 st:St}{o:Out}(h:Fg st2 st)(k:Run T (.code c st2) o):Run T (.code c st) o:=by
 cases h with
 |env he ho hk=>exact .forget he ho hk k
 |re W h=>exact .re W h k
theorem Uo{T:Tb}{rf:Nat→Nat→Bool}{c:C}{Q:Ex→St→Prop}{α:Type}(I:α→St)(P:α→Prop)(m:α→Nat)(hk:c.ZI=true)
  (step:∀a,P a→wp T rf c (fun e st'=>ZK e (∃a',m a'<m a∧P a'∧Fg (I a') st') (Q e st')) (I a)) :
  ∀(n:Nat) (a:α) (st:St),m a<n→P a→Fg (I a) st→Xc T c Q st
 |0,_,_,hn,_,_=>absurd hn (gG _)
 |
  n+1,a,st,hn,h,hf=>by
  obtain⟨e,st1,h1,h2⟩:=AA hk (step a h)
  cases e with
  |
   normal =>
   obtain⟨a',hlt,h3,h3'⟩:=h2;obtain⟨e,st2,h4,h5⟩:=Uo I P m hk step n a' _ (by omega) h3 h3';exact⟨e,st2,hf.run (.aoa h1 h4),h5⟩
  |exit id=>exact⟨_,_,hf.run (.agU (by simp) h1),h2⟩
  |ret=>exact⟨_,_,hf.run (.agU (by simp) h1),h2⟩
theorem jX{T:Tb}(rf:Nat→Nat→Bool){c:C}{Q:Ex→St→Prop}{α:Type}(I:α→St)(P:α→Prop)(m:α→Nat)(hk:c.ZI=true)(a:α){st:St}(h0:P a)(hf:Fg (I a) st)
  (step:∀a,P a→wp T rf c (fun e st'=>ZK e (∃a',m a'<m a∧P a'∧Fg (I a') st') (Q e st')) (I a)) :
  Xc T c Q st:=Uo I P m hk step (m a+1) a st (by omega) h0 hf
def EvV(v y:V):Prop:=v=.any∨lU v y
theorem alW(y:V):EvV .any y=True:=eq_true (.inl rfl)
theorem ahA(y:V):EvV y y=True:=eq_true (.inr (jP y))
theorem Lc{v y:V}(h:v=y):EvV v y:=h▸.inr (jP v)
theorem Jh{q:IntKind}{a b:Int}(h:a=b):EvV (.int q a) (.int q b):=Lc (by rw [h])
theorem He(sz:Nat):EvV (.sl sz []) .jF:=.inr (by simp [lU])
def J4:List V→Nat→(Nat→V)→Prop
 | [],_,_=>True
 |v::vs,i,env=>EvV v (env i)∧J4 vs (i+1) env
theorem alX(i:Nat)(env:Nat→V):J4 [] i env=True:=nr rfl
theorem alY(v:V)(vs:List V)(i:Nat)(env:Nat→V):J4 (v::vs) i env=(EvV v (env i)∧J4 vs (i+1) env):=nr rfl
theorem J4.at_:∀{l:List V} {i:Nat} {env:Nat→V},J4 l i env→∀t,lS l t=.any∨lU (lS l t) (env (i+t))
 | [],_,_,_,t=>.inl rfl
 |v::vs,i,env,h,0=>h.1
 |
  v::vs,i,env,h,t+1=>by
  have:=J4.at_ h.2 t;rw [show i+1+t=i+(t+1) by omega]at this;exact this
theorem jS{l:List V}{env:Nat→V}{objs:Store}{kp b1 b2:Nat}{r1 r2 m1 m2:List Nat}(h:J4 l 0 env):Fg ⟨lS l,objs,kp,b1,r1,m1⟩ ⟨env,objs,kp,b2,r2,m2⟩ :=
 .env (fun t=>by have:=h.at_ t;rwa [aQ]at this) rfl rfl
theorem Gl{W:L8}{σ:Store}{v:V}(h:v.still=true):wZ W σ v v:=by
 cases v<;>simp only [V.still]at h<;>first|(cases h;done)|skip
 all_goals simp only [wZ]
 ·exact .inl (by trivial)
 ·exact jP _
 exact jP _
theorem Ji{W:L8}{σ:Store}:∀{r:List V},(∀v∈r,v.still=true)→Eu W σ r r
 | [],_=>by simp [Eu]
 |
  v::r,h=>by
  simp only [Eu];exact⟨v,r,rfl,Gl (h v (by simp)),Ji fun x hx=>h x (by simp [hx])⟩
theorem ahB{σ:Store}(l:List (Nat×Obj))(hn:(l.map (·.1)).Nodup)(h:∀p∈l,iZ σ p.1=some p.2∧l9 p.2.rows) :
  ReS (l.map fun p=>some (p.1,0,p.2.rows.length)) σ (l.map fun p=>some p.2):=by
 have hget:∀(k o s n:Nat),(l.map fun p=>some (p.1,0,p.2.rows.length))[k]? = some (some (o,s,n))→∃p,l[k]? = some p∧o=p.1∧s=0∧n=p.2.rows.length:=by
  intro k o s n hk;rw [bI,aI]at hk;obtain⟨p,h1,h2⟩:=hk;simp only [aB,Prod.mk.injEq]at h2;exact⟨p,h1,h2.1.symm,h2.2.1.symm,h2.2.2.symm⟩
 refine⟨by simp,?_,?_,?_⟩
 ·intro i j o s n s' n' hi hj;obtain⟨p,p1,p2,_⟩:=hget i o s n hi;obtain⟨q,q1,q2,_⟩:=hget j o s' n' hj;have hi':=(aN.1 p1).1;have hj':=(aN.1 q1).1;have e1:=(aN.1 p1).2;have e2:=(aN.1 q1).2;refine(List.getElem_inj (h₀:=by simpa using hi') (h₁:=by simpa using hj') hn).1 ?_;simp [e1,e2,←p2,←q2]
 ·intro k o s n hk;obtain⟨p,p1,rfl,rfl,rfl⟩:=hget k o s n hk;obtain⟨h1,h2⟩:=h p (aS p1);refine⟨p.2,p.2,h1,by omega,by unfold iZ;rw [bI,p1];rfl,rfl,rfl,fun i r r2 hr hr2=>?_⟩;rw [aQ,hr2]at hr
  cases hr
  exact Ji (h2 _ (aS hr2))
 intro k hk;rw [bI,aI]at hk;obtain⟨p,_,h⟩:=hk
 cases h
def KC(W:L8)(σ:Store)(v y:V):Prop:=v=.any∨wZ W σ y v
theorem ahC(W:L8)(σ:Store)(y:V):KC W σ .any y=True:=eq_true (.inl rfl)
theorem ahD(W:L8)(σ:Store)(q:IntKind)(a b:Int):KC W σ (.int q a) (.int q b)=(a=b):=by simp [KC,wZ]
theorem afI(W:L8)(σ:Store)(a b:Bool):KC W σ (.bool a) (.bool b)=(a=b):=by simp [KC,wZ]
theorem Jj(W:L8)(σ:Store){y:V}(h:y.still=true):KC W σ y y:=.inr (Gl h)
theorem alZ(W:L8)(σ:Store)(sz:Nat)(rows:List (List V)):KC W σ (.sl sz rows) (.sl sz rows)=True:=eq_true (Jj W σ rfl)
theorem ahE(W:L8)(σ:Store)(a:List UInt8):KC W σ (.str a) (.str a)=True:=eq_true (Jj W σ rfl)
theorem rJ(W:L8)(σ:Store)(sz:Nat):KC W σ (.sl sz []) .jF=True:=eq_true (.inr (by simp only [wZ];exact .inr ⟨sz,rfl⟩))
theorem afJ(W:L8)(σ:Store):KC W σ .jF .jF=True:=eq_true (Jj W σ rfl)
theorem lD{W:L8}{σ:Store}{k o l l' n:Nat}(h:W[k]? = some (some (o,0,n)))(hl:l≤n)(e:l'=l):KC W σ (.kQ k 0 l') (.kQ o 0 l) :=
 .inr (by simp only [wZ];exact .inl ⟨k,0,n,h,aJ _,by omega,by rw [e]⟩)
theorem qM{W:L8}{σ:Store}{k o r off n:Nat}(h:W[k]? = some (some (o,0,n)))(hl:r<n):KC W σ (.ptr k r off) (.ptr o r off) :=
 .inr (by simp only [wZ];exact .inl ⟨k,0,n,h,fH _,by omega,by simp⟩)
theorem rM{W:L8}{σ:Store}{o s l:Nat}{y:V}(h:resolve σ FD (.kQ o s l)=some y)(hq:∀q,q∈reach σ FD (.kQ o s l)→∀(k s0 l0:Nat),W[k]? ≠ some (some (q,s0,l0))):KC W σ y (.kQ o s l) :=
 .inr (by simp only [wZ];exact .inr (.inr ⟨h,hq⟩))
theorem lK{W:L8}{σ:Store}{x y:V}(h:y.still=true)(e:x=y):KC W σ x y:=e▸Jj W σ (e▸h)
def Hy(W:L8)(σ:Store):List V→Nat→(Nat→V)→Prop
 | [],_,_=>True
 |v::vs,i,env=>KC W σ v (env i)∧Hy W σ vs (i+1) env
theorem ahF(W:L8)(σ:Store)(i:Nat)(env:Nat→V):Hy W σ [] i env=True:=nr rfl
theorem ahG(W:L8)(σ:Store)(v:V)(vs:List V)(i:Nat)(env:Nat→V):Hy W σ (v::vs) i env=(KC W σ v (env i)∧Hy W σ vs (i+1) env):=nr rfl
theorem Hy.at_{W:L8}{σ:Store}:∀{l:List V} {i:Nat} {env:Nat→V},Hy W σ l i env→∀t,lS l t=.any∨wZ W σ (env (i+t)) (lS l t)
 | [],_,_,_,t=>.inl rfl
 |v::vs,i,env,h,0=>h.1
 |
  v::vs,i,env,h,t+1=>by
  have:=Hy.at_ h.2 t;rw [show i+1+t=i+(t+1) by omega]at this;exact this
theorem Fh(l:List (Nat×Obj)){vs:List V}{env:Nat→V}{σ σ2:Store}{b1 b2:Nat}{r1 r2 m1 m2:List Nat}(hn:(l.map (·.1)).Nodup)
  (h:∀p∈l,iZ σ p.1=some p.2∧l9 p.2.rows) (ho:σ2=l.map fun p=>some p.2)
  (he:Hy (l.map fun p=>some (p.1,0,p.2.rows.length)) σ vs 0 env):Fg ⟨lS vs,σ2,0,b1,r1,m1⟩ ⟨env,σ,0,b2,r2,m2⟩:=by
 subst ho;exact .re _ ⟨ahB l hn h,rfl,fun i hi=>absurd hi (gG _),fun t=>by have:=he.at_ t;rwa [aQ]at this⟩
theorem al0(t n:Nat)(rs:List Kz)(acc:List V)(st:St)(k:V→Prop):KA (.cell t n true::rs) acc st k=nK (rowAt st.objs (st.env t)) fun p=>if p.2+n≤p.1.length then Ce (.agg ((p.1.drop p.2).take n)) fun v=>KA rs (v::acc) st k else False:=by
 simp only [KA,Kz.get]
 cases e:rowAt st.objs (st.env t)with
 |none=>rfl
 |
  some p =>
  by_cases h:p.2+n≤p.1.length
  ·simp only [nK,if_true,Ce,pJ,if_pos h]
  simp only [nK,if_true,Ce,pJ,if_neg h]
theorem al1{c:Prop} [Decidable c] {α:Type} {a b:Option α} (h:c):(if c then a else b)=a:=by rw [if_pos h]
def Jk(env:Nat→V)(sz:Nat):List (List V)→List (Nat×Src)→(List (List V)→Prop)→Prop
 |rows,[],k=>k rows
 |rows,(i,s)::rest,k=>qL (s.ev env) fun cs=>(cs.length=sz∧i<rows.length)∧Jk env sz (rows.set i cs) rest k
@[congr] theorem atn {env:Nat→V} {sz:Nat} {r r':List (List V)} {ps:List (Nat×Src)} {k:List (List V)→Prop} (h:wr r=r'):Jk env sz r ps k=Jk env sz r' ps k:=by rw [←h,pJ]
theorem ahH(env:Nat→V)(sz:Nat)(rows:List (List V))(k:List (List V)→Prop):Jk env sz rows [] k=k rows:=nr rfl
theorem ahI(env:Nat→V)(sz:Nat)(r:List V)(rows:List (List V))(i:Nat)(s:Src)(rest:List (Nat×Src))(k:List (List V)→Prop) :
  Jk env sz (r::rows) ((i,s)::rest) k=qL (s.ev env) fun cs=>(cs.length=sz∧i<(r::rows).length)∧Jk env sz ((r::rows).set i cs) rest k:=nr rfl
theorem Xf{env:Nat→V}{sz:Nat}:∀{ps:List (Nat×Src)} {rows:List (List V)} {k:List (List V)→Prop},nK (sJ env sz rows ps) k=Jk env sz rows ps k
 | [],rows,k=>rfl
 |
  (i,s)::rest,rows,k=>by
  simp only [sJ,Jk,qL]
  cases h:(s.ev env).cells? with
  |none=>rfl
  |
   some cs =>
   simp only [nK];by_cases hc:cs.length=sz∧i<rows.length
   ·rw [if_pos hc];simp only [hc,and_self,true_and];exact Xf
   rw [if_neg hc];simp only [hc,false_and]
theorem al2(env:Nat→V)(σ:Store)(k:Eff→Prop)(sz:Nat)(z:List V)(n:Nat)(ps:List (Nat×Src)):I.nM env σ (.oI sz z (n+1) ps) k=Jk env sz (List.replicate (n+1) z) ps fun rows=>k (.newS ⟨sz,rows⟩ (n+1)):=by
 rw [apA,Xf]
 congr 1
theorem al3(env:Nat→V)(σ:Store)(k:Eff→Prop)(sz:Nat)(z:List V):I.nM env σ (.oI sz z 0 []) k=k (.val .jF):=nr rfl
def O4(env:Nat→V):List V→List (Nat×Nat×Src)→(List V→Prop)→Prop
 |row,[],k=>k row
 |row,(off,n,s)::rest,k=>qL (s.ev env) fun cs=>(cs.length=n∧off+n≤row.length)∧O4 env (splice row off cs) rest k
@[congr] theorem au3 {env:Nat→V} {r r':List V} {ps:List (Nat×Nat×Src)} {k:List V→Prop} (h:wr r=r'):O4 env r ps k=O4 env r' ps k:=by rw [←h,pJ]
theorem al4(env:Nat→V)(row:List V)(k:List V→Prop):O4 env row [] k=k row:=nr rfl
theorem al5(env:Nat→V)(c:V)(row:List V)(off n:Nat)(s:Src)(rest:List (Nat×Nat×Src))(k:List V→Prop) :
  O4 env (c::row) ((off,n,s)::rest) k=qL (s.ev env) fun cs=>(cs.length=n∧off+n≤(c::row).length)∧O4 env (splice (c::row) off cs) rest k:=nr rfl
theorem ZW{env:Nat→V}:∀{ps:List (Nat×Nat×Src)} {row:List V} {k:List V→Prop},nK (zi env row ps) k=O4 env row ps k
 | [],row,k=>rfl
 |
  (off,n,s)::rest,row,k=>by
  simp only [zi,O4,qL]
  cases h:(s.ev env).cells? with
  |none=>rfl
  |
   some cs =>
   simp only [nK];by_cases hc:cs.length=n∧off+n≤row.length
   ·rw [if_pos hc];simp only [hc,and_self,true_and];exact ZW
   rw [if_neg hc];simp only [hc,false_and]
theorem ahJ(env:Nat→V)(σ:Store)(k:Eff→Prop)(z:List V)(ps:List (Nat×Nat×Src)):I.nM env σ (.build z ps) k=O4 env z ps fun cs=>Ce (.agg cs) fun v=>k (.val v):=by
 rw [alC,ZW];rfl
def ab5:Option Src→(Nat→V)→Nat→(Nat→Prop)→Prop
 |none,_,n,k=>NW n k
 |some h,env,n,k=>rH n (h.ev env) k
def ab6:Option Src→(Nat→V)→Nat→(Nat→Prop)→Prop
 |none,_,_,k=>k 0
 |some h,env,n,k=>rH n (h.ev env) k
theorem ap6(env:Nat→V)(n:Nat)(k:Nat→Prop):ab5 none env n k=NW n k:=nr rfl
theorem ap7(h:Src)(env:Nat→V)(n:Nat)(k:Nat→Prop):ab5 (some h) env n k=rH n (h.ev env) k:=nr rfl
theorem ap8(env:Nat→V)(n:Nat)(k:Nat→Prop):ab6 none env n k=k 0:=nr rfl
theorem ap9(h:Src)(env:Nat→V)(n:Nat)(k:Nat→Prop):ab6 (some h) env n k=rH n (h.ev env) k:=nr rfl
@[congr] theorem axA {o:Option Src} {env:Nat→V} {n n':Nat} {k:Nat→Prop} (h:wr n=n'):ab5 o env n k=ab5 o env n' k:=by rw [←h,pJ]
@[congr] theorem axB {o:Option Src} {env:Nat→V} {n n':Nat} {k:Nat→Prop} (h:wr n=n'):ab6 o env n k=ab6 o env n' k:=by rw [←h,pJ]
theorem al6(env:Nat→V)(σ:Store)(k:Eff→Prop)(sz:Nat)(x:Src)(lo hi:Option Src):I.nM env σ (.slice sz x lo hi) k =
  nK (lenOf σ (x.ev env)) fun n=>ab5 hi env n fun h=>ab6 lo env h fun l=>slK (x.ev env) (Ce .jF fun v=>k (.val v)) (fun sz' rows=>sz'=sz∧Ce (.sl sz' ((rows.take h).drop l)) fun v=>k (.val v))
   (fun o s _=>nK (iZ σ o) fun ob=>ob.sz=sz∧Ce (.kQ o (s+l) (h-l)) fun v=>k (.val v)):=by
 simp only [I.nM]
 congr 1
 funext n
 cases hi<;>cases lo<;>simp only [ab5,ab6,NW,Ce]<;>(cases x.ev env<;>rfl)
theorem ahK(env:Nat→V)(σ:Store)(k:Eff→Prop)(x:Src)(lo hi:Option Src):I.nM env σ (.NJ x lo hi) k =
  afH (x.ev env) fun s=>ab5 hi env s.length fun h=>ab6 lo env h fun l=>Ce (.str ((s.take h).drop l)) fun v=>k (.val v):=by
 simp only [I.nM]
 cases x.ev env<;>first|rfl|(cases hi<;>cases lo<;>rfl)
theorem PF.lax{T:Tb}{f:Nat}{as as':List V}{r r':V}(h:PF T f as r)(ha:uJ as as')(hr:lU r' r):PF T f as' r':=Run.abG ha h hr
theorem al7{T:Tb}{f:Nat}{as as':List V}{k:V→Prop}{r:V}(h:PF T f as r)(ha:uJ as as')(hk:k r):PFK T f as' k:=⟨r,h.lax ha (jP r),hk⟩
def val:List Int→Nat
 | []=>0
 |d::l=>d.toNat+1000000000*val l
def mk(n:Nat):List Int:=if h:n=0 then []else((n % 1000000000:Nat):Int)::mk (n / 1000000000)
termination_by n
decreasing_by omega
def Lb(l:List Int):Prop:=∀d∈l,0≤d∧d<1000000000
theorem mk_zero:mk 0=[]:=by rw [mk];rfl
theorem mk_pos{n:Nat}(h:n≠0):mk n=((n % 1000000000:Nat):Int)::mk (n / 1000000000):=by rw [mk];rw [dif_neg h]
theorem val_mk(n:Nat):val (mk n)=n:=by
 induction n using Nat.strongRecOn with
 |
  ind n ih =>
  by_cases h:n=0
  ·subst h;rw [mk_zero];rfl
  rw [mk_pos h];simp only [val];rw [ih _ (by omega),iy];omega
theorem uF(n:Nat):Lb (mk n):=by
 induction n using Nat.strongRecOn with
 |
  ind n ih =>
  by_cases h:n=0
  ·subst h;rw [mk_zero];intro d hd;cases hd
  rw [mk_pos h];intro d hd;rcases aH.1 hd with rfl|hd
  ·omega
  exact ih _ (by omega) d hd
theorem val_append(a b:List Int):val (a++b)=val a+1000000000 ^ a.length*val b:=by
 induction a with
 |nil=>simp [val]
 |
  cons d a ih =>
  simp only [bK,val,ih,ak,iC,iL];rw [dw (1000000000 ^ a.length) 1000000000,fA];omega
theorem xu{l:List Int}(h:Lb l):val l<1000000000 ^ l.length:=by
 induction l with
 |nil=>simp [val]
 |
  cons d l ih =>
  have h1:=h d (by simp);have h2:=ih fun x hx=>h x (by simp [hx]);simp only [val,ak,iC];have:d.toNat<1000000000:=by omega
  generalize 1000000000 ^ l.length=p at *;omega
theorem Ur(n:Nat):∀(l:List Int),Lb l→val l=n→n≠0→l.getLast? ≠ some 0→mk n=l:=by
 induction n using Nat.strongRecOn with
 |
  ind n ih =>
  intro l hl hv hn ht
  cases l with
  |nil=>simp [val]at hv;omega
  |
   cons d l =>
   have hd:=hl d (by simp);have hl':Lb l:=fun x hx=>hl x (by simp [hx]);simp only [val]at hv;rw [mk_pos hn];have e1:((n % 1000000000:Nat):Int)=d:=by omega
   have e2:n / 1000000000=val l:=by omega
   rw [e1,e2]
   congr 1
   by_cases h0:val l=0
   ·rw [h0,mk_zero];have hz:∀(l:List Int),Lb l→val l=0→∀x∈l,x=0:=by
     intro l
     induction l with
     |nil=>intro _ _ x hx;cases hx
     |
      cons y l ih2 =>
      intro hl hv x hx;simp only [val]at hv;have hy:=hl y (by simp);rcases aH.1 hx with rfl|hx
      ·omega
      exact ih2 (fun z hz=>hl z (by simp [hz])) (by omega) x hx
    cases l with
    |nil=>rfl
    |
     cons y l =>
     exfalso
     apply ht
     have hlast:(d::y::l).getLast? = some ((y::l).getLast (by simp)):=by
      rw [List.getLast?_cons_cons,List.getLast?_eq_some_getLast (by simp)]
     rw [hlast]
     congr 1
     exact hz _ hl' h0 _ (List.getLast_mem _)
   refine ih (val l) (by omega) l hl' rfl h0 ?_
   cases l with
   |nil=>simp [val]at h0
   |cons y l=>rwa [List.getLast?_cons_cons]at ht
def Can(l:List Int):Prop:=Lb l∧l.getLast? ≠ some 0
theorem mk_val{l:List Int}(h:Can l):mk (val l)=l:=by
 by_cases h0:val l=0
 ·rw [h0,mk_zero]
  cases l with
  |nil=>rfl
  |
   cons d l =>
   exfalso
   apply h.2
   have hz:∀(l:List Int),Lb l→val l=0→∀x∈l,x=0:=by
    intro l
    induction l with
    |nil=>intro _ _ x hx;cases hx
    |
     cons y l ih2 =>
     intro hl hv x hx;simp only [val]at hv;have hy:=hl y (by simp);rcases aH.1 hx with rfl|hx
     ·omega
     exact ih2 (fun z hz=>hl z (by simp [hz])) (by omega) x hx
   rw [List.getLast?_eq_some_getLast (by simp)]
   congr 1
   exact hz _ h.1 h0 _ (List.getLast_mem _)
 exact Ur _ l h.1 rfl h0 h.2
theorem sN(n:Nat):Can (mk n):=by
 refine⟨uF n,?_⟩
 induction n using Nat.strongRecOn with
 |
  ind n ih =>
  by_cases h:n=0
  ·subst h;rw [mk_zero];simp
  rw [mk_pos h];by_cases h1:n / 1000000000=0
  ·rw [h1,mk_zero];simp;omega
  rw [mk_pos h1,List.getLast?_cons_cons,←mk_pos h1];exact ih _ (by omega)
theorem kL{n k:Nat}:(mk n).length≤k↔n<1000000000 ^ k:=by
 constructor
 ·intro h;have h1:=xu (uF n);rw [val_mk]at h1;exact aU h1 (eG (by omega) h)
 induction k generalizing n with
 |zero =>
      intro h;have:n=0:=by simpa using h
      subst this;rw [mk_zero];simp
 |
  succ k ih =>
  intro h;by_cases h0:n=0
  ·subst h0;rw [mk_zero];simp
  rw [mk_pos h0,ak];have:n / 1000000000<1000000000 ^ k:=by
   rw [iC,dw]at h;exact iJ h
  have:=ih this;omega
theorem Xg{n k:Nat}:k<(mk n).length↔1000000000 ^ k≤n:=by
 have:=@kL n k;omega
theorem ahL{n:Nat}:mk n=[]↔n=0:=by
 constructor
 ·intro h;have:=val_mk n;rw [h]at this;simpa [val]using this.symm
 rintro rfl;exact mk_zero
theorem ahM{n:Nat}(h:n≠0):0<(mk n).length:=by
 rw [mk_pos h];simp
theorem afK{l:List Int}(h:Lb l)(hv:l≠[]→1000000000 ^ (l.length-1)≤val l):Can l:=by
 refine⟨h,fun ht=>?_⟩
 cases hl:l with
 |nil=>rw [hl]at ht;simp at ht
 |
  cons d r =>
  have hne:l≠[]:=by rw [hl];simp
  have h1:=hv hne;have h2:l=l.dropLast++[0]:=by
   have:=List.dropLast_concat_getLast hne;rw [List.getLast?_eq_some_getLast hne]at ht;rw [Option.some.inj ht]at this;exact this.symm
  have h3:Lb l.dropLast:=fun x hx=>h x (List.dropLast_subset _ hx);have h4:=xu h3;rw [h2,val_append]at h1;simp only [val,aO,ak,aC,List.length_dropLast]at h1 h4;simp at h1;omega
def vK(l:List Int):Nat→Nat
 |0=>0
 |n+1=>if l.getD n 0=0 then vK l n else n+1
def trim(l:List Int):List Int:=l.take (vK l l.length)
theorem ZX(l:List Int):∀n,vK l n≤n
 |0=>aJ _
 |n+1=>by simp only [vK];split;exact Nat.le_succ_of_le (ZX l n);exact aJ _
theorem nH{l:List Int}{n:Nat}(h:n<l.length):l.take (n+1)=l.take n++[l.getD n 0]:=by
 rw [iM];simp [aj,h]
theorem Xh(l:List Int):∀n,n≤l.length→val (l.take (vK l n))=val (l.take n)∧(l.take (vK l n)).getLast? ≠ some 0
 |0,_=>by simp [vK]
 |
  n+1,h=>by
  simp only [vK];obtain⟨h1,h2⟩:=Xh l n (by omega);split
  ·rename_i h0;refine⟨?_,h2⟩;rw [h1,nH (by omega),h0,val_append];simp [val]
  rename_i h0;refine⟨rfl,?_⟩;rw [nH (by omega)];simp only [List.getLast?_append,List.getLast?_singleton,Option.some_or,ne_eq,aB];exact h0
theorem Yd{l:List Int}(h:Lb l)(n:Nat):Lb (l.take n):=fun x hx=>h x (bZ hx)
theorem zk{l:List Int}(h:Lb l):trim l=mk (val l):=by
 obtain⟨h1,h2⟩:=Xh l l.length (aJ _);rw [bM]at h1;have hc:Can (trim l):=⟨Yd h _,h2⟩;rw [←h1];exact(mk_val hc).symm
theorem Us{l:List Int}(h:Can l):trim l=l:=by rw [zk h.1,mk_val h]
theorem ahN:Lb []:=fun x hx=>by cases hx
theorem adQ{d:Int}{l:List Int}(h0:0≤d)(h1:d<1000000000)(h:Lb l):Lb (l++[d]):=by
 intro x hx;rcases aK.1 hx with hx|hx
 ·exact h x hx
 simp at hx;subst hx;exact⟨h0,h1⟩
theorem Jl{l:List Int}{d:Int}{i:Nat}(h0:0≤d)(h1:d<1000000000)(h:Lb l):Lb (l.set i d):=by
 intro x hx;rcases fM hx with hx|rfl
 ·exact h x hx
 exact⟨h0,h1⟩
theorem uG{l:List Int}(h:Lb l)(i:Nat):0≤l.getD i 0∧l.getD i 0<1000000000:=by
 by_cases hi:i<l.length
 ·rw [aj,au hi];exact h _ (fD _)
 rw [aj,aW (by omega)];simp
theorem N7(n:Nat):Lb (List.replicate n 0):=by
 intro x hx;have:=iT hx;subst this;omega
theorem wF(l:List Int)(d:Int):val (l++[d])=val l+1000000000 ^ l.length*d.toNat:=by
 rw [val_append];simp [val]
theorem ahO{l:List Int}{i:Nat}(h:i<l.length):val (l.drop i)=(l.getD i 0).toNat+1000000000*val (l.drop (i+1)):=by
 rw [bH h];simp [val,aj,h]
theorem lZ{l:List Int}{i:Nat}(h:l.length≤i):val (l.drop i)=0:=by
 rw [dH h];rfl
theorem yO(l:List Int)(i:Nat):val l=val (l.take i)+1000000000 ^ (l.take i).length*val (l.drop i):=by
 rw [←val_append,fE]
theorem adS(n:Nat):val (List.replicate n 0)=0:=by
 induction n with
 |zero=>rfl
 |succ n ih=>simp [jJ,val,ih]
theorem S9{l:List Int}{i:Nat}{d:Int}(h:i<l.length):val (l.set i d)+1000000000 ^ i*(l.getD i 0).toNat=val l+1000000000 ^ i*d.toNat:=by
 induction l generalizing i with
 |nil=>simp at h
 |
  cons x l ih =>
  cases i with
  |zero=>simp [val];omega
  |
   succ i =>
   have:=ih (i:=i) (by simpa using h);simp only [List.set_cons_succ,val,iC];have e:(x::l).getD (i+1) 0=l.getD i 0:=by simp
   rw [e];have e1:∀z,1000000000 ^ i*1000000000*z=1000000000*(1000000000 ^ i*z):=fun z=>by rw [dw (1000000000 ^ i) 1000000000,fA]
   rw [e1,e1];generalize 1000000000 ^ i*(l.getD i 0).toNat=p at *;generalize 1000000000 ^ i*d.toNat=q at *;omega
def Gm(a b:Nat):Int:=if a<b then -1 else if b<a then 1 else 0
theorem val_last{l:List Int}{n:Nat}(h:n<l.length):val (l.take (n+1))=val (l.take n)+1000000000 ^ n*(l.getD n 0).toNat:=by
 have e:(l.take n).length=n:=by simp;omega
 rw [nH h,wF,e]
theorem ab7{l:List Int}(h:Can l)(hne:l≠[]):1000000000 ^ (l.length-1)≤val l:=by
 have h1:=@Xg (val l) (l.length-1);rw [mk_val h]at h1
 apply h1.1
 have:l.length≠0:=fun e=>hne (aY e);omega
theorem wM{a b:List Int}(ha:Lb a)(hb:Can b)(h:a.length<b.length):val a<val b:=by
 have h1:=xu ha;have hne:b≠[]:=by intro e;subst e;simp at h
 have h2:=ab7 hb hne;exact aU h1 (bV (eG (by omega) (by omega)) h2)
theorem MG{a b:List Int}(ha:Lb a)(hb:Lb b){i:Nat}(hia:i<a.length)(hib:i<b.length)(hd:a.drop (i+1)=b.drop (i+1))(hlt:a.getD i 0<b.getD i 0):val a<val b:=by
 rw [yO a (i+1),yO b (i+1),hd,val_last hia,val_last hib];have h1:=xu (Yd ha i);have e1:(a.take (i+1)).length=i+1:=by simp;omega
 have e2:(b.take (i+1)).length=i+1:=by simp;omega
 have e3:(a.take i).length=i:=by simp;omega
 rw [e1,e2];rw [e3]at h1;have h2:=uG ha i;have h3:=uG hb i;have:1000000000 ^ i*(a.getD i 0).toNat+1000000000 ^ i≤1000000000 ^ i*(b.getD i 0).toNat:=by
  rw [←Nat.mul_succ];exact Nat.mul_le_mul_left _ (by omega)
 omega
structure R where
 neg:Bool
 mag:List Int
 den:List Int
 deriving DecidableEq
instance:Inhabited R:=⟨⟨false,[],[]⟩⟩
def fits(q:Rat):Bool:=decide (q.num.natAbs<1000000000 ^ 24)&&decide (q.den<1000000000 ^ 24)
abbrev Q:=Option Rat
def norm(q:Rat):Q:=if fits q=true then some q else none
def Q.raw:Q→R
 |none=>⟨false,[],[]⟩
 |some q=>⟨decide (q.num<0),mk q.num.natAbs,mk q.den⟩
def Q.ok:Q→Prop
 |none=>True
 |some q=>fits q=true
theorem Ye(q:Rat):(norm q).ok:=by
 unfold norm;split
 ·assumption
 trivial
theorem tH{q:Rat}(h:fits q=true):norm q=some q:=by unfold norm;rw [if_pos h]
theorem Xi{q:Rat}(h:fits q=false):norm q=none:=by unfold norm;rw [if_neg (by simp [h])]
def negQ:Q→Q
 |some a=>some (-a)
 |none=>none
def N8:Q→Q→Q
 |some a,some b=>norm (a+b)
 |_,_=>none
def afL(a b:Q):Q:=N8 a (negQ b)
def V3:Q→Q→Q
 |some a,some b=>norm (a*b)
 |_,_=>none
def Yf:Q→Q→Q
 |some a,some b=>if b=0 then none else norm (a / b)
 |_,_=>none
def VL(n d:Int):Q:=if d=0 then none else norm (Rat.divInt n d)
def sgn(n:Int):Int:=if n<0 then -1 else if n=0 then 0 else 1
def ab8(a b:Int):Int:=if a<b then -1 else if b<a then 1 else 0
def AB:Q→Int
 |some a=>sgn a.num
 |none=>0
def aqa:Q→Q→Int
 |some a,some b=>ab8 (a.num*b.den) (b.num*a.den)
 |_,_=>0
def aqb(n:Int):Q:=some (n:Rat)
theorem Yg{a:Q}(h:a.ok):(negQ a).ok:=by
 cases a with
 |none=>trivial
 |
  some a =>
  simp only [negQ,Q.ok,fits,Rat.neg_num,Rat.neg_den,Int.natAbs_neg]at h ⊢;exact h
theorem Yh(a b:Q):(N8 a b).ok:=by
 unfold N8;split<;>first|exact Ye _|trivial
theorem adW(a b:Q):(afL a b).ok:=Yh _ _
theorem adX(a b:Q):(V3 a b).ok:=by
 unfold V3;split<;>first|exact Ye _|trivial
theorem adY(a b:Q):(Yf a b).ok:=by
 unfold Yf;split<;>first|(split<;>first|exact Ye _|trivial)|trivial
theorem adZ{n:Int}(h:n.natAbs<1000000000 ^ 24):(aqb n).ok:=by
 have h1:decide (n.natAbs<1000000000 ^ 24)=true:=decide_eq_true h;show (decide ((n:Rat).num.natAbs<1000000000 ^ 24)&&decide ((n:Rat).den<1000000000 ^ 24))=true;rw [Rat.num_intCast,Rat.den_intCast,h1];rfl
theorem ad1(a b:Rat):VL (a.num*b.den+b.num*a.den) (a.den*b.den)=norm (a+b):=by
 have ha:=a.den_nz;have hb:=b.den_nz;have h0:(a.den:Int)*b.den≠0:=by
  intro h;rcases Int.mul_eq_zero.1 h with h|h<;>omega
 unfold VL;rw [if_neg h0,Rat.add_def',←Rat.divInt_ofNat];simp
theorem ad2(a b:Rat):VL (a.num*b.num) (a.den*b.den)=norm (a*b):=by
 have ha:=a.den_nz;have hb:=b.den_nz;have h0:(a.den:Int)*b.den≠0:=by
  intro h;rcases Int.mul_eq_zero.1 h with h|h<;>omega
 unfold VL;rw [if_neg h0,Rat.mul_def',←Rat.divInt_ofNat];simp
theorem ad3(a b:Rat):VL (a.num*b.den) (b.num*a.den)=if b=0 then none else norm (a / b):=by
 have ha:=a.den_nz;have hb:=b.den_nz;unfold VL;by_cases h:b=0
 ·subst h;simp
 have hn:b.num≠0:=fun k=>h (Rat.num_eq_zero.1 k);have h0:b.num*(a.den:Int)≠0:=by
  intro h;rcases Int.mul_eq_zero.1 h with h|h<;>omega
 rw [if_neg h0,if_neg h,Rat.div_def,Rat.inv_def]
 congr 1
 conv=>rhs;lhs;rw [←Rat.num_divInt_den a]
 rw [Rat.divInt_mul_divInt,Int.mul_comm b.num]
theorem ab9{n d:Int}(h:d≠0):(Rat.divInt n d).num.natAbs=n.natAbs / Nat.gcd n.natAbs d.natAbs∧(Rat.divInt n d).den=d.natAbs / Nat.gcd n.natAbs d.natAbs ∧
  (decide ((Rat.divInt n d).num<0)=(decide (n≠0)&&(decide (n<0) != decide (d<0)))):=by
 have hg:d.gcd n=Nat.gcd n.natAbs d.natAbs:=by rw [Int.gcd_comm];rfl
 have au4:0<Nat.gcd n.natAbs d.natAbs:=iU _ (by omega);have hdvd:((Nat.gcd n.natAbs d.natAbs:Nat):Int)∣d.sign*n:=by
  have:((Nat.gcd n.natAbs d.natAbs:Nat):Int)∣n:=Int.ofNat_dvd_left.2 (Nat.gcd_dvd_left _ _);exact Int.dvd_trans this (Int.dvd_mul_left _ _)
 rw [Rat.num_divInt,Rat.den_divInt,if_neg h,hg];obtain⟨c,hc⟩:=hdvd;have hsg:d.sign=1∨d.sign = -1:=by
  rcases Int.lt_trichotomy d 0 with h1|h1|h1
  ·right;exact Int.sign_eq_neg_one_of_neg h1
  ·exact absurd h1 h
  left;exact Int.sign_eq_one_of_pos h1
 refine⟨?_,rfl,?_⟩
 ·rw [hc,Int.mul_ediv_cancel_left _ (by omega)];have h1:(d.sign*n).natAbs=n.natAbs:=by
   rcases hsg with e|e<;>rw [e]<;>simp
  have h2:n.natAbs=Nat.gcd n.natAbs d.natAbs*c.natAbs:=by
   have h3:=congrArg Int.natAbs hc;rw [h1,iE,bW]at h3;exact h3
  generalize hG:Nat.gcd n.natAbs d.natAbs=G at *;rw [h2,Nat.mul_div_cancel_left _ au4]
 rw [hc,Int.mul_ediv_cancel_left _ (by omega)];have hcn:(c<0)↔(d.sign*n<0):=by
  rw [hc];constructor
  ·intro hlt;exact Int.mul_neg_of_pos_of_neg (by omega) hlt
  intro hlt;by_cases k:c<0
  ·exact k
  have k:0≤c:=by omega
  have:=Int.mul_nonneg (by omega:(0:Int)≤((Nat.gcd n.natAbs d.natAbs:Nat):Int)) k;omega
 rcases Int.lt_trichotomy d 0 with h1|h1|h1
 ·rw [Int.sign_eq_neg_one_of_neg h1]at hcn;have e1:decide (d<0)=true:=by simpa using h1
  rw [e1];by_cases hn:n<0
  ·have:¬c<0:=by rw [hcn];omega
   simp [hn,this]
  by_cases hn0:n=0
  ·have:¬c<0:=by rw [hcn];omega
   simp [hn0,this]
  have:c<0:=by rw [hcn];omega
  simp [hn,hn0,this]
 ·exact absurd h1 h
 rw [Int.sign_eq_one_of_pos h1]at hcn;have e1:decide (d<0)=false:=by simp;omega
 rw [e1];by_cases hn:n<0
 ·have:c<0:=by rw [hcn];omega
  have h2:n≠0:=by omega
  simp [hn,this,h2]
 have:¬c<0:=by rw [hcn];omega
 simp [hn,this]
def wG(a:List Int):Bool:=decide (a.length≤60)&&a.all (fun d=>decide (0≤d)&&decide (d<1000000000))&&(a.isEmpty||decide (a.getD (a.length-1) 0≠0))
theorem MH{a:List Int}:wG a=true↔a.length≤60∧Can a:=by
 unfold wG Can Lb;simp only [aG,decide_eq_true_eq,aT,dB,List.isEmpty_iff];have h:(a=[]∨a.getD (a.length-1) 0≠0)↔a.getLast? ≠ some 0:=by
  cases a with
  |nil=>simp
  |
   cons d l =>
   rw [List.getLast?_eq_getElem?,aj];simp
 rw [h,and_assoc]
theorem O5{a:List Int}(h:wG a=true):a=mk (val a):=(mk_val (MH.1 h).2).symm
theorem O6{n:Nat}(h:n<1000000000 ^ 60):wG (mk n)=true:=MH.2 ⟨kL.2 h,sN n⟩
def R.ok(r:R):Bool:=wG r.mag&&(!(r.neg&&r.mag.isEmpty))&&wG r.den && !r.den.isEmpty&&decide (r.mag.length≤24)&&decide (r.den.length≤24) &&
 decide (Nat.gcd (val r.mag) (val r.den)=1)
theorem aqc{q:Rat}(h:fits q=true):(Q.raw (some q)).ok=true:=by
 simp only [fits,aG,decide_eq_true_eq]at h;obtain⟨h1,h2⟩:=h;have p:(1000000000:Nat) ^ 24≤1000000000 ^ 60:=eG (by omega) (by omega);unfold R.ok Q.raw;simp only [aG,decide_eq_true_eq,fO,iQ,List.isEmpty_eq_false_iff,val_mk];refine⟨⟨⟨⟨⟨⟨O6 (by omega),?_⟩,O6 (by omega)⟩,?_⟩,kL.2 h1⟩,kL.2 h2⟩,q.reduced⟩
 ·by_cases h0:q.num<0
  ·right;intro e;rw [ahL]at e;omega
  left;exact decide_eq_false h0
 intro e;rw [ahL]at e;exact q.den_nz e
theorem acd{r:R}(h:r.ok=true):∃q:Rat,fits q=true∧r=Q.raw (some q):=by
 obtain⟨neg,mag,den⟩:=r;unfold R.ok at h;simp only [aG,decide_eq_true_eq,fO,iQ,List.isEmpty_eq_false_iff]at h;obtain⟨⟨⟨⟨⟨⟨h1,h2⟩,h3⟩,h4⟩,h5⟩,h6⟩,h7⟩:=h;have em:=O5 h1;have ed:=O5 h3;have hdn:val den≠0:=by intro e;rw [e,mk_zero]at ed;exact h4 ed
 refine⟨⟨if neg then -(val mag:Int)else val mag,val den,hdn,?_⟩,?_,?_⟩
 ·unfold Nat.Coprime
  cases neg<;>simpa using h7
 ·simp only [fits,aG,decide_eq_true_eq];rw [em]at h5;rw [ed]at h6;rw [kL]at h5 h6;refine⟨?_,h6⟩
  cases neg<;>simpa using h5
 simp only [Q.raw,R.mk.injEq];refine⟨?_,?_,ed⟩
 ·cases neg with
  |false=>simp
  |
   true =>
   simp only [if_true];rcases h2 with h2|h2
   ·cases h2
   have:val mag≠0:=by intro e;rw [e,mk_zero]at em;exact h2 em
   simp;omega
 have:(if neg=true then -(val mag:Int)else(val mag:Int)).natAbs=val mag:=by cases neg<;>simp
 rw [this];exact em
theorem ZY:(Q.raw none).ok=false:=by decide
def R.q(r:R):Q:=if r.ok=true then some (mkRat (if r.neg then -(val r.mag:Int)else val r.mag) (val r.den))else none
theorem J5{q:Q}(h:q.ok):(Q.raw q).q=q:=by
 cases q with
 |none=>unfold R.q;rw [ZY];rfl
 |
  some q =>
  have h':fits q=true:=h;unfold R.q;rw [if_pos (aqc h')]
  congr 1
  simp only [Q.raw,val_mk];have:(if decide (q.num<0)=true then -(q.num.natAbs:Int)else(q.num.natAbs:Int))=q.num:=by
   split
   ·rename_i h;have h:=of_decide_eq_true h;omega
   rename_i h;have h:¬q.num<0:=fun k=>h (decide_eq_true k);omega
  rw [this,Rat.mkRat_self]
theorem Hz(r:R):r.q.ok:=by
 by_cases h:r.ok=true
 ·obtain⟨q,h1,rfl⟩:=acd h;rw [J5 (q:=some q) h1];exact h1
 unfold R.q;rw [if_neg h];trivial
theorem au5{r:R}(h:r.ok=true):Q.raw r.q=r:=by
 obtain⟨q,h1,rfl⟩:=acd h;rw [J5 (q:=some q) h1]
theorem ace{r:R}:r.q.isSome=r.ok:=by
 unfold R.q;split<;>simp_all
abbrev iv(n:Int):V:=.int .i64 n
structure Lk where
 a:Int
 b:Int
 w:R
 dx:R
 dy:R
 deriving Inhabited,DecidableEq
structure Pt where
 x:R
 y:R
 deriving Inhabited,DecidableEq
structure Pa where
 node:Int
 share:R
 dx:R
 dy:R
 deriving Inhabited,DecidableEq
structure Cd where
 node:Int
 total:R
 ps:List Pa
 deriving Inhabited,DecidableEq
structure Tn where
 node:Int
 up:Int
 own:List Lk
 cond:Cd
 msgs:List Lk
 Jo:R
 deriving Inhabited,DecidableEq
structure Po where
 turn:Int
 x:Int
 y:Int
 deriving Inhabited,DecidableEq
structure Bi where
 neg:Bool
 mag:List Int
 deriving Inhabited,DecidableEq
abbrev R.num(r:R):Bi:=⟨r.neg,r.mag⟩
abbrev Bi.cells(z:Bi):List V:=[.bool z.neg,ints z.mag]
abbrev R.cells(r:R):List V:=[.bool r.neg,ints r.mag,ints r.den]
abbrev Lk.cells(l:Lk):List V:=[iv l.a,iv l.b,.bool l.w.neg,ints l.w.mag,ints l.w.den,.bool l.dx.neg,ints l.dx.mag,ints l.dx.den,.bool l.dy.neg,ints l.dy.mag,ints l.dy.den]
abbrev Pt.cells(p:Pt):List V:=[.bool p.x.neg,ints p.x.mag,ints p.x.den,.bool p.y.neg,ints p.y.mag,ints p.y.den]
abbrev Pa.cells(p:Pa):List V:=[iv p.node,.bool p.share.neg,ints p.share.mag,ints p.share.den,.bool p.dx.neg,ints p.dx.mag,ints p.dx.den,.bool p.dy.neg,ints p.dy.mag,ints p.dy.den]
abbrev Nj(l:List Pa):V:=.sl 10 (l.map Pa.cells)
abbrev oP(l:List Lk):V:=.sl 11 (l.map Lk.cells)
abbrev O7(l:List Pt):V:=.sl 6 (l.map Pt.cells)
abbrev Gn(l:List R):V:=.sl 3 (l.map R.cells)
abbrev Cd.cells(c:Cd):List V:=[iv c.node,.bool c.total.neg,ints c.total.mag,ints c.total.den,Nj c.ps]
abbrev O8(l:List Cd):V:=.sl 5 (l.map Cd.cells)
abbrev Tn.cells(t:Tn):List V:=[iv t.node,iv t.up,oP t.own,iv t.cond.node,.bool t.cond.total.neg,ints t.cond.total.mag,ints t.cond.total.den,Nj t.cond.ps,oP t.msgs,
 .bool t.Jo.neg,ints t.Jo.mag,ints t.Jo.den]
abbrev azr(l:List Tn):V:=.sl 12 (l.map Tn.cells)
abbrev N9(l:List (List R)):V:=.sl 1 (l.map fun r=>[Gn r])
abbrev Po.cells(p:Po):List V:=[iv p.turn,iv p.x,iv p.y]
abbrev kC(r:R):V:=.agg r.cells
abbrev SC(z:Bi):V:=.agg z.cells
abbrev V4(l:Lk):V:=.agg l.cells
abbrev ptV(p:Pt):V:=.agg p.cells
abbrev Xj(c:Cd):V:=.agg c.cells
theorem mg{α:Type} [Inhabited α] {l:List α} {f:α→List V} {j:Nat} (h:j<l.length):(l.map f).getD j []=f (l.getD j default):=by
 simp [aj,au h]
theorem mg?{α:Type} [Inhabited α] {l:List α} {f:α→List V} {j:Nat} (h:j<l.length):(l.map f)[j]? = some (f (l.getD j default)):=by
 simp [aj,au h]
theorem R.ext'{p q:R}(h1:p.neg=q.neg)(h2:p.mag=q.mag)(h3:p.den=q.den):p=q:=by cases p;cases q;simp_all
theorem Pt.ext'{p q:Pt}(h1:p.x=q.x)(h2:p.y=q.y):p=q:=by cases p;cases q;simp_all
theorem Lk.ext'{p q:Lk}(h1:p.a=q.a)(h2:p.b=q.b)(h3:p.w=q.w)(h4:p.dx=q.dx)(h5:p.dy=q.dy):p=q:=by cases p;cases q;simp_all
theorem Pa.ext'{p q:Pa}(h1:p.node=q.node)(h2:p.share=q.share)(h3:p.dx=q.dx)(h4:p.dy=q.dy):p=q:=by cases p;cases q;simp_all
theorem Cd.ext'{p q:Cd}(h1:p.node=q.node)(h2:p.total=q.total)(h3:p.ps=q.ps):p=q:=by cases p;cases q;simp_all
theorem Tn.ext'{p q:Tn}(h1:p.node=q.node)(h2:p.up=q.up)(h3:p.own=q.own)(h4:p.cond=q.cond)(h5:p.msgs=q.msgs)(h6:p.Jo=q.Jo):p=q:=by cases p;cases q;simp_all
def szr(left:Int)(n:Nat):Int:=if left<n then -1 else left-n
def Qn{α:Type}(f:α→Nat)(l:List α):Nat:=l.length+(l.map f).sum
theorem Ut{α:Type}(f:α→Nat)(l:List α):Qn f l=l.length+(l.map f).sum:=rfl
def R.sz(r:R):Nat:=r.mag.length+r.den.length
def Lk.sz(l:Lk):Nat:=l.w.sz+l.dx.sz+l.dy.sz
def Pt.sz(p:Pt):Nat:=p.x.sz+p.y.sz
def Pa.sz(p:Pa):Nat:=p.share.sz+p.dx.sz+p.dy.sz
def Cd.sz(c:Cd):Nat:=c.total.sz+Qn Pa.sz c.ps
def Tn.sz(t:Tn):Nat:=Qn Lk.sz t.own+t.cond.sz+Qn Lk.sz t.msgs+t.Jo.sz
def R.wf(r:R):Prop:=r.mag.length≤9223372036854775807∧r.den.length≤9223372036854775807
def Lk.wf(l:Lk):Prop:=l.w.wf∧l.dx.wf∧l.dy.wf
def Pt.wf(p:Pt):Prop:=p.x.wf∧p.y.wf
def Pa.wf(p:Pa):Prop:=p.share.wf∧p.dx.wf∧p.dy.wf
def IQ{α:Type}(f:α→Prop)(l:List α):Prop:=l.length≤9223372036854775807∧∀x∈l,f x
def Cd.wf(c:Cd):Prop:=c.total.wf∧IQ Pa.wf c.ps
def Tn.wf(t:Tn):Prop:=IQ Lk.wf t.own∧t.cond.wf∧IQ Lk.wf t.msgs∧t.Jo.wf
theorem IQ.at_{α:Type} [Inhabited α] {f:α→Prop} {l:List α} (h:IQ f l) {i:Nat} (hi:i<l.length):f (l.getD i default):=by
 refine h.2 _ ?_;simp [aj,au hi]
theorem getD_mem{α:Type} [Inhabited α] {l:List α} {i:Nat} (hi:i<l.length):l.getD i default∈l:=by
 simp [aj,au hi]
theorem afM{α:Type} [Inhabited α] {a b:List α} (hl:a.length=b.length) (h:∀j,j<a.length→a.getD j default=b.getD j default):a=b:=by
 refine List.ext_getElem hl fun i h1 h2=>?_;have:=h i h1;simpa [aj,h1,h2]using this
theorem map_set{α:Type}(f:α→List V)(l:List α)(i:Nat)(z:α):(l.map f).set i (f z)=(l.set i z).map f:=by simp [List.map_set]
theorem CS{α:Type}{f:α→List V}{l:List α}(h:∀x∈l,∀v∈f x,v.still=true):l9 (l.map f):=by
 intro r hr v hv;obtain⟨x,hx,rfl⟩:=bG.1 hr;exact h x hx v hv
end Go.Ml
namespace Go.Ml
theorem aqd{α:Type}{f:α→List V}{l:List α}{σ:Store}{o n:Nat}(hs:∀x∈l,∀v∈f x,v.still=true)(ho:iZ σ o=some ⟨n,l.map f⟩):resolve σ FD (.kQ o 0 l.length)=some (.sl n (l.map f)):=by
 rw [auT ho (CS hs) (by simp),bY,bg (by simp)]
def QH(σ:Store)(s l:Nat)(o:Option Obj):Option V:=match o with
 |some ob=>if s+l≤ob.rows.length then(((ob.rows.drop s).take l).mapM fun (r:List V)=>r.mapM (resolve σ 11)).map (.sl ob.sz)else none
 |none=>none
def Uu(σ:Store)(s l:Nat)(o:Option Obj):Option V:=match o with
 |some ob=>if s+l≤ob.rows.length then(((ob.rows.drop s).take l).mapM fun (r:List V)=>r.mapM (resolve σ 10)).map (.sl ob.sz)else none
 |none=>none
theorem aqe(σ:Store)(o s l:Nat):resolve σ FD (.kQ o s l)=QH σ s l (iZ σ o):=nr rfl
theorem al9(σ:Store)(o s l:Nat):resolve σ 11 (.kQ o s l)=Uu σ s l (iZ σ o):=nr rfl
@[congr] theorem axC {σ:Store} {s l:Nat} {o o':Option Obj} (h:wr o=o'):QH σ s l o=QH σ s l o':=by rw [←h,pJ]
@[congr] theorem au7 {σ:Store} {s l:Nat} {o o':Option Obj} (h:wr o=o'):Uu σ s l o=Uu σ s l o':=by rw [←h,pJ]
theorem Hf{σ:Store}{s l n:Nat}{rows:List (List V)}(hs:l9 rows)(h:s+l≤rows.length):QH σ s l (some ⟨n,rows⟩)=some (.sl n ((rows.drop s).take l)):=by
 unfold QH;simp only [];rw [if_pos h,vJ (n:=10) (hs.part s l)];rfl
theorem Z4{σ:Store}{s l n:Nat}{rows:List (List V)}(hs:l9 rows)(h:s+l≤rows.length):Uu σ s l (some ⟨n,rows⟩)=some (.sl n ((rows.drop s).take l)):=by
 unfold Uu;simp only [];rw [if_pos h,vJ (n:=9) (hs.part s l)];rfl
theorem aqf{σ:Store}{s l n:Nat}{xs:List Int}(h:s+l≤xs.length):QH σ s l (some ⟨n,jR xs⟩)=some (.sl n (jR ((xs.drop s).take l))):=by
 rw [Hf (oz xs) (by rw [CQ];exact h),X9,Ya]
theorem ama{σ:Store}{s l n:Nat}{xs:List Int}(h:s+l≤xs.length):Uu σ s l (some ⟨n,jR xs⟩)=some (.sl n (jR ((xs.drop s).take l))):=by
 rw [Z4 (oz xs) (by rw [CQ];exact h),X9,Ya]
theorem uh{α:Type}(f:α→List V)(L:List α)(s l:Nat):((L.map f).drop s).take l=((L.drop s).take l).map f:=by simp [List.map_drop,List.map_take]
theorem amb(L:List R):l9 (L.map R.cells):=CS (by intro x _ v hv;simp at hv;rcases hv with rfl|rfl|rfl<;>rfl)
theorem ahP(L:List Pt):l9 (L.map Pt.cells):=CS (by intro x _ v hv;simp at hv;rcases hv with rfl|rfl|rfl|rfl|rfl|rfl<;>rfl)
theorem J6(L:List Lk):l9 (L.map Lk.cells):=CS (by intro x _ v hv;simp at hv;rcases hv with rfl|rfl|rfl|rfl|rfl|rfl|rfl|rfl|rfl|rfl|rfl<;>rfl)
theorem Z5(L:List Pa):l9 (L.map Pa.cells):=CS (by intro x _ v hv;simp at hv;rcases hv with rfl|rfl|rfl|rfl|rfl|rfl|rfl|rfl|rfl|rfl<;>rfl)
theorem Xk(L:List Cd):l9 (L.map Cd.cells):=CS (by intro x _ v hv;simp at hv;rcases hv with rfl|rfl|rfl|rfl|rfl<;>rfl)
theorem aom(L:List (List R)):l9 (L.map fun r=>[Gn r]):=CS (by intro x _ v hv;simp at hv;subst hv;rfl)
theorem aqg{σ:Store}{s l n:Nat}{L:List R}(h:s+l≤L.length):QH σ s l (some ⟨n,L.map R.cells⟩)=some (.sl n (((L.drop s).take l).map R.cells)):=by rw [Hf (amb L) (by simpa using h),uh]
theorem amc{σ:Store}{s l n:Nat}{L:List Pt}(h:s+l≤L.length):QH σ s l (some ⟨n,L.map Pt.cells⟩)=some (.sl n (((L.drop s).take l).map Pt.cells)):=by rw [Hf (ahP L) (by simpa using h),uh]
theorem amd{σ:Store}{s l n:Nat}{L:List Lk}(h:s+l≤L.length):QH σ s l (some ⟨n,L.map Lk.cells⟩)=some (.sl n (((L.drop s).take l).map Lk.cells)):=by rw [Hf (J6 L) (by simpa using h),uh]
theorem ame{σ:Store}{s l n:Nat}{L:List Pa}(h:s+l≤L.length):QH σ s l (some ⟨n,L.map Pa.cells⟩)=some (.sl n (((L.drop s).take l).map Pa.cells)):=by rw [Hf (Z5 L) (by simpa using h),uh]
theorem ahQ{σ:Store}{s l n:Nat}{L:List Pa}(h:s+l≤L.length):Uu σ s l (some ⟨n,L.map Pa.cells⟩)=some (.sl n (((L.drop s).take l).map Pa.cells)):=by rw [Z4 (Z5 L) (by simpa using h),uh]
theorem amf{σ:Store}{s l n:Nat}{L:List Cd}(h:s+l≤L.length):QH σ s l (some ⟨n,L.map Cd.cells⟩)=some (.sl n (((L.drop s).take l).map Cd.cells)):=by rw [Hf (Xk L) (by simpa using h),uh]
theorem amg{σ:Store}{s l n:Nat}{L:List (List R)}(h:s+l≤L.length):QH σ s l (some ⟨n,L.map fun r=>[Gn r]⟩)=some (.sl n (((L.drop s).take l).map fun r=>[Gn r])):=by rw [Hf (aom L) (by simpa using h),uh]
def AL(σ:Store)(rows:List (List V)):List Nat:=rows.flatMap fun (r:List V)=>r.flatMap (reach σ 11)
def Uw(σ:Store)(o:Option Obj):List Nat:=match o with
 |some ob=>AL σ ob.rows
 |none=>[]
theorem aqh(σ:Store)(o s l:Nat):reach σ FD (.kQ o s l)=o::Uw σ (iZ σ o):=nr rfl
@[congr] theorem ato {σ:Store} {o o':Option Obj} (h:wr o=o'):Uw σ o=Uw σ o':=by rw [←h,pJ]
theorem ahR(σ:Store)(n:Nat)(rows:List (List V)):Uw σ (some ⟨n,rows⟩)=AL σ rows:=nr rfl
theorem ahS(σ:Store):Uw σ none=[]:=nr rfl
theorem zT{σ:Store}{rows:List (List V)}(h:l9 rows):AL σ rows=[]:=by
 unfold AL;rw [jk];intro r hr;rw [jk];intro v hv;exact Af (n:=10) (h r hr v hv)
theorem afN(σ:Store)(xs:List Int):AL σ (jR xs)=[]:=zT (oz xs)
theorem afO(σ:Store)(L:List R):AL σ (L.map R.cells)=[]:=zT (amb L)
theorem acf(σ:Store)(L:List Pt):AL σ (L.map Pt.cells)=[]:=zT (ahP L)
theorem acg(σ:Store)(L:List Lk):AL σ (L.map Lk.cells)=[]:=zT (J6 L)
theorem ach(σ:Store)(L:List Pa):AL σ (L.map Pa.cells)=[]:=zT (Z5 L)
theorem aci(σ:Store)(L:List Cd):AL σ (L.map Cd.cells)=[]:=zT (Xk L)
theorem acj(σ:Store)(L:List (List R)):AL σ (L.map fun r=>[Gn r])=[]:=zT (aom L)
theorem azs(sz:Nat)(r:List (List V)):scalar SD (.sl sz r)=false:=nr rfl
theorem aqi:scalar SD .jF=true:=nr rfl
def Xl(n:Nat)(cs:List V):Bool:=cs.all (scalar n)
theorem au8(cs:List V):scalar SD (.agg cs)=Xl 3 cs:=nr rfl
theorem au9(cs:List V):scalar SD (.nJ cs)=Xl 3 cs:=nr rfl
theorem amh(n:Nat):Xl n []=true:=nr rfl
theorem ami(n:Nat)(c:V)(cs:List V):Xl n (c::cs)=(scalar n c&&Xl n cs):=nr rfl
theorem aqj(q:IntKind)(n:Int):scalar 3 (.int q n)=true:=nr rfl
theorem amj(b:Bool):scalar 3 (.bool b)=true:=nr rfl
theorem aqk(s:List UInt8):scalar 3 (.str s)=true:=nr rfl
theorem amk:scalar 3 .jF=true:=nr rfl
theorem ava(sz:Nat)(r:List (List V)):scalar 3 (.sl sz r)=false:=nr rfl
theorem aql(cs:List V):scalar 3 (.agg cs)=Xl 2 cs:=nr rfl
theorem aqm(q:IntKind)(n:Int):scalar 2 (.int q n)=true:=nr rfl
theorem aml(b:Bool):scalar 2 (.bool b)=true:=nr rfl
theorem aqn(s:List UInt8):scalar 2 (.str s)=true:=nr rfl
theorem amm:scalar 2 .jF=true:=nr rfl
theorem avb(sz:Nat)(r:List (List V)):scalar 2 (.sl sz r)=false:=nr rfl
theorem azt{t b:Int}(h:0≤t∧t≤9223372036854775807∧0<b):IntKind.i64.wrap (t.tdiv b)=t.tdiv b:=by
 rw [eU h.1];have h1:0≤t / b:=Int.ediv_nonneg h.1 (by omega);have h2:t / b≤t:=Int.ediv_le_self _ h.1;exact w64 (by omega)
theorem ahT{α:Type}{l:List α}{n:Nat}(h:l.length≤n):l.take n=l:=bg h
theorem amn(env:Nat→V)(x:Src):I.reads env (.oO x)=[]:=by simp [I.reads,I.vG]
theorem amo(env:Nat→V)(x:Src):I.reads env (.box x)=[]:=by simp [I.reads,I.vG]
theorem ahU(env:Nat→V)(x:Src):I.reads env (.Zn x)=[]:=by simp [I.reads,I.vG]
theorem amq(env:Nat→V)(x:Src):I.reads env (.len x)=ql (x.ev env):=by simp [I.reads,I.vG]
theorem amr(env:Nat→V)(x:Src):I.reads env (.chk x)=ql (x.ev env):=by simp [I.reads,I.vG]
theorem ams(env:Nat→V)(d:Nat)(x:Src):I.reads env (.fld d x)=ql (x.ev env):=by simp [I.reads,I.vG]
theorem aqo(env:Nat→V)(d:UnOp)(x:Src):I.reads env (.un d x)=[]:=by simp [I.reads,I.vG]
theorem ahV(env:Nat→V)(d:IntKind)(x:Src):I.reads env (.conv d x)=[]:=by simp [I.reads,I.vG]
theorem ahW(env:Nat→V)(d:Nat)(x:Src):I.reads env (.VP d x)=[]:=by simp [I.reads,I.vG]
theorem ahX(env:Nat→V)(n:Nat)(b:Bool)(x:Src):I.reads env (.load n b x)=ql (x.ev env):=by simp [I.reads,I.vG]
theorem ahY(env:Nat→V)(z:List V)(n:Nat)(x:Src):I.reads env (.make z n x)=[]:=by simp [I.reads,I.vG]
theorem afP(env:Nat→V)(z:List V):I.reads env (.alloc z)=[]:=by simp [I.reads,I.vG]
theorem ahZ(env:Nat→V)(x y z:Src):I.reads env (.pick x y z)=[]:=by simp [I.reads,I.vG]
theorem afQ(env:Nat→V)(n:Nat)(x y:Src):I.reads env (.store n x y)=ql (x.ev env):=by simp [I.reads,I.vG]
theorem amu(env:Nat→V)(n:Nat)(x y:Src):I.reads env (.idx n x y)=ql (x.ev env):=by simp [I.reads,I.vG]
theorem ah0(env:Nat→V)(m n:Nat)(x y:Src):I.reads env (.BZ m n x y)=ql (x.ev env):=by simp [I.reads,I.vG]
theorem ah1(env:Nat→V)(x y:Src):I.reads env (.Zm x y)=[]:=by simp [I.reads,I.vG]
theorem ah2(env:Nat→V)(m:Nat)(x y:Src):I.reads env (.XV m x y)=[]:=by simp [I.reads,I.vG]
theorem amv(env:Nat→V)(n:BinOp)(x y:Src):I.reads env (.bin n x y)=[]:=by simp [I.reads,I.vG]
theorem amw(env:Nat→V)(n:Bool)(x y:Src):I.reads env (.beq n x y)=[]:=by simp [I.reads,I.vG]
theorem amx(env:Nat→V)(m n:Nat)(x y:Src):I.reads env (.app m n x y)=ql (x.ev env)++ql (y.ev env):=by simp [I.reads,I.vG]
theorem amy(env:Nat→V)(x y:Src):I.reads env (.max x y)=[]:=by simp [I.reads,I.vG]
theorem aqp(env:Nat→V)(z:List V):I.reads env (.build z [])=[]:=by simp [I.reads,I.vG]
theorem aqr(env:Nat→V)(z:List V)(a b:Nat)(x:Src)(l:List (Nat×Nat×Src)):I.reads env (.build z ((a,b,x)::l))=[]:=by simp [I.reads,I.vG]
theorem aqs(env:Nat→V)(sz:Nat)(z:List V)(n:Nat):I.reads env (.oI sz z n [])=[]:=by simp [I.reads,I.vG]
theorem aqt(env:Nat→V)(sz:Nat)(z:List V)(n a:Nat)(x:Src)(l:List (Nat×Src)):I.reads env (.oI sz z n ((a,x)::l))=[]:=by simp [I.reads,I.vG]
theorem amz(q:IntKind)(n:Int):ql (.int q n)=[]:=nr rfl
theorem ah3(b:Bool):ql (.bool b)=[]:=nr rfl
theorem amA(b:List UInt8):ql (.str b)=[]:=nr rfl
theorem ah4  : ql .jF=[]:=nr rfl
theorem amB  : ql .one=[]:=nr rfl
theorem amC  : ql .any=[]:=nr rfl
theorem aqu(n:Nat)(r:List (List V)):ql (.sl n r)=[]:=nr rfl
theorem ah5(r:List V)(n:Nat):ql (.ou r n)=[]:=nr rfl
theorem amD(r:List V):ql (.agg r)=[]:=nr rfl
theorem amE(r:List V):ql (.nJ r)=[]:=nr rfl
theorem amF(o r k:Nat):ql (.ptr o r k)=[o]:=nr rfl
theorem amG(o r k:Nat):ql (.kQ o r k)=[o]:=nr rfl
end Go.Ml
end
section
set_option linter.defProp false
namespace Go.Ml
def Z7:=(ah (ah (ah (ah (ah (ah @Go.Ml.pJ.{1} @Go.Ml.aoh) (ah @Go.Ml.aoi (ah @Go.Ml.wp_skip 
 @Go.Ml.alu))) (ah (ah @Go.Ml.alv @Go.Ml.wp_seq) (ah @Go.Ml.aht (ah @Go.Ml.wp_block @Go.Ml.wp_loop)))) (ah 
 (ah (ah @Go.Ml.wp_exit @Go.Ml.wp_ret) (ah @Go.Ml.apf (ah @Go.Ml.apg @Go.Ml.aph))) (ah (ah @Go.Ml.apm 
 (ah @Go.Ml.apn @Go.Ml.apo)) (ah @Go.Ml.alx (ah @Go.Ml.aly @Go.Ml.apq))))) (ah (ah (ah (ah 
 @Go.Ml.apr @Go.Ml.azc) (ah @Go.Ml.azd (ah @Go.Ml.aze @Go.Ml.aps))) (ah (ah @Go.Ml.aue (ah @Go.Ml.ape 
 @Go.Ml.auf)) (ah @Go.Ml.aug (ah @Go.Ml.auh @Go.Ml.aui)))) (ah (ah (ah @Go.Ml.ahr @Go.Ml.aum) (ah 
 @Go.Ml.apz (ah @Go.Ml.alB @Go.Ml.aun))) (ah (ah @Go.Ml.ahJ (ah @Go.Ml.al2 @Go.Ml.al3)) (ah 
 @Go.Ml.ahH (ah @Go.Ml.ahI @Go.Ml.al4)))))) (ah (ah (ah (ah (ah @Go.Ml.al5 @Go.Ml.apB) (ah 
 @Go.Ml.alD (ah @Go.Ml.alE @Go.Ml.alF))) (ah (ah @Go.Ml.auo @Go.Ml.aup) (ah @Go.Ml.apC (ah @Go.Ml.apD 
 @Go.Ml.apE)))) (ah (ah (ah @Go.Ml.auq @Go.Ml.apF) (ah @Go.Ml.aur (ah @Go.Ml.aus @Go.Ml.aut))) (ah 
 (ah @Go.Ml.auu (ah @Go.Ml.apG @Go.Ml.auv)) (ah @Go.Ml.apH (ah @Go.Ml.auw @Go.Ml.al6))))) (ah (ah 
 (ah (ah @Go.Ml.ahK @Go.Ml.ap6) (ah @Go.Ml.ap7 (ah @Go.Ml.ap8 @Go.Ml.ap9))) (ah (ah @Go.Ml.auy 
 (ah @Go.Ml.apK @Go.Ml.apL)) (ah @Go.Ml.ap0 (ah @Go.Ml.ap1 @Go.Ml.ap2)))) (ah (ah (ah @Go.Ml.ap3 
 @Go.Ml.alS) (ah @Go.Ml.al0 (ah @Go.Ml.ay9 @Go.Ml.aza))) (ah (ah @Go.Ml.alp (ah @Go.Ml.afE @Go.Ml.ao8)) 
 (ah @Go.Ml.ao9 (ah @Go.Ml.apa @Go.Ml.apb)))))))
def Z8:=(ah (ah (ah (ah (ah (ah (ah (ah @Go.Ml.aln @Go.Ml.aoh) (ah @Go.Ml.aoi @Go.Ml.ao5)) 
 (ah (ah @Go.Ml.ao6 @Go.Ml.alm) (ah @Go.Ml.ao7 @Go.Ml.afB))) (ah (ah (ah @Go.Ml.alo @Go.Ml.aua) 
 (ah @Go.Ml.aub @Go.Ml.ahq)) (ah (ah @Go.Ml.afC @Go.Ml.afD) (ah @Go.Ml.ZL (ah @Go.Ml.abX 
 @Go.Ml.ZM))))) (ah (ah (ah (ah @Go.Ml.abY @Go.Ml.ZN) (ah @Go.Ml.abZ @Go.Ml.afG)) 
 (ah (ah @Go.Ml.ab1 @Go.Ml.ab2) (ah @Go.Ml.ZO (ah @Go.Ml.ab3 @Go.Ml.apt)))) (ah (ah 
 (ah @Go.Ml.apu @Go.Ml.auj) (ah @Go.Ml.auk @Go.Ml.aul)) (ah (ah @Go.Ml.apv @Go.Ml.apw) (ah @Go.Ml.apy 
 (ah @Go.Ml.apx @Go.Ml.auK)))))) (ah (ah (ah (ah (ah @Go.Ml.auL @Go.Ml.auM) (ah @Go.Ml.auz 
 @Go.Ml.auA)) (ah (ah @Go.Ml.auB @Go.Ml.auC) (ah @Go.Ml.auD (ah @Go.Ml.auE @Go.Ml.auF)))) (ah (ah 
 (ah @Go.Ml.auG @Go.Ml.auH) (ah @Go.Ml.auI @Go.Ml.auJ)) (ah (ah @Go.Ml.apI @Go.Ml.apJ) (ah @Go.Ml.w64 (ah 
 @Go.Ml.alG @Go.Ml.alH))))) (ah (ah (ah (ah @Go.Ml.alI @Go.Ml.alJ) (ah @Go.Ml.alK @Go.Ml.ahu)) 
 (ah (ah @Go.Ml.ahv @Go.Ml.ahw) (ah @Go.Ml.auN (ah @Go.Ml.apM @Go.Ml.auO)))) (ah (ah (ah 
 @Go.Ml.apN @Go.Ml.auP) (ah @Go.Ml.azl @Go.Ml.apO)) (ah (ah @Go.Ml.auQ @Go.Ml.auR) (ah @Go.Ml.apP (ah 
 @Go.Ml.ahx @Go.Ml.apQ))))))) (ah (ah (ah (ah (ah (ah @Go.Ml.alL @Go.Ml.apR) (ah @Go.Ml.alM 
 @Go.Ml.apS)) (ah (ah @Go.Ml.auS @Go.Ml.alN) (ah @Go.Ml.azm (ah @Go.Ml.azn @Go.Ml.auU)))) (ah (ah 
 (ah @Go.Ml.apU @Go.Ml.auV) (ah @Go.Ml.apV @Go.Ml.azo)) (ah (ah @Go.Ml.apW @Go.Ml.auW) (ah @Go.Ml.azp 
 (ah @Go.Ml.azq @Go.Ml.apX))))) (ah (ah (ah (ah @Go.Ml.alO @Go.Ml.apY) (ah @Go.Ml.alP @Go.Ml.auX)) 
 (ah (ah @Go.Ml.alQ @Go.Ml.auY) (ah @Go.Ml.apZ (ah @Go.Ml.auZ @Go.Ml.au0)))) (ah (ah (ah 
 @Go.Ml.au1 @Go.Ml.au2) (ah @Go.Ml.alq @Go.Ml.alr)) (ah (ah @Go.Ml.als @Go.Ml.auc) (ah @Go.Ml.aud (ah 
 @Go.Ml.apc @Go.Ml.apd)))))) (ah (ah (ah (ah (ah @Go.Ml.ahs @Go.Ml.afF) (ah @Go.Ml.apj 
 @Go.Ml.apk)) (ah (ah @Go.Ml.apl @Go.Ml.azf) (ah @Go.Ml.azg (ah @Go.Ml.azh @Go.Ml.azi)))) (ah (ah (ah 
 @Go.Ml.azj @Go.Ml.CQ) (ah @Go.Ml.alT @Go.Ml.ap4)) (ah (ah @Go.Ml.ap5 @Go.Ml.alU) (ah @Go.Ml.amn (ah 
 @Go.Ml.amo @Go.Ml.ahU))))) (ah (ah (ah (ah @Go.Ml.amq @Go.Ml.amr) (ah @Go.Ml.ams @Go.Ml.aqo)) 
 (ah (ah @Go.Ml.ahV @Go.Ml.ahW) (ah @Go.Ml.ahX (ah @Go.Ml.ahY @Go.Ml.afP)))) (ah (ah 
 (ah @Go.Ml.ahZ @Go.Ml.afQ) (ah @Go.Ml.amu @Go.Ml.ah0)) (ah (ah @Go.Ml.ah1 @Go.Ml.ah2) (ah 
 @Go.Ml.amv (ah @Go.Ml.amw @Go.Ml.amx)))))))) (ah (ah (ah (ah (ah (ah (ah @Go.Ml.amy 
 @Go.Ml.aqp) (ah @Go.Ml.aqr @Go.Ml.aqs)) (ah (ah @Go.Ml.aqt @Go.Ml.amz) (ah @Go.Ml.ah3 @Go.Ml.amA))) 
 (ah (ah (ah @Go.Ml.ah4 @Go.Ml.amB) (ah @Go.Ml.amC @Go.Ml.aqu)) (ah (ah @Go.Ml.ah5 @Go.Ml.amD) 
 (ah @Go.Ml.amE (ah @Go.Ml.amF @Go.Ml.amG))))) (ah (ah (ah (ah @Int.toNat_zero @Int.toNat_one) (ah 
 @Go.Ml.azt @Bool.false_and)) (ah (ah @Bool.true_and @Bool.and_false) (ah @Go.Ml.aqe (ah @Go.Ml.al9 @Go.Ml.aqf)))) 
 (ah (ah (ah @Go.Ml.ama @Go.Ml.aqg) (ah @Go.Ml.amc @Go.Ml.amd)) (ah (ah @Go.Ml.ame @Go.Ml.ahQ) 
 (ah @Go.Ml.amf (ah @Go.Ml.amg @Go.Ml.aqh)))))) (ah (ah (ah (ah (ah @Go.Ml.ahR @Go.Ml.ahS) 
 (ah @Go.Ml.afN @Go.Ml.afO)) (ah (ah @Go.Ml.acf @Go.Ml.acg) (ah @Go.Ml.ach (ah 
 @Go.Ml.aci @Go.Ml.acj)))) (ah (ah (ah @Go.Ml.azs @Go.Ml.aqi) (ah @Go.Ml.au8 @Go.Ml.au9)) (ah (ah 
 @Go.Ml.amh @Go.Ml.ami) (ah @Go.Ml.aqj (ah @Go.Ml.amj @Go.Ml.aqk))))) (ah (ah (ah (ah @Go.Ml.amk 
 @Go.Ml.ava) (ah @Go.Ml.aql @Go.Ml.aqm)) (ah (ah @Go.Ml.aml @Go.Ml.aqn) (ah @Go.Ml.amm (ah @Go.Ml.avb 
 @Go.Ml.ahT)))) (ah (ah (ah @Go.Ml.al1 @Nat.le_refl) (ah @List.replicate_succ.{0} @List.replicate_zero.{0})) (ah 
 (ah @List.take_length.{0} @Go.Ml.ay8) (ah @Go.Ml.w8u (ah @Go.Ml.ay7 @Go.Ml.Ya))))))) (ah (ah (ah (ah 
 (ah (ah @Go.Ml.X9 @Nat.sub_zero) (ah @implies_true.{0} @false_implies)) (ah (ah @true_implies @List.length_map.{0,0}) 
 (ah @true_or (ah @or_true @Bool.beq_eq_decide_eq.{0})))) (ah (ah (ah @List.set_cons_zero.{0} @List.set_cons_succ.{0}) 
 (ah @Go.Ml.alX @Go.Ml.alY)) (ah (ah @Go.Ml.alW @Go.Ml.ahA) (ah @Go.Ml.ahF (ah @Go.Ml.ahG 
 @Go.Ml.ahC))))) (ah (ah (ah (ah @Go.Ml.alZ @Go.Ml.ahD) (ah @Go.Ml.afI @Go.Ml.ahE)) (ah 
 (ah @Go.Ml.rJ @Go.Ml.afJ) (ah @List.reverse_cons.{0} (ah @List.reverse_nil.{0} @List.nil_append.{0})))) (ah (ah 
 (ah @List.cons_append.{0} @List.append_nil.{0}) (ah @List.length_cons.{0} @List.length_nil.{0})) (ah (ah 
 @List.getElem?_cons_zero.{0} @List.getElem?_cons_succ.{0}) (ah @Nat.zero_add (ah @Nat.add_zero @ite_self.{1})))))) (ah (ah 
 (ah (ah (ah @ite_true.{1} @ite_false.{1}) (ah @if_true.{1} @if_false.{1})) (ah (ah @eq_self.{1} @and_true) (ah 
 @true_and (ah @and_self @Bool.not_true)))) (ah (ah (ah @Bool.not_false @Bool.true_eq_false) (ah @Bool.false_eq_true 
 @Bool.not_eq_true')) (ah (ah @decide_eq_true_eq @decide_eq_false_iff_not) (ah @Bool.not_eq_eq_eq_not (ah @Option.map_some.{0,0} 
 @Option.map_none.{0,0}))))) (ah (ah (ah (ah @Int.toNat_natCast @List.drop_zero.{0}) (ah @List.drop_succ_cons.{0} 
 @List.take_succ_cons.{0})) (ah (ah @List.take_zero.{0} @List.all_cons.{0}) (ah @List.all_nil.{0} (ah @Bool.and_true 
 @Bool.and_self)))) (ah (ah (ah @Go.Ml.Ex.exit.injEq @not_false_eq_true) (ah @not_true_eq_false @decide_true)) (ah (ah 
 @decide_false @ite_not.{1}) (ah @decide_not (ah @Bool.not_not @ne_eq.{1})))))))))
theorem ev{P Q:Prop}(h:Q)(e:P=Q:=by conv=>lhs;simp (maxSteps:=1000000) (disch:=first|omega|assumption|(simp;done)|(simp;omega)) only [↓Z7,Z8,splice,Nat.reduceAdd,Nat.reduceEqDiff,Nat.reduceMul,Nat.reduceLT,Nat.reduceLeDiff,reduceIte,V.leaf,IL,Jf,KY,cO,dM,dV,dW,fC,reduceCtorEq]):P:=Eq.mpr (e) h
theorem ev1{P Q A1:Prop}(x1:A1)(h:Q)(e:A1→P=Q:=by intro x1;conv=>lhs;simp (maxSteps:=1000000) (disch:=first|omega|assumption|(simp;done)|(simp;omega)) only [↓Z7,Z8,splice,Nat.reduceAdd,Nat.reduceEqDiff,Nat.reduceMul,Nat.reduceLT,Nat.reduceLeDiff,reduceIte,V.leaf,IL,Jf,KY,cO,dM,dV,dW,fC,reduceCtorEq,x1]):P:=Eq.mpr (e x1) h
theorem vM{P Q A1 A2:Prop}(x1:A1)(x2:A2)(h:Q)(e:A1→A2→P=Q:=by intro x1 x2;conv=>lhs;simp (maxSteps:=1000000) (disch:=first|omega|assumption|(simp;done)|(simp;omega)) only [↓Z7,Z8,splice,Nat.reduceAdd,Nat.reduceEqDiff,Nat.reduceMul,Nat.reduceLT,Nat.reduceLeDiff,reduceIte,V.leaf,IL,Jf,KY,cO,dM,dV,dW,fC,reduceCtorEq,x1,x2]):P:=Eq.mpr (e x1 x2) h
theorem Gp{P Q A1 A2 A3:Prop}(x1:A1)(x2:A2)(x3:A3)(h:Q)(e:A1→A2→A3→P=Q:=by intro x1 x2 x3;conv=>lhs;simp (maxSteps:=1000000) (disch:=first|omega|assumption|(simp;done)|(simp;omega)) only [↓Z7,Z8,splice,Nat.reduceAdd,Nat.reduceEqDiff,Nat.reduceMul,Nat.reduceLT,Nat.reduceLeDiff,reduceIte,V.leaf,IL,Jf,KY,cO,dM,dV,dW,fC,reduceCtorEq,x1,x2,x3]):P:=Eq.mpr (e x1 x2 x3) h
theorem ev4{P Q A1 A2 A3 A4:Prop}(x1:A1)(x2:A2)(x3:A3)(x4:A4)(h:Q)(e:A1→A2→A3→A4→P=Q:=by intro x1 x2 x3 x4;conv=>lhs;simp (maxSteps:=1000000) (disch:=first|omega|assumption|(simp;done)|(simp;omega)) only [↓Z7,Z8,splice,Nat.reduceAdd,Nat.reduceEqDiff,Nat.reduceMul,Nat.reduceLT,Nat.reduceLeDiff,reduceIte,V.leaf,IL,Jf,KY,cO,dM,dV,dW,fC,reduceCtorEq,x1,x2,x3,x4]):P:=Eq.mpr (e x1 x2 x3 x4) h
theorem ev5{P Q A1 A2 A3 A4 A5:Prop}(x1:A1)(x2:A2)(x3:A3)(x4:A4)(x5:A5)(h:Q)(e:A1→A2→A3→A4→A5→P=Q:=by intro x1 x2 x3 x4 x5;conv=>lhs;simp (maxSteps:=1000000) (disch:=first|omega|assumption|(simp;done)|(simp;omega)) only [↓Z7,Z8,splice,Nat.reduceAdd,Nat.reduceEqDiff,Nat.reduceMul,Nat.reduceLT,Nat.reduceLeDiff,reduceIte,V.leaf,IL,Jf,KY,cO,dM,dV,dW,fC,reduceCtorEq,x1,x2,x3,x4,x5]):P:=Eq.mpr (e x1 x2 x3 x4 x5) h
theorem ev6{P Q A1 A2 A3 A4 A5 A6:Prop}(x1:A1)(x2:A2)(x3:A3)(x4:A4)(x5:A5)(x6:A6)(h:Q)(e:A1→A2→A3→A4→A5→A6→P=Q:=by intro x1 x2 x3 x4 x5 x6;conv=>lhs;simp (maxSteps:=1000000) (disch:=first|omega|assumption|(simp;done)|(simp;omega)) only [↓Z7,Z8,splice,Nat.reduceAdd,Nat.reduceEqDiff,Nat.reduceMul,Nat.reduceLT,Nat.reduceLeDiff,reduceIte,V.leaf,IL,Jf,KY,cO,dM,dV,dW,fC,reduceCtorEq,x1,x2,x3,x4,x5,x6]):P:=Eq.mpr (e x1 x2 x3 x4 x5 x6) h
abbrev oN(d:Nat)(i:I):oM:=⟨none,some d,0,i,[]⟩
abbrev oS(i:I):oM:=⟨none,none,0,i,[]⟩
abbrev oG(g:Nat)(b:Bool)(d:Nat)(i:I):oM:=⟨some (g,b),some d,0,i,[]⟩
abbrev oK(d k:Nat)(i:I):oM:=⟨none,some d,k,i,[]⟩
abbrev oA(d k:Nat)(i:I)(a:List Nat):oM:=⟨none,some d,k,i,a⟩
abbrev oH(g:Nat)(b:Bool)(d k:Nat)(i:I)(a:List Nat):oM:=⟨some (g,b),some d,k,i,a⟩
abbrev oV(n:Nat):I:=.oO (.t n)
abbrev cI(n:Int):Src:=.c (.int .i64 n)
end Go.Ml
end
namespace Go.Ml
abbrev nR:Nat→Nat→Bool:=fun _ _=>false
def oW(d n:Nat):oM:=⟨none,some d,0,.oO (.t n),[]⟩
def mF:I:=.oO (.c (.bool false))
def mT:I:=.oO (.c (.bool true))
def mN:I:=.oO (.c .jF)
def lT(n a:Nat):I:=.load n true (.t a)
def lF(n a:Nat):I:=.load n false (.t a)
def ix(n a b:Nat):I:=.idx n (.t a) (.t b)
def ln(a:Nat):I:=.len (.t a)
def fd(n a:Nat):I:=.fld n (.t a)
def ex(n a:Nat):I:=.VP n (.t a)
def nt(a:Nat):I:=.un .not (.t a)
def bt(o:BinOp)(a b:Nat):I:=.bin o (.t a) (.t b)
def bc(o:BinOp)(a:Nat)(n:Int):I:=.bin o (.t a) (.c (.int .i64 n))
def cd(a:Nat)(c e:C):C:=.cond (.t a) c e
def rf(n:Nat)(l:List oM):C:=.reg false n l
def rt(n:Nat)(l:List oM):C:=.reg true n l
def rg(l:List oM):C:=.reg false 0 l
def sr(l:List oM)(c:C):C:=.seq (.reg false 0 l) c
def vN:List V:=[.bool false,.jF,.jF]
def I9:List V:=[.int .i64 0]
def J7:List V:=[.int .i64 0,.int .i64 0,.bool false,.jF,.jF,.bool false,.jF,.jF,.bool false,.jF,.jF]
def Zi:List V:=[.int .i64 0,.bool false,.jF,.jF,.jF]
def zz4:List V:=[.bool false,.jF]
def zz5:List V:=[.int .i64 0,.bool false,.jF,.jF,.bool false,.jF,.jF,.bool false,.jF,.jF]
def zz6:List V:=[.bool false,.jF,.jF,.bool false,.jF,.jF]
def zz7:List V:=[.bool false,.bool false,.bool false,.bool false,.bool false,.bool false,.bool false,.bool false,.bool false,.bool false,.bool false,.bool false,.bool false,.bool false,.bool false,.bool false,.bool false,.bool false,.bool false,.bool false,.bool false,.bool false,.bool false,.bool false,.bool false,.bool false,.bool false,.bool false,.bool false,.bool false,.bool false,.bool false,.bool false,.bool false,.bool false,.bool false,.bool false,.bool false,.bool false,.bool false,.bool false,.bool false,.bool false,.bool false,.bool false,.bool false,.bool false,.bool false,.bool false,.bool false,.bool false,.bool false,.bool false,.bool false,.bool false,.bool false,.bool false,.bool false,.bool false,.bool false,.bool false,.bool false,.bool false,.bool false,.bool false,.bool false,.bool false,.bool false,.bool false,.bool false,.bool false,.bool false,.bool false,.bool false,.bool false,.bool false,.bool false,.bool false,.bool false,.bool false,.bool false,.bool false,.bool false,.bool false,.bool false,.bool false,.bool false,.bool false,.bool false,.bool false,.bool false,.bool false,.bool false,.bool false,.bool false,.bool false,.bool false,.bool false,.bool false,.bool false]
def cl(f:Nat)(l:List Nat):I:=.call f (l.map .t)
theorem Lz:(∀(d:Nat),∀(i:I),oN d i=(⟨none,some d,0,i,[]⟩:oM))∧(∀(i:I),oS i=(⟨none,none,0,i,[]⟩:oM))∧(∀(g:Nat),∀(b:Bool),∀(d:Nat),∀(i:I),oG g b d i=(⟨some (g,b),some d,0,i,[]⟩:oM))∧(∀(d k:Nat),∀(i:I),oK d k i=(⟨none,some d,k,i,[]⟩:oM))∧(∀(d k:Nat),∀(i:I),∀(a:List Nat),oA d k i a=(⟨none,some d,k,i,a⟩:oM))∧(∀(g:Nat),∀(b:Bool),∀(d k:Nat),∀(i:I),∀(a:List Nat),oH g b d k i a=(⟨some (g,b),some d,k,i,a⟩:oM))∧(∀(n:Nat),oV n=(.oO (.t n):I))∧(∀(n:Int),cI n=(.c (.int .i64 n):Src))∧(∀(d n:Nat),oW d n=(⟨none,some d,0,.oO (.t n),[]⟩:oM))∧(mF=(.oO (.c (.bool false)):I))∧(mT=(.oO (.c (.bool true)):I))∧(mN=(.oO (.c .jF):I))∧(∀(n a:Nat),lT n a=(.load n true (.t a):I))∧(∀(n a:Nat),lF n a=(.load n false (.t a):I))∧(∀(n a b:Nat),ix n a b=(.idx n (.t a) (.t b):I))∧(∀(a:Nat),ln a=(.len (.t a):I))∧(∀(n a:Nat),fd n a=(.fld n (.t a):I))∧(∀(n a:Nat),ex n a=(.VP n (.t a):I))∧(∀(a:Nat),nt a=(.un .not (.t a):I))∧(∀(o:BinOp),∀(a b:Nat),bt o a b=(.bin o (.t a) (.t b):I))∧(∀(o:BinOp),∀(a:Nat),∀(n:Int),bc o a n=(.bin o (.t a) (.c (.int .i64 n)):I))∧(∀(a:Nat),∀(c e:C),cd a c e=(.cond (.t a) c e:C))∧(∀(n:Nat),∀(l:List oM),rf n l=(.reg false n l:C))∧(∀(n:Nat),∀(l:List oM),rt n l=(.reg true n l:C))∧(∀(l:List oM),rg l=(.reg false 0 l:C))∧(∀(l:List oM),∀(c:C),sr l c=(.seq (.reg false 0 l) c:C))∧(vN=([.bool false,.jF,.jF]:List V))∧(I9=([.int .i64 0]:List V))∧(J7=([.int .i64 0,.int .i64 0,.bool false,.jF,.jF,.bool false,.jF,.jF,.bool false,.jF,.jF]:List V))∧(Zi=([.int .i64 0,.bool false,.jF,.jF,.jF]:List V))∧(zz4=([.bool false,.jF]:List V))∧(zz5=([.int .i64 0,.bool false,.jF,.jF,.bool false,.jF,.jF,.bool false,.jF,.jF]:List V))∧(zz6=([.bool false,.jF,.jF,.bool false,.jF,.jF]:List V))∧(zz7=([.bool false,.bool false,.bool false,.bool false,.bool false,.bool false,.bool false,.bool false,.bool false,.bool false,.bool false,.bool false,.bool false,.bool false,.bool false,.bool false,.bool false,.bool false,.bool false,.bool false,.bool false,.bool false,.bool false,.bool false,.bool false,.bool false,.bool false,.bool false,.bool false,.bool false,.bool false,.bool false,.bool false,.bool false,.bool false,.bool false,.bool false,.bool false,.bool false,.bool false,.bool false,.bool false,.bool false,.bool false,.bool false,.bool false,.bool false,.bool false,.bool false,.bool false,.bool false,.bool false,.bool false,.bool false,.bool false,.bool false,.bool false,.bool false,.bool false,.bool false,.bool false,.bool false,.bool false,.bool false,.bool false,.bool false,.bool false,.bool false,.bool false,.bool false,.bool false,.bool false,.bool false,.bool false,.bool false,.bool false,.bool false,.bool false,.bool false,.bool false,.bool false,.bool false,.bool false,.bool false,.bool false,.bool false,.bool false,.bool false,.bool false,.bool false,.bool false,.bool false,.bool false,.bool false,.bool false,.bool false,.bool false,.bool false,.bool false,.bool false]:List V))∧(nR=fun _ _=>false)∧(∀f:Nat,cl f []=.call f [])∧(∀f a:Nat,cl f [a]=.call f [.t a])∧(∀f a b:Nat,cl f [a,b]=.call f [.t a,.t b])∧(∀f a b c:Nat,cl f [a,b,c]=.call f [.t a,.t b,.t c])∧(∀f a b c d:Nat,cl f [a,b,c,d]=.call f [.t a,.t b,.t c,.t d])∧(∀f a b c d e:Nat,cl f [a,b,c,d,e]=.call f [.t a,.t b,.t c,.t d,.t e])∧(∀f a b c d e f:Nat,cl f [a,b,c,d,e,f]=.call f [.t a,.t b,.t c,.t d,.t e,.t f])∧(∀f a b c d e f g:Nat,cl f [a,b,c,d,e,f,g]=.call f [.t a,.t b,.t c,.t d,.t e,.t f,.t g])∧(∀f a b c d e f g h:Nat,cl f [a,b,c,d,e,f,g,h]=.call f [.t a,.t b,.t c,.t d,.t e,.t f,.t g,.t h]) :=
 ⟨fun _ _=>rfl,fun _=>rfl,fun _ _ _ _=>rfl,fun _ _ _=>rfl,fun _ _ _ _=>rfl,fun _ _ _ _ _ _=>rfl,fun _=>rfl,fun _=>rfl,fun _ _=>rfl,rfl,rfl,rfl,fun _ _=>rfl,fun _ _=>rfl,fun _ _ _=>rfl,fun _=>rfl,fun _ _=>rfl,fun _ _=>rfl,fun _=>rfl,fun _ _ _=>rfl,fun _ _ _=>rfl,fun _ _ _=>rfl,fun _ _=>rfl,fun _ _=>rfl,fun _=>rfl,fun _ _=>rfl,rfl,rfl,rfl,rfl,rfl,rfl,rfl,rfl,rfl,fun _=>rfl,fun _ _=>rfl,fun _ _ _=>rfl,fun _ _ _ _=>rfl,fun _ _ _ _ _=>rfl,fun _ _ _ _ _ _=>rfl,fun _ _ _ _ _ _ _=>rfl,fun _ _ _ _ _ _ _ _=>rfl,fun _ _ _ _ _ _ _ _ _=>rfl⟩
end Go.Ml
namespace Go.Ml
theorem EJ{l:List V}{env:Nat→V}(h:J4 l 0 env:=by (try (refine ev ?_;try with_reducible exact True.intro))<;>(repeat' (first|refine⟨?_,?_⟩|exact Jh (by omega)|exact Lc (by simp)|exact He _))):J4 l 0 env:=h
end Go.Ml
section
namespace Go.Ml
def slV:Nat→V
 |0=>.jF
 |n+1=>.kQ 0 0 (n+1)
def Zj(n:Nat):List (List V)→Store
 | []=>[]
 |r::rs=>[some ⟨n,r::rs⟩]
theorem Ag:slV 0=.jF:=nr rfl
theorem yP(n:Nat):slV (n+1)=.kQ 0 0 (n+1):=nr rfl
theorem ah7(n:Nat)(rows:List (List V))(r:List V):Zj n (rows++[r])=[some ⟨n,rows++[r]⟩]:=by cases rows<;>rfl
theorem O9{vs:List V}{env:Nat→V}{σ:Store}{b1 b2 n k:Nat}{r1 r2 m1 m2:List Nat}{rows:List (List V)}{r:List V}(hs:l9 (rows++[r]))
  (h:iZ σ k=some ⟨n,rows++[r]⟩) (he:Hy [some (k,0,rows.length+1)] σ vs 0 env):Fg ⟨lS vs,Zj n (rows++[r]),0,b1,r1,m1⟩ ⟨env,σ,0,b2,r2,m2⟩:=by
 rw [ah7];refine Fh [(k,⟨n,rows++[r]⟩)] (by simp) ?_ rfl (by simpa using he);intro p hp;simp only [aH,bP,or_false]at hp;subst hp;exact⟨h,hs⟩
theorem IU{σ:Store}{k l n m:Nat}(hl:l≤m)(e:n=l)(h0:0<n):KC [some (k,0,m)] σ (slV n) (.kQ k 0 l):=by
 subst e;obtain⟨j,rfl⟩:∃j,n=j+1:=⟨n-1,by omega⟩;rw [yP];exact lD rfl hl rfl
theorem jZ{T:Tb}{f:Nat}{F:Fn}{args:List V}{r:V}(rf:Nat→Nat→Bool)(hT:T f=some F)
  (h:wp T rf F.body (fun e st=>alR F.res e (lU r) st) (St.enter args [])) (hl:args.length=F.nargs:=by rfl) (hk:F.body.ZI=true:=by rfl):PF T f args r:=by
 obtain⟨e,st',h1,h2⟩:=AA hk h;have h3:(e=.normal∨e=.ret)∧KA F.res [] st' (lU r):=by
  cases e with
  |normal=>exact⟨.inl rfl,h2⟩
  |ret=>exact⟨.inr rfl,h2⟩
  |exit id=>exact h2.elim
 obtain⟨he,h3⟩:=h3;have:=QF _ _ h3;obtain⟨rs,e1,h4⟩:=kV this;obtain⟨r',e2,h5⟩:=kV h4;exact .abG (yj _) (.WL (.fn hT hl h1 he e1) e2) h5
theorem ah8(q:IntKind)(a b:Int):lU (.int q a) (.int q b)=(b=a):=by simp [lU]
theorem MI(a b:Bool):lU (.bool a) (.bool b)=(b=a):=by simp [lU]
theorem oC(sz:Nat):lU (.sl sz []) .jF=True:=by simp [lU]
theorem Pg(xs ys:List V):lU (.agg xs) (.agg ys)=uJ xs ys:=by simp [lU]
theorem Ux:uJ [] []=True:=by simp [uJ]
theorem Uy(x y:V)(xs ys:List V):uJ (x::xs) (y::ys)=(lU x y∧uJ xs ys):=by
 simp only [uJ,List.cons.injEq];exact propext ⟨fun ⟨_,_,⟨e1,e2⟩,h1,h2⟩=>by subst e1;subst e2;exact⟨h1,h2⟩,fun ⟨h1,h2⟩=>⟨y,ys,⟨rfl,rfl⟩,h1,h2⟩⟩
theorem amH{T:Tb}{f:Nat}{as as':List V}{k:V→Prop}{r:V}(h:PF T f as' r)(ha:uJ as' as)(hk:k r):PFK T f as k:=⟨r,h.lax ha (jP r),hk⟩
theorem sO(l:List Int)(d:Int):jR l++[[V.int .i64 d]]=jR (l++[d]):=by simp [jR]
theorem acn{l:List Int}:jR l=[]↔l=[]:=by simp [jR]
theorem nV:Zj 1 (jR [])=[]:=rfl
theorem lY(x:Int)(l:List Int):Zj 1 (jR (x::l))=[some ⟨1,jR (x::l)⟩]:=rfl
theorem Ew(l:List Int)(d:Int):l9 (jR l++[[V.int .i64 d]]):=by rw [sO];exact oz _
theorem afR:jR []=[]:=rfl
theorem Uz(x:Int)(l:List Int):jR (x::l)=[V.int .i64 x]::jR l:=rfl
theorem QI{t:Int}(h:0≤t):t.tmod 1000000000=t % 1000000000:=gQ h
theorem QJ{t:Int}(h:0≤t):t.tdiv 1000000000=t / 1000000000:=eU h
theorem ah9{N i va vb va' vb':Nat}{xs:List Int}{c x y:Int}(hl:xs.length=i)(hc:0≤c)(hx:0≤x)(hy:0≤y)
  (h:val xs+1000000000 ^ i*(c.toNat+va+vb)=N) (ha:va=x.toNat+1000000000*va') (hb:vb=y.toNat+1000000000*vb') :
  val (xs++[(c+x+y) % 1000000000])+1000000000 ^ (i+1)*(((c+x+y) / 1000000000).toNat+va'+vb')=N:=by
 rw [wF,hl,iC];have e:c.toNat+va+vb=((c+x+y) % 1000000000).toNat+1000000000*(((c+x+y) / 1000000000).toNat+va'+vb'):=by omega
 rw [e,iL,←fA]at h;omega
theorem Z9{vx va vb p x y d bo bo':Nat}(h:vx+vb=va+bo*p)(hd:d+y+bo=x+bo'*1000000000) :
  (vx+p*d)+(vb+p*y)=(va+p*x)+bo'*(p*1000000000):=by
 have e:=congrArg (fun z=>p*z) hd;simp only [iL]at e;have e1:p*bo=bo*p:=dw _ _;have e2:p*(bo'*1000000000)=bo'*(p*1000000000):=by rw [←fA,dw p bo',fA]
 omega
theorem V5{l:List Int}{i:Nat}{d:Int}(h:i<l.length):(l.set i d).take (i+1)=l.take i++[d]:=by
 rw [nH (by simpa using h)]
 congr 1
 ·rw [List.take_set,List.set_eq_of_length_le (by simp;omega)]
 simp [aj,h]
theorem aad{vp vp' V0 a p q pb x y:Nat}{c t:Nat}
  (h:vp+c*(p*q)=V0+a*(p*pb)) (hs:vp'+(p*q)*x=vp+(p*q)*(t % 1000000000)) (ht:t=c+x+a*y) :
  vp'+t / 1000000000*(p*(q*1000000000))=V0+a*(p*(pb+q*y)):=by
 have e1:(p*q)*(t % 1000000000)+t / 1000000000*(p*(q*1000000000))=(p*q)*t:=by
  have:t / 1000000000*(p*(q*1000000000))=(p*q)*(1000000000*(t / 1000000000)):=by
   rw [←fA p q,dw (t / 1000000000),fA]
  rw [this,←iL]
  congr 1
  omega
 have e2:(p*q)*t=(p*q)*c+(p*q)*x+(p*q)*(a*y):=by rw [ht,iL,iL]
 have e3:a*(p*(pb+q*y))=a*(p*pb)+(p*q)*(a*y):=by
  rw [iL,iL,←fA p q y]
  congr 1
  rw [←fA,dw a (p*q),fA]
 have e4:c*(p*q)=(p*q)*c:=dw _ _;omega
theorem Jp{a b q r:Nat}(h:a=q*b+r)(hr:r<b):q=a / b∧r=a % b:=by
 have hb:0<b:=by omega
 subst h;constructor
 ·rw [dw,Nat.mul_add_div hb,Nat.div_eq_of_lt hr,gq]
 rw [dw,Nat.mul_add_mod,Nat.mod_eq_of_lt hr]
end Go.Ml
namespace Go.Ml
theorem RH{l:List Int}(i:Nat):val (l.drop i)≤val l:=by
 rw [yO l i];have:val (l.drop i)≤1000000000 ^ (l.take i).length*val (l.drop i):=Nat.le_mul_of_pos_left _ (Nat.pow_pos (by omega));omega
theorem MJ{l:List Int}{i:Nat}(h:i<l.length):l.drop i=l.getD i 0::l.drop (i+1):=by
 rw [bH h,aj,au h];rfl
theorem amI{m n:Nat}{xs:List Int}(hv:val xs=m+n)(hb:Lb xs)(hl:xs.length≤max (mk m).length (mk n).length∨xs.getLast? ≠ some 0):mk (m+n)=xs:=by
 rw [←hv];refine mk_val ⟨hb,?_⟩;rcases hl with hl|hl
 ·refine(afK hb fun hne=>?_).2;have hpos:0<xs.length:=by
   cases xs with
   |nil=>exact absurd rfl hne
   |cons=>simp
  rw [hv];have p1:∀k:Nat,mk k≠[]→1000000000 ^ ((mk k).length-1)≤k:=fun k hk=>by
   have:=ab7 (sN k) hk
   rwa [val_mk]at this
  by_cases hmn:(mk n).length≤(mk m).length
  ·have hm:mk m≠[]:=by intro e;have h0:(mk m).length=0:=(by rw [e];rfl);omega
   have:=p1 m hm;have h2:(1000000000:Nat) ^ (xs.length-1)≤1000000000 ^ ((mk m).length-1):=eG (by omega) (by omega);omega
  have hm:mk n≠[]:=by intro e;have h0:(mk n).length=0:=(by rw [e];rfl);omega
  have:=p1 n hm;have h2:(1000000000:Nat) ^ (xs.length-1)≤1000000000 ^ ((mk n).length-1):=eG (by omega) (by omega);omega
 exact hl
theorem Ph{l:List Int}{i:Nat}(h:l.length≤i):l.getD i 0=0:=by
 rw [aj,aW h];rfl
theorem qp(l:List Int)(i:Nat):val (l.drop i)=(l.getD i 0).toNat+1000000000*val (l.drop (i+1)):=by
 by_cases h:i<l.length
 ·exact ahO h
 rw [lZ (by omega),lZ (by omega),Ph (by omega)];rfl
end Go.Ml
namespace Go.Ml
theorem qE(l:List Int)(i j:Nat)(v:Int):(l.set i v).getD j 0=if i=j∧i<l.length then v else l.getD j 0:=by
 simp only [aj,dP];by_cases h:i=j
 ·subst h;by_cases h2:i<l.length
  ·simp [h2]
  simp [h2,aW (Nat.le_of_not_lt h2)]
 simp [h]
end Go.Ml
namespace Go.Ml
theorem drop_set_self{l:List Int}{i:Nat}{d:Int}(h:i<l.length):(l.set i d).drop i=d::l.drop (i+1):=by
 induction l generalizing i with
 |nil=>simp at h
 |
  cons x l ih =>
  cases i with
  |zero=>simp
  |succ i=>simpa using ih (by simpa using h)
theorem Ah{a b:Nat}:0≤Gm a b↔b≤a:=by
 unfold Gm;by_cases h:a<b
 ·rw [if_pos h];omega
 rw [if_neg h];split<;>omega
theorem mk_one{d:Nat}(h0:0<d)(h1:d<1000000000):mk d=[(d:Int)]:=by
 rw [mk_pos (by omega),Nat.mod_eq_of_lt h1,Nat.div_eq_of_lt h1,mk_zero]
theorem aia{r b:Nat}(hb:0<b)(hle:b≤r)(hlt:r<b*1000000000) :
  (mk b).length≤(mk r).length∧(mk r).length≤(mk b).length+1∧0<(mk b).length ∧
  ((mk b).length=1→let d:=val ((mk r).drop 0) / ((mk b).getD 0 0).toNat;0<d∧d<1000000000∧d*b≤r∧0<((mk b).getD 0 0).toNat) ∧
  (let d:=val ((mk r).drop ((mk b).length-1)) / (((mk b).getD ((mk b).length-1) 0).toNat+1);d<1000000000∧d*b≤r):=by
 have hbm:=ahM (n:=b) (by omega);have h1:(mk b).length≤(mk r).length:=by
  have:(mk b).length-1<(mk r).length:=by
   rw [Xg];have:=ab7 (sN b) (by intro e;rw [e]at hbm;simp at hbm);rw [val_mk]at this;omega
  omega
 have h2:(mk r).length≤(mk b).length+1:=by
  rw [kL,iC];have:=xu (uF b);rw [val_mk]at this;exact aU hlt (dA _ (Nat.le_of_lt this))
 refine⟨h1,h2,hbm,?_,?_⟩
 ·intro hm;have eb:((mk b).getD 0 0).toNat=b:=by
   have h3:=qp (mk b) 0;rw [bY,val_mk,lZ (by omega)]at h3;omega
  rw [bY,val_mk,eb];refine⟨Nat.div_pos hle hb,iJ (by omega),Nat.div_mul_le_self r b,hb⟩
 have er:=yO (mk r) ((mk b).length-1);have eb:=yO (mk b) ((mk b).length-1);rw [val_mk]at er eb;have l1:((mk r).take ((mk b).length-1)).length=(mk b).length-1:=by simp;omega
 have l2:((mk b).take ((mk b).length-1)).length=(mk b).length-1:=by simp
 rw [l1]at er;rw [l2]at eb;have ed:=qp (mk b) ((mk b).length-1);rw [show (mk b).length-1+1=(mk b).length by omega,lZ (aJ _)]at ed;have hlo:=xu (Yd (uF b) ((mk b).length-1));rw [l2]at hlo;generalize hP:1000000000 ^ ((mk b).length-1)=P at *;generalize hT:val ((mk r).drop ((mk b).length-1))=t at *;generalize hB:((mk b).getD ((mk b).length-1) 0).toNat=bt at *;have hd:=Nat.div_mul_le_self t (bt+1);generalize hq:t / (bt+1)=d at *;have hbb:b≤P*(bt+1):=by rw [Nat.mul_succ];rw [ed]at eb;simp only [jT,gq]at eb;omega
 have key:d*b≤r:=by
  have s1:d*b≤d*(P*(bt+1)):=Nat.mul_le_mul_left _ hbb;have s2:d*(P*(bt+1))=P*(d*(bt+1)):=by rw [Nat.mul_left_comm]
  have s3:P*(d*(bt+1))≤P*t:=Nat.mul_le_mul_left _ hd;omega
 refine⟨?_,key⟩;have:d*b<1000000000*b:=by rw [dw 1000000000];omega
 exact Nat.lt_of_mul_lt_mul_right this
def FB:Fn:=⟨1,33,[.tmp 2],(sr [oN 2 mF] (.seq (sr [oW 5 0,oN 6 (ln 5),oN 7 (bc .gtr 6 60)] (cd 7 (sr [oN 2 mF] .ret) .skip)) (.seq (sr [oW 8 0,oN 9 (ln 8),oN 10 (.oO (cI 0))] (.block 0 (.loop (sr [oN 11 (bt .lss 10 9)] (.seq (cd 11 .skip (.exit 0)) (.seq (.block 1 (sr [oN 12 (ix 1 8 10),oN 13 (lF 1 12),oW 4 13] (sr [oW 14 4,oN 15 (bc .lss 14 0),oW 16 15,oG 16 false 17 (oV 4),oG 16 false 18 (bc .geq 17 1000000000),oN 19 (.pick (.t 16) (.c (.bool true)) (.t 18))] (cd 19 (sr [oN 2 mF] .ret) .skip)))) (rg [oN 20 (bc .add 10 1),oW 10 20]))))))) (sr [oW 21 0,oN 22 (ln 21),oN 23 (bc .eql 22 0),oW 24 23,oG 24 false 25 (oV 0),oG 24 false 26 (oV 0),oG 24 false 27 (ln 26),oG 24 false 28 (bc .sub 27 1),oG 24 false 29 (ix 1 25 28),oG 24 false 30 (lF 1 29),oG 24 false 31 (bc .neq 30 0),oN 32 (.pick (.t 24) (.c (.bool true)) (.t 31)),oW 2 32] .ret))))⟩
structure FC (T:Tb):Prop where
 hT:T 126=some FB
def uU:Fn:=⟨1,16,[.tmp 2],(sr [oN 2 mN] (.seq (rf 1 [oN 4 (.oI 1 I9 0 []),oK 3 1 (oV 4)]) (.seq (.block 0 (.loop (.seq (sr [oW 5 0,oN 6 (.bin .gtr (.t 5) (.c (.int .u64 0)))] (cd 6 .skip (.exit 0))) (.block 1 (.seq (rf 2 [oK 7 2 (oV 3),oK 8 2 (oV 0),oK 9 2 (.bin .rem (.t 8) (.c (.int .u64 1000000000))),oK 10 2 (.conv .i64 (.t 9)),oN 11 (.oI 1 I9 1 [(0,(.t 10))]),oK 12 1 (.app 1 8 (.t 7) (.t 11)),oK 3 2 (oV 12)]) (rg [oW 13 0,oN 14 (.bin .quo (.t 13) (.c (.int .u64 1000000000))),oW 0 14])))))) (sr [oW 15 3,oW 2 15] .ret))))⟩
structure sH (T:Tb):Prop where
 hT:T 69=some uU
def Dn:Fn:=⟨2,41,[.tmp 4],(sr [oN 4 (.oO (cI 0))] (.seq (sr [oW 6 0,oN 7 (ln 6),oW 8 1,oN 9 (ln 8),oN 10 (bt .lss 7 9)] (cd 10 (sr [oN 4 (.oO (cI (-1)))] .ret) .skip)) (.seq (sr [oW 11 0,oN 12 (ln 11),oW 13 1,oN 14 (ln 13),oN 15 (bt .gtr 12 14)] (cd 15 (sr [oN 4 (.oO (cI 1))] .ret) .skip)) (.seq (sr [oW 16 0,oN 17 (ln 16),oN 18 (bc .sub 17 1),oW 5 18] (.block 0 (.loop (.seq (sr [oW 19 5,oN 20 (bc .geq 19 0)] (cd 20 .skip (.exit 0))) (.seq (.block 1 (.seq (.seq (rt 0 [oW 23 0,oW 24 5,oA 25 0 (ix 1 23 24) [0,1],oA 26 0 (lF 1 25) [2],oW 27 1,oW 28 5,oA 29 0 (ix 1 27 28) [4,5],oA 30 0 (lF 1 29) [6],oA 31 0 (bt .lss 26 30) [3,7]]) (cd 31 (sr [oN 4 (.oO (cI (-1)))] .ret) .skip)) (.seq (rt 0 [oW 32 0,oW 33 5,oA 34 0 (ix 1 32 33) [0,1],oA 35 0 (lF 1 34) [2],oW 36 1,oW 37 5,oA 38 0 (ix 1 36 37) [4,5],oA 39 0 (lF 1 38) [6],oA 40 0 (bt .gtr 35 39) [3,7]]) (cd 40 (sr [oN 4 (.oO (cI 1))] .ret) .skip)))) (rg [oW 21 5,oN 22 (bc .sub 21 1),oW 5 22])))))) (sr [oN 4 (.oO (cI 0))] .ret)))))⟩
structure yQ (T:Tb):Prop where
 hT:T 152=some Dn
def xM:Fn:=⟨1,21,[.tmp 2],(sr [oN 2 mN] (sr [oW 4 0,oN 5 (ln 4),oW 3 5] (.seq (.block 0 (.loop (.seq (sr [oW 6 3,oN 7 (bc .gtr 6 0),oW 8 7,oG 8 true 9 (oV 0),oG 8 true 10 (oV 3),oG 8 true 11 (bc .sub 10 1),oG 8 true 12 (ix 1 9 11),oG 8 true 13 (lF 1 12),oG 8 true 14 (bc .eql 13 0),oN 15 (.pick (.t 8) (.t 14) (.c (.bool false)))] (cd 15 .skip (.exit 0))) (.block 1 (rg [oW 16 3,oN 17 (bc .sub 16 1),oW 3 17]))))) (sr [oW 18 0,oW 19 3,oN 20 (.slice 1 (.t 18) none (some (.t 19))),oW 2 20] .ret))))⟩
structure uV (T:Tb):Prop where
 hT:T 151=some xM
def Dp:Fn:=⟨2,53,[.tmp 4],(sr [oN 4 mN] (.seq (rf 1 [oN 8 (.oI 1 I9 0 []),oK 5 1 (oV 8)]) (sr [oN 6 (.oO (cI 0))] (.seq (sr [oN 7 (.oO (cI 0))] (.block 0 (.loop (.seq (sr [oW 9 7,oW 10 0,oN 11 (ln 10),oN 12 (bt .lss 9 11),oW 13 12,oG 13 false 14 (oV 7),oG 13 false 15 (oV 1),oG 13 false 16 (ln 15),oG 13 false 17 (bt .lss 14 16),oN 18 (.pick (.t 13) (.c (.bool true)) (.t 17)),oW 19 18,oG 19 false 20 (oV 6),oG 19 false 21 (bc .gtr 20 0),oN 22 (.pick (.t 19) (.c (.bool true)) (.t 21))] (cd 22 .skip (.exit 0))) (.seq (.block 1 (.seq (sr [oW 25 7,oW 26 0,oN 27 (ln 26),oN 28 (bt .lss 25 27)] (cd 28 (rg [oW 29 6,oW 30 0,oW 31 7,oN 32 (ix 1 30 31),oN 33 (lF 1 32),oN 34 (bt .add 29 33),oW 6 34]) .skip)) (.seq (sr [oW 35 7,oW 36 1,oN 37 (ln 36),oN 38 (bt .lss 35 37)] (cd 38 (rg [oW 39 6,oW 40 1,oW 41 7,oN 42 (ix 1 40 41),oN 43 (lF 1 42),oN 44 (bt .add 39 43),oW 6 44]) .skip)) (.seq (rf 2 [oK 45 2 (oV 5),oK 46 2 (oV 6),oK 47 2 (bc .rem 46 1000000000),oN 48 (.oI 1 I9 1 [(0,(.t 47))]),oK 49 1 (.app 1 8 (.t 45) (.t 48)),oK 5 2 (oV 49)]) (rg [oW 50 6,oN 51 (bc .quo 50 1000000000),oW 6 51]))))) (rg [oW 23 7,oN 24 (bc .add 23 1),oW 7 24])))))) (sr [oW 52 5,oW 4 52] .ret)))))⟩
structure HY (T:Tb):Prop where
 hT:T 160=some Dp
def Dq:Fn:=⟨2,44,[.tmp 4],(sr [oN 4 mN] (.seq (rf 1 [oK 9 1 (oV 0),oK 10 1 (ln 9),oN 11 (.make I9 8 (.t 10)),oK 5 1 (oV 11)]) (sr [oN 6 (.oO (cI 0))] (.seq (sr [oW 12 0,oN 13 (ln 12),oN 14 (.oO (cI 0))] (.block 0 (.loop (sr [oN 15 (bt .lss 14 13)] (.seq (cd 15 .skip (.exit 0)) (.seq (.block 1 (sr [oW 16 14,oW 7 16] (sr [oW 17 0,oW 18 7,oN 19 (ix 1 17 18),oN 20 (lF 1 19),oW 21 6,oN 22 (bt .sub 20 21),oW 8 22] (.seq (sr [oW 23 7,oW 24 1,oN 25 (ln 24),oN 26 (bt .lss 23 25)] (cd 26 (rg [oW 27 8,oW 28 1,oW 29 7,oN 30 (ix 1 28 29),oN 31 (lF 1 30),oN 32 (bt .sub 27 31),oW 8 32]) .skip)) (sr [oN 6 (.oO (cI 0))] (.seq (sr [oW 33 8,oN 34 (bc .lss 33 0)] (cd 34 (sr [oW 35 8,oN 36 (bc .add 35 1000000000),oW 8 36] (rg [oN 6 (.oO (cI 1))])) .skip)) (rg [oW 37 5,oW 38 7,oW 39 8,oN 40 (ix 1 37 38),oS (.store 1 (.t 40) (.t 39))]))))))) (rg [oN 41 (bc .add 14 1),oW 14 41]))))))) (sr [oW 42 5,oN 43 (cl 151 [42]),oW 4 43] .ret)))))⟩
structure Dt (T:Tb):Prop where
 hT:T 154=some Dq
 qN:uV T
def Du:Fn:=⟨2,71,[.tmp 4],(sr [oN 4 mN] (.seq (sr [oW 9 0,oN 10 (ln 9),oN 11 (bc .eql 10 0),oW 12 11,oG 12 false 13 (oV 1),oG 12 false 14 (ln 13),oG 12 false 15 (bc .eql 14 0),oN 16 (.pick (.t 12) (.c (.bool true)) (.t 15))] (cd 16 (sr [oN 4 mN] .ret) .skip)) (.seq (rf 1 [oK 17 1 (oV 0),oK 18 1 (ln 17),oK 19 1 (oV 1),oK 20 1 (ln 19),oK 21 1 (bt .add 18 20),oN 22 (.make I9 8 (.t 21)),oK 5 1 (oV 22)]) (.seq (sr [oW 23 0,oN 24 (ln 23),oN 25 (.oO (cI 0))] (.block 0 (.loop (sr [oN 26 (bt .lss 25 24)] (.seq (cd 26 .skip (.exit 0)) (.seq (.block 1 (sr [oW 27 25,oW 6 27] (sr [oN 7 (.oO (cI 0))] (.seq (sr [oW 28 1,oN 29 (ln 28),oN 30 (.oO (cI 0))] (.block 2 (.loop (sr [oN 31 (bt .lss 30 29)] (.seq (cd 31 .skip (.exit 2)) (.seq (.block 3 (sr [oW 32 30,oW 8 32] (.seq (rt 0 [oW 33 7,oW 34 5,oW 35 6,oW 36 8,oA 37 0 (bt .add 35 36) [2,3],oA 38 0 (ix 1 34 37) [1,4],oA 39 0 (lF 1 38) [5],oW 40 0,oW 41 6,oA 42 0 (ix 1 40 41) [7,8],oA 43 0 (lF 1 42) [9],oW 44 1,oW 45 8,oA 46 0 (ix 1 44 45) [11,12],oA 47 0 (lF 1 46) [13],oA 48 0 (bt .mul 43 47) [10,14],oA 49 0 (bt .add 39 48) [6,15],oA 50 0 (bt .add 33 49) [0,16],oA 7 0 (oV 50) [17,0,1,2,3,4,5,6,7,8,9,10,11,12,13,14,15,16,17]]) (sr [oW 51 5,oW 52 6,oW 53 8,oN 54 (bt .add 52 53),oW 55 7,oN 56 (bc .rem 55 1000000000),oN 57 (ix 1 51 54),oS (.store 1 (.t 57) (.t 56))] (rg [oW 58 7,oN 59 (bc .quo 58 1000000000),oW 7 59]))))) (rg [oN 60 (bc .add 30 1),oW 30 60]))))))) (rg [oW 61 5,oW 62 6,oW 63 1,oN 64 (ln 63),oN 65 (bt .add 62 64),oW 66 7,oN 67 (ix 1 61 65),oS (.store 1 (.t 67) (.t 66))]))))) (rg [oN 68 (bc .add 25 1),oW 25 68]))))))) (sr [oW 69 5,oN 70 (cl 151 [69]),oW 4 70] .ret)))))⟩
structure Dv (T:Tb):Prop where
 hT:T 155=some Du
 qN:uV T
def zl:Fn:=⟨1,20,[.tmp 2],(sr [oN 2 (.oO (cI 0))] (sr [oN 3 (.oO (cI 0))] (.seq (sr [oW 5 0,oN 6 (ln 5),oN 7 (bc .sub 6 1),oW 4 7] (.block 0 (.loop (.seq (sr [oW 8 4,oN 9 (bc .geq 8 0)] (cd 9 .skip (.exit 0))) (.seq (.block 1 (rg [oW 12 3,oN 13 (bc .mul 12 1000000000),oW 14 0,oW 15 4,oN 16 (ix 1 14 15),oN 17 (lF 1 16),oN 18 (bt .add 13 17),oW 3 18])) (rg [oW 10 4,oN 11 (bc .sub 10 1),oW 4 11])))))) (sr [oW 19 3,oW 2 19] .ret))))⟩
structure zn (T:Tb):Prop where
 hT:T 137=some zl
theorem qW{p:Prop}(h:p:=by
 first|omega|assumption|(simp;omega)):p:=h
theorem IV{T:Tb}(h:uV T){l:List Int}(hl:l.length≤1048576:=by exact qW):PF T 151 [ints l] (ints (trim l)):=by
 refine kR nR h.hT ?_;simp only [xM,Lz];refine ev ?_;refine jX (fun _ _=>false) (α:=Nat) (fun n=>⟨lS [ints l,.any,.any,iv (n:Nat)],[],0,0,[],[]⟩) (fun n=>n≤l.length∧vK l l.length=vK l n) (fun n=>n) rfl l.length ?_ ?_ ?_
 ·exact⟨by omega,rfl⟩
 ·(refine jS ?_;exact EJ)
 rintro n ⟨hn,ht⟩;refine ev ?_;refine jW (fun hb=>?_) fun hb=>?_<;>(refine ev1 @hb ?_;try with_reducible exact True.intro)
 ·obtain⟨m,rfl⟩:∃m,n=m+1:=⟨n-1,by omega⟩;have e1:((m+1:Nat):Int)-1=(m:Nat):=by omega
  refine ev1 @e1 ?_;refine jW (fun hc=>?_) fun hc=>?_<;>(refine ev1 @hc ?_;try with_reducible exact True.intro)
  ·refine⟨m,by omega,⟨by omega,?_⟩,by (refine jS ?_;exact EJ)⟩;rw [ht];simp only [vK,hc,if_true]
  rw [trim,ht];simp only [vK,hc,if_false]
 have:n=0:=by omega
 subst this;rw [trim,ht];simp [vK,jR]
theorem aco{a b:St}(h:Fg a b:=by
 (refine Fh [] (by simp) (by intro p hp;cases hp) rfl ?_)<;>(try (refine ev ?_;try with_reducible exact True.intro))<;>(repeat' (first|exact True.intro|omega|exact qM rfl (by simp)|refine⟨?_,?_⟩|exact of_eq_true (rJ _ _ _)|exact lK rfl (by simp;done)|exact lK rfl rfl|(refine lD rfl ?_ rfl;simp [jR];done)|(refine lD rfl ?_ rfl;simp [jR];omega)|(refine rM ?_ ?_;(focus ((refine ev ?_;try with_reducible exact True.intro);done));(intro q hq k s0 l0;simp;done))))):Fg a b:=h
theorem Oa{a b:St}(h:Fg a b:=by
 first|((refine jS ?_;exact EJ);done)|((refine Fh [] (by simp) (by intro p hp;cases hp) rfl ?_)<;>(try (refine ev ?_;try with_reducible exact True.intro))<;>(repeat' (first|exact True.intro|omega|exact qM rfl (by simp)|refine⟨?_,?_⟩|exact of_eq_true (rJ _ _ _)|exact lK rfl (by simp;done)|exact lK rfl rfl|(refine lD rfl ?_ rfl;simp [jR];done)|(refine lD rfl ?_ rfl;simp [jR];omega)|(refine rM ?_ ?_;(focus ((refine ev ?_;try with_reducible exact True.intro);done));(intro q hq k s0 l0;simp;done))));done)):Fg a b:=h
theorem Pj{a b:St}(h:Fg a b:=by
 (simp only [←sO];refine O9 (k:=1) (Ew _ _) rfl ?_;(try (refine ev ?_;try with_reducible exact True.intro));(repeat' (first|exact True.intro|omega|exact IU (by simp) (by simp) (by simp)|refine⟨?_,?_⟩|exact lK rfl (by simp))))):Fg a b:=h
theorem Nk{a b:St}(h:Fg a b:=by
 (simp only [←sO];refine O9 (k:=2) (Ew _ _) rfl ?_;(try (refine ev ?_;try with_reducible exact True.intro));(repeat' (first|exact True.intro|omega|exact IU (by simp) (by simp) (by simp)|refine⟨?_,?_⟩|exact lK rfl (by simp))))):Fg a b:=h
theorem xO{T:Tb}(h:sH T){n:Int}(hn:0≤n∧n<18446744073709551616:=by exact qW):PF T 69 [.int .u64 n] (ints (mk n.toNat)):=by
 have hlen:(mk n.toNat).length≤3:=kL.2 (by omega);refine jZ nR h.hT ?_;simp only [uU,Lz];refine ev ?_;refine jX (fun _ _=>false) (α:=Nat×List Int) (fun q=>⟨lS [.int .u64 (q.1:Nat),.any,.any,slV q.2.length],Zj 1 (jR q.2),0,0,[],[]⟩) (fun q=>q.2++mk q.1=mk n.toNat∧q.1≤n.toNat) (fun q=>q.1) rfl (n.toNat,[]) ?_ ?_ ?_
 ·exact⟨rfl,aJ _⟩
 ·exact Oa
 rintro⟨m,xs⟩ ⟨hm,hle⟩;dsimp only at hm hle;have hx:xs.length≤3:=by
  have:=congrArg List.length hm;simp at this;omega
 have e1:((m:Int).tmod 1000000000)=((m % 1000000000:Nat):Int):=by rw [QI (by omega)];omega
 have e2:((m:Int).tdiv 1000000000)=((m / 1000000000:Nat):Int):=by rw [QJ (by omega)];omega
 have key:0<m→(xs++[((m % 1000000000:Nat):Int)])++mk (m / 1000000000)=mk n.toNat:=fun h=>by
  rw [←hm,mk_pos (n:=m) (by omega)];simp
 (rcases xs with _|⟨x,xs⟩<;>simp only [aC,ak,Ag,yP,nV,lY]at hx ⊢)
 ·refine ev ?_;refine jW (fun hb=>?_) fun hb=>?_<;>(refine Gp @hb @e1 @e2 ?_;try with_reducible exact True.intro)
  ·exact⟨by omega,(m / 1000000000,[]++[((m % 1000000000:Nat):Int)]),by dsimp only;omega,⟨key (by omega),by dsimp only;omega⟩,by exact Pj⟩
  have e:mk n.toNat=[]:=by rw [←hm,show m=0 by omega,mk_zero];rfl
  rw [e];exact(oC 1▸trivial)
 refine ev ?_;refine jW (fun hb=>?_) fun hb=>?_<;>(refine Gp @hb @e1 @e2 ?_;try with_reducible exact True.intro)
 ·refine⟨by omega,(m / 1000000000,(x::xs)++[((m % 1000000000:Nat):Int)]),by dsimp only;omega,⟨key (by omega),by dsimp only;omega⟩,by exact Nk⟩
 have e:x::xs=mk n.toNat:=by rw [←hm,show m=0 by omega,mk_zero];simp
 rw [←e];exact jP _
theorem ad6{T:Tb}(h:FC T){l:List Int}(hl:l.length≤9223372036854775807:=by exact qW):PF T 126 [ints l] (.bool (wG l)):=by
 refine kR nR h.hT ?_;simp only [FB,Lz];refine ev ?_;refine jW (fun h1=>?_) fun h1=>?_<;>(refine ev1 @h1 ?_;try with_reducible exact True.intro)
 ·simp [wG];intro h2;omega
 refine jX (fun _ _=>false) (α:=Nat) (fun i=>⟨lS [ints l,.any,.any,.any,.any,.any,.any,.any,ints l,iv (l.length:Nat),iv (i:Nat)],[],0,0,[],[]⟩) (fun i=>i≤l.length∧∀j,j<i→0≤l.getD j 0∧l.getD j 0<1000000000) (fun i=>l.length-i) rfl 0 ?_ ?_ ?_
 ·exact⟨by omega,by intro j hj;omega⟩
 ·(refine jS ?_;exact EJ)
 rintro i ⟨hi,hj⟩;refine ev ?_;refine jW (fun h2=>?_) fun h2=>?_<;>(refine ev1 @h2 ?_;try with_reducible exact True.intro)
 ·have bad:¬(0≤l.getD i 0∧l.getD i 0<1000000000)→wG l=false:=fun hn=>by
   have:¬wG l=true:=fun e=>by
    have hc:=(MH.1 e).2.1;exact hn (uG hc i)
   simpa using this
  repeat' (first|((refine jW (fun hb=>?_) fun hb=>?_)<;>(try (refine ev1 @hb ?_;try with_reducible exact True.intro))))
  all_goals first
   |(rw [bad (by omega)];done)
   |(
     refine⟨i+1,by omega,⟨by omega,fun j hj'=>?_⟩,by (refine jS ?_;exact EJ)⟩;by_cases e:j=i
     ·subst e;omega
     exact hj j (by omega))
 have hi2:i=l.length:=by omega
 subst hi2;have hall:l.all (fun d=>decide (0≤d)&&decide (d<1000000000))=true:=by
  rw [aT];intro d hd;obtain⟨j,hj1,rfl⟩:=List.mem_iff_getElem.1 hd;have:=hj j hj1;rw [aj,au hj1]at this;simpa using this
 repeat' (first|((refine jW (fun hb=>?_) fun hb=>?_)<;>(try (refine ev1 @hb ?_;try with_reducible exact True.intro))))
 ·have:l=[]:=aY (by omega);subst this;rfl
 have e1:((l.length:Nat):Int)-1=((l.length-1:Nat):Int):=by omega
 have e2:((l.length:Int)-1).toNat=l.length-1:=by omega
 have e3:l.isEmpty=false:=by cases l<;>simp_all
 have e4:decide (l.length≤60)=true:=by simp;omega
 unfold wG;rw [hall,e3,e4,e2];simp
theorem Ld{T:Tb}(h:yQ T){a b:List Int}(ha:Can a)(hb:Can b)(la:a.length≤1048576:=by exact qW)(lb:b.length≤1048576:=by exact qW):PF T 152 [ints a,ints b] (iv (Gm (val a) (val b))):=by
 refine kR nR h.hT ?_;simp only [Dn,Lz];refine ev ?_;refine jW (fun h1=>?_) fun h1=>?_<;>(refine ev1 @h1 ?_;try with_reducible exact True.intro)
 ·have:=wM ha.1 hb (by omega);simp [Gm,this]
 refine jW (fun h2=>?_) fun h2=>?_<;>(refine ev1 @h2 ?_;try with_reducible exact True.intro)
 ·have:=wM hb.1 ha (by omega);have h3:¬val a<val b:=by omega
  simp [Gm,this,h3]
 have hl:a.length=b.length:=by omega
 refine jX (fun _ _=>false) (α:=Nat) (fun n=>⟨lS [ints a,ints b,.any,.any,.any,iv ((n:Int)-1)],[],0,0,[],[]⟩) (fun n=>n≤a.length∧a.drop n=b.drop n) (fun n=>n) rfl a.length ?_ ?_ ?_
 ·exact⟨by omega,by rw [dH (by omega),dH (by omega)]⟩
 ·(refine jS ?_;exact EJ)
 rintro n ⟨hn,hd⟩;refine ev ?_;refine jW (fun h3=>?_) fun h3=>?_<;>(refine ev1 @h3 ?_;try with_reducible exact True.intro)
 ·obtain⟨m,rfl⟩:∃m,n=m+1:=⟨n-1,by omega⟩;have e1:((m+1:Nat):Int)-1=(m:Nat):=by omega
  refine ev1 @e1 ?_;refine jW (fun h4=>?_) fun h4=>?_<;>(refine vM @h4 @e1 ?_;try with_reducible exact True.intro)
  ·have:=MG ha.1 hb.1 (i:=m) (by omega) (by omega) hd h4;simp [Gm,this]
  refine jW (fun h5=>?_) fun h5=>?_<;>(refine vM @h5 @e1 ?_;try with_reducible exact True.intro)
  ·have:=MG hb.1 ha.1 (i:=m) (by omega) (by omega) hd.symm h5;have h6:¬val a<val b:=by omega
   simp [Gm,this,h6]
  have e:a.getD m 0=b.getD m 0:=by omega
  refine⟨m,by omega,⟨by omega,?_⟩,by (refine jS ?_;exact EJ)⟩;rw [MJ (by omega),MJ (l:=b) (by omega),e,hd]
 have:n=0:=by omega
 subst this;simp only [bY]at hd;subst hd;simp [Gm]
theorem CU{T:Tb}(h:zn T){n:Nat}(hn:n<1000000000000000000:=by exact qW):PF T 137 [ints (mk n)] (iv (n:Nat)):=by
 have hl:(mk n).length≤2:=kL.2 (by omega);have hv:=val_mk n;refine kR nR h.hT ?_;simp only [zl,Lz];refine ev ?_;refine jX (fun _ _=>false) (α:=Nat) (fun k=>⟨lS [ints (mk n),.any,.any,iv (val ((mk n).drop k):Nat),iv ((k:Int)-1)],[],0,0,[],[]⟩) (fun k=>k≤(mk n).length) (fun k=>k) rfl (mk n).length ?_ ?_ ?_
 ·omega
 ·have e:val ((mk n).drop (mk n).length)=0:=lZ (aJ _);simp only [e]
  (refine jS ?_;exact EJ)
 intro k hk;refine ev ?_;refine jW (fun h3=>?_) fun h3=>?_<;>(refine ev1 @h3 ?_;try with_reducible exact True.intro)
 ·obtain⟨m,rfl⟩:∃m,k=m+1:=⟨k-1,by omega⟩;have e1:((m+1:Nat):Int)-1=(m:Nat):=by omega
  have e2:=qp (mk n) m;have e3:=RH (l:=mk n) m;have e4:=uG (uF n) m;refine ev1 @e1 ?_;exact⟨m,by omega,by omega,by (refine jS ?_;exact EJ)⟩
 have:k=0:=by omega
 subst this;rw [bY,hv]
theorem aib{T:Tb}(h:HY T){m n:Nat}(la:(mk m).length≤1000:=by exact qW)(lb:(mk n).length≤1000:=by exact qW):PF T 160 [ints (mk m),ints (mk n)] (ints (mk (m+n))):=by
 obtain⟨a,hA⟩:∃a,mk m=a:=⟨_,rfl⟩;obtain⟨b,hB⟩:∃b,mk n=b:=⟨_,rfl⟩;have hva:val a=m:=by rw [←hA,val_mk]
 have hvb:val b=n:=by rw [←hB,val_mk]
 have hba:Lb a:=hA▸uF m;have hbb:Lb b:=hB▸uF n;rw [hA]at la ⊢;rw [hB]at lb ⊢;refine jZ nR h.hT ?_;simp only [Dp,Lz];refine ev ?_;refine jX (fun _ _=>false) (α:=Nat×Int×List Int) (fun q=>⟨lS [ints a,ints b,.any,.any,.any,slV q.2.2.length,iv q.2.1,iv (q.1:Nat)],Zj 1 (jR q.2.2),0,0,[],[]⟩) (fun q=>q.2.2.length=q.1∧Lb q.2.2∧(0≤q.2.1∧q.2.1≤1)∧val q.2.2+1000000000 ^ q.1*(q.2.1.toNat+val (a.drop q.1)+val (b.drop q.1))=m+n∧(q.1≤max a.length b.length∨(q.1=max a.length b.length+1∧q.2.1=0∧q.2.2.getLast? ≠ some 0))) (fun q=>max a.length b.length+1-q.1) rfl (0,0,[]) ?_ ?_ ?_
 ·exact⟨rfl,ahN,⟨by dsimp only;omega,by dsimp only;omega⟩,by simp [val,hva,hvb],by dsimp only;omega⟩
 ·exact Oa
 rintro⟨i,c,xs⟩ ⟨hl,hlb,hc,hv,hi⟩;dsimp only at hl hlb hc hv hi;have hi':i≤max a.length b.length∨(i=max a.length b.length+1∧c=0):=hi.imp id fun h=>⟨h.1,h.2.1⟩;have hx:xs.length≤1001:=by omega
 have ea:=qp a i;have eb:=qp b i;have ga:=uG hba i;have gb:=uG hbb i;have step:=ah9 hl hc.1 ga.1 gb.1 hv ea eb;have za:a.length≤i→a.getD i 0=0:=Ph;have zb:b.length≤i→b.getD i 0=0:=Ph;have key:∀t:Int,t=c+a.getD i 0+b.getD i 0→((i:Int)<a.length∨(i:Int)<b.length∨0<c)→∃a':Nat×Int×List Int,a'=(i+1,t.tdiv 1000000000,xs++[t.tmod 1000000000]) ∧
   max a.length b.length+1-a'.1<max a.length b.length+1-i∧(a'.2.2.length=a'.1∧Lb a'.2.2∧(0≤a'.2.1∧a'.2.1≤1)∧val a'.2.2+1000000000 ^ a'.1*(a'.2.1.toNat+val (a.drop a'.1)+val (b.drop a'.1))=m+n ∧
    (a'.1≤max a.length b.length∨(a'.1=max a.length b.length+1∧a'.2.1=0∧a'.2.2.getLast? ≠ some 0))):=by
  intro t ht hor;have ht0:0≤t:=by omega
  refine⟨_,rfl,?_⟩;dsimp only;rw [QI ht0,QJ ht0];refine⟨by omega,by simp [hl],adQ (by omega) (by omega) hlb,⟨by omega,by omega⟩,by rw [ht];exact step,?_⟩;by_cases hlt:i<max a.length b.length
  ·left;omega
  right;have h1:=za (by omega);have h2:=zb (by omega);refine⟨by omega,by omega,?_⟩;intro hlast;rw [List.getLast?_concat]at hlast;have:=Option.some.inj hlast;omega
 have fin:¬((i:Int)<a.length∨(i:Int)<b.length∨0<c)→xs=mk (m+n):=by
  intro hno;have e1:val (a.drop i)=0:=lZ (by omega);have e2:val (b.drop i)=0:=lZ (by omega);rw [e1,e2,show c.toNat=0 by omega]at hv;simp only [gq,jT]at hv;refine(amI hv hlb ?_).symm;rw [hA,hB];rcases hi with k|k
  ·left;omega
  right;exact k.2.2
 by_cases ca:(i:Int)<(a.length:Nat)<;>by_cases cb:(i:Int)<(b.length:Nat)<;>by_cases cc:0<c
 ·obtain⟨_,rfl,k1,k2⟩:=key (c+a.getD i 0+b.getD i 0) (by omega) (by omega);clear key step fin ea eb hi hv hlb hba hbb za zb
  (rcases xs with _|⟨x,xs⟩<;>simp only [aC,ak,Ag,yP,nV,lY]at hx ⊢)
  ·refine Gp @ca @cb @cc ?_;exact⟨by omega,_,k1,k2,by exact Pj⟩
  refine Gp @ca @cb @cc ?_;exact⟨by omega,_,k1,k2,by exact Nk⟩
 ·obtain⟨_,rfl,k1,k2⟩:=key (c+a.getD i 0+b.getD i 0) (by omega) (by omega);clear key step fin ea eb hi hv hlb hba hbb za zb
  (rcases xs with _|⟨x,xs⟩<;>simp only [aC,ak,Ag,yP,nV,lY]at hx ⊢)
  ·refine Gp @ca @cb @cc ?_;exact⟨by omega,_,k1,k2,by exact Pj⟩
  refine Gp @ca @cb @cc ?_;exact⟨by omega,_,k1,k2,by exact Nk⟩
 ·obtain⟨_,rfl,k1,k2⟩:=key (c+a.getD i 0) (by omega) (by omega);clear key step fin ea eb hi hv hlb hba hbb za zb
  (rcases xs with _|⟨x,xs⟩<;>simp only [aC,ak,Ag,yP,nV,lY]at hx ⊢)
  ·refine Gp @ca @cb @cc ?_;exact⟨by omega,_,k1,k2,by exact Pj⟩
  refine Gp @ca @cb @cc ?_;exact⟨by omega,_,k1,k2,by exact Nk⟩
 ·obtain⟨_,rfl,k1,k2⟩:=key (c+a.getD i 0) (by omega) (by omega);clear key step fin ea eb hi hv hlb hba hbb za zb
  (rcases xs with _|⟨x,xs⟩<;>simp only [aC,ak,Ag,yP,nV,lY]at hx ⊢)
  ·refine Gp @ca @cb @cc ?_;exact⟨by omega,_,k1,k2,by exact Pj⟩
  refine Gp @ca @cb @cc ?_;exact⟨by omega,_,k1,k2,by exact Nk⟩
 ·obtain⟨_,rfl,k1,k2⟩:=key (c+b.getD i 0) (by omega) (by omega);clear key step fin ea eb hi hv hlb hba hbb za zb
  (rcases xs with _|⟨x,xs⟩<;>simp only [aC,ak,Ag,yP,nV,lY]at hx ⊢)
  ·refine Gp @ca @cb @cc ?_;exact⟨by omega,_,k1,k2,by exact Pj⟩
  refine Gp @ca @cb @cc ?_;exact⟨by omega,_,k1,k2,by exact Nk⟩
 ·obtain⟨_,rfl,k1,k2⟩:=key (c+b.getD i 0) (by omega) (by omega);clear key step fin ea eb hi hv hlb hba hbb za zb
  (rcases xs with _|⟨x,xs⟩<;>simp only [aC,ak,Ag,yP,nV,lY]at hx ⊢)
  ·refine Gp @ca @cb @cc ?_;exact⟨by omega,_,k1,k2,by exact Pj⟩
  refine Gp @ca @cb @cc ?_;exact⟨by omega,_,k1,k2,by exact Nk⟩
 ·obtain⟨_,rfl,k1,k2⟩:=key (c) (by omega) (by omega);clear key step fin ea eb hi hv hlb hba hbb za zb
  (rcases xs with _|⟨x,xs⟩<;>simp only [aC,ak,Ag,yP,nV,lY]at hx ⊢)
  ·refine Gp @ca @cb @cc ?_;exact⟨by omega,_,k1,k2,by exact Pj⟩
  refine Gp @ca @cb @cc ?_;exact⟨by omega,_,k1,k2,by exact Nk⟩
 have e:=fin (by omega);clear key step fin ea eb hi hv hlb hba hbb za zb
 (rcases xs with _|⟨x,xs⟩<;>simp only [aC,ak,Ag,yP,nV,lY]at hx ⊢)
 ·refine Gp @ca @cb @cc ?_;rw [←e];exact(oC 1▸trivial)
 refine Gp @ca @cb @cc ?_;rw [←e];exact jP _
theorem Pm{T:Tb}(h:Dt T){m n:Nat}(hle:n≤m)(la:(mk m).length≤1000:=by exact qW)(lb:(mk n).length≤1000:=by exact qW):PF T 154 [ints (mk m),ints (mk n)] (ints (mk (m-n))):=by
 obtain⟨a,hA⟩:∃a,mk m=a:=⟨_,rfl⟩;obtain⟨b,hB⟩:∃b,mk n=b:=⟨_,rfl⟩;have hva:val a=m:=by rw [←hA,val_mk]
 have hvb:val b=n:=by rw [←hB,val_mk]
 have hba:Lb a:=hA▸uF m;have hbb:Lb b:=hB▸uF n;have hlen:b.length≤a.length:=by
  rcases dD a.length b.length with k|k
  ·have:=wM hba (hB▸sN n) k;omega
  exact k
 rw [hA]at la ⊢;rw [hB]at lb ⊢;refine kR nR h.hT ?_;simp only [Dq,Lz];refine ev ?_;refine⟨by omega,?_⟩;rw [NZ];refine jX (fun _ _=>false) (α:=Nat×Int×List Int) (fun q=>⟨lS [ints a,ints b,.any,.any,.any,.kQ 0 0 a.length,iv q.2.1,.any,.any,.any,.any,.any,ints a,iv (a.length:Nat),iv (q.1:Nat)],[some ⟨1,jR q.2.2⟩],0,0,[],[]⟩) (fun q=>q.1≤a.length∧q.2.2.length=a.length∧Lb q.2.2∧(q.2.1=0∨q.2.1=1)∧val (q.2.2.take q.1)+val (b.take q.1)=val (a.take q.1)+q.2.1.toNat*1000000000 ^ q.1) (fun q=>a.length-q.1) rfl (0,0,List.replicate a.length 0) ?_ ?_ ?_
 ·exact⟨by omega,by simp,N7 _,.inl rfl,by simp [val]⟩
 ·(refine jS ?_;exact EJ)
 rintro⟨i,bo,D⟩ ⟨hi,hD,Ob,hbo,hv⟩;dsimp only at hi hD Ob hbo hv;have ga:=uG hba i;have gb:=uG hbb i;have zb:b.length≤i→b.getD i 0=0:=Ph;by_cases c1:(i:Int)<(a.length:Nat)
 ·have key:∀d bo':Int,d+b.getD i 0+bo=a.getD i 0+bo'*1000000000→0≤d→d<1000000000→(bo'=0∨bo'=1)→∃a':Nat×Int×List Int,a'=(i+1,bo',D.set i d) ∧
    a.length-a'.1<a.length-i∧(a'.1≤a.length∧a'.2.2.length=a.length∧Lb a'.2.2∧(a'.2.1=0∨a'.2.1=1)∧val (a'.2.2.take a'.1)+val (b.take a'.1)=val (a.take a'.1)+a'.2.1.toNat*1000000000 ^ a'.1):=by
   intro d bo' hd d0 d1 hb';refine⟨_,rfl,by dsimp only;omega,by dsimp only;omega,by simp [hD],Jl d0 d1 Ob,hb',?_⟩;dsimp only;have e1:(D.take i).length=i:=by simp;omega
   have e2:(a.take i).length=i:=by simp;omega
   rw [V5 (by omega),wF,e1,nH (l:=a) (by omega),wF,e2];have e3:val (b.take (i+1))=val (b.take i)+1000000000 ^ i*(b.getD i 0).toNat:=by
    by_cases hb2:i<b.length
    ·rw [nH hb2,wF];congr 3;simp;omega
    rw [bg (by omega),bg (by omega),zb (by omega)];simp
   rw [e3,iC];exact Z9 hv (by omega)
  by_cases c2:(i:Int)<(b.length:Nat)
  ·by_cases c3:a.getD i 0-bo-b.getD i 0<0
   ·obtain⟨_,rfl,k1,k2⟩:=key (a.getD i 0-bo-b.getD i 0+1000000000) 1 (by omega) (by omega) (by omega) (.inr rfl);clear key hv zb hba hbb Ob;refine ev4 @c1 @c2 @c3 @hD ?_;exact⟨_,k1,k2,by (refine jS ?_;exact EJ)⟩
   obtain⟨_,rfl,k1,k2⟩:=key (a.getD i 0-bo-b.getD i 0) 0 (by omega) (by omega) (by omega) (.inl rfl);clear key hv zb hba hbb Ob;refine ev4 @c1 @c2 @c3 @hD ?_;exact⟨_,k1,k2,by (refine jS ?_;exact EJ)⟩
  have z:=zb (by omega);by_cases c3:a.getD i 0-bo<0
  ·obtain⟨_,rfl,k1,k2⟩:=key (a.getD i 0-bo+1000000000) 1 (by omega) (by omega) (by omega) (.inr rfl);clear key hv zb hba hbb Ob;refine ev4 @c1 @c2 @c3 @hD ?_;exact⟨_,k1,k2,by (refine jS ?_;exact EJ)⟩
  obtain⟨_,rfl,k1,k2⟩:=key (a.getD i 0-bo) 0 (by omega) (by omega) (by omega) (.inl rfl);clear key hv zb hba hbb Ob;refine ev4 @c1 @c2 @c3 @hD ?_;exact⟨_,k1,k2,by (refine jS ?_;exact EJ)⟩
 have hi2:i=a.length:=by omega
 subst hi2;rw [←hD,bM,hD,bM,bg (by omega)]at hv;have hlt:=xu Ob;rw [hD]at hlt;have hz:bo=0:=by
  rcases hbo with h|h
  ·exact h
  rw [h]at hv;simp at hv;omega
 subst hz;refine vM @c1 @hD ?_;refine jl (IV h.qN (l:=D) (by omega)) ?_;refine ev ?_;rw [zk Ob]
 congr 3
 simp at hv;omega
theorem aic{x y:Int}(hx:0≤x∧x<1000000000)(hy:0≤y∧y<1000000000):0≤x*y∧x*y≤999999998000000001:=by
 refine⟨Int.mul_nonneg hx.1 hy.1,?_⟩;have:x*y≤999999999*999999999:=Int.mul_le_mul (by omega) (by omega) hy.1 (by omega);omega
theorem UA{T:Tb}(h:Dv T){m n:Nat}(la:(mk m).length≤1000:=by exact qW)(lb:(mk n).length≤1000:=by exact qW):PF T 155 [ints (mk m),ints (mk n)] (ints (mk (m*n))):=by
 obtain⟨a,hA⟩:∃a,mk m=a:=⟨_,rfl⟩;obtain⟨b,hB⟩:∃b,mk n=b:=⟨_,rfl⟩;have hva:val a=m:=by rw [←hA,val_mk]
 have hvb:val b=n:=by rw [←hB,val_mk]
 have hba:Lb a:=hA▸uF m;have hbb:Lb b:=hB▸uF n;rw [hA]at la ⊢;rw [hB]at lb ⊢;refine jZ nR h.hT ?_;simp only [Du,Lz];refine ev ?_;by_cases h1:a.length=0
 ·have:a=[]:=aY h1;have e:m=0:=by rw [←hva,this];rfl
  have h1':((a.length:Nat):Int)=0:=by omega
  refine ev1 @h1' ?_;rw [e,jK,mk_zero];exact(oC 1▸trivial)
 by_cases h2:b.length=0
 ·have:b=[]:=aY h2;have e:n=0:=by rw [←hvb,this];rfl
  have h1':¬((a.length:Nat):Int)=0:=by omega
  have h2':((b.length:Nat):Int)=0:=by omega
  refine vM @h1' @h2' ?_;rw [e,jT,mk_zero];exact(oC 1▸trivial)
 have h1':¬((a.length:Nat):Int)=0:=by omega
 have h2':¬((b.length:Nat):Int)=0:=by omega
 refine vM @h1' @h2' ?_;refine⟨⟨by omega,by omega,by omega⟩,?_⟩;have eL:((a.length:Int)+(b.length:Int)).toNat=a.length+b.length:=by omega
 rw [eL,NZ];refine jX (fun _ _=>false) (α:=Nat×List Int) (fun q=>⟨lS [ints a,ints b,.any,.any,.any,.kQ 0 0 (a.length+b.length),.any,.any,.any,.any,.any,.any,.any,.any,.any,.any,.any,.any,.any,.any,.any,.any,.any,ints a,iv (a.length:Nat),iv (q.1:Nat)],[some ⟨1,jR q.2⟩],0,0,[],[]⟩) (fun q=>q.1≤a.length∧q.2.length=a.length+b.length∧Lb q.2∧val q.2=val (a.take q.1)*n∧∀k,q.1+b.length≤k→q.2.getD k 0=0) (fun q=>a.length-q.1) rfl (0,List.replicate (a.length+b.length) 0) ?_ ?_ ?_
 ·exact⟨by omega,by simp,N7 _,by rw [adS];simp [val],by intro k _;simp [aj,ji];split<;>rfl⟩
 ·(refine jS ?_;exact EJ)
 rintro⟨i,P⟩ ⟨hi,hP,hPb,hv,hz⟩;dsimp only at hi hP hPb hv hz;refine ev ?_;refine jW (fun c1=>?_) fun c1=>?_<;>(refine ev1 @c1 ?_;try with_reducible exact True.intro)
 ·have ga:=uG hba i;have eA:val (a.take (i+1))=val (a.take i)+1000000000 ^ i*(a.getD i 0).toNat:=by
   rw [nH (by omega),wF];congr 3;simp;omega
  refine jX (fun _ _=>false) (α:=Nat×Int×List Int) (fun q=>⟨lS [ints a,ints b,.any,.any,.any,.kQ 0 0 (a.length+b.length),iv (i:Nat),iv q.2.1,.any,.any,.any,.any,.any,.any,.any,.any,.any,.any,.any,.any,.any,.any,.any,ints a,iv (a.length:Nat),iv (i:Nat),.any,.any,ints b,iv (b.length:Nat),iv (q.1:Nat)],[some ⟨1,jR q.2.2⟩],0,0,[],[]⟩) (fun q=>q.1≤b.length∧q.2.2.length=a.length+b.length∧Lb q.2.2∧(0≤q.2.1∧q.2.1<1000000000)∧val q.2.2+q.2.1.toNat*(1000000000 ^ i*1000000000 ^ q.1)=val P+(a.getD i 0).toNat*(1000000000 ^ i*val (b.take q.1))∧∀k,i+b.length≤k→q.2.2.getD k 0=0) (fun q=>b.length-q.1) rfl (0,0,P) ?_ ?_ ?_
  ·exact⟨by omega,hP,hPb,⟨by dsimp only;omega,by dsimp only;omega⟩,by simp [val],hz⟩
  ·(refine jS ?_;exact EJ)
  rintro⟨j,c,D⟩ ⟨hj,hD,Ob,hc,hw,hzD⟩;dsimp only at hj hD Ob hc hw hzD;have gb:=uG hbb j;have gd:=uG Ob (i+j);have hm:=aic ga gb;by_cases c2:(j:Int)<(b.length:Nat)
  ·have k2:(val (D.set (i+j) ((c+(D.getD (i+j) 0+a.getD i 0*b.getD j 0)) % 1000000000))+((c+(D.getD (i+j) 0+a.getD i 0*b.getD j 0)) / 1000000000).toNat*(1000000000 ^ i*1000000000 ^ (j+1)))=val P+(a.getD i 0).toNat*(1000000000 ^ i*val (b.take (j+1))):=by
    have e1:val (b.take (j+1))=val (b.take j)+1000000000 ^ j*(b.getD j 0).toNat:=by
     rw [nH (by omega),wF];congr 3;simp;omega
    have e2:=S9 (l:=D) (i:=i+j) (d:=(c+(D.getD (i+j) 0+a.getD i 0*b.getD j 0)) % 1000000000) (by omega);have e3:(a.getD i 0*b.getD j 0).toNat=(a.getD i 0).toNat*(b.getD j 0).toNat:=Int.toNat_mul ga.1 gb.1;have e4:(c+(D.getD (i+j) 0+a.getD i 0*b.getD j 0)).toNat=c.toNat+(D.getD (i+j) 0).toNat+(a.getD i 0).toNat*(b.getD j 0).toNat:=by
     rw [←e3];omega
    rw [e1,iC];rw [Nat.pow_add]at e2;have e5:((c+(D.getD (i+j) 0+a.getD i 0*b.getD j 0)) % 1000000000).toNat=(c+(D.getD (i+j) 0+a.getD i 0*b.getD j 0)).toNat % 1000000000:=by omega
    have e6:((c+(D.getD (i+j) 0+a.getD i 0*b.getD j 0)) / 1000000000).toNat=(c+(D.getD (i+j) 0+a.getD i 0*b.getD j 0)).toNat / 1000000000:=by omega
    rw [e5]at e2;rw [e6];exact aad hw e2 e4
   have k3:∀k,i+b.length≤k→(D.set (i+j) ((c+(D.getD (i+j) 0+a.getD i 0*b.getD j 0)) % 1000000000)).getD k 0=0:=by
    intro k hk;rw [qE,if_neg (by omega)];exact hzD k hk
   have k4:=Jl (l:=D) (i:=i+j) (d:=(c+(D.getD (i+j) 0+a.getD i 0*b.getD j 0)) % 1000000000) (by omega) (by omega) Ob;have t1:(c+(D.getD (i+j) 0+a.getD i 0*b.getD j 0)).tmod 1000000000=(c+(D.getD (i+j) 0+a.getD i 0*b.getD j 0)) % 1000000000:=QI (by omega);have t2:(c+(D.getD (i+j) 0+a.getD i 0*b.getD j 0)).tdiv 1000000000=(c+(D.getD (i+j) 0+a.getD i 0*b.getD j 0)) / 1000000000:=QJ (by omega);have t3:((i:Int)+(j:Int)).toNat=i+j:=by omega
   clear hv hz hPb Ob eA hw hzD hba hbb;refine ev5 @c2 @hD @t1 @t2 @t3 ?_;refine⟨(j+1,(c+(D.getD (i+j) 0+a.getD i 0*b.getD j 0)) / 1000000000,D.set (i+j) ((c+(D.getD (i+j) 0+a.getD i 0*b.getD j 0)) % 1000000000)),by dsimp only;omega,⟨by dsimp only;omega,by simp [hD],k4,⟨by dsimp only;omega,by dsimp only;omega⟩,k2,k3⟩,by (refine jS ?_;exact EJ)⟩
  have hj2:j=b.length:=by omega
  subst hj2;rw [bM]at hw;have e2:=S9 (l:=D) (i:=i+b.length) (d:=c) (by omega);rw [hzD (i+b.length) (aJ _),Nat.pow_add]at e2;have k1:val (D.set (i+b.length) c)=val (a.take (i+1))*n:=by
   rw [eA,eP,←hv,←hvb];have:1000000000 ^ i*(a.getD i 0).toNat*val b=(a.getD i 0).toNat*(1000000000 ^ i*val b):=by rw [dw (1000000000 ^ i),fA]
   rw [this];have:c.toNat*(1000000000 ^ i*1000000000 ^ b.length)=1000000000 ^ i*1000000000 ^ b.length*c.toNat:=dw _ _;simp only [Int.toNat_zero,jT,gq]at e2;omega
  have k2:∀k,(i+1)+b.length≤k→(D.set (i+b.length) c).getD k 0=0:=by
   intro k hk;rw [qE,if_neg (by omega)];exact hzD k (by omega)
  have k3:=Jl (l:=D) (i:=i+b.length) hc.1 hc.2 Ob;have t3:((i:Int)+(b.length:Int)).toNat=i+b.length:=by omega
  clear hv hz hPb Ob eA hw hzD hba hbb e2;refine Gp @c2 @hD @t3 ?_;exact⟨(i+1,D.set (i+b.length) c),by dsimp only;omega,⟨by dsimp only;omega,by simp [hD],k3,k1,k2⟩,by (refine jS ?_;exact EJ)⟩
 have hi2:i=a.length:=by omega
 subst hi2;rw [bM,hva]at hv;refine ev1 @hP ?_;refine jl (IV h.qN (l:=P) (by omega)) ?_;refine ev ?_;rw [zk hPb,hv];exact jP _
def AO:Fn:=⟨1,21,[.tmp 2],(sr [oN 2 mN] (sr [oW 4 0,oN 5 (ln 4),oW 3 5] (.seq (.block 0 (.loop (.seq (sr [oW 6 3,oN 7 (bc .gtr 6 0),oW 8 7,oG 8 true 9 (oV 0),oG 8 true 10 (oV 3),oG 8 true 11 (bc .sub 10 1),oG 8 true 12 (ix 1 9 11),oG 8 true 13 (lF 1 12),oG 8 true 14 (bc .eql 13 0),oN 15 (.pick (.t 8) (.t 14) (.c (.bool false)))] (cd 15 .skip (.exit 0))) (.block 1 (rg [oW 16 3,oN 17 (bc .sub 16 1),oW 3 17]))))) (sr [oW 18 0,oW 19 3,oN 20 (.slice 1 (.t 18) none (some (.t 19))),oW 2 20] .ret))))⟩
structure qO (T:Tb):Prop where
 hT:T 71=some AO
def Dw:Fn:=⟨2,41,[.tmp 4],(sr [oN 4 (.oO (cI 0))] (.seq (sr [oW 6 0,oN 7 (ln 6),oW 8 1,oN 9 (ln 8),oN 10 (bt .neq 7 9)] (cd 10 (.seq (sr [oW 11 0,oN 12 (ln 11),oW 13 1,oN 14 (ln 13),oN 15 (bt .lss 12 14)] (cd 15 (sr [oN 4 (.oO (cI (-1)))] .ret) .skip)) (sr [oN 4 (.oO (cI 1))] .ret)) .skip)) (.seq (sr [oW 16 0,oN 17 (ln 16),oN 18 (bc .sub 17 1),oW 5 18] (.block 0 (.loop (.seq (sr [oW 19 5,oN 20 (bc .geq 19 0)] (cd 20 .skip (.exit 0))) (.seq (.block 1 (.seq (.seq (rt 0 [oW 23 0,oW 24 5,oA 25 0 (ix 1 23 24) [0,1],oA 26 0 (lF 1 25) [2],oW 27 1,oW 28 5,oA 29 0 (ix 1 27 28) [4,5],oA 30 0 (lF 1 29) [6],oA 31 0 (bt .lss 26 30) [3,7]]) (cd 31 (sr [oN 4 (.oO (cI (-1)))] .ret) .skip)) (.seq (rt 0 [oW 32 0,oW 33 5,oA 34 0 (ix 1 32 33) [0,1],oA 35 0 (lF 1 34) [2],oW 36 1,oW 37 5,oA 38 0 (ix 1 36 37) [4,5],oA 39 0 (lF 1 38) [6],oA 40 0 (bt .gtr 35 39) [3,7]]) (cd 40 (sr [oN 4 (.oO (cI 1))] .ret) .skip)))) (rg [oW 21 5,oN 22 (bc .sub 21 1),oW 5 22])))))) (sr [oN 4 (.oO (cI 0))] .ret))))⟩
structure yR (T:Tb):Prop where
 hT:T 146=some Dw
def Dx:Fn:=⟨2,42,[.tmp 4],(sr [oN 4 mN] (.seq (rf 1 [oN 9 (.oI 1 I9 0 []),oK 5 1 (oV 9)]) (sr [oN 6 (.oO (cI 0))] (.seq (sr [oW 10 0,oN 11 (ln 10),oN 12 (.oO (cI 0))] (.block 0 (.loop (sr [oN 13 (bt .lss 12 11)] (.seq (cd 13 .skip (.exit 0)) (.seq (.block 1 (sr [oW 14 12,oW 7 14] (sr [oW 15 0,oW 16 7,oN 17 (ix 1 15 16),oN 18 (lF 1 17),oW 19 6,oN 20 (bt .sub 18 19),oW 8 20] (.seq (sr [oW 21 7,oW 22 1,oN 23 (ln 22),oN 24 (bt .lss 21 23)] (cd 24 (rg [oW 25 8,oW 26 1,oW 27 7,oN 28 (ix 1 26 27),oN 29 (lF 1 28),oN 30 (bt .sub 25 29),oW 8 30]) .skip)) (sr [oN 6 (.oO (cI 0))] (.seq (sr [oW 31 8,oN 32 (bc .lss 31 0)] (cd 32 (sr [oW 33 8,oN 34 (bc .add 33 1000000000),oW 8 34] (rg [oN 6 (.oO (cI 1))])) .skip)) (rf 2 [oK 35 2 (oV 5),oK 36 2 (oV 8),oN 37 (.oI 1 I9 1 [(0,(.t 36))]),oK 38 1 (.app 1 8 (.t 35) (.t 37)),oK 5 2 (oV 38)]))))))) (rg [oN 39 (bc .add 12 1),oW 12 39]))))))) (sr [oW 40 5,oN 41 (cl 71 [40]),oW 4 41] .ret)))))⟩
structure H6 (T:Tb):Prop where
 hT:T 149=some Dx
 mD:qO T
def Dy:Fn:=⟨2,72,[.tmp 4],(sr [oN 4 mN] (.seq (sr [oW 12 0,oN 13 (ln 12),oN 14 (bc .eql 13 0),oW 15 14,oG 15 false 16 (oV 1),oG 15 false 17 (ln 16),oG 15 false 18 (bc .eql 17 0),oN 19 (.pick (.t 15) (.c (.bool true)) (.t 18))] (cd 19 (sr [oN 4 mN] .ret) .skip)) (.seq (rf 1 [oK 20 1 (oV 0),oK 21 1 (ln 20),oK 22 1 (oV 1),oK 23 1 (ln 22),oK 24 1 (bt .add 21 23),oN 25 (.make I9 8 (.t 24)),oK 5 1 (oV 25)]) (.seq (sr [oW 26 0,oN 27 (ln 26),oN 28 (.oO (cI 0))] (.block 0 (.loop (sr [oN 29 (bt .lss 28 27)] (.seq (cd 29 .skip (.exit 0)) (.seq (.block 1 (sr [oW 30 28,oN 31 (ix 1 26 28),oN 32 (lF 1 31),oW 6 30,oW 7 32] (sr [oN 8 (.oO (cI 0))] (.seq (sr [oW 33 1,oN 34 (ln 33),oN 35 (.oO (cI 0))] (.block 2 (.loop (sr [oN 36 (bt .lss 35 34)] (.seq (cd 36 .skip (.exit 2)) (.seq (.block 3 (sr [oW 37 35,oN 38 (ix 1 33 35),oN 39 (lF 1 38),oW 9 37,oW 10 39] (sr [oW 40 5,oW 41 6,oW 42 9,oN 43 (bt .add 41 42),oN 44 (ix 1 40 43),oN 45 (lF 1 44),oW 46 7,oW 47 10,oN 48 (bt .mul 46 47),oN 49 (bt .add 45 48),oW 50 8,oN 51 (bt .add 49 50),oW 11 51] (sr [oW 52 5,oW 53 6,oW 54 9,oN 55 (bt .add 53 54),oW 56 11,oN 57 (bc .rem 56 1000000000),oN 58 (ix 1 52 55),oS (.store 1 (.t 58) (.t 57))] (rg [oW 59 11,oN 60 (bc .quo 59 1000000000),oW 8 60]))))) (rg [oN 61 (bc .add 35 1),oW 35 61]))))))) (rg [oW 62 5,oW 63 6,oW 64 1,oN 65 (ln 64),oN 66 (bt .add 63 65),oW 67 8,oN 68 (ix 1 62 66),oS (.store 1 (.t 68) (.t 67))]))))) (rg [oN 69 (bc .add 28 1),oW 28 69]))))))) (sr [oW 70 5,oN 71 (cl 71 [70]),oW 4 71] .ret)))))⟩
structure Dz (T:Tb):Prop where
 hT:T 150=some Dy
 mD:qO T
def FH:Fn:=⟨1,15,[.tmp 2],(sr [oN 2 mN] (.seq (rf 1 [oN 4 (.oI 1 I9 0 []),oK 3 1 (oV 4)]) (.seq (.block 0 (.loop (.seq (sr [oW 5 0,oN 6 (bc .gtr 5 0)] (cd 6 .skip (.exit 0))) (.block 1 (.seq (rf 2 [oK 7 2 (oV 3),oK 8 2 (oV 0),oK 9 2 (bc .rem 8 1000000000),oN 10 (.oI 1 I9 1 [(0,(.t 9))]),oK 11 1 (.app 1 8 (.t 7) (.t 10)),oK 3 2 (oV 11)]) (rg [oW 12 0,oN 13 (bc .quo 12 1000000000),oW 0 13])))))) (sr [oW 14 3,oW 2 14] .ret))))⟩
structure yu (T:Tb):Prop where
 hT:T 67=some FH
def FI:Fn:=⟨3,15,[.tmp 6],(sr [oN 6 mF] (sr [oW 7 0,oW 8 1,oN 9 (bt .geq 7 8),oW 10 9,oG 10 true 11 (oV 0),oG 10 true 12 (oV 2),oG 10 true 13 (bt .leq 11 12),oN 14 (.pick (.t 10) (.t 13) (.c (.bool false))),oW 6 14] .ret))⟩
structure AP (T:Tb):Prop where
 hT:T 35=some FI
def FK:Fn:=⟨1,32,[.tmp 2],(sr [oN 2 mF] (.seq (sr [oW 5 0,oN 6 (ln 5),oN 7 (.oO (cI 0))] (.block 0 (.loop (sr [oN 8 (bt .lss 7 6)] (.seq (cd 8 .skip (.exit 0)) (.seq (.block 1 (sr [oN 9 (ix 1 5 7),oN 10 (lF 1 9),oW 4 10] (sr [oW 11 4,oN 12 (.call 35 [(.t 11),(cI 0),(cI 999999999)]),oN 13 (nt 12)] (cd 13 (sr [oN 2 mF] .ret) .skip)))) (rg [oN 14 (bc .add 7 1),oW 7 14]))))))) (sr [oW 15 0,oN 16 (ln 15),oN 17 (bc .leq 16 60),oW 18 17,oG 18 true 19 (oV 0),oG 18 true 20 (ln 19),oG 18 true 21 (bc .eql 20 0),oG 18 true 22 (oV 21),oG 22 false 23 (oV 0),oG 22 false 24 (oV 0),oG 22 false 25 (ln 24),oG 22 false 26 (bc .sub 25 1),oG 22 false 27 (ix 1 23 26),oG 22 false 28 (lF 1 27),oG 22 false 29 (bc .neq 28 0),oG 18 true 30 (.pick (.t 22) (.c (.bool true)) (.t 29)),oN 31 (.pick (.t 18) (.t 30) (.c (.bool false))),oW 2 31] .ret)))⟩
structure FM (T:Tb):Prop where
 hT:T 121=some FK
 vO:AP T
def DC:Fn:=⟨1,10,[.tmp 2],(sr [oN 2 mN] (sr [oW 4 0,oN 5 (cl 71 [4]),oW 3 5] (.seq (sr [oW 6 3,oN 7 (ln 6),oN 8 (bc .gtr 7 60)] (cd 8 (sr [oN 2 mN] .ret) .skip)) (sr [oW 9 3,oW 2 9] .ret))))⟩
structure H7 (T:Tb):Prop where
 hT:T 70=some DC
 mD:qO T
theorem Ai{T:Tb}(h:qO T){l:List Int}(hl:l.length≤1048576:=by exact qW):PF T 71 [ints l] (ints (trim l)):=by
 refine kR nR h.hT ?_;simp only [AO,Lz];refine ev ?_;refine jX (fun _ _=>false) (α:=Nat) (fun n=>⟨lS [ints l,.any,.any,iv (n:Nat)],[],0,0,[],[]⟩) (fun n=>n≤l.length∧vK l l.length=vK l n) (fun n=>n) rfl l.length ?_ ?_ ?_
 ·exact⟨by omega,rfl⟩
 ·(refine jS ?_;exact EJ)
 rintro n ⟨hn,ht⟩;refine ev ?_;refine jW (fun hb=>?_) fun hb=>?_<;>(refine ev1 @hb ?_;try with_reducible exact True.intro)
 ·obtain⟨m,rfl⟩:∃m,n=m+1:=⟨n-1,by omega⟩;have e1:((m+1:Nat):Int)-1=(m:Nat):=by omega
  refine ev1 @e1 ?_;refine jW (fun hc=>?_) fun hc=>?_<;>(refine ev1 @hc ?_;try with_reducible exact True.intro)
  ·refine⟨m,by omega,⟨by omega,?_⟩,by (refine jS ?_;exact EJ)⟩;rw [ht];simp only [vK,hc,if_true]
  rw [trim,ht];simp only [vK,hc,if_false]
 have:n=0:=by omega
 subst this;rw [trim,ht];simp [vK,jR]
theorem aie{T:Tb}(h:H7 T){n:Nat}(hl:(mk n).length≤60:=by exact qW):PF T 70 [ints (mk n)] (ints (mk n)):=by
 have ct:=Ai h.mD (l:=mk n) (by omega);rw [Us (sN n)]at ct;have c1:¬(60:Int)<((mk n).length:Nat):=by omega
 refine kR nR h.hT ?_;simp only [DC,Lz];refine ev ?_;refine jl ct ?_
 (refine ev1 @c1 ?_;try with_reducible exact True.intro)
theorem UC{T:Tb}(h:yR T){a b:List Int}(ha:Can a)(hb:Can b)(la:a.length≤1048576:=by exact qW)(lb:b.length≤1048576:=by exact qW):PF T 146 [ints a,ints b] (iv (Gm (val a) (val b))):=by
 refine kR nR h.hT ?_;simp only [Dw,Lz];refine ev ?_;by_cases h1:((a.length:Nat):Int)<(b.length:Nat)
 ·have:=wM ha.1 hb (by omega);have h0:¬((a.length:Nat):Int)=(b.length:Nat):=by omega
  refine vM @h0 @h1 ?_;simp [Gm,this]
 by_cases h2:((b.length:Nat):Int)<(a.length:Nat)
 ·have:=wM hb.1 ha (by omega);have h3:¬val a<val b:=by omega
  have h0:¬((a.length:Nat):Int)=(b.length:Nat):=by omega
  refine vM @h0 @h1 ?_;simp [Gm,this,h3]
 have hl:a.length=b.length:=by omega
 have h0:=iff_true_intro (show ((a.length:Nat):Int)=(b.length:Nat) by omega);refine ev1 @h0 ?_;refine jX (fun _ _=>false) (α:=Nat) (fun n=>⟨lS [ints a,ints b,.any,.any,.any,iv ((n:Int)-1)],[],0,0,[],[]⟩) (fun n=>n≤a.length∧a.drop n=b.drop n) (fun n=>n) rfl a.length ?_ ?_ ?_
 ·exact⟨by omega,by rw [dH (by omega),dH (by omega)]⟩
 ·(refine jS ?_;exact EJ)
 rintro n ⟨hn,hd⟩;refine ev ?_;refine jW (fun h3=>?_) fun h3=>?_<;>(refine ev1 @h3 ?_;try with_reducible exact True.intro)
 ·obtain⟨m,rfl⟩:∃m,n=m+1:=⟨n-1,by omega⟩;have e1:((m+1:Nat):Int)-1=(m:Nat):=by omega
  refine ev1 @e1 ?_;refine jW (fun h4=>?_) fun h4=>?_<;>(refine vM @h4 @e1 ?_;try with_reducible exact True.intro)
  ·have:=MG ha.1 hb.1 (i:=m) (by omega) (by omega) hd h4;simp [Gm,this]
  refine jW (fun h5=>?_) fun h5=>?_<;>(refine vM @h5 @e1 ?_;try with_reducible exact True.intro)
  ·have:=MG hb.1 ha.1 (i:=m) (by omega) (by omega) hd.symm h5;have h6:¬val a<val b:=by omega
   simp [Gm,this,h6]
  have e:a.getD m 0=b.getD m 0:=by omega
  refine⟨m,by omega,⟨by omega,?_⟩,by (refine jS ?_;exact EJ)⟩;rw [MJ (by omega),MJ (l:=b) (by omega),e,hd]
 have:n=0:=by omega
 subst this;simp only [bY]at hd;subst hd;simp [Gm]
theorem aae{T:Tb}(h:Dz T){m n:Nat}(la:(mk m).length≤1000:=by exact qW)(lb:(mk n).length≤1000:=by exact qW):PF T 150 [ints (mk m),ints (mk n)] (ints (mk (m*n))):=by
 obtain⟨a,hA⟩:∃a,mk m=a:=⟨_,rfl⟩;obtain⟨b,hB⟩:∃b,mk n=b:=⟨_,rfl⟩;have hva:val a=m:=by rw [←hA,val_mk]
 have hvb:val b=n:=by rw [←hB,val_mk]
 have hba:Lb a:=hA▸uF m;have hbb:Lb b:=hB▸uF n;rw [hA]at la ⊢;rw [hB]at lb ⊢;refine jZ nR h.hT ?_;simp only [Dy,Lz];refine ev ?_;by_cases h1:a.length=0
 ·have:a=[]:=aY h1;have e:m=0:=by rw [←hva,this];rfl
  have h1':((a.length:Nat):Int)=0:=by omega
  refine ev1 @h1' ?_;rw [e,jK,mk_zero];exact(oC 1▸trivial)
 by_cases h2:b.length=0
 ·have:b=[]:=aY h2;have e:n=0:=by rw [←hvb,this];rfl
  have h1':¬((a.length:Nat):Int)=0:=by omega
  have h2':((b.length:Nat):Int)=0:=by omega
  refine vM @h1' @h2' ?_;rw [e,jT,mk_zero];exact(oC 1▸trivial)
 have h1':¬((a.length:Nat):Int)=0:=by omega
 have h2':¬((b.length:Nat):Int)=0:=by omega
 refine vM @h1' @h2' ?_;refine⟨⟨by omega,by omega,by omega⟩,?_⟩;have eL:((a.length:Int)+(b.length:Int)).toNat=a.length+b.length:=by omega
 rw [eL,NZ];refine jX (fun _ _=>false) (α:=Nat×List Int) (fun q=>⟨lS [ints a,ints b,.any,.any,.any,.kQ 0 0 (a.length+b.length),.any,.any,.any,.any,.any,.any,.any,.any,.any,.any,.any,.any,.any,.any,.any,.any,.any,.any,.any,.any,ints a,iv (a.length:Nat),iv (q.1:Nat)],[some ⟨1,jR q.2⟩],0,0,[],[]⟩) (fun q=>q.1≤a.length∧q.2.length=a.length+b.length∧Lb q.2∧val q.2=val (a.take q.1)*n∧∀k,q.1+b.length≤k→q.2.getD k 0=0) (fun q=>a.length-q.1) rfl (0,List.replicate (a.length+b.length) 0) ?_ ?_ ?_
 ·exact⟨by omega,by simp,N7 _,by rw [adS];simp [val],by intro k _;simp [aj,ji];split<;>rfl⟩
 ·(refine jS ?_;exact EJ)
 rintro⟨i,P⟩ ⟨hi,hP,hPb,hv,hz⟩;dsimp only at hi hP hPb hv hz;refine ev ?_;refine jW (fun c1=>?_) fun c1=>?_<;>(refine ev1 @c1 ?_;try with_reducible exact True.intro)
 ·have ga:=uG hba i;have eA:val (a.take (i+1))=val (a.take i)+1000000000 ^ i*(a.getD i 0).toNat:=by
   rw [nH (by omega),wF];congr 3;simp;omega
  refine jX (fun _ _=>false) (α:=Nat×Int×List Int) (fun q=>⟨lS [ints a,ints b,.any,.any,.any,.kQ 0 0 (a.length+b.length),iv (i:Nat),iv (a.getD i 0),iv q.2.1,.any,.any,.any,.any,.any,.any,.any,.any,.any,.any,.any,.any,.any,.any,.any,.any,.any,ints a,iv (a.length:Nat),iv (i:Nat),.any,.any,.any,.any,ints b,iv (b.length:Nat),iv (q.1:Nat)],[some ⟨1,jR q.2.2⟩],0,0,[],[]⟩) (fun q=>q.1≤b.length∧q.2.2.length=a.length+b.length∧Lb q.2.2∧(0≤q.2.1∧q.2.1<1000000000)∧val q.2.2+q.2.1.toNat*(1000000000 ^ i*1000000000 ^ q.1)=val P+(a.getD i 0).toNat*(1000000000 ^ i*val (b.take q.1))∧∀k,i+b.length≤k→q.2.2.getD k 0=0) (fun q=>b.length-q.1) rfl (0,0,P) ?_ ?_ ?_
  ·exact⟨by omega,hP,hPb,⟨by dsimp only;omega,by dsimp only;omega⟩,by simp [val],hz⟩
  ·(refine jS ?_;exact EJ)
  rintro⟨j,c,D⟩ ⟨hj,hD,Ob,hc,hw,hzD⟩;dsimp only at hj hD Ob hc hw hzD;have gb:=uG hbb j;have gd:=uG Ob (i+j);have hm:=aic ga gb;by_cases c2:(j:Int)<(b.length:Nat)
  ·have k2:(val (D.set (i+j) ((D.getD (i+j) 0+a.getD i 0*b.getD j 0+c) % 1000000000))+((D.getD (i+j) 0+a.getD i 0*b.getD j 0+c) / 1000000000).toNat*(1000000000 ^ i*1000000000 ^ (j+1)))=val P+(a.getD i 0).toNat*(1000000000 ^ i*val (b.take (j+1))):=by
    have e1:val (b.take (j+1))=val (b.take j)+1000000000 ^ j*(b.getD j 0).toNat:=by
     rw [nH (by omega),wF];congr 3;simp;omega
    have e2:=S9 (l:=D) (i:=i+j) (d:=(D.getD (i+j) 0+a.getD i 0*b.getD j 0+c) % 1000000000) (by omega);have e3:(a.getD i 0*b.getD j 0).toNat=(a.getD i 0).toNat*(b.getD j 0).toNat:=Int.toNat_mul ga.1 gb.1;have e4:(D.getD (i+j) 0+a.getD i 0*b.getD j 0+c).toNat=c.toNat+(D.getD (i+j) 0).toNat+(a.getD i 0).toNat*(b.getD j 0).toNat:=by
     rw [←e3];omega
    rw [e1,iC];rw [Nat.pow_add]at e2;have e5:((D.getD (i+j) 0+a.getD i 0*b.getD j 0+c) % 1000000000).toNat=(D.getD (i+j) 0+a.getD i 0*b.getD j 0+c).toNat % 1000000000:=by omega
    have e6:((D.getD (i+j) 0+a.getD i 0*b.getD j 0+c) / 1000000000).toNat=(D.getD (i+j) 0+a.getD i 0*b.getD j 0+c).toNat / 1000000000:=by omega
    rw [e5]at e2;rw [e6];exact aad hw e2 e4
   have k3:∀k,i+b.length≤k→(D.set (i+j) ((D.getD (i+j) 0+a.getD i 0*b.getD j 0+c) % 1000000000)).getD k 0=0:=by
    intro k hk;rw [qE,if_neg (by omega)];exact hzD k hk
   have k4:=Jl (l:=D) (i:=i+j) (d:=(D.getD (i+j) 0+a.getD i 0*b.getD j 0+c) % 1000000000) (by omega) (by omega) Ob;have t1:(D.getD (i+j) 0+a.getD i 0*b.getD j 0+c).tmod 1000000000=(D.getD (i+j) 0+a.getD i 0*b.getD j 0+c) % 1000000000:=QI (by omega);have t2:(D.getD (i+j) 0+a.getD i 0*b.getD j 0+c).tdiv 1000000000=(D.getD (i+j) 0+a.getD i 0*b.getD j 0+c) / 1000000000:=QJ (by omega);have t3:((i:Int)+(j:Int)).toNat=i+j:=by omega
   clear hv hz hPb Ob eA hw hzD hba hbb;refine ev5 @c2 @hD @t1 @t2 @t3 ?_;refine⟨(j+1,(D.getD (i+j) 0+a.getD i 0*b.getD j 0+c) / 1000000000,D.set (i+j) ((D.getD (i+j) 0+a.getD i 0*b.getD j 0+c) % 1000000000)),by dsimp only;omega,⟨by dsimp only;omega,by simp [hD],k4,⟨by dsimp only;omega,by dsimp only;omega⟩,k2,k3⟩,by (refine jS ?_;exact EJ)⟩
  have hj2:j=b.length:=by omega
  subst hj2;rw [bM]at hw;have e2:=S9 (l:=D) (i:=i+b.length) (d:=c) (by omega);rw [hzD (i+b.length) (aJ _),Nat.pow_add]at e2;have k1:val (D.set (i+b.length) c)=val (a.take (i+1))*n:=by
   rw [eA,eP,←hv,←hvb];have:1000000000 ^ i*(a.getD i 0).toNat*val b=(a.getD i 0).toNat*(1000000000 ^ i*val b):=by rw [dw (1000000000 ^ i),fA]
   rw [this];have:c.toNat*(1000000000 ^ i*1000000000 ^ b.length)=1000000000 ^ i*1000000000 ^ b.length*c.toNat:=dw _ _;simp only [Int.toNat_zero,jT,gq]at e2;omega
  have k2:∀k,(i+1)+b.length≤k→(D.set (i+b.length) c).getD k 0=0:=by
   intro k hk;rw [qE,if_neg (by omega)];exact hzD k (by omega)
  have k3:=Jl (l:=D) (i:=i+b.length) hc.1 hc.2 Ob;have t3:((i:Int)+(b.length:Int)).toNat=i+b.length:=by omega
  clear hv hz hPb Ob eA hw hzD hba hbb e2;refine Gp @c2 @hD @t3 ?_;exact⟨(i+1,D.set (i+b.length) c),by dsimp only;omega,⟨by dsimp only;omega,by simp [hD],k3,k1,k2⟩,by (refine jS ?_;exact EJ)⟩
 have hi2:i=a.length:=by omega
 subst hi2;rw [bM,hva]at hv;refine ev1 @hP ?_;refine jl (Ai h.mD (l:=P) (by omega)) ?_;refine ev ?_;rw [zk hPb,hv];exact jP _
theorem Pn{T:Tb}(h:AP T){a b c:Int}:PF T 35 [iv a,iv b,iv c] (.bool (decide (b≤a)&&decide (a≤c))):=by
 refine kR nR h.hT ?_;simp only [FI,Lz];refine ev ?_;by_cases h1:b≤a
 ·(refine ev1 @h1 ?_;try with_reducible exact True.intro)
 (refine ev1 @h1 ?_;try with_reducible exact True.intro)
theorem aaf{T:Tb}(h:FM T){l:List Int}(hl:l.length≤9223372036854775807:=by exact qW):PF T 121 [ints l] (.bool (wG l)):=by
 refine kR nR h.hT ?_;simp only [FK,Lz];refine ev ?_;refine jX (fun _ _=>false) (α:=Nat) (fun i=>⟨lS [ints l,.any,.any,.any,.any,ints l,iv (l.length:Nat),iv (i:Nat)],[],0,0,[],[]⟩) (fun i=>i≤l.length∧∀j,j<i→0≤l.getD j 0∧l.getD j 0<1000000000) (fun i=>l.length-i) rfl 0 ?_ ?_ ?_
 ·exact⟨by omega,by intro j hj;omega⟩
 ·(refine jS ?_;exact EJ)
 rintro i ⟨hi,hj⟩;refine ev ?_;refine jW (fun h2=>?_) fun h2=>?_<;>(refine ev1 @h2 ?_;try with_reducible exact True.intro)
 ·have bad:¬(0≤l.getD i 0∧l.getD i 0<1000000000)→wG l=false:=fun hn=>by
   have:¬wG l=true:=fun e=>by
    have hc:=(MH.1 e).2.1;exact hn (uG hc i)
   simpa using this
  refine jl (Pn h.vO) ?_;by_cases g:0≤l.getD i 0∧l.getD i 0<1000000000
  ·have g1:0≤l.getD i 0:=g.1;have g2:l.getD i 0≤999999999:=by omega
   refine vM @g1 @g2 ?_;refine⟨i+1,by omega,⟨by omega,fun j hj'=>?_⟩,by (refine jS ?_;exact EJ)⟩;by_cases e:j=i
   ·subst e;omega
   exact hj j (by omega)
  rw [bad g];have g2:(decide (0≤l.getD i 0)&&decide (l.getD i 0≤999999999))=false:=by
   simp only [iQ,decide_eq_false_iff_not];omega
  (refine ev1 @g2 ?_;try with_reducible exact True.intro)
 have hi2:i=l.length:=by omega
 subst hi2;have hall:l.all (fun d=>decide (0≤d)&&decide (d<1000000000))=true:=by
  rw [aT];intro d hd;obtain⟨j,hj1,rfl⟩:=List.mem_iff_getElem.1 hd;have:=hj j hj1;rw [aj,au hj1]at this;simpa using this
 unfold wG;rw [hall];by_cases q1:((l.length:Nat):Int)≤60
 ·have q1':decide (l.length≤60)=true:=by simp;omega
  rw [q1'];by_cases q2:((l.length:Nat):Int)=0
  ·have q2':=iff_true_intro q2;refine vM @q1 @q2' ?_;have:l=[]:=aY (by omega);subst this;rfl
  refine vM @q1 @q2 ?_;have e1:((l.length:Nat):Int)-1=((l.length-1:Nat):Int):=by omega
  have e2:((l.length:Int)-1).toNat=l.length-1:=by omega
  have e3:l.isEmpty=false:=by cases l<;>simp_all
  rw [e3,e2];simp
 have q1':decide (l.length≤60)=false:=by simp;omega
 rw [q1']
 (refine ev1 @q1 ?_;try with_reducible exact True.intro)
theorem MK{T:Tb}(h:yu T){n:Int}(hn:0≤n∧n≤9223372036854775807:=by exact qW):PF T 67 [iv n] (ints (mk n.toNat)):=by
 have hlen:(mk n.toNat).length≤3:=kL.2 (by omega);refine jZ nR h.hT ?_;simp only [FH,Lz];refine ev ?_;refine jX (fun _ _=>false) (α:=Nat×List Int) (fun q=>⟨lS [iv (q.1:Nat),.any,.any,slV q.2.length],Zj 1 (jR q.2),0,0,[],[]⟩) (fun q=>q.2++mk q.1=mk n.toNat∧q.1≤n.toNat) (fun q=>q.1) rfl (n.toNat,[]) ?_ ?_ ?_
 ·exact⟨rfl,aJ _⟩
 ·exact Oa
 rintro⟨m,xs⟩ ⟨hm,hle⟩;dsimp only at hm hle;have hx:xs.length≤3:=by
  have:=congrArg List.length hm;simp at this;omega
 have e1:((m:Int).tmod 1000000000)=((m % 1000000000:Nat):Int):=by rw [QI (by omega)];omega
 have e2:((m:Int).tdiv 1000000000)=((m / 1000000000:Nat):Int):=by rw [QJ (by omega)];omega
 have key:0<m→(xs++[((m % 1000000000:Nat):Int)])++mk (m / 1000000000)=mk n.toNat:=fun h=>by
  rw [←hm,mk_pos (n:=m) (by omega)];simp
 (rcases xs with _|⟨x,xs⟩<;>simp only [aC,ak,Ag,yP,nV,lY]at hx ⊢)
 ·refine ev ?_;refine jW (fun hb=>?_) fun hb=>?_<;>(refine Gp @hb @e1 @e2 ?_;try with_reducible exact True.intro)
  ·exact⟨by omega,(m / 1000000000,[]++[((m % 1000000000:Nat):Int)]),by dsimp only;omega,⟨key (by omega),by dsimp only;omega⟩,by exact Pj⟩
  have e:mk n.toNat=[]:=by rw [←hm,show m=0 by omega,mk_zero];rfl
  rw [e];exact(oC 1▸trivial)
 refine ev ?_;refine jW (fun hb=>?_) fun hb=>?_<;>(refine Gp @hb @e1 @e2 ?_;try with_reducible exact True.intro)
 ·refine⟨by omega,(m / 1000000000,(x::xs)++[((m % 1000000000:Nat):Int)]),by dsimp only;omega,⟨key (by omega),by dsimp only;omega⟩,by exact Nk⟩
 have e:x::xs=mk n.toNat:=by rw [←hm,show m=0 by omega,mk_zero];simp
 rw [←e];exact jP _
def ru:Fn:=⟨2,44,[.tmp 4],(sr [oN 4 (.oO (cI 0))] (sr [oW 8 1,oN 9 (ln 8),oW 5 9] (sr [oW 10 0,oW 11 5,oN 12 (bc .sub 11 1),oN 13 (ix 1 10 12),oN 14 (lF 1 13),oW 6 14] (.seq (sr [oW 15 0,oN 16 (ln 15),oW 17 5,oN 18 (bt .gtr 16 17)] (cd 18 (rg [oW 19 6,oW 20 0,oW 21 5,oN 22 (ix 1 20 21),oN 23 (lF 1 22),oN 24 (bc .mul 23 1000000000),oN 25 (bt .add 19 24),oW 6 25]) .skip)) (.seq (sr [oW 26 5,oN 27 (bc .eql 26 1)] (cd 27 (sr [oW 28 6,oW 29 1,oN 30 (.idx 1 (.t 29) (cI 0)),oN 31 (lF 1 30),oN 32 (bt .quo 28 31),oW 4 32] .ret) .skip)) (sr [oW 33 6,oW 34 1,oW 35 5,oN 36 (bc .sub 35 1),oN 37 (ix 1 34 36),oN 38 (lF 1 37),oN 39 (bc .add 38 1),oN 40 (bt .quo 33 39),oW 7 40] (.seq (sr [oW 41 7,oN 42 (bc .eql 41 0)] (cd 42 (sr [oN 4 (.oO (cI 1))] .ret) .skip)) (sr [oW 43 7,oW 4 43] .ret))))))))⟩
structure EK (T:Tb):Prop where
 hT:T 153=some ru
def yS:Fn:=⟨2,76,[.tmp 4,.tmp 5],(sr [oN 4 mN,oN 5 mN] (.seq (sr [oW 12 0,oN 13 (ln 12),oN 14 (bc .leq 13 2),oW 15 14,oG 15 true 16 (oV 1),oG 15 true 17 (ln 16),oG 15 true 18 (bc .leq 17 2),oN 19 (.pick (.t 15) (.t 18) (.c (.bool false)))] (cd 19 (sr [oW 20 0,oN 21 (cl 137 [20]),oW 22 1,oN 23 (cl 137 [22]),oW 6 21,oW 7 23] (.seq (rt 0 [oW 24 6,oW 25 7,oA 26 0 (bt .quo 24 25) [0,1],oA 27 0 (.conv .u64 (.t 26)) [2],oA 28 0 (cl 69 [27]) [3],oW 29 6,oW 30 7,oA 31 0 (bt .rem 29 30) [5,6],oA 32 0 (.conv .u64 (.t 31)) [7],oA 33 0 (cl 69 [32]) [8,4],oA 4 0 (oV 28) [4,9,0,1,2,3,4],oA 5 0 (oV 33) [9,10,0,1,2,3,4,5,6,7,8,9,10]]) .ret)) .skip)) (.seq (rf 1 [oK 34 1 (oV 0),oK 35 1 (ln 34),oN 36 (.make I9 8 (.t 35)),oK 8 1 (oV 36)]) (.seq (rf 1 [oN 37 (.oI 1 I9 0 []),oK 9 1 (oV 37)]) (.seq (sr [oW 38 0,oN 39 (ln 38),oN 40 (bc .sub 39 1),oW 10 40] (.block 0 (.loop (.seq (sr [oW 41 10,oN 42 (bc .geq 41 0)] (cd 42 .skip (.exit 0))) (.seq (.block 1 (.seq (rf 2 [oK 45 2 (oV 0),oK 46 2 (oV 10),oK 47 2 (ix 1 45 46),oK 48 2 (lF 1 47),oN 49 (.oI 1 I9 1 [(0,(.t 48))]),oK 50 2 (oV 9),oK 51 1 (.app 1 8 (.t 49) (.t 50)),oK 52 2 (cl 151 [51]),oK 9 2 (oV 52)]) (.block 2 (.loop (.seq (sr [oW 53 9,oW 54 1,oN 55 (cl 152 [53,54]),oN 56 (bc .geq 55 0)] (cd 56 .skip (.exit 2))) (.block 3 (sr [oW 57 9,oW 58 1,oN 59 (cl 153 [57,58]),oW 11 59] (.seq (rf 1 [oK 60 1 (oV 9),oK 61 1 (oV 1),oK 62 1 (oV 11),oN 63 (.oI 1 I9 1 [(0,(.t 62))]),oK 64 1 (cl 155 [61,63]),oK 65 1 (cl 154 [60,64]),oK 9 1 (oV 65)]) (rg [oW 66 8,oW 67 10,oN 68 (ix 1 66 67),oN 69 (lF 1 68),oW 70 11,oN 71 (bt .add 69 70),oN 72 (ix 1 66 67),oS (.store 1 (.t 72) (.t 71))]))))))))) (rg [oW 43 10,oN 44 (bc .sub 43 1),oW 10 44])))))) (sr [oW 73 8,oN 74 (cl 151 [73]),oW 75 9,oW 4 74,oW 5 75] .ret))))))⟩
structure yT (T:Tb):Prop where
 hT:T 138=some yS
 lV:sH T
 rC:zn T
 qN:uV T
 uj:yQ T
 J8:EK T
 yU:Dt T
 DF:Dv T
theorem UD{T:Tb}(h:EK T){r b:Nat}(hb:0<b)(hle:b≤r)(hlt:r<b*1000000000)(lr:(mk r).length≤1000:=by exact qW)(lb:(mk b).length≤1000:=by exact qW) :
  ∃d:Nat,PF T 153 [ints (mk r),ints (mk b)] (iv (d:Nat))∧0<d∧d<1000000000∧d*b≤r:=by
 obtain⟨h1,h2,h3,h4,h5⟩:=aia hb hle hlt;obtain⟨A,hA⟩:∃A,mk r=A:=⟨_,rfl⟩;obtain⟨B,hB⟩:∃B,mk b=B:=⟨_,rfl⟩;have hbA:Lb A:=hA▸uF r;have hbB:Lb B:=hB▸uF b;rw [hA]at h1 h2 h4 h5 lr ⊢;rw [hB]at h1 h2 h3 h4 h5 lb ⊢;obtain⟨k,hk⟩:∃k,B.length=k+1:=⟨B.length-1,by omega⟩;have g1:=uG hbA k;have g2:=uG hbA (k+1);have g3:=uG hbB k;have g4:=uG hbB 0;have eT:(val (A.drop k):Int)=A.getD k 0+(if k+1<A.length then A.getD (k+1) 0*1000000000 else 0):=by
  rw [qp A k];split
  ·rw [qp A (k+1),lZ (l:=A) (i:=k+1+1) (by omega)];omega
  rw [lZ (l:=A) (i:=k+1) (by omega)];omega
 have e1:((B.length:Nat):Int)-1=(k:Nat):=by omega
 have ebk:B.length-1=k:=by omega
 rw [ebk]at h5;by_cases hk0:k=0
 ·subst hk0;obtain⟨d1,d2,d3,d4⟩:=h4 (by omega);refine⟨_,?_,d1,d2,d3⟩;have c0:((B.length:Nat):Int)=1:=by omega
  have e2:((val (A.drop 0) / (B.getD 0 0).toNat:Nat):Int)=(val (A.drop 0):Int).tdiv (B.getD 0 0):=by
   rw [eU (by omega)];have:((B.getD 0 0).toNat:Int)=B.getD 0 0:=by omega
   rw [←this];simp
  have d5:0≤(val (A.drop 0):Int).tdiv (B.getD 0 0)∧(val (A.drop 0):Int).tdiv (B.getD 0 0)<1000000000:=by rw [←e2];omega
  rw [eT]at e2 d5;rw [e2];clear h4 h5 eT hbA hbB e2 d1 d2 d3 hlt hle hb hA hB h2;have c0':=iff_true_intro c0;have nb:¬B.getD 0 0=0:=by omega
  clear d4;have e3:((0:Nat):Int).toNat=0:=rfl;have e4:(((0:Nat):Int)+1).toNat=0+1:=rfl;by_cases c1:(1:Int)<(A.length:Nat)
  ·have c2:0+1<A.length:=by omega
   have c3:=iff_true_intro (show ((B.length:Nat):Int)<(A.length:Nat) by omega);rw [if_pos c2]at d5 ⊢;refine kR nR h.hT ?_;simp only [ru,Lz];refine ev ?_;refine ev5 @c0' @c3 @e1 @e3 @nb ?_;rw [hk,w64 (n:=A.getD (0+1) 0*1000000000) (by omega),w64 (n:=A.getD 0 0+_) (by omega),w64 (by omega)]
  have c2:¬0+1<A.length:=by omega
  have c3:¬((B.length:Nat):Int)<(A.length:Nat):=by omega
  rw [if_neg c2]at d5 ⊢;refine kR nR h.hT ?_;simp only [ru,Lz];refine ev ?_;refine ev5 @c0' @c3 @e1 @e3 @nb ?_;simp only [Int.add_zero]at d5 ⊢
 have c0:¬((B.length:Nat):Int)=1:=by omega
 have e4:(((k:Nat):Int)+1).toNat=k+1:=by omega
 obtain⟨d2,d3⟩:=h5;have e2:((val (A.drop k) / ((B.getD k 0).toNat+1):Nat):Int)=(val (A.drop k):Int).tdiv (B.getD k 0+1):=by
  rw [eU (by omega)];have:(((B.getD k 0).toNat+1:Nat):Int)=B.getD k 0+1:=by omega
  rw [←this,Int.natCast_ediv]
 have d5:0≤(val (A.drop k):Int).tdiv (B.getD k 0+1)∧(val (A.drop k):Int).tdiv (B.getD k 0+1)<1000000000:=⟨by rw [←e2];exact Int.natCast_nonneg _,by rw [←e2];exact Int.ofNat_lt.mpr d2⟩;generalize hd:val (A.drop k) / ((B.getD k 0).toNat+1)=d at d2 d3 e2;rw [eT]at e2 d5;have fin:∀t:Int,t=(if k+1<A.length then A.getD (k+1) 0*1000000000 else 0)→∃d:Nat,(if (A.getD k 0+t).tdiv (B.getD k 0+1)=0 then iv 1 else iv ((A.getD k 0+t).tdiv (B.getD k 0+1)))=iv (d:Nat)∧0<d∧d<1000000000∧d*b≤r:=by
  intro t ht;rw [←ht]at e2;rw [←e2];by_cases z:d=0
  ·exact⟨1,by simp [z],by omega,by omega,by omega⟩
  exact⟨d,by rw [if_neg (by omega)],by omega,d2,d3⟩
 clear h4 eT hbA hbB e2 d2 d3 hlt hle hb hA hB hd h2;by_cases c1:((k:Nat):Int)+1<(A.length:Nat)
 ·have c2:k+1<A.length:=by omega
  have c3:((B.length:Nat):Int)<(A.length:Nat):=by omega
  rw [if_pos c2]at d5 fin;obtain⟨u,f1,f2⟩:=fin _ rfl;refine⟨u,?_,f2⟩;clear f2 fin;rw [←f1];have nb:¬B.getD k 0+1=0:=by omega
  refine kR nR h.hT ?_;simp only [ru,Lz];refine ev ?_;refine ev5 @c0 @c3 @e1 @e4 @nb ?_;rw [hk,w64 (n:=A.getD (k+1) 0*1000000000) (by omega),w64 (n:=A.getD k 0+_) (by omega),w64 (by omega)];refine jW (fun z=>?_) fun z=>?_<;>(refine ev1 @z ?_;try with_reducible exact True.intro)
 have c2:¬k+1<A.length:=by omega
 have c3:¬((B.length:Nat):Int)<(A.length:Nat):=by omega
 rw [if_neg c2]at d5 fin;obtain⟨u,f1,f2⟩:=fin _ rfl;refine⟨u,?_,f2⟩;clear f2 fin;rw [←f1];have nb:¬B.getD k 0+1=0:=by omega
 refine kR nR h.hT ?_;simp only [ru,Lz];refine ev ?_;refine ev5 @c0 @c3 @e1 @e4 @nb ?_;simp only [Int.add_zero]at d5 ⊢;refine jW (fun z=>?_) fun z=>?_<;>(refine ev1 @z ?_;try with_reducible exact True.intro)
theorem V6{a b:St}(h:Fg a b:=by
 (refine Fh [(0,_)] (by simp) (by intro p hp;simp only [aH,bP,or_false]at hp;rcases hp with rfl<;>refine⟨rfl,?_⟩<;>first|exact oz _|simp [l9,V.still]) rfl ?_)<;>(try (refine ev ?_;try with_reducible exact True.intro))<;>(repeat' (first|exact True.intro|omega|exact qM rfl (by simp)|refine⟨?_,?_⟩|exact of_eq_true (rJ _ _ _)|exact lK rfl (by simp;done)|exact lK rfl rfl|(refine lD rfl ?_ rfl;simp [jR];done)|(refine lD rfl ?_ rfl;simp [jR];omega)|(refine rM ?_ ?_;(focus ((refine ev ?_;try with_reducible exact True.intro);done));(intro q hq k s0 l0;simp;done))))):Fg a b:=h
theorem UE{T:Tb}(h:yT T){m n:Nat}(hn:0<n)(la:(mk m).length≤900:=by exact qW)(lb:(mk n).length≤900:=by exact qW) :
  PF T 138 [ints (mk m),ints (mk n)] (.nJ [ints (mk (m / n)),ints (mk (m % n))]):=by
 obtain⟨A,hA⟩:∃A,mk m=A:=⟨_,rfl⟩;obtain⟨B,hB⟩:∃B,mk n=B:=⟨_,rfl⟩;have hva:val A=m:=by rw [←hA,val_mk]
 have hbA:Lb A:=hA▸uF m;have hbB:Lb B:=hB▸uF n;rw [hA]at la ⊢;rw [hB]at lb ⊢;refine jZ nR h.hT ?_;simp only [yS,Lz];refine ev ?_;have cas:(((A.length:Nat):Int)≤2∧((B.length:Nat):Int)≤2)∨((((A.length:Nat):Int)≤2∧¬((B.length:Nat):Int)≤2)∨¬((A.length:Nat):Int)≤2):=by omega
 rcases cas with ⟨c1,c2⟩|big
 ·have sm:m<1000000000000000000:=by
   have:=xu hbA;rw [hva]at this;exact aU this (bV (eG (by omega) (show A.length≤2 by omega)) (by omega))
  have sn:n<1000000000000000000:=by
   have:=xu hbB;rw [←hB,val_mk]at this;exact aU this (bV (eG (by omega) (show (mk n).length≤2 by rw [hB];omega)) (by omega))
  have cs:=CU h.rC sm;have ct:=CU h.rC sn;rw [hA]at cs;rw [hB]at ct;have e1:((m:Nat):Int).tdiv (n:Nat)=((m / n:Nat):Int):=by rw [eU (by omega),Int.natCast_ediv]
  have e2:((m:Nat):Int).tmod (n:Nat)=((m % n:Nat):Int):=by rw [gQ (by omega),jH]
  have d1:m / n≤m:=Nat.div_le_self ..;have d2:m % n≤m:=Nat.mod_le ..;have nz:¬((n:Nat):Int)=0:=by omega
  generalize m / n=q at *;generalize m % n=r at *;have c3:=xO h.lV (n:=((q:Nat):Int)) (by omega);have c4:=xO h.lV (n:=((r:Nat):Int)) (by omega);rw [iy]at c3 c4;refine vM @c1 @c2 ?_;refine jl cs ?_;refine ev ?_;refine jl ct ?_;refine Gp @nz @e1 @e2 ?_;refine jl c3 ?_;refine Gp @nz @e1 @e2 ?_;refine jl c4 ?_;refine ev ?_;exact jP _
 rcases big with ⟨c1,c2⟩|c1
 case' inl=>(refine vM @c1 @c2 ?_;try with_reducible exact True.intro)
 case' inr=>(refine ev1 @c1 ?_;try with_reducible exact True.intro)
 all_goals
  refine⟨by omega,?_⟩;rw [NZ];refine jX (fun _ _=>false) (α:=Nat×List Int×Nat) (fun q=>⟨lS [ints A,ints B,.any,.any,.any,.any,.any,.any,.kQ 0 0 A.length,ints (mk q.2.2),iv ((q.1:Nat)-1)],[some ⟨1,jR q.2.1⟩],0,0,[],[]⟩) (fun q=>q.1≤A.length∧q.2.1.length=A.length∧Lb q.2.1∧(∀j,j<q.1→q.2.1.getD j 0=0)∧q.2.2<n∧val (A.drop q.1)=val (q.2.1.drop q.1)*n+q.2.2) (fun q=>q.1) rfl (A.length,List.replicate A.length 0,0) ?_ ?_ ?_
  ·exact⟨by omega,by simp,N7 _,by intro j _;simp [List.getD_eq_getElem?_getD,List.getElem?_replicate];split<;>rfl,hn,by dsimp only;rw [lZ (Nat.le_refl _),lZ (by simp)];simp⟩
  ·rw [mk_zero];exact V6
  rintro⟨k,Q,x⟩ ⟨hk,hQ,hQb,hz,hx,hv⟩;dsimp only at hk hQ hQb hz hx hv;by_cases k0:k=0
  ·subst k0;rw [bY,bY,hva]at hv;obtain⟨q1,q2⟩:=Jp hv hx;have e0:¬(0:Int)≤((0:Nat):Int)-1:=by omega
   refine ev1 @e0 ?_;refine jl (IV h.qN (l:=Q) (by omega)) ?_;refine ev ?_;rw [zk hQb,←q1,←q2];exact jP _
  obtain⟨i,rfl⟩:∃i,k=i+1:=⟨k-1,by omega⟩;have e0:(((i+1:Nat):Int)-1)=(i:Nat):=by omega
  have e1:((i:Nat):Int)<(A.length:Nat):=by omega
  have e2:(0:Int)≤(i:Nat):=by omega
  rw [e0];have ga:=uG hbA i;have hvi:=qp A i;obtain⟨t,ht⟩:∃t,(A.getD i 0).toNat+1000000000*x=t:=⟨_,rfl⟩;have htn:t<n*1000000000:=by omega
  have lt':(A.getD i 0::mk x).length≤1048576:=by
   have:(mk x).length≤B.length:=by rw [kL];exact Nat.lt_trans hx (by have:=xu hbB;rw [←hB,val_mk,hB]at this;exact this)
   simp only [ak];omega
  have tr:trim (A.getD i 0::mk x)=mk t:=by
   rw [zk (by intro y hy;rcases aH.1 hy with rfl|hy;exact ga;exact uF x y hy),←ht,val,val_mk]
  have ct:=IV h.qN (l:=A.getD i 0::mk x) lt';rw [tr]at ct;have ely:∀y,y≤t→(mk y).length≤901:=by
   intro y hy;have:(mk y).length≤B.length+1:=by
    rw [kL,iC];have:=xu hbB;rw [←hB,val_mk,hB]at this;exact aU (dZ hy htn) (dA _ (Nat.le_of_lt this))
   omega
  have lx:=ely;refine vM @e2 @e1 ?_;refine⟨fun e3=>?_,fun e3=>?_⟩
  case' refine_1 =>
   have x0:mk x=[]:=by cases hm:mk x with|nil=>rfl|cons a l=>rw [hm]at e3;cases e3
   rw [x0]at ct;rw [show [[V.int IntKind.i64 (A.getD i 0)]]=jR [A.getD i 0]from rfl]
   (refine ev ?_;try with_reducible exact True.intro)
  case' refine_2 =>
   refine ev1 @e3 ?_;rw [show [V.int IntKind.i64 (A.getD i 0)]::jR (mk x)=jR (A.getD i 0::mk x)from rfl];refine ev ?_;have lm:=lt';simp only [ak]at lm;refine⟨by omega,?_⟩
  all_goals
   clear lt';refine jl ct ?_;refine ev ?_;refine jX (fun _ _=>false) (α:=List Int×Nat) (fun q=>⟨lS [ints A,ints B,.any,.any,.any,.any,.any,.any,.kQ 0 0 A.length,ints (mk q.2),iv (i:Nat)],[some ⟨1,jR q.1⟩],0,0,[],[]⟩) (fun q=>q.1.length=A.length∧Lb q.1∧(∀j,j<i→q.1.getD j 0=0)∧q.1.drop (i+1)=Q.drop (i+1)∧q.2+(q.1.getD i 0).toNat*n=t) (fun q=>q.2) rfl (Q,t) ?_ ?_ ?_
   ·exact⟨hQ,hQb,fun j hj=>hz j (by omega),rfl,by dsimp only;rw [hz i (by omega)];simp⟩
   ·exact V6
   rintro⟨P,y⟩ ⟨hP,hPb,hzP,hd,hy⟩;dsimp only at hP hPb hzP hd hy;have yt:y≤t:=by omega
   have ly:=ely y yt;have cc:=Ld h.uj (sN y) (sN n) (by omega) (by rw [hB];omega);rw [val_mk,val_mk,hB]at cc;refine ev ?_;refine jl cc ?_;refine ev ?_;refine jW (fun c3=>?_) fun c3=>?_<;>(refine ev1 @c3 ?_;try with_reducible exact True.intro)
   ·have hny:n≤y:=Ah.1 c3;obtain⟨d,pg,d0,d1,d2⟩:=UD h.J8 hn hny (by omega) (by omega) (by rw [hB];omega);rw [hB]at pg;have pm:=UA h.DF (m:=n) (n:=d) (by rw [hB];omega) (by rw [mk_one d0 d1];simp);have dn:n*d≤y:=by rw [dw];exact d2
    have lnd:=ely (n*d) (by omega);have ps:=Pm h.yU dn (by omega) (by omega);rw [hB,mk_one d0 d1]at pm;have gp:=uG hPb i;have y2:y-n*d+((P.getD i 0).toNat+d)*n=t:=by rw [eP,dw d n];omega
    have gp2:P.getD i 0+d<1000000000:=by
     have:((P.getD i 0).toNat+d)*n<1000000000*n:=by rw [dw 1000000000];omega
     have:=Nat.lt_of_mul_lt_mul_right this;omega
    have d0':0<n*d:=Nat.mul_pos hn d0;have k1:=Jl (l:=P) (i:=i) (d:=P.getD i 0+d) (by omega) gp2 hPb;have k2:∀j,j<i→(P.set i (P.getD i 0+d)).getD j 0=0:=by
     intro j hj;rw [qE,if_neg (by omega)];exact hzP j hj
    have k3:(P.set i (P.getD i 0+d)).drop (i+1)=Q.drop (i+1):=by rw [List.drop_set_of_lt (by omega),hd]
    have k4:((P.set i (P.getD i 0+d)).getD i 0)=P.getD i 0+d:=by rw [qE,if_pos ⟨rfl,by omega⟩]
    have k5:y-n*d+((P.set i (P.getD i 0+d)).getD i 0).toNat*n=t:=by
     rw [k4,show (P.getD i 0+(d:Int)).toNat=(P.getD i 0).toNat+d by omega];exact y2
    have k6:y-n*d<y:=by omega
    clear y2 hy htn ht hvi k4 hzP hd d2 lx ely hv hz hx;refine jl pg ?_;refine ev ?_;rw [show [[V.int IntKind.i64 (d:Int)]]=jR [(d:Int)]from rfl];refine ev ?_;refine jl pm ?_;refine ev ?_;refine jl ps ?_;refine vM @e1 @hP ?_;exact⟨(P.set i (P.getD i 0+d),y-n*d),k6,⟨by simp [hP],k1,k2,k3,k5⟩,by exact V6⟩
   have hny:y<n:=by
    have:=@Ah y n;omega
   have k1:=qp P i;rw [hd]at k1;have k2:val (A.drop i)=val (P.drop i)*n+y:=by
    rw [hvi,hv,k1,eP,iL,←fA];omega
   exact⟨(i,P,y),by dsimp only;omega,⟨by dsimp only;omega,hP,hPb,hzP,hny,k2⟩,by (refine jS ?_;exact EJ)⟩
def wH:Fn:=⟨1,6,[.tmp 2],(sr [oN 2 mN] (.seq (rf 2 [oN 3 (.oI 1 I9 0 []),oK 4 2 (oV 0),oK 5 1 (.app 1 8 (.t 3) (.t 4)),oK 2 2 (oV 5)]) .ret))⟩
structure tJ (T:Tb):Prop where
 hT:T 139=some wH
def DI:Fn:=⟨2,43,[.tmp 4],(sr [oN 4 mN] (.seq (.block 0 (.loop (.seq (sr [oW 9 1,oN 10 (ln 9),oN 11 (bc .gtr 10 0)] (cd 11 .skip (.exit 0))) (.block 1 (.seq (sr [oW 12 0,oN 13 (ln 12),oN 14 (bc .leq 13 2),oW 15 14,oG 15 true 16 (oV 1),oG 15 true 17 (ln 16),oG 15 true 18 (bc .leq 17 2),oN 19 (.pick (.t 15) (.t 18) (.c (.bool false)))] (cd 19 (sr [oW 20 0,oN 21 (cl 137 [20]),oW 22 1,oN 23 (cl 137 [22]),oW 5 21,oW 6 23] (.seq (.block 2 (.loop (.seq (sr [oW 24 6,oN 25 (bc .gtr 24 0)] (cd 25 .skip (.exit 2))) (.block 3 (rt 0 [oW 26 6,oW 27 5,oW 28 6,oA 29 0 (bt .rem 27 28) [1,2],oA 5 0 (oV 26) [0,0,1],oA 6 0 (oV 29) [3,4,0,1,2,3,4]]))))) (sr [oW 30 5,oN 31 (.conv .u64 (.t 30)),oN 32 (cl 69 [31]),oW 4 32] .ret))) .skip)) (sr [oW 34 0,oW 35 1,oN 36 (cl 138 [34,35]),oW 33 36,oN 37 (ex 0 33),oN 38 (ex 1 33),oW 7 37,oW 8 38] (rg [oW 39 1,oW 40 8,oW 0 39,oW 1 40]))))))) (sr [oW 41 0,oN 42 (cl 139 [41]),oW 4 42] .ret)))⟩
structure DJ (T:Tb):Prop where
 hT:T 127=some DI
 lV:sH T
 rC:zn T
 wO:yT T
 rD:tJ T
theorem Oc{T:Tb}(h:tJ T){l:List Int}(hl:l.length≤1048576:=by exact qW):PF T 139 [ints l] (ints l):=by
 refine jZ nR h.hT ?_;simp only [wH,Lz];refine ev ?_;refine⟨fun e=>?_,fun e=>⟨by omega,jP _⟩⟩;show lU (.sl 1 (jR l)) .jF;rw [e];exact of_eq_true (oC 1)
theorem UF{T:Tb}(h:DJ T){m n:Nat}(la:(mk m).length≤900:=by exact qW)(lb:(mk n).length≤900:=by exact qW) :
  PF T 127 [ints (mk m),ints (mk n)] (ints (mk (Nat.gcd m n))):=by
 refine jZ nR h.hT ?_;simp only [DI,Lz];refine ev ?_;refine jX (fun _ _=>false) (α:=Nat×Nat) (fun q=>⟨lS [ints (mk q.1),ints (mk q.2)],[],0,0,[],[]⟩) (fun q=>Nat.gcd q.1 q.2=Nat.gcd m n∧(mk q.1).length≤900∧(mk q.2).length≤900) (fun q=>q.2) rfl (m,n) ?_ ?_ ?_
 ·exact⟨rfl,la,lb⟩
 ·exact Oa
 rintro⟨x,y⟩ ⟨hg,lx,ly⟩;dsimp only at hg lx ly;rw [←hg];clear hg la lb;refine ev ?_;refine jW (fun c1=>?_) fun c1=>?_<;>(refine ev1 @c1 ?_;try with_reducible exact True.intro)
 ·have hy:0<y:=by
   rcases iH y with rfl|h
   ·rw [mk_zero]at c1;simp at c1
   exact h
  have cas:((((mk x).length:Nat):Int)≤2∧(((mk y).length:Nat):Int)≤2)∨(((((mk x).length:Nat):Int)≤2∧¬(((mk y).length:Nat):Int)≤2)∨¬(((mk x).length:Nat):Int)≤2):=by omega
  rcases cas with ⟨c2,c3⟩|big
  ·have sx:x<1000000000000000000:=by have:=kL (n:=x) (k:=2);omega
   have sy:y<1000000000000000000:=by have:=kL (n:=y) (k:=2);omega
   refine vM @c2 @c3 ?_;refine jl (CU h.rC sx) ?_;refine ev ?_;refine jl (CU h.rC sy) ?_;refine ev ?_;refine jX (fun _ _=>false) (α:=Nat×Nat) (fun q=>⟨lS [.any,.any,.any,.any,.any,iv (q.1:Nat),iv (q.2:Nat)],[],0,0,[],[]⟩) (fun q=>Nat.gcd q.1 q.2=Nat.gcd x y∧q.1<1000000000000000000∧q.2<1000000000000000000) (fun q=>q.2) rfl (x,y) ?_ ?_ ?_
   ·exact⟨rfl,sx,sy⟩
   ·exact Oa
   rintro⟨u,v⟩ ⟨hg,su,sv⟩;dsimp only at hg su sv;rw [←hg];clear hg;refine ev ?_;refine jW (fun c4=>?_) fun c4=>?_<;>(refine ev1 @c4 ?_;try with_reducible exact True.intro)
   ·have v0:0<v:=by omega
    have er:((u:Nat):Int).tmod (v:Nat)=((u % v:Nat):Int):=by rw [gQ (by omega),jH]
    have lr:=jL u v0;have eg:Nat.gcd v (u % v)=Nat.gcd u v:=by rw [jA u v,Nat.gcd_rec v u,jA]
    exact⟨(v,u % v),lr,⟨eg,sv,by dsimp only;omega⟩,by (refine jS ?_)<;>(try (refine ev1 @er ?_;try with_reducible exact True.intro))<;>(repeat' (first|refine⟨?_,?_⟩|exact Jh (by omega)|exact Lc (by simp)|exact He _))⟩
   have v0:v=0:=by omega
   have cu:=xO h.lV (n:=((u:Nat):Int)) (by omega);rw [iy]at cu;refine jl cu ?_;refine ev ?_;rw [v0,Nat.gcd_zero_right];exact jP _
  have lr:=jL x hy;have lr2:(mk (x % y)).length≤900:=bV (kL.2 (Nat.lt_trans lr (kL.1 (aJ _)))) ly;have eg:Nat.gcd y (x % y)=Nat.gcd x y:=by rw [jA x y,Nat.gcd_rec y x,jA]
  rcases big with ⟨c2,c3⟩|c2
  case' inl=>(refine vM @c2 @c3 ?_;try with_reducible exact True.intro)
  case' inr=>(refine ev1 @c2 ?_;try with_reducible exact True.intro)
  all_goals
   refine jl (UE h.wO hy lx ly) ?_;refine ev ?_;exact⟨(y,x % y),lr,⟨eg,ly,lr2⟩,by (refine jS ?_;exact EJ)⟩
 have y0:y=0:=by
  rcases iH y with h|h
  ·exact h
  have:=ahM (n:=y) (by omega);omega
 refine jl (Oc h.rD (l:=mk x) (by omega)) ?_;refine ev ?_;rw [y0,Nat.gcd_zero_right];exact jP _
abbrev bi(z:Int):Bi:=⟨decide (z<0),mk z.natAbs⟩
abbrev sg(neg:Bool)(n:Nat):Int:=if neg=true then -(n:Int)else n
theorem aag(n:Nat):n<1000000000 ^ (mk n).length:=kL.1 (aJ _)
theorem Jq{m n:Nat}(h:m≤n):(mk m).length≤(mk n).length:=kL.2 (dZ h (aag n))
theorem acp(m n:Nat):(mk (m*n)).length≤(mk m).length+(mk n).length:=by
 rw [kL,Nat.pow_add];exact Nat.mul_lt_mul_of_lt_of_lt (aag m) (aag n)
theorem aif(m n:Nat):(mk (m+n)).length≤max (mk m).length (mk n).length+1:=by
 rw [kL,iC];have h1:=aU (aag m) (eG (n:=1000000000) (by omega) (Nat.le_max_left (mk m).length (mk n).length));have h2:=aU (aag n) (eG (n:=1000000000) (by omega) (Nat.le_max_right (mk m).length (mk n).length));omega
theorem aii(m n:Nat):(mk (m-n)).length≤(mk m).length:=Jq (Nat.sub_le m n)
theorem QK(m n:Nat):(mk (m / n)).length≤(mk m).length:=Jq (Nat.div_le_self m n)
theorem Yi:(mk 0).length=0:=by rw [mk_zero];rfl
theorem Gq{n:Nat}:0<(mk n).length↔0<n:=by
 constructor
 ·intro h;rcases iH n with rfl|h1
  ·rw [mk_zero]at h;simp at h
  exact h1
 intro h;have:=ahM (n:=n) (by omega);omega
theorem aij{n:Nat}:(mk n).length=0↔n=0:=by
 have:=@Gq n;omega
theorem nX(x y:Int):(mk (x*y).natAbs).length≤(mk x.natAbs).length+(mk y.natAbs).length:=by
 rw [iE];exact acp _ _
theorem Jr(x y:Int):(mk (x+y).natAbs).length≤max (mk x.natAbs).length (mk y.natAbs).length+1 :=
 bV (Jq (Int.natAbs_add_le x y)) (aif _ _)
theorem aik(neg:Bool)(n:Nat)(h:0<n):bi (sg neg n)=⟨neg,mk n⟩:=by
 cases neg
 ·simp [bi,sg]
 simp [bi,sg,h]
theorem ad9:bi 0=⟨false,[]⟩:=by simp [bi,mk_zero]
theorem Pq(neg:Bool):sg neg 0=0:=by cases neg<;>simp [sg]
theorem aqw(n:Nat):bi (n:Int)=⟨false,mk n⟩:=by simp [bi]
theorem aqx(x y:Int):sg (decide (x<0) != decide (y<0)) (x.natAbs*y.natAbs)=x*y:=by
 rw [←iE];by_cases x0:x=0
 ·subst x0;simp [sg]
 by_cases y0:y=0
 ·subst y0;simp [sg]
 rcases(show x<0∨0<x by omega)with h|h<;>rcases(show y<0∨0<y by omega)with k|k
 ·have:=Int.mul_pos_of_neg_of_neg h k;simp only [sg,h,k,decide_true,bne_self_eq_false,bn,if_false];omega
 ·have:=Int.mul_neg_of_neg_of_pos h k;have k':¬y<0:=by omega
  simp only [sg,h,k',decide_true,decide_false,Bool.bne_false,if_true];omega
 ·have:=Int.mul_neg_of_pos_of_neg h k;have h':¬x<0:=by omega
  simp only [sg,h',k,decide_true,decide_false,Bool.false_bne,if_true];omega
 have:=Int.mul_pos h k;have k':¬y<0:=by omega
 have h':¬x<0:=by omega
 simp only [sg,h',k',decide_false,bne_self_eq_false,bn,if_false];omega
theorem aah{x y:Int}(h:decide (x<0)=decide (y<0)):sg (decide (x<0)) (x.natAbs+y.natAbs)=x+y:=by
 have h':x<0↔y<0:=by simpa using h
 by_cases k:x<0
 ·have:=h'.1 k;simp only [sg,k,decide_true,if_true];omega
 have:¬y<0:=fun q=>k (h'.2 q);simp only [sg,k,decide_false,bn,if_false];omega
theorem RI{x y:Int}(h:decide (x<0)≠decide (y<0))(hl:y.natAbs≤x.natAbs):sg (decide (x<0)) (x.natAbs-y.natAbs)=x+y:=by
 have h':¬(x<0↔y<0):=by simpa using h
 by_cases k:x<0
 ·have:¬y<0:=fun q=>h' ⟨fun _=>q,fun _=>k⟩;simp only [sg,k,decide_true,if_true];omega
 have:y<0:=Classical.byContradiction fun q=>h' ⟨fun a=>absurd a k,fun a=>absurd a q⟩;simp only [sg,k,decide_false,bn,if_false];omega
theorem amK(x y:Int):ab8 x y=if x<0∧¬y<0 then -1 else if ¬x<0∧y<0 then 1 else if x<0 then Gm y.natAbs x.natAbs else Gm x.natAbs y.natAbs:=by
 unfold ab8 Gm
 repeat' split
 all_goals omega
end Go.Ml
end
