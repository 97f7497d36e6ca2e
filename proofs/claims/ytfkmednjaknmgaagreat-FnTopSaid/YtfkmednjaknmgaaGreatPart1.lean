/- Contracts of functions. -/
import Derived.Test.YtfkmednjaknmgaaGreatPart0
set_option linter.unusedSimpArgs false
set_option linter.unusedVariables false
set_option maxRecDepth 100000
set_option maxHeartbeats 16000000
section
namespace Go.Ml
def zJ(n:Nat)(v:V)(k:Nat->Prop):Prop:=match v with
 |.int _ i=>(0<=i/\i<n)/\k i.toNat
 |_=>False
def uK(n:Nat)(v:V)(k:Nat->Prop):Prop:=match v with
 |.int _ i=>(0<=i/\i<=n)/\k i.toNat
 |_=>False
theorem DN{n:Nat}{v:V}{k:Nat->Prop}(h:zJ n v k):∃j,TL n v=some j/\k j:=by
 cases v<;>simp only [zJ]at h<;>first|exact h.elim|skip
 exact⟨_,by simp only [TL];rw [aQ h.1],h.2⟩
theorem Q9{n:Nat}{v:V}{k:Nat->Prop}(h:uK n v k):∃j,KC n v=some j/\k j:=by
 cases v<;>simp only [uK]at h<;>first|exact h.elim|skip
 exact⟨_,by simp only [KC];rw [aQ h.1],h.2⟩
def oZ{α:Type}(o:Option α)(k:α->Prop):Prop:=match o with
 |some a=>k a
 |none=>False
theorem mO{α:Type}{o:Option α}{k:α->Prop}(h:oZ o k):∃a,o=some a/\k a:=by
 cases o with
 |none=>exact h.elim
 |some a=>exact⟨a,rfl,h⟩
def zX(op:BinOp)(x y:V)(k:V->Prop):Prop:=match op,x,y with
 |.add,.int q a,.int q' b=>q=q'/\k (.int q (q.wrap (a+b)))
 |.sub,.int q a,.int q' b=>q=q'/\k (.int q (q.wrap (a-b)))
 |.mul,.int q a,.int q' b=>q=q'/\k (.int q (q.wrap (a*b)))
 |.quo,.int q a,.int q' b=>(q=q'/\b≠0)/\k (.int q (q.wrap (a.tdiv b)))
 |.rem,.int q a,.int q' b=>(q=q'/\b≠0)/\k (.int q (a.tmod b))
 |.eql,.int q a,.int q' b=>q=q'/\k (.bool (a == b))
 |.neq,.int q a,.int q' b=>q=q'/\k (.bool (a != b))
 |.lss,.int q a,.int q' b=>q=q'/\k (.bool (decide (a<b)))
 |.leq,.int q a,.int q' b=>q=q'/\k (.bool (decide (a<=b)))
 |.gtr,.int q a,.int q' b=>q=q'/\k (.bool (decide (b<a)))
 |.geq,.int q a,.int q' b=>q=q'/\k (.bool (decide (b<=a)))
 |.eql,.str a,.str b=>k (.bool (a == b))
 |.neq,.str a,.str b=>k (.bool (!(a == b)))
 |.add,.str a,.str b=>a.length+b.length<2 ^ 62/\k (.str (a++b))
 |.shr,.int q a,.int _ b=>0<=b/\k (.int q (a.fdiv (2 ^ (min b.toNat q.bits))))
 |.and,.int q a,.int q' b=>q=q'/\k (.int q (KA q a b))
 |.xor,.int q a,.int q' b=>q=q'/\k (.int q (Xk q a b))
 |_,_,_=>False
theorem ajH{op:BinOp}{x y:V}{k:V->Prop}(h:zX op x y k):∃v,aak op x y=some v/\k v:=by
 unfold zX at h;split at h<;>first|exact h.elim|skip
 all_goals first
  |exact⟨_,by simp only [aak];rw [aQ h.1],h.2⟩
  |exact⟨_,by simp only [aak],h⟩
def I.pz(env:Nat->V)(σ:Store)(i:I)(k:Eff->Prop):Prop:=match i with
 |.qC x=>k (.val (x.ev env))
 |
  .pick c a b=>match c.ev env with
  |.bool t=>k (.val (if t then a.ev env else b.ev env))
  |_=>False
 |.alloc zero=>k (.newP ⟨zero.length,[zero]⟩)
 |
  .box x=>match (x.ev env).cells? with
  |some (c::cs)=>k (.newP ⟨(c::cs).length,[c::cs]⟩)
  |_=>False
 |.build zero parts=>oZ (CQ env zero parts) fun cs=>k (.val (.agg cs))
 |.nO sz zero ln parts=>oZ (vI env sz (List.replicate ln zero) parts) fun rows=>if ln=0 then k (.val .kC)else k (.newS ⟨sz,rows⟩ ln)
 |
  .make zero bytes x=>match x.ev env with
  |.int .i64 n=>(0<=n/\n<=2 ^ 47/\n*bytes<=2 ^ 47)/\k (.newS ⟨zero.length,List.replicate n.toNat zero⟩ n.toNat)
  |_=>False
 |.load n isAgg a=>oZ (rowAt σ (a.ev env)) fun p =>
   if isAgg then(p.2+n<=p.1.length/\k (.val (.agg ((p.1.drop p.2).take n))))else oZ p.1[p.2]? fun v=>k (.val v)
 |
  .store n a x=>match a.ev env with
  |.ptr o r off=>oZ (x.ev env).cells? fun cs=>oZ (jQ σ o) fun ob=>oZ ob.rows[r]? fun row =>
    (cs.length=n/\off+n<=row.length)/\k (.upd o ⟨ob.sz,ob.rows.set r (splice row off cs)⟩)
  |_=>False
 |
  .fld d a=>match a.ev env with
  |.ptr o r off=>oZ (jQ σ o) fun _=>k (.val (.ptr o r (off+d)))
  |.qw row off=>k (.val (.qw row (off+d)))
  |_=>False
 |
  .idx sz x i=>match x.ev env with
  |.lQ o s l=>oZ (jQ σ o) fun ob=>zJ l (i.ev env) fun j=>ob.sz=sz/\k (.val (.ptr o (s+j) 0))
  |.sl sz' rows=>zJ rows.length (i.ev env) fun j=>sz'=sz/\k (.val (.qw (rows.getD j []) 0))
  |_=>False
 |
  .abr cnt sz x i=>match x.ev env with
  |.ptr o r off=>zJ cnt (i.ev env) fun j=>oZ (jQ σ o) fun _=>k (.val (.ptr o r (off+j*sz)))
  |.qw row off=>zJ cnt (i.ev env) fun j=>k (.val (.qw row (off+j*sz)))
  |_=>False
 |
  .adg x i=>match x.ev env with
  |.str s=>zJ s.length (i.ev env) fun j=>k (.val (.int .u8 (s.getD j 0).toNat))
  |_=>False
 |.len x=>oZ (lenOf σ (x.ev env)) fun n=>k (.val (.int .i64 n))
 |
  .adh x=>match x.ev env with
  |.str s=>k (.val (.int .i64 s.length))
  |_=>False
 |.bin op x y=>zX op (x.ev env) (y.ev env) fun v=>k (.val v)
 |
  .beq ne x y=>match x.ev env,y.ev env with
  |.bool a,.bool b=>k (.val (.bool (if ne then !(a == b)else a == b)))
  |_,_=>False
 |
  .un op x=>match op,x.ev env with
  |.neg,.int q n=>k (.val (.int q (q.wrap (0-n))))
  |.not,.bool b=>k (.val (.bool (!b)))
  |_,_=>False
 |
  .conv q x=>match x.ev env with
  |.int _ n=>k (.val (.int q (q.wrap n)))
  |_=>False
 |.app sz bytes x y=>oZ (rowsOf σ (x.ev env)) fun old=>oZ (rowsOf σ (y.ev env)) fun new =>
   (new.2=[]->k (.val (x.ev env)))/\(new.2≠[]->(new.1=sz/\(old.2.length+new.2.length)*bytes<=2 ^ 40/\old.2.length+new.2.length<=2 ^ 40) /\
    match x.ev env with
    |.kC=>k (.newS ⟨sz,new.2⟩ new.2.length)
    |.lQ o _ _=>oZ (jQ σ o) fun ob=>ob.sz=sz/\k (.qC o ⟨sz,old.2++new.2⟩ (old.2.length+new.2.length))
    |_=>False)
 |
  .max x y=>match x.ev env,y.ev env with
  |.int q a,.int q' b=>q=q'/\k (.val (.int q (if b>a then b else a)))
  |_,_=>False
 |
  .ZJ i x=>match x.ev env with
  |.oU vs=>oZ vs[i]? fun v=>k (.val v)
  |_=>False
 |
  .chk x=>match x.ev env with
  |.ptr o r off=>oZ (jQ σ o) fun _=>k (.val (.ptr o r off))
  |.qw row off=>k (.val (.qw row off))
  |_=>False
 |
  .RG x lo hi=>match x.ev env with
  |.str s=>(match hi with|some h=>uK s.length (h.ev env)|none=>fun k=>k s.length) fun h =>
    (match lo with|some l=>uK h (l.ev env)|none=>fun k=>k 0) fun l=>k (.val (.str ((s.take h).drop l)))
  |_=>False
 |.slice sz x lo hi=>oZ (lenOf σ (x.ev env)) fun n=>(match hi with|some h=>uK n (h.ev env)|none=>fun k=>k n) fun h =>
   (match lo with|some l=>uK h (l.ev env)|none=>fun k=>k 0) fun l=>match x.ev env with
    |.kC=>k (.val .kC)
    |.sl sz' rows=>sz'=sz/\k (.val (.sl sz' ((rows.take h).drop l)))
    |.lQ o s _=>oZ (jQ σ o) fun ob=>ob.sz=sz/\k (.val (.lQ o (s+l) (h-l)))
    |_=>False
 |
  .adi cnt x i=>match x.ev env with
  |.agg cs=>zJ cnt (i.ev env) fun j=>oZ cs[j]? fun v=>k (.val v)
  |_=>False
 |i=>oZ (i.eff env σ) k
theorem adB{env:Nat->V}{n:Nat}{hi:Option Src}{k:Nat->Prop}(h:(match hi with|some h=>uK n (h.ev env)|none=>fun k=>k n) k):∃j,hiB env n hi=some j/\k j:=by
 cases hi with
 |none=>exact⟨n,rfl,h⟩
 |some x=>exact Q9 h
theorem adC{env:Nat->V}{n:Nat}{lo:Option Src}{k:Nat->Prop}(h:(match lo with|some h=>uK n (h.ev env)|none=>fun k=>k 0) k):∃j,loB env n lo=some j/\k j:=by
 cases lo with
 |none=>exact⟨0,rfl,h⟩
 |some x=>exact Q9 h
theorem Vm{env:Nat->V}{σ:Store}{i:I}{k:Eff->Prop}(h:i.pz env σ k):∃ef,i.eff env σ=some ef/\k ef:=by
 cases i with
 |qC x=>exact⟨_,rfl,h⟩
 |
  pick c a b =>
  simp only [I.pz]at h;split at h<;>first|exact h.elim|skip
  rename_i t e;exact⟨_,by simp only [I.eff,e],h⟩
 |alloc z=>exact⟨_,rfl,h⟩
 |
  box x =>
  simp only [I.pz]at h;split at h<;>first|exact h.elim|skip
  rename_i c cs e;exact⟨_,by simp only [I.eff,e],h⟩
 |
  build z ps =>
  obtain⟨cs,e,h⟩:=mO h;exact⟨_,by simp only [I.eff,e],h⟩
 |
  nO sz z ln ps =>
  obtain⟨rows,e,h⟩:=mO h;split at h
  ·rename_i h0;exact⟨_,by simp only [I.eff,e];rw [aQ h0],h⟩
  rename_i h0;exact⟨_,by simp only [I.eff,e];rw [aN h0],h⟩
 |
  make z b x =>
  simp only [I.pz]at h;split at h<;>first|exact h.elim|skip
  rename_i n e;exact⟨_,by simp only [I.eff,e];rw [aQ h.1],h.2⟩
 |
  load n g a =>
  obtain⟨p,e,h⟩:=mO h;obtain⟨row,off⟩:=p;simp only []at h
  cases g with
  |
   true =>
   simp only [if_true]at h;exact⟨_,by simp only [I.eff,e,if_true];rw [aQ h.1],h.2⟩
  |
   false =>
   simp only [bM,if_false]at h;obtain⟨v,e2,h⟩:=mO h;exact⟨_,by simp only [I.eff,e,bM,if_false,e2],h⟩
 |
  store n a x =>
  simp only [I.pz]at h;split at h<;>first|exact h.elim|skip
  rename_i o r off e;obtain⟨cs,e1,h⟩:=mO h;obtain⟨ob,e2,h⟩:=mO h;obtain⟨row,e3,h⟩:=mO h;exact⟨_,by simp only [I.eff,e,e1,e2,e3];rw [aQ h.1],h.2⟩
 |
  fld d a =>
  simp only [I.pz]at h;split at h<;>first|exact h.elim|skip
  ·rename_i o r off e;obtain⟨ob,e2,h⟩:=mO h;exact⟨_,by simp only [I.eff,e,e2],h⟩
  rename_i row off e;exact⟨_,by simp only [I.eff,e],h⟩
 |
  idx sz x i =>
  simp only [I.pz]at h;split at h<;>first|exact h.elim|skip
  ·rename_i o s l e;obtain⟨ob,e2,h⟩:=mO h;obtain⟨j,e3,h⟩:=DN h;exact⟨_,by simp only [I.eff,e,e2,e3];rw [aQ h.1],h.2⟩
  rename_i sz' rows e;obtain⟨j,e3,h⟩:=DN h;exact⟨_,by simp only [I.eff,e,e3];rw [aQ h.1],h.2⟩
 |
  abr c sz x i =>
  simp only [I.pz]at h;split at h<;>first|exact h.elim|skip
  ·rename_i o r off e;obtain⟨j,e3,h⟩:=DN h;obtain⟨ob,e2,h⟩:=mO h;exact⟨_,by simp only [I.eff,e,e2,e3],h⟩
  rename_i row off e;obtain⟨j,e3,h⟩:=DN h;exact⟨_,by simp only [I.eff,e,e3],h⟩
 |
  adg x i =>
  simp only [I.pz]at h;split at h<;>first|exact h.elim|skip
  rename_i s e;obtain⟨j,e3,h⟩:=DN h;exact⟨_,by simp only [I.eff,e,e3],h⟩
 |
  len x =>
  obtain⟨n,e,h⟩:=mO h;exact⟨_,by simp only [I.eff,e],h⟩
 |
  adh x =>
  simp only [I.pz]at h;split at h<;>first|exact h.elim|skip
  rename_i s e;exact⟨_,by simp only [I.eff,e],h⟩
 |
  bin op x y =>
  simp only [I.pz]at h;obtain⟨v,e,h⟩:=ajH h;exact⟨_,by simp only [I.eff,e],h⟩
 |
  beq ne x y =>
  simp only [I.pz]at h;split at h<;>first|exact h.elim|skip
  rename_i p q e1 e2;exact⟨_,by simp only [I.eff,e1,e2],h⟩
 |
  un op x =>
  simp only [I.pz]at h;split at h<;>first|exact h.elim|skip
  ·rename_i q n e;exact⟨_,by simp only [I.eff,e,akZ],h⟩
  rename_i b e;exact⟨_,by simp only [I.eff,e,akZ],h⟩
 |
  conv q x =>
  simp only [I.pz]at h;split at h<;>first|exact h.elim|skip
  rename_i q' n e;exact⟨_,by simp only [I.eff,e],h⟩
 |
  app sz b x y =>
  obtain⟨old,e1,h⟩:=mO h;obtain⟨new,e2,h⟩:=mO h;obtain⟨so,old⟩:=old;obtain⟨sn,new⟩:=new;simp only []at h;by_cases hn:new=[]
  ·exact⟨_,by simp only [I.eff,e1,e2];rw [aQ hn],h.1 hn⟩
  obtain⟨hc,h⟩:=h.2 hn;split at h<;>first|exact h.elim|skip
  ·rename_i e;rw [e]at e1;refine⟨_,?_,h⟩;simp only [I.eff,e,e1,e2];rw [aN hn,aQ hc]
  rename_i o s l e;obtain⟨ob,e3,h⟩:=mO h;rw [e]at e1;refine⟨_,?_,h.2⟩;simp only [I.eff,e,e1,e2,e3];rw [aN hn,aQ hc,aQ h.1]
 |
  max x y =>
  simp only [I.pz]at h;split at h<;>first|exact h.elim|skip
  rename_i q p q' r e1 e2;exact⟨_,by simp only [I.eff,e1,e2];rw [aQ h.1],h.2⟩
 |
  ZJ i x =>
  simp only [I.pz]at h;split at h<;>first|exact h.elim|skip
  rename_i vs e;obtain⟨v,e2,h⟩:=mO h;exact⟨_,by simp only [I.eff,e,e2],h⟩
 |
  chk x =>
  simp only [I.pz]at h;split at h<;>first|exact h.elim|skip
  ·rename_i o r off e;obtain⟨ob,e2,h⟩:=mO h;exact⟨_,by simp only [I.eff,e,e2],h⟩
  rename_i row off e;exact⟨_,by simp only [I.eff,e],h⟩
 |
  RG x lo hi =>
  simp only [I.pz]at h;split at h<;>first|exact h.elim|skip
  rename_i s e;obtain⟨hh,e1,h⟩:=adB h;obtain⟨l,e2,h⟩:=adC h;exact⟨_,by simp only [I.eff,e,e1,e2],h⟩
 |
  slice sz x lo hi =>
  obtain⟨n,e0,h⟩:=mO h;obtain⟨hh,e1,h⟩:=adB h;obtain⟨l,e2,h⟩:=adC h;split at h<;>first|exact h.elim|skip
  ·rename_i e;rw [e]at e0;exact⟨_,by simp only [I.eff,e,e0,e1,e2],h⟩
  ·rename_i sz' rows e;rw [e]at e0;exact⟨_,by simp only [I.eff,e,e0,e1,e2];rw [aQ h.1],h.2⟩
  rename_i o s q e;obtain⟨ob,e3,h⟩:=mO h;rw [e]at e0;exact⟨_,by simp only [I.eff,e,e0,e1,e2,e3];rw [aQ h.1],h.2⟩
 |
  adi cnt x i =>
  simp only [I.pz]at h;split at h<;>first|exact h.elim|skip
  rename_i cs e;obtain⟨j,e2,h⟩:=DN h;obtain⟨v,e3,h⟩:=mO h;exact⟨_,by simp only [I.eff,e,e2,e3],h⟩
 |_=>exact mO h
def PF(T:Tb)(f:Nat)(args:List V)(r:V):Prop:=Run T (.fn f args []) (.fn r [])
def PV(v:V)(k:Bool->Prop):Prop:=match v with
 |.bool b=>k b
 |_=>False
theorem afV{v:V}{k:Bool->Prop}(h:PV v k):∃b,v=.bool b/\k b:=by
 cases v<;>first|exact h.elim|exact⟨_,rfl,h⟩
def gdK(want:Bool)(v:V)(k:Bool->Prop):Prop:=match v with
 |.bool b=>k b
 |.oU []=>k (!want)
 |_=>False
theorem adD{want:Bool}{v:V}{k:Bool->Prop}(h:gdK want v k):(v=.bool want/\k want)\/(ajx want v/\k (!want)):=by
 unfold gdK at h;split at h
 ·rename_i b;by_cases e:b=want
  ·subst e;exact .inl ⟨rfl,h⟩
  have:b = !want:=by cases b<;>cases want<;>simp_all
  subst this;exact .inr ⟨.inr ⟨_,rfl,e⟩,h⟩
 ·exact .inr ⟨.inl rfl,h⟩
 exact h.elim
def gK(g:Option (Nat×Bool))(env:Nat->V)(on off:Prop):Prop:=match g with
 |none=>on
 |some (t,true)=>gdK true (env t) fun b=>if b=true then on else off
 |some (t,false)=>gdK false (env t) fun b=>if b=true then off else on
theorem abC{g:Option (Nat×Bool)}{env:Nat->V}{on off:Prop}(h:gK g env on off) :
  ((∀t want,g=some (t,want)->env t=.bool want)/\on)\/(∃t want,g=some (t,want)/\ajx want (env t)/\off):=by
 cases g with
 |none=>exact .inl ⟨fun _ _ h=>(by cases h),h⟩
 |
  some p =>
  obtain⟨t,want⟩:=p
  cases want with
  |
   true =>
   rcases adD h with ⟨e,h⟩|⟨e,h⟩
   ·exact .inl ⟨fun _ _ h=>(by cases h;exact e),(by simpa using h)⟩
   exact .inr ⟨t,true,rfl,e,by simpa using h⟩
  |
   false =>
   rcases adD h with ⟨e,h⟩|⟨e,h⟩
   ·exact .inl ⟨fun _ _ h=>(by cases h;exact e),(by simpa using h)⟩
   exact .inr ⟨t,false,rfl,e,by simpa using h⟩
def MS(env:Nat->V)(σ:Store):List Src->(List V->Prop)->Prop
 | [],k=>k []
 |s::as,k=>oZ (resolve σ FD (s.ev env)) fun v=>MS env σ as fun vs=>k (v::vs)
theorem AY{env:Nat->V}{σ:Store}:∀{as:List Src} {k:List V->Prop},MS env σ as k->∃vs,as.mapM (fun s=>resolve σ FD (s.ev env))=some vs/\k vs
 | [],k,h=>⟨[],rfl,h⟩
 |
  s::as,k,h=>by
  obtain⟨v,e,h⟩:=mO h;obtain⟨vs,e2,h⟩:=AY h;exact⟨v::vs,by simp [bZ,e,e2],h⟩
def nY(env:Nat->V)(σ:Store)(as:List Src):List Nat:=as.flatMap fun s=>reach σ FD (s.ev env)
def PFK(T:Tb)(f:Nat)(as:List V)(k:V->Prop):Prop:=∃r,PF T f as r/\k r
inductive TS (T:Tb) (f:Nat) (as:List Src) (dst:Option Nat) (st:St):St->Prop
 |ref (ρ:List Nat) {r:V} {σ':Store} (hn:ρ.Nodup) (hρ:∀o,o∈ρ->(jQ st.objs o).isSome=true) (h:Run T (.fn f (as.map fun s=>lS (place ρ) (s.ev st.env)) (Ij ρ st.objs)) (.fn r σ')) :
   TS T f as dst st { st with env:=oO st.env dst (lS (back ρ st.objs.length) r),objs:=uO ρ st.objs σ' }
 |own {as':List V} {r:V} {σ':Store} {R:List Nat} (ha:as.mapM (fun s=>resolve st.objs FD (s.ev st.env))=some as') (h:Run T (.fn f as' []) (.fn r σ'))
   (hR:R=if ou r&&FP σ' then []else as.flatMap fun s=>reach st.objs FD (s.ev st.env)) :
   TS T f as dst st { st with env:=oO st.env dst (lS (mV st.objs.length) r),objs:=zW (nT st.objs R) σ' }
 |idn {r:V} {σ':Store} (h:Run T (.fn f (as.map fun s=>s.ev st.env) st.objs) (.fn r σ')) (hl:st.objs.length<=σ'.length) (hb:st.objs.length<=st.base) :
   TS T f as dst st { st with env:=oO st.env dst r,objs:=σ' }
 |XZ {as':List V} {r:V} {R:List Nat} (ha:as.mapM (fun s=>resolve st.objs FD (s.ev st.env))=some as') (h:Run T (.fn f as' []) (.fn r []))
   (hR:R=if scalar SD r then []else as.flatMap fun s=>reach st.objs FD (s.ev st.env)) :
   TS T f as dst st { st with env:=oO st.env dst r,objs:=nT st.objs R }
def QW(T:Tb)(f:Nat)(as:List Src)(dst:Option Nat)(st:St)(k:St->Prop):Prop:=∃st',TS T f as dst st st'/\k st'
def dN:Option Nat->Nat
 |some n=>n
 |none=>0
theorem PW(n:Nat):dN (some n)=n:=by have h:dN (some n)=n:=rfl;exact h
def opK(T:Tb)(rf:Nat->Nat->Bool)(o:qJ)(st:St)(k:St->Prop):Prop :=
 gK o.g st.env (match o.i with
  |.call f as=>if rf f (dN o.dst)=true then QW T f as o.dst st k else MS st.env st.objs as fun as'=>PFK T f as' fun r =>
    k { st with env:=oO st.env o.dst r,objs:=nT st.objs (if scalar SD r then []else nY st.env st.objs as) }
  |i=>i.pz st.env st.objs fun ef=>k (ef.go st o.dst (st.base+o.k)))
  (k { st with env:=oO st.env o.dst (.oU []) })
theorem alz{T:Tb}{rf:Nat->Nat->Bool}{o:qJ}{st:St}{k:St->Prop}(h:opK T rf o st k):∃st',Run T (.op o st) (.code .normal st')/\k st':=by
 rcases abC h with ⟨hg,h⟩|⟨t,want,hg,he,h⟩
 ·split at h
  ·rename_i f as hi;split at h
   ·obtain⟨st',h1,h4⟩:=h;refine⟨st',?_,h4⟩
    cases h1 with
    |ref ρ h1 h2 h3=>exact .ak4 ρ h1 h2 hg hi h3
    |own h1 h2 h3=>exact .ak5 hg hi h1 h2 h3
    |idn h1 h2 h3=>exact .ak6 hg hi h1 h2 h3
    |XZ h1 h2 h3=>exact .adn hg hi h1 h2 h3
   obtain⟨vs,e,h⟩:=AY h;obtain⟨r,h1,h⟩:=h;exact⟨_,.adn hg hi e h1 rfl,h⟩
  obtain⟨ef,e,h⟩:=Vm h;exact⟨_,.op hg e,h⟩
 exact⟨_,.off hg he,h⟩
def afW(T:Tb)(rf:Nat->Nat->Bool):List qJ->St->(St->Prop)->Prop
 | [],st,k=>k st
 |o::l,st,k=>opK T rf o st fun st=>afW T rf l st k
theorem aau{T:Tb}{rf:Nat->Nat->Bool}:∀{l:List qJ} {st:St} {k:St->Prop},afW T rf l st k->∃st',Run T (.ops l st) (.code .normal st')/\k st'
 | [],st,k,h=>⟨st,.nil st,h⟩
 |
  o::l,st,k,h=>by
  obtain⟨st1,h1,h⟩:=alz h;obtain⟨st2,h2,h⟩:=aau h;exact⟨st2,.cons h1 h2,h⟩
def uni(a b:List Nat):List Nat:=b.foldl (fun s x=>if s.contains x then s else x::s) a
def ayf:List qJ->List (List Nat)->List (List Nat)
 | [],acc=>acc
 |o::l,acc=>ayf l (acc++[o.aft.foldl (fun s e=>uni s (acc.getD e [])) o.aft])
def okB(B:Nat->List Nat)(l:List qJ):Nat->Bool
 |
  i=>match l with
  | []=>true
  |o::l=>(B i).all (fun j=>o.aft.contains j||o.aft.any fun e=>(B e).contains j)&&o.aft.all (fun e=>decide (e<i))&&okB B l (i+1)
theorem Yg{B:Nat->List Nat}:∀{l:List qJ} {n:Nat},okB B l n=true->∀i o,l[i]? = some o->(∀j,j∈B (n+i)->j∈o.aft\/∃e∈o.aft,j∈B e)/\∀e∈o.aft,e<n+i
 | [],n,_,i,o,h=>by simp at h
 |
  x::l,n,hk,i,o,h=>by
  unfold okB at hk;simp only [aH,bg]at hk;obtain⟨⟨h1,h2⟩,h3⟩:=hk
  cases i with
  |
   zero =>
   simp only [jP,aB]at h;subst h;refine⟨fun j hj=>?_,fun e he=>by simpa using h2 e he⟩;have:=h1 j hj;simpa using this
  |
   succ i =>
   simp only [List.getElem?_cons_succ]at h;have:=Yg h3 i o h;rw [show n+(i+1)=n+1+i by omega];exact this
def ZR(l:List qJ):Nat->List Nat:=let b:=ayf l [];fun i=>b.getD i []
structure Acc where
 i:Nat
 R:List Nat
 W:List Nat
 n:Bool:=false
def BI(L:Nat)(a b:Acc):Bool:=!a.n||(!b.n&&b.R.all (fun o=>decide (o<L))&&b.W.all fun p=>decide (p<L))
def wX(L:Nat)(d e:qJ)(a b:Acc):Bool :=
 !OH d.dst e.looks && !OH e.dst d.looks && !(d.dst.isSome&&d.dst == e.dst) &&
  a.W.all (fun p=>!b.R.contains p&&b.W.all fun q=>q != p)&&b.W.all (fun q=>!a.R.contains q)&&BI L a b&&BI L b a
def PY(l:List qJ)(i:Nat):qJ:=l.getD i ⟨none,none,0,.alloc [],[]⟩
def okA(L:Nat)(B:Nat->List Nat)(ops:List qJ):List Acc->Bool
 | []=>true
 |a::l=>l.all (fun b=>(B b.i).contains a.i||wX L (PY ops a.i) (PY ops b.i) a b)&&okA L B ops l
def sF(L:Nat)(ops:List qJ)(l:List Acc):Prop:=okA L (ZR ops) ops l.reverse=true
def ZT(T:Tb)(f:Nat)(as:List Src)(dst:Option Nat)(st:St)(k:List Nat->List Nat->Bool->St->Prop):Prop :=
 (∃as' r σ',as.mapM (fun s=>resolve st.objs FD (s.ev st.env))=some as'/\Run T (.fn f as' []) (.fn r σ')/\(ou r&&FP σ')=true /\
  k (nY st.env st.objs as) [] true { st with env:=oO st.env dst (lS (mV st.objs.length) r),objs:=zW st.objs σ' }) \/
 (∃as' r,as.mapM (fun s=>resolve st.objs FD (s.ev st.env))=some as'/\Run T (.fn f as' []) (.fn r [])/\scalar SD r=false /\
  k (nY st.env st.objs as) (nY st.env st.objs as) false { st with env:=oO st.env dst r,objs:=nT st.objs (nY st.env st.objs as) }) \/
 (∃r σ',Run T (.fn f (as.map fun s=>s.ev st.env) st.objs) (.fn r σ')/\st.objs.length<=σ'.length/\st.objs.length<=st.base /\
  k (List.range st.objs.length) (List.range st.objs.length) true { st with env:=oO st.env dst r,objs:=σ' }) \/
 ∃
  ρ r v,ρ.Nodup/\(∀o,o∈ρ->∃ob,jQ st.objs o=some ob/\∀g,rD g ob=ob)/\Run T (.fn f (as.map fun s=>lS (place ρ) (s.ev st.env)) (Ij ρ st.objs)) (.fn r (Ij ρ st.objs))/\(∀n,lS (back ρ n) r=v) /\
  k ρ [] false { st with env:=oO st.env dst v }
def TT(l:List Nat)(k:List Nat->Prop):Prop:=k l
def Eff.wr(id:Nat):Eff->List Nat
 |.val _=>[]
 |.newP _=>[id]
 |.newS _ _=>[id]
 |.upd o _=>[o]
 |.qC o _ _=>[o,id]
def RS(T:Tb)(rf:Nat->Nat->Bool)(L:Nat)(ops:List qJ):List qJ->Nat->List Acc->St->(St->Prop)->Prop
 | [],_,acc,st,k=>sF L ops acc/\k st
 |
  o::l,i,acc,st,k=>gK o.g st.env (match o.i with
  |.call f as=>if rf f (dN o.dst)=true then ZT T f as o.dst st fun R W n st=>RS T rf L ops l (i+1) (⟨i,R,W,n⟩::acc) st k
    else MS st.env st.objs as fun as'=>PFK T f as' fun r=>TT (nY st.env st.objs as) fun R =>
    (R=[]\/scalar SD r=true)/\RS T rf L ops l (i+1) (⟨i,R,[],false⟩::acc) { st with env:=oO st.env o.dst r } k
  |x
    => TT (x.reads st.env) fun R=>x.pz st.env st.objs fun ef=>TT (ef.wr (st.base+o.k)) fun W =>
    RS T rf L ops l (i+1) (⟨i,R,W,false⟩::acc) (ef.go st o.dst (st.base+o.k)) k)
  (RS T rf L ops l (i+1) (⟨i,[],[],false⟩::acc) { st with env:=oO st.env o.dst (.oU []) } k)
def aav(ops:List qJ)(p:Nat×Dat)(a:Acc):Prop:=a.i=p.1/\PY ops a.i=p.2.x/\a.R=p.2.R/\a.W=p.2.W.map (·.1)/\a.n=p.2.N.isSome
theorem aaw{L:Nat}{ops:List qJ}{p q:Nat×Dat}{a b:Acc}(h:aav ops p a)(k:aav ops q b):BI L a b=below L p.2 q.2:=by
 obtain⟨h1,h2,h3,h4,h5⟩:=h;obtain⟨k1,k2,k3,k4,k5⟩:=k;unfold BI below;rw [h5,k5,k3,k4,jH];simp only [Option.not_isSome];rfl
theorem ajI{L:Nat}{ops:List qJ}{p q:Nat×Dat}{a b:Acc}(h:aav ops p a)(k:aav ops q b):wX L (PY ops a.i) (PY ops b.i) a b=apart L p.2 q.2:=by
 have e1:=aaw (L:=L) h k;have e2:=aaw (L:=L) k h;obtain⟨h1,h2,h3,h4,h5⟩:=h;obtain⟨k1,k2,k3,k4,k5⟩:=k;unfold wX apart;rw [e1,e2,h2,k2,h3,k3,h4,k4];simp only [jH];rfl
inductive zK (ops:List qJ):List (Nat×Dat)->List Acc->Prop
 |nil:zK ops [] []
 |cons {p a l m} (h:aav ops p a) (t:zK ops l m):zK ops (p::l) (a::m)
theorem zK.all{ops:List qJ}{f:Nat×Dat->Bool}{g:Acc->Bool}:∀{l m},zK ops l m->(∀p a,aav ops p a->f p=g a)->l.all f=m.all g
 |_,_,.nil,_=>rfl
 |_,_,.cons h t,hfg=>by simp only [dD];rw [hfg _ _ h,t.all hfg]
theorem afX{L:Nat}{B:Nat->List Nat}{ops:List qJ}:∀{l m},zK ops l m->okA L B ops m=true->okD L B l=true
 |_,_,.nil,_=>rfl
 |
  _,_,.cons (p:=p) (a:=a) h t,hk=>by
  simp only [okA,aH]at hk;obtain⟨i,d⟩:=p;simp only [okD,aH];refine⟨?_,afX t hk.2⟩;rw [t.all fun q b hq=>?_]
  ·exact hk.1
  rw [ajI h hq,hq.1,h.1]
theorem zK.append{ops:List qJ}:∀{l m l' m'},zK ops l m->zK ops l' m'->zK ops (l++l') (m++m')
 |_,_,_,_,.nil,h=>h
 |_,_,_,_,.cons h t,k=>.cons h (t.append k)
theorem ayg(ef:Eff)(id:Nat):ef.wr id=(ef.writes id).map (·.1):=by cases ef<;>rfl
theorem RU{T:Tb}{d:Dat}:∀(l:List Dat) (st:St),Chain T l st->Fp T d (FI l st)->Chain T (l++[d]) st
 | [],_,_,h=>⟨h,trivial⟩
 |_::l,_,h,k=>⟨h.1,RU l _ h.2 k⟩
theorem RV{d:Dat}:∀(l:List Dat) (st:St),FI (l++[d]) st=d.go (FI l st)
 | [],_=>rfl
 |_::l,_=>RV l _
theorem aax{T:Tb}{rf:Nat->Nat->Bool}{L:Nat}{ops:List qJ}{st0:St}:∀{l:List qJ} {i:Nat} {acc:List Acc} {st:St} {k:St->Prop} (ds:List (Nat×Dat)),RS T rf L ops l i acc st k ->
  i<=ops.length->ops.drop i=l->ds.length=i->ds.map (·.1)=List.range i->zK ops ds acc.reverse->Chain T (ds.map (·.2)) st0->FI (ds.map (·.2)) st0=st ->
  ∃ds',ds'.map (·.1)=List.range ops.length/\(∃acc',zK ops ds' acc'/\okA L (ZR ops) ops acc'=true)/\Chain T (ds'.map (·.2)) st0/\k (FI (ds'.map (·.2)) st0)
 |
  [],i,acc,st,k,ds,h,hil,hd,hi,hr,hf,hc,hg=>by
  have hl:ops.length=i:=by
   have:=congrArg List.length hd;simp at this;omega
  exact⟨ds,by rw [hr,hl],⟨_,hf,h.1⟩,hc,by rw [hg];exact h.2⟩
 |
  o::l,i,acc,st,k,ds,h,_,hd,hi,hr,hf,hc,hg=>by
  have hio:ops[i]? = some o:=by
   have:=congrArg (·[0]?) hd;simpa using this
  have hd':ops.drop (i+1)=l:=by
   rw [<-List.drop_drop,hd];rfl
  have hgo:PY ops i=o:=by simp [PY,aj,hio]
  have step:∀(d:Dat),d.x=o->∀(a:Acc),a.i=i->a.R=d.R->a.W=d.W.map (·.1)->a.n=d.N.isSome->Fp T d st->RS T rf L ops l (i+1) (a::acc) (d.go st) k->_:=fun d hdx a ha hR hW hN hfp hk =>
   aax (ds++[(i,d)]) hk (aP.1 hio).1 hd' (by simp [hi]) (by simp [hr,iV]) (by
    rw [List.reverse_cons];exact hf.append (.cons ⟨ha,by rw [ha,hgo,hdx],hR,hW,hN⟩ .nil)) (by
    rw [bU];exact RU _ _ hc (by rw [hg];exact hfp)) (by rw [bU,bT,iQ,RV,hg])
  rcases abC h with ⟨hgd,h⟩|⟨t,want,hgd,he,h⟩
  ·split at h
   ·rename_i f as hi2;split at h
    ·rcases h with ⟨vs,r,σ',e,h1,h2,h⟩|⟨vs,r,e,h1,h2,h⟩|⟨r,σ',h1,h2,h3,h⟩|⟨ρ,r,v,h1,h2,h3,h4,h⟩
     rotate_right
     ·refine step ⟨o,ρ,v,[],none⟩ rfl ⟨i,ρ,[],false⟩ rfl rfl rfl rfl (alx hgd hi2 h1 h2 h3 h4) ?_;have e2:(⟨o,ρ,v,[],none⟩:Dat).go st={ st with env:=oO st.env o.dst v }:=by
       simp only [Dat.go,xO,jf,fJ,aU]
      rw [e2];exact h
     rotate_right
     ·refine step ⟨o,_,r,(List.range st.objs.length).map fun o=>(o,jQ σ' o),some (σ'.drop st.objs.length)⟩ rfl ⟨i,_,List.range st.objs.length,true⟩ rfl rfl (by rw [fQ];exact(List.map_id _).symm) rfl (aly hgd hi2 h1 h2 h3) ?_;have e2:(⟨o,List.range st.objs.length,r,(List.range st.objs.length).map fun o=>(o,jQ σ' o),some (σ'.drop st.objs.length)⟩:Dat).go st={ st with env:=oO st.env o.dst r,objs:=σ' }:=by
       simp only [Dat.go,jF]
       congr 1
       exact adA h2
      rw [e2];exact h
     rotate_left
     ·refine step ⟨o,_,r,(as.flatMap fun s=>reach st.objs FD (s.ev st.env)).map fun o=>(o,none),none⟩ rfl ⟨i,_,as.flatMap fun s=>reach st.objs FD (s.ev st.env),false⟩ rfl rfl (by rw [fQ];exact(List.map_id _).symm) rfl (alu hgd hi2 e h1 h2) ?_;have e2:(⟨o,as.flatMap fun s=>reach st.objs FD (s.ev st.env),r,(as.flatMap fun s=>reach st.objs FD (s.ev st.env)).map fun o=>(o,none),none⟩:Dat).go st =
        { st with env:=oO st.env o.dst r,objs:=nT st.objs (as.flatMap fun s=>reach st.objs FD (s.ev st.env)) }:=by
       simp only [Dat.go,Vl,fJ,aU]
      rw [e2];exact h
     refine step ⟨o,_,_,[],some _⟩ rfl ⟨i,_,[],true⟩ rfl rfl rfl rfl (alv hgd hi2 e h1 h2) ?_;have e2:(⟨o,as.flatMap fun s=>reach st.objs FD (s.ev st.env),lS (mV st.objs.length) r,[],some (σ'.map (Option.map (rD (mV st.objs.length))))⟩:Dat).go st =
       { st with env:=oO st.env o.dst (lS (mV st.objs.length) r),objs:=zW st.objs σ' }:=by
      simp only [Dat.go,xO,jf,zW,jF]
     rw [e2];exact h
    obtain⟨vs,e,h⟩:=AY h;obtain⟨r,h1,h⟩:=h;obtain⟨hR,h⟩:=h;refine step ⟨o,_,r,[],none⟩ rfl ⟨i,_,[],false⟩ rfl rfl rfl rfl (adz hgd hi2 e h1 hR.symm) ?_;have e2:(⟨o,as.flatMap fun s=>reach st.objs FD (s.ev st.env),r,[],none⟩:Dat).go st={ st with env:=oO st.env o.dst r }:=by
     simp only [Dat.go,xO,jf,fJ,aU]
    rw [e2];exact h
   unfold TT at h;obtain⟨ef,e,h⟩:=Vm h;refine step ⟨o,o.i.reads st.env,ef.dv (st.base+o.k),ef.writes (st.base+o.k),none⟩ rfl ⟨i,_,_,false⟩ rfl rfl (ayg _ _) rfl (alk hgd e) ?_;have e2:(⟨o,o.i.reads st.env,ef.dv (st.base+o.k),ef.writes (st.base+o.k),none⟩:Dat).go st=ef.go st o.dst (st.base+o.k):=by
    simp only [Dat.go,Eff.go,adw,fJ,aU]
   rw [e2];exact h
  refine step ⟨o,[],.oU [],[],none⟩ rfl ⟨i,[],[],false⟩ rfl rfl rfl rfl (alm hgd he) ?_;have e2:(⟨o,[],.oU [],[],none⟩:Dat).go st={ st with env:=oO st.env o.dst (.oU []) }:=by
   simp only [Dat.go,xO,jf,fJ,aU]
  rw [e2];exact h
theorem alA{T:Tb}{rf:Nat->Nat->Bool}{ops:List qJ}{st:St}{k:St->Prop}(hb:okB (ZR ops) ops 0=true)(h:RS T rf st.objs.length ops ops 0 [] st k):∃st',Run T (.any ops [] st) (.code .normal st')/\k st':=by
 obtain⟨ds,h1,⟨acc,h2,h3⟩,h4,h5⟩:=aax (ops:=ops) (st0:=st) [] h (eH _) rfl rfl rfl .nil trivial rfl;have hB:=Yg hb;simp only [aX]at hB;have hfit:∀{l m},zK ops l m->∀p∈l,PY ops p.1=p.2.x:=by
  intro l m hf
  induction hf with
  |nil=>intro p hp;cases hp
  |
   cons h t ih =>
   intro p hp;rcases aI.1 hp with rfl|hp
   ·rw [<-h.1];exact h.2.1
   exact ih p hp
 have hlt:∀p∈ds,p.1<ops.length:=by
  intro p hp;have:p.1∈ds.map (·.1):=jh hp;rw [h1]at this;exact fF.1 this
 refine⟨_,run_any (B:=ZR ops) (fun i o j ho hj=>(hB i o ho).1 j hj) ds.length ds [] st (aJ _) rfl (afX h2 h3) (fun e he=>by cases he) h4 ?_ ?_ ?_,h5⟩
 ·rw [h1];exact List.pairwise_lt_range
 ·intro p hp;have hp2:ops[p.1]? = some p.2.x:=by
   have:=hfit h2 p hp;unfold PY at this;rw [aj]at this;rw [ak (hlt p hp)]at this ⊢;exact congrArg some this
  exact⟨hp2,by simp,(hB p.1 p.2.x hp2).2⟩
 intro i hi _;have:i∈ds.map (·.1):=by rw [h1];exact fF.2 hi
 obtain⟨p,hp,e⟩:=bF.1 this;exact⟨p.2,by rw [<-e];exact hp⟩
def apx(ef:Eff)(k:V->Prop):Prop:=match ef with
 |.val v=>k v
 |_=>False
theorem ajJ{ef:Eff}{k:V->Prop}(h:apx ef k):∃v,ef=.val v/\k v:=by
 cases ef<;>first|exact h.elim|exact⟨_,rfl,h⟩
def MV(T:Tb):List qJ->St->(St->Prop)->Prop
 | [],st,k=>k st
 |
  o::l,st,k=>gK o.g st.env (match o.i with
  |.call f as=>MS st.env st.objs as fun as'=>PFK T f as' fun r=>TT (nY st.env st.objs as) fun R =>
    (R=[]\/scalar SD r=true)/\MV T l { st with env:=oO st.env o.dst r } k
  |x=>x.pz st.env st.objs fun ef=>apx ef fun v=>MV T l { st with env:=oO st.env o.dst v } k)
  (MV T l { st with env:=oO st.env o.dst (.oU []) } k)
def NJ(rf:Nat->Nat->Bool)(l:List qJ):Bool:=l.all fun o=>match o.i with
 |.call f _=>!rf f (dN o.dst)
 |_=>true
theorem Yh{T:Tb}{ops:List qJ}{st0:St}:∀{l:List qJ} {i:Nat} {acc:List Acc} {st:St} {k:St->Prop} (ds:List (Nat×Dat)),MV T l st k ->
  i<=ops.length->ops.drop i=l->ds.length=i->ds.map (·.1)=List.range i->zK ops ds acc.reverse->(∀a∈acc,a.W=[]/\a.n=false)->Chain T (ds.map (·.2)) st0->FI (ds.map (·.2)) st0=st ->
  ∃ds',ds'.map (·.1)=List.range ops.length/\(∃acc',zK ops ds' acc'/\∀a∈acc',a.W=[]/\a.n=false)/\Chain T (ds'.map (·.2)) st0/\k (FI (ds'.map (·.2)) st0)
 |
  [],i,acc,st,k,ds,h,hil,hd,hi,hr,hf,hw,hc,hg=>by
  have hl:ops.length=i:=by
   have:=congrArg List.length hd;simp at this;omega
  exact⟨ds,by rw [hr,hl],⟨_,hf,by simpa using hw⟩,hc,by rw [hg];exact h⟩
 |
  o::l,i,acc,st,k,ds,h,_,hd,hi,hr,hf,hw,hc,hg=>by
  have hio:ops[i]? = some o:=by
   have:=congrArg (·[0]?) hd;simpa using this
  have hd':ops.drop (i+1)=l:=by
   rw [<-List.drop_drop,hd];rfl
  have hgo:PY ops i=o:=by simp [PY,aj,hio]
  have step:∀(R:List Nat) (v:V),Fp T ⟨o,R,v,[],none⟩ st->MV T l { st with env:=oO st.env o.dst v } k->_:=fun R v hfp hk =>
   Yh (acc:=⟨i,R,[],false⟩::acc) (ds++[(i,⟨o,R,v,[],none⟩)]) hk (aP.1 hio).1 hd' (by simp [hi]) (by simp [hr,iV]) (by
    rw [List.reverse_cons];exact hf.append (.cons ⟨rfl,hgo,rfl,rfl,rfl⟩ .nil)) (by
    intro a ha;rcases aI.1 ha with rfl|ha
    ·exact⟨rfl,rfl⟩
    ·exact hw a ha) (by
    rw [bU];exact RU _ _ hc (by rw [hg];exact hfp)) (by rw [bU,bT,iQ,RV,hg,go_val])
  rcases abC h with ⟨hgd,h⟩|⟨t,want,hgd,he,h⟩
  ·split at h
   ·rename_i f as hi2;obtain⟨vs,e,h⟩:=AY h;obtain⟨r,h1,h⟩:=h;obtain⟨hR,h⟩:=h;exact step _ r (adz hgd hi2 e h1 hR.symm) h
   obtain⟨ef,e,h⟩:=Vm h;obtain⟨v,rfl,h⟩:=ajJ h;exact step _ v (alk hgd e) h
  exact step [] (.oU []) (alm hgd he) h
def ayh(ops:List qJ):Bool:=okA 0 (ZR ops) ops ((List.range ops.length).map fun i=>⟨i,[],[],false⟩)
theorem aay{L:Nat}{B:Nat->List Nat}{ops:List qJ}:∀{l:List Acc},(∀a∈l,a.W=[]/\a.n=false)->okA 0 B ops (l.map fun a=>⟨a.i,[],[],false⟩)=okA L B ops l
 | [],_=>rfl
 |
  a::l,h=>by
  simp only [bT,okA];rw [aay fun b hb=>h b (by simp [hb])]
  congr 1
  rw [jH];have hall:∀(m:List Acc),(∀b∈m,b.W=[]/\b.n=false)->(m.all ((fun b:Acc=>(B b.i).contains a.i||wX 0 (PY ops a.i) (PY ops b.i) ⟨a.i,[],[],false⟩ b) ∘ fun b=>⟨b.i,[],[],false⟩)) =
    m.all fun b=>(B b.i).contains a.i||wX L (PY ops a.i) (PY ops b.i) a b:=by
   intro m
   induction m with
   |nil=>intro _;rfl
   |
    cons b m ih =>
    intro hm;simp only [dD];rw [ih fun c hc=>hm c (by simp [hc])]
    congr 1
    simp only [Function.comp,wX,BI,(h a (by simp)).1,(hm b (by simp)).1,(h a (by simp)).2,(hm b (by simp)).2,dU,kE,iq]
  exact hall l fun b hb=>h b (by simp [hb])
theorem ajK{T:Tb}{ops:List qJ}{st:St}{k:St->Prop}(L:Nat)(h0:ayh ops=true)(h:MV T ops st k) :
  ∃ds:List (Nat×Dat),ds.map (·.1)=List.range ops.length/\(∃acc',zK ops ds acc'/\okA L (ZR ops) ops acc'=true)/\Chain T (ds.map (·.2)) st/\k (FI (ds.map (·.2)) st):=by
 obtain⟨ds,h1,⟨acc,h2,h3⟩,h4,h5⟩:=Yh (ops:=ops) (acc:=[]) (st0:=st) [] h (eH _) rfl rfl rfl .nil (by simp) trivial rfl;refine⟨ds,h1,⟨acc,h2,?_⟩,h4,h5⟩;rw [<-aay h3];have:(acc.map fun a=>(⟨a.i,[],[],false⟩:Acc))=(List.range ops.length).map fun i=>⟨i,[],[],false⟩:=by
  rw [<-h1,fQ];clear h1 h3 h4 h5 h h0
  induction h2 with
  |nil=>rfl
  |cons h t ih=>simp only [bT,Function.comp,h.1,ih]
 rw [this];exact h0
theorem atK{T:Tb}{ops:List qJ}{st:St}(hb:okB (ZR ops) ops 0=true){ds:List (Nat×Dat)}(h1:ds.map (·.1)=List.range ops.length)
  {acc:List Acc} (h2:zK ops ds acc) (h3:okA st.objs.length (ZR ops) ops acc=true) (h4:Chain T (ds.map (·.2)) st):Run T (.any ops [] st) (.code .normal (FI (ds.map (·.2)) st)):=by
 have hB:=Yg hb;simp only [aX]at hB;have hfit:∀{l m},zK ops l m->∀p∈l,PY ops p.1=p.2.x:=by
  intro l m hf
  induction hf with
  |nil=>intro p hp;cases hp
  |
   cons h t ih =>
   intro p hp;rcases aI.1 hp with rfl|hp
   ·rw [<-h.1];exact h.2.1
   exact ih p hp
 have hlt:∀p∈ds,p.1<ops.length:=by
  intro p hp;have:p.1∈ds.map (·.1):=jh hp;rw [h1]at this;exact fF.1 this
 refine run_any (B:=ZR ops) (fun i o j ho hj=>(hB i o ho).1 j hj) ds.length ds [] st (aJ _) rfl (afX h2 h3) (fun e he=>by cases he) h4 ?_ ?_ ?_
 ·rw [h1];exact List.pairwise_lt_range
 ·intro p hp;have hp2:ops[p.1]? = some p.2.x:=by
   have:=hfit h2 p hp;unfold PY at this;rw [aj]at this;rw [ak (hlt p hp)]at this ⊢;exact congrArg some this
  exact⟨hp2,by simp,(hB p.1 p.2.x hp2).2⟩
 intro i hi _;have:i∈ds.map (·.1):=by rw [h1];exact fF.2 hi
 obtain⟨p,hp,e⟩:=bF.1 this;exact⟨p.2,by rw [<-e];exact hp⟩
def MW(l:List qJ):Bool:=l.all fun o=>match o.i with
 |.store .. | .alloc _ | .box _ | .nO .. | .make .. | .app ..=>false
 |_=>true
def C.okC:C->Bool
 |.reg d m l=>okK m l&&(!d||(okB (ZR l) l 0&&(!MW l||ayh l)))
 |.seq a b=>a.okC&&b.okC
 |.cond _ a b=>a.okC&&b.okC
 |.block _ c=>c.okC
 |.loop c=>c.okC
 |_=>true
def adF(σ:Store)(m:Nat):Store:=σ++List.replicate m none
def St.in(st:St)(m:Nat):St:={ st with objs:=adF st.objs m,base:=st.objs.length,rds:=[],muts:=[] }
def abE(e:Ex)(k q:Prop):Prop:=match e with
 |.normal=>k
 |_=>q
def Ws(T:Tb)(c:C)(Q:Ex->St->Prop)(st:St):Prop:=∃e st',Run T (.code (.loop c) st) (.code e st')/\Q e st'
def wp(T:Tb)(rf:Nat->Nat->Bool):C->(Ex->St->Prop)->St->Prop
 |.skip,Q,st=>Q .normal st
 |.reg d m l,Q,st=>if d then(if MW l&&NJ rf l then MV T l (st.in m) (Q .normal)else RS T rf (st.in m).objs.length l l 0 [] (st.in m) (Q .normal))else afW T rf l (st.in m) (Q .normal)
 |.seq a b,Q,st=>wp T rf a (fun e st=>abE e (wp T rf b Q st) (Q e st)) st
 |.cond x a b,Q,st=>PV (x.ev st.env) fun t=>if t=true then wp T rf a Q st else wp T rf b Q st
 |.block id c,Q,st=>wp T rf c (fun e st=>Q (adk id e) st) st
 |.loop c,Q,st=>Ws T c Q st
 |.exit id,Q,st=>Q (.exit id) st
 |.ret,Q,st=>Q .ret st
 |.lib _,_,_=>False
theorem BN{T:Tb}{rf:Nat->Nat->Bool}:∀{c:C} {Q:Ex->St->Prop} {st:St},c.okC=true->wp T rf c Q st->∃e st',Run T (.code c st) (.code e st')/\Q e st'
 |.skip,Q,st,_,h=>⟨_,_,.skip st,h⟩
 |
  .reg d m l,Q,st,hk,h=>by
  simp only [C.okC,aH,dX,iL]at hk;obtain⟨hk,hk2⟩:=hk;unfold wp at h
  cases d with
  |
   false =>
   obtain⟨st',h1,h2⟩:=aau (by simpa using h);exact⟨_,_,.reg hk h1,h2⟩
  |
   true =>
   simp only [Bool.true_eq_false,false_or]at hk2;simp only [if_true]at h;split at h
   ·rename_i hw;simp only [aH]at hw;rcases hk2.2 with h'|h'
    ·rw [h']at hw;cases hw.1
    obtain⟨ds,h1,⟨acc,h2,h3⟩,h4,h5⟩:=ajK (st.in m).objs.length h' h;exact⟨_,_,.atC hk (atK hk2.1 h1 h2 h3 h4),h5⟩
   obtain⟨st',h1,h2⟩:=alA hk2.1 h;exact⟨_,_,.atC hk h1,h2⟩
 |
  .seq a b,Q,st,hk,h=>by
  simp only [C.okC,aH]at hk;obtain⟨e,st1,h1,h2⟩:=BN hk.1 (Q:=fun e st=>abE e (wp T rf b Q st) (Q e st)) h
  cases e with
  |
   normal =>
   obtain⟨e,st2,h3,h4⟩:=BN hk.2 (Q:=Q) h2;exact⟨e,st2,.axY h1 h3,h4⟩
  |exit id=>exact⟨_,_,.atD (by simp) h1,h2⟩
  |ret=>exact⟨_,_,.atD (by simp) h1,h2⟩
 |
  .cond x a b,Q,st,hk,h=>by
  simp only [C.okC,aH]at hk;obtain⟨t,e,h⟩:=afV h
  cases t with
  |
   true =>
   obtain⟨e2,st2,h1,h2⟩:=BN hk.1 (Q:=Q) (by simpa using h);exact⟨e2,st2,.cond e h1,h2⟩
  |
   false =>
   obtain⟨e2,st2,h1,h2⟩:=BN hk.2 (Q:=Q) (by simpa using h);exact⟨e2,st2,.cond e h1,h2⟩
 |
  .block id c,Q,st,hk,h=>by
  obtain⟨e,st1,h1,h2⟩:=BN (c:=c) (Q:=fun e st=>Q (adk id e) st) hk h;exact⟨_,_,.block h1,h2⟩
 |.loop c,Q,st,_,h=>h
 |.exit id,Q,st,_,h=>⟨_,_,.exit id st,h⟩
 |.ret,Q,st,_,h=>⟨_,_,.ret st,h⟩
 |.lib _,_,_,_,h=>by simp [wp]at h
def wr{α:Sort _}(a:α):α:=a
theorem nr{α:Sort _}{a b:α}(h:a=b):a=b:=h
theorem rM{α:Sort _}(a:α):wr a=a:=nr rfl
def Vo(σ:Store)(k:Store->Prop):Prop:=k σ
theorem atL(k:Store->Prop):Vo [] k=k []:=nr rfl
theorem atM(a:Option Obj)(σ:Store)(k:Store->Prop):Vo (a::σ) k=k (a::σ):=nr rfl
@[congr] theorem aCJ {v v':Store} {k:Store->Prop} (h:wr v=v'):Vo v k=Vo v' k:=by rw [<-h,rM]
def RX(n:Nat)(k:Nat->Prop):Prop:=k n
theorem apy(n:Nat)(k:Nat->Prop):RX n k=k n:=nr rfl
@[congr] theorem aCK {v v':Nat} {k:Nat->Prop} (h:wr v=v'):RX v k=RX v' k:=by rw [<-h,rM]
def brK(t:Bool)(a b:Prop):Prop:=if t=true then a else b
@[congr] theorem aDZ {t t':Bool} {a b:Prop} (h:wr t=t'):brK t a b=brK t' a b:=by rw [<-h,rM]
theorem asH(a b:Prop):brK true a b=a:=by simp [brK]
theorem asI(a b:Prop):brK false a b=b:=by simp [brK]
theorem apz(t:Bool)(a b:Prop):brK (!t) a b=brK t b a:=by cases t<;>simp [brK]
theorem lG{c:Prop} [Decidable c] {a b:Prop} (h1:c->a) (h2:¬c->b):brK (decide c) a b:=by
 unfold brK;by_cases h:c
 ·rw [aQ (aT h)];exact h1 h
 rw [aN (by simpa using h)];exact h2 h
def FK(v:V)(k:V->Prop):Prop:=k v
theorem atN(v:V)(k:V->Prop):FK v k=k v:=nr rfl
@[congr] theorem aD0 {v v':V} {k:V->Prop} (h:wr v=v'):FK v k=FK v' k:=by rw [<-h,rM]
@[congr] theorem aCL {α:Type} {v v':Option α} {k:α->Prop} (h:wr v=v'):oZ v k=oZ v' k:=by rw [<-h,rM]
@[congr] theorem ayi {v v':V} {k:Bool->Prop} (h:wr v=v'):PV v k=PV v' k:=by rw [<-h,rM]
@[congr] theorem aD1 {w:Bool} {v v':V} {k:Bool->Prop} (h:wr v=v'):gdK w v k=gdK w v' k:=by rw [<-h,rM]
@[congr] theorem aCM {v v':List Nat} {k:List Nat->Prop} (h:wr v=v'):TT v k=TT v' k:=by rw [<-h,rM]
@[congr] theorem axA {n n':Nat} {v v':V} {k:Nat->Prop} (h0:wr n=n') (h:wr v=v'):zJ n v k=zJ n' v' k:=by rw [<-h0,<-h,rM,rM]
@[congr] theorem asJ {n n':Nat} {v v':V} {k:Nat->Prop} (h0:wr n=n') (h:wr v=v'):uK n v k=uK n' v' k:=by rw [<-h0,<-h,rM,rM]
@[congr] theorem aCN {op:BinOp} {x x' y y':V} {k:V->Prop} (h0:wr x=x') (h:wr y=y'):zX op x y k=zX op x' y' k:=by rw [<-h0,<-h,rM,rM]
@[congr] theorem aD2 {T:Tb} {f:Nat} {as as':List V} {k:V->Prop} (h:wr as=as'):PFK T f as k=PFK T f as' k:=by rw [<-h,rM]
@[congr] theorem aCO {T:Tb} {f f':Nat} {as:List Src} {d:Option Nat} {st:St} {k:St->Prop} (h:wr f=f'):QW T f as d st k=QW T f' as d st k:=by rw [<-h,rM]
@[congr] theorem ayj {T T':Tb} {c:C} {Q:Ex->St->Prop} {st:St} (h:wr T=T'):Ws T c Q st=Ws T' c Q st:=by rw [<-h,rM]
@[congr] theorem aD3 {L:Nat} {ops:List qJ} {l l':List Acc} (h:wr l=l'):sF L ops l=sF L ops l':=by rw [<-h,rM]
@[congr] theorem aCP {T:Tb} {f f':Nat} {as:List Src} {d:Option Nat} {st:St} {k:List Nat->List Nat->Bool->St->Prop} (h:wr f=f'):ZT T f as d st k=ZT T f' as d st k:=by rw [<-h,rM]
theorem ajL{α:Type}(a:α)(k:α->Prop):oZ (some a) k=k a:=nr rfl
theorem ayk(want b:Bool)(k:Bool->Prop):gdK want (.bool b) k=k b:=nr rfl
theorem ayl(want:Bool)(k:Bool->Prop):gdK want (.oU []) k=k (!want):=nr rfl
theorem apA(b:Bool)(k:Bool->Prop):PV (.bool b) k=k b:=nr rfl
theorem alB(k:List Nat->Prop):TT [] k=k []:=nr rfl
theorem ajM(a:Nat)(l:List Nat)(k:List Nat->Prop):TT (a::l) k=k (a::l):=nr rfl
theorem ajN{n:Nat}{q:IntKind}{i:Int}{k:Nat->Prop}(h:0<=i/\i<n):zJ n (.int q i) k=k i.toNat:=by
 simp [zJ,h]
theorem adG{n:Nat}{q:IntKind}{i:Int}{k:Nat->Prop}(h:0<=i/\i<=n):uK n (.int q i) k=k i.toNat:=by
 simp [uK,h]
theorem w64{n:Int}(h : -9223372036854775808<=n/\n<=9223372036854775807):IntKind.i64.wrap n=n:=IntWalk.i64_in n h
theorem aD4{n:Int}(h:0<=n/\n<=4294967295):IntKind.u32.wrap n=n:=IntWalk.u32_in n h
theorem aD5{n:Int}(h:0<=n/\n<=18446744073709551615):IntKind.u64.wrap n=n:=IntWalk.u64_in n h
theorem w8u{n:Int}(h:0<=n/\n<=255):IntKind.u8.wrap n=n:=IntWalk.u8_in n h
theorem aD6(n:Nat)(env:Nat->V):Src.ev env (.t n)=env n:=nr rfl
theorem aD7(v:V)(env:Nat->V):Src.ev env (.c v)=v:=nr rfl
theorem ajO(env:Nat->V)(v:V):oO env none v=env:=nr rfl
theorem apB(env:Nat->V)(t:Nat)(v:V)(s:Nat):oO env (some t) v s=if s=t then v else env s:=nr rfl
theorem atO(env:Nat->V)(t:Nat)(v:V)(s:Nat):upd env t v s=if s=t then v else env s:=nr rfl
theorem atP(a:V)(l:List V):mJ (a::l) 0=a:=nr rfl
theorem atQ(a:V)(l:List V)(n:Nat):mJ (a::l) (n+1)=mJ l n:=nr rfl
theorem atS(n:Nat):mJ [] n=.any:=nr rfl
theorem apC(a:Option Obj)(l:Store):jQ (a::l) 0=a:=nr rfl
theorem apD(a:Option Obj)(l:Store)(n:Nat):jQ (a::l) (n+1)=jQ l n:=nr rfl
theorem apE(n:Nat):jQ [] n=none:=nr rfl
theorem aym(a:Option Obj)(l:Store)(x:Option Obj):List.set (a::l) 0 x=x::l:=nr rfl
theorem ayn(a:Option Obj)(l:Store)(n:Nat)(x:Option Obj):List.set (a::l) (n+1) x=a::List.set l n x:=nr rfl
theorem atT(σ:Store):adF σ 0=σ:=by simp [adF]
theorem atU(σ:Store)(n:Nat):adF σ (n+1)=adF (σ++[none]) n:=by simp [adF,kH]
theorem alC(args:List V)(σ:Store):St.enter args σ=⟨mJ args,σ,σ.length,0,[],[]⟩:=nr rfl
theorem alD(σ:Store):nT σ []=σ:=nr rfl
theorem ajP(σ:Store)(o:Nat)(l:List Nat):nT σ (o::l)=nT (σ.set o none) l:=nr rfl
section
variable (T : Tb) (rf : Nat -> Nat -> Bool) (Q : Ex -> St -> Prop) (st : St) (k : St -> Prop) (env : Nat -> V) (σ : Store) (kp bs : Nat) (rs ms : List Nat)
def goK(st:St)(d:Option Nat)(id:Nat)(ef:Eff)(k:St->Prop):Prop:=k (ef.go st d id)
@[congr] theorem aD8 {st:St} {d:Option Nat} {id id':Nat} {ef:Eff} {k:St->Prop} (h:wr id=id'):goK st d id ef k=goK st d id' ef k:=by rw [<-h,rM]
theorem ayo(t id:Nat)(v:V):goK ⟨env,σ,kp,bs,rs,ms⟩ (some t) id (.val v) k=k ⟨upd env t v,σ,kp,bs,rs,ms⟩:=nr rfl
theorem atV(id:Nat)(v:V):goK ⟨env,σ,kp,bs,rs,ms⟩ none id (.val v) k=k ⟨env,σ,kp,bs,rs,ms⟩:=nr rfl
theorem ayp(t id:Nat)(ob:Obj):goK ⟨env,σ,kp,bs,rs,ms⟩ (some t) id (.newP ob) k=Vo (σ.set id (some ob)) fun σ=>k ⟨upd env t (.ptr id 0 0),σ,kp,bs,rs,ms⟩:=nr rfl
theorem ayq(t id:Nat)(ob:Obj)(n:Nat):goK ⟨env,σ,kp,bs,rs,ms⟩ (some t) id (.newS ob n) k=Vo (σ.set id (some ob)) fun σ=>k ⟨upd env t (.lQ id 0 n),σ,kp,bs,rs,ms⟩:=nr rfl
theorem ayr(id o:Nat)(ob:Obj):goK ⟨env,σ,kp,bs,rs,ms⟩ none id (.upd o ob) k=Vo (σ.set o (some ob)) fun σ=>k ⟨env,σ,kp,bs,rs,ms⟩:=nr rfl
theorem ays(t id o:Nat)(ob:Obj)(n:Nat):goK ⟨env,σ,kp,bs,rs,ms⟩ (some t) id (.qC o ob n) k=Vo ((σ.set o none).set id (some ob)) fun σ=>k ⟨upd env t (.lQ id 0 n),σ,kp,bs,rs,ms⟩:=nr rfl
theorem wp_skip:wp T rf .skip Q st=Q .normal st:=nr rfl
theorem apF(m:Nat)(l:List qJ):wp T rf (.reg false m l) Q ⟨env,σ,kp,bs,rs,ms⟩=RX σ.length fun b=>Vo (adF σ m) fun σ=>afW T rf l ⟨env,σ,kp,b,[],[]⟩ (Q .normal):=nr rfl
theorem apG(m:Nat)(l:List qJ):wp T rf (.reg true m l) Q ⟨env,σ,kp,bs,rs,ms⟩=RX σ.length fun b=>Vo (adF σ m) fun σ=>if (MW l&&NJ rf l)=true then MV T l ⟨env,σ,kp,b,[],[]⟩ (Q .normal)else RX σ.length fun L=>RS T rf L l l 0 [] ⟨env,σ,kp,b,[],[]⟩ (Q .normal):=nr rfl
theorem wp_seq(a b:C):wp T rf (.seq a b) Q st=wp T rf a (fun e st=>abE e (wp T rf b Q st) (Q e st)) st:=nr rfl
theorem wp_cond(x:Src)(a b:C):wp T rf (.cond x a b) Q st=PV (x.ev st.env) fun t=>if t=true then wp T rf a Q st else wp T rf b Q st:=nr rfl
theorem alE(x:Src)(a b:C):wp T rf (.cond x a b) Q ⟨env,σ,kp,bs,rs,ms⟩=PV (x.ev env) fun t=>brK t (wp T rf a Q ⟨env,σ,kp,bs,rs,ms⟩) (wp T rf b Q ⟨env,σ,kp,bs,rs,ms⟩):=nr rfl
theorem wp_block(id:Nat)(c:C):wp T rf (.block id c) Q st=wp T rf c (fun e st=>Q (adk id e) st) st:=nr rfl
theorem wp_loop(c:C):wp T rf (.loop c) Q st=Ws T c Q st:=nr rfl
theorem wp_exit(id:Nat):wp T rf (.exit id) Q st=Q (.exit id) st:=nr rfl
theorem wp_ret:wp T rf .ret Q st=Q .ret st:=nr rfl
theorem atW(a b:Prop):abE .normal a b=a:=nr rfl
theorem atX(id:Nat)(a b:Prop):abE (.exit id) a b=b:=nr rfl
theorem atY(a b:Prop):abE .ret a b=b:=nr rfl
theorem atZ(id:Nat):adk id .normal=.normal:=nr rfl
theorem at1(id:Nat):adk id .ret=.ret:=nr rfl
theorem at6(id j:Nat):adk id (.exit j)=if j=id then .normal else .exit j:=nr rfl
theorem at7:afW T rf [] st k=k st:=nr rfl
theorem aua(o:qJ)(l:List qJ):afW T rf (o::l) st k=opK T rf o st fun st=>afW T rf l st k:=nr rfl
theorem aub(g:Option (Nat×Bool))(d:Option Nat)(n:Nat)(i:I)(a:List Nat):opK T rf ⟨g,d,n,i,a⟩ ⟨env,σ,kp,bs,rs,ms⟩ k=gK g env (match i with
  |.call f as=>if rf f (dN d)=true then QW T f as d ⟨env,σ,kp,bs,rs,ms⟩ k else MS env σ as fun as'=>PFK T f as' fun r =>
    Vo (nT σ (if scalar SD r then []else nY env σ as)) fun σ=>k ⟨oO env d r,σ,kp,bs,rs,ms⟩
  |i=>RX (bs+n) fun id=>i.pz env σ fun ef=>goK ⟨env,σ,kp,bs,rs,ms⟩ d id ef k)
  (k ⟨oO env d (.oU []),σ,kp,bs,rs,ms⟩):=by cases i<;>rfl
theorem apH:MV T [] st k=k st:=nr rfl
theorem apI(g:Option (Nat×Bool))(d:Option Nat)(n:Nat)(i:I)(a:List Nat)(l:List qJ):MV T (⟨g,d,n,i,a⟩::l) ⟨env,σ,kp,bs,rs,ms⟩ k=gK g env (match i with
  |.call f as=>MS env σ as fun as'=>PFK T f as' fun r=>TT (nY env σ as) fun R =>
    (R=[]\/scalar SD r=true)/\MV T l ⟨oO env d r,σ,kp,bs,rs,ms⟩ k
  |x=>x.pz env σ fun ef=>apx ef fun v=>MV T l ⟨oO env d v,σ,kp,bs,rs,ms⟩ k)
  (MV T l ⟨oO env d (.oU []),σ,kp,bs,rs,ms⟩ k):=by cases i<;>rfl
theorem auc(L:Nat)(ops:List qJ)(i:Nat)(acc:List Acc):RS T rf L ops [] i acc st k=(sF L ops acc/\k st):=nr rfl
theorem aud(L:Nat)(ops:List qJ)(g:Option (Nat×Bool))(d:Option Nat)(n:Nat)(x:I)(a:List Nat)(l:List qJ)(i:Nat)(acc:List Acc):RS T rf L ops (⟨g,d,n,x,a⟩::l) i acc ⟨env,σ,kp,bs,rs,ms⟩ k=gK g env (match x with
  |.call f as=>if rf f (dN d)=true then ZT T f as d ⟨env,σ,kp,bs,rs,ms⟩ fun R W n st=>RX (i+1) fun j=>RS T rf L ops l j (⟨i,R,W,n⟩::acc) st k
    else MS env σ as fun as'=>PFK T f as' fun r=>TT (nY env σ as) fun R =>
    (R=[]\/scalar SD r=true)/\RX (i+1) fun j=>RS T rf L ops l j (⟨i,R,[],false⟩::acc) ⟨oO env d r,σ,kp,bs,rs,ms⟩ k
  |x
    => TT (x.reads env) fun R=>RX (bs+n) fun id=>x.pz env σ fun ef=>TT (ef.wr id) fun W=>RX (i+1) fun j =>
    goK ⟨env,σ,kp,bs,rs,ms⟩ d id ef fun st=>RS T rf L ops l j (⟨i,R,W,false⟩::acc) st k)
  (RX (i+1) fun j=>RS T rf L ops l j (⟨i,[],[],false⟩::acc) ⟨oO env d (.oU []),σ,kp,bs,rs,ms⟩ k):=by cases x<;>rfl
end
theorem aD9(env:Nat->V)(a b:Prop):gK none env a b=a:=nr rfl
theorem aEa(t:Nat)(env:Nat->V)(on off:Prop):gK (some (t,true)) env on off=gdK true (env t) fun b=>brK b on off:=nr rfl
theorem aEb(t:Nat)(env:Nat->V)(on off:Prop):gK (some (t,false)) env on off=gdK false (env t) fun b=>brK b off on:=nr rfl
theorem aue(v:V)(k:V->Prop):apx (.val v) k=k v:=nr rfl
theorem aEc(v:V)(id:Nat):Eff.wr id (.val v)=[]:=nr rfl
theorem aEd(ob:Obj)(id:Nat):Eff.wr id (.newP ob)=[id]:=nr rfl
theorem aEe(ob:Obj)(n:Nat)(id:Nat):Eff.wr id (.newS ob n)=[id]:=nr rfl
theorem aEf(ob:Obj)(o:Nat)(id:Nat):Eff.wr id (.upd o ob)=[o]:=nr rfl
theorem aEg(ob:Obj)(o n:Nat)(id:Nat):Eff.wr id (.qC o ob n)=[o,id]:=nr rfl
def tZ(v:V)(k:List V->Prop):Prop:=oZ v.cells? k
@[congr] theorem axB {v v':V} {k:List V->Prop} (h:wr v=v'):tZ v k=tZ v' k:=by rw [<-h,rM]
theorem afZ(q:IntKind)(n:Int)(k:List V->Prop):tZ (.int q n) k=k [.int q n]:=nr rfl
theorem adH(b:Bool)(k:List V->Prop):tZ (.bool b) k=k [.bool b]:=nr rfl
theorem af0(s:List UInt8)(k:List V->Prop):tZ (.str s) k=k [.str s]:=nr rfl
theorem adI(k:List V->Prop):tZ .kC k=k [.kC]:=nr rfl
theorem af2(k:List V->Prop):tZ .one k=k [.one]:=nr rfl
theorem ajQ(sz:Nat)(r:List (List V))(k:List V->Prop):tZ (.sl sz r) k=k [.sl sz r]:=nr rfl
theorem af4(o s l:Nat)(k:List V->Prop):tZ (.lQ o s l) k=k [.lQ o s l]:=nr rfl
theorem af5(o s l:Nat)(k:List V->Prop):tZ (.ptr o s l) k=k [.ptr o s l]:=nr rfl
theorem adJ(r:List V)(o:Nat)(k:List V->Prop):tZ (.qw r o) k=k [.qw r o]:=nr rfl
theorem af6(cs:List V)(k:List V->Prop):tZ (.agg cs) k=if cs.all V.leaf=true then k cs else False:=by
 simp only [tZ,V.cells?];split<;>rfl
def adK(σ:Store)(v:V)(k:Nat->Nat->Nat->Prop)(kf:List V->Nat->Prop):Prop:=match v with
 |.ptr o r off=>k o r off
 |.qw row off=>kf row off
 |_=>False
@[congr] theorem aCQ {σ:Store} {v v':V} {k:Nat->Nat->Nat->Prop} {kf:List V->Nat->Prop} (h:wr v=v'):adK σ v k kf=adK σ v' k kf:=by rw [<-h,rM]
theorem auf(σ:Store)(o r off:Nat)(k:Nat->Nat->Nat->Prop)(kf:List V->Nat->Prop):adK σ (.ptr o r off) k kf=k o r off:=nr rfl
theorem aug(σ:Store)(r:List V)(off:Nat)(k:Nat->Nat->Nat->Prop)(kf:List V->Nat->Prop):adK σ (.qw r off) k kf=kf r off:=nr rfl
def slK(v:V)(kn:Prop)(kf:Nat->List (List V)->Prop)(km:Nat->Nat->Nat->Prop):Prop:=match v with
 |.kC=>kn
 |.sl sz rows=>kf sz rows
 |.lQ o s l=>km o s l
 |_=>False
@[congr] theorem aEh {v v':V} {kn:Prop} {kf:Nat->List (List V)->Prop} {km:Nat->Nat->Nat->Prop} (h:wr v=v'):slK v kn kf km=slK v' kn kf km:=by rw [<-h,rM]
theorem ayt(kn:Prop)(kf:Nat->List (List V)->Prop)(km:Nat->Nat->Nat->Prop):slK .kC kn kf km=kn:=nr rfl
theorem ayu(sz:Nat)(r:List (List V))(kn:Prop)(kf:Nat->List (List V)->Prop)(km:Nat->Nat->Nat->Prop):slK (.sl sz r) kn kf km=kf sz r:=nr rfl
theorem ayv(o s l:Nat)(kn:Prop)(kf:Nat->List (List V)->Prop)(km:Nat->Nat->Nat->Prop):slK (.lQ o s l) kn kf km=km o s l:=nr rfl
def adL(v:V)(k:IntKind->Int->Prop):Prop:=match v with
 |.int q n=>k q n
 |_=>False
@[congr] theorem aCR {v v':V} {k:IntKind->Int->Prop} (h:wr v=v'):adL v k=adL v' k:=by rw [<-h,rM]
theorem auh(q:IntKind)(n:Int)(k:IntKind->Int->Prop):adL (.int q n) k=k q n:=nr rfl
def ajR(v:V)(k:List UInt8->Prop):Prop:=match v with
 |.str s=>k s
 |_=>False
@[congr] theorem aCS {v v':V} {k:List UInt8->Prop} (h:wr v=v'):ajR v k=ajR v' k:=by rw [<-h,rM]
theorem aui(s:List UInt8)(k:List UInt8->Prop):ajR (.str s) k=k s:=nr rfl
def apJ(v:V)(k:List V->Prop):Prop:=match v with
 |.oU s=>k s
 |_=>False
@[congr] theorem aCT {v v':V} {k:List V->Prop} (h:wr v=v'):apJ v k=apJ v' k:=by rw [<-h,rM]
def apK(v:V)(k:List V->Prop):Prop:=match v with
 |.agg s=>k s
 |_=>False
@[congr] theorem aCU {v v':V} {k:List V->Prop} (h:wr v=v'):apK v k=apK v' k:=by rw [<-h,rM]
theorem auj(s:List V)(k:List V->Prop):apK (.agg s) k=k s:=nr rfl
theorem auk(s:List V)(k:List V->Prop):apJ (.oU s) k=k s:=nr rfl
section
variable (env : Nat -> V) (σ : Store) (k : Eff -> Prop)
theorem ayw(x:Src):I.pz env σ (.qC x) k=FK (x.ev env) fun v=>k (.val v):=nr rfl
theorem aul(c a b:Src):I.pz env σ (.pick c a b) k=PV (c.ev env) fun t=>brK t (FK (a.ev env) fun v=>k (.val v)) (FK (b.ev env) fun v=>k (.val v)):=by
 simp only [I.pz];cases c.ev env with|bool t=>cases t<;>rfl|_=>rfl
theorem apL(z:List V):I.pz env σ (.alloc z) k=k (.newP ⟨z.length,[z]⟩):=nr rfl
theorem ayx(x:Src):I.pz env σ (.box x) k=tZ (x.ev env) fun cs=>match cs with|c::cs=>k (.newP ⟨(c::cs).length,[c::cs]⟩) | []=>False:=by
 simp only [I.pz,tZ];cases (x.ev env).cells? with|none=>rfl|some cs=>cases cs<;>rfl
theorem apM(z:List V)(ps:List (Nat×Nat×Src)):I.pz env σ (.build z ps) k=oZ (CQ env z ps) fun cs=>k (.val (.agg cs)):=nr rfl
theorem aum(sz:Nat)(z:List V)(ln:Nat)(ps:List (Nat×Src)):I.pz env σ (.nO sz z ln ps) k =
  oZ (vI env sz (List.replicate ln z) ps) fun rows=>if ln=0 then k (.val .kC)else k (.newS ⟨sz,rows⟩ ln):=nr rfl
theorem aun(z:List V)(b:Nat)(x:Src):I.pz env σ (.make z b x) k=adL (x.ev env) fun q n=>match q with
  |.i64=>(0<=n/\n<=2 ^ 47/\n*b<=2 ^ 47)/\k (.newS ⟨z.length,List.replicate n.toNat z⟩ n.toNat)|_=>False:=by
 simp only [I.pz];cases x.ev env with|int q n=>cases q<;>rfl|_=>rfl
theorem apN(n:Nat)(a:Src):I.pz env σ (.load n false a) k=oZ (rowAt σ (a.ev env)) fun p=>oZ p.1[p.2]? fun v=>FK v fun v=>k (.val v):=nr rfl
theorem apO(n:Nat)(a:Src):I.pz env σ (.load n true a) k=oZ (rowAt σ (a.ev env)) fun p=>p.2+n<=p.1.length/\FK (.agg ((p.1.drop p.2).take n)) fun v=>k (.val v):=nr rfl
theorem
    apP (n:Nat) (a x:Src):I.pz env σ (.store n a x) k=adK σ (a.ev env) (fun o r off=>tZ (x.ev env) fun cs=>oZ (jQ σ o) fun ob=>oZ ob.rows[r]? fun row =>
    (cs.length=n/\off+n<=row.length)/\k (.upd o ⟨ob.sz,ob.rows.set r (splice row off cs)⟩)) fun _ _=>False:=by
 simp only [I.pz];cases a.ev env<;>rfl
theorem ayz(d:Nat)(a:Src):I.pz env σ (.fld d a) k=adK σ (a.ev env) (fun o r off=>oZ (jQ σ o) fun _=>FK (.ptr o r (off+d)) fun v=>k (.val v)) fun row off=>FK (.qw row (off+d)) fun v=>k (.val v):=by
 simp only [I.pz];cases a.ev env<;>rfl
theorem ayA(sz:Nat)(x i:Src):I.pz env σ (.idx sz x i) k=slK (x.ev env) False (fun sz' rows=>zJ rows.length (i.ev env) fun j=>sz'=sz/\FK (.qw (rows.getD j []) 0) fun v=>k (.val v))
  (fun o s l=>oZ (jQ σ o) fun ob=>zJ l (i.ev env) fun j=>ob.sz=sz/\FK (.ptr o (s+j) 0) fun v=>k (.val v)):=by
 simp only [I.pz];cases x.ev env<;>rfl
theorem auo(c sz:Nat)(x i:Src):I.pz env σ (.abr c sz x i) k=adK σ (x.ev env) (fun o r off=>zJ c (i.ev env) fun j=>oZ (jQ σ o) fun _=>FK (.ptr o r (off+j*sz)) fun v=>k (.val v))
  fun row off=>zJ c (i.ev env) fun j=>FK (.qw row (off+j*sz)) fun v=>k (.val v):=by
 simp only [I.pz];cases x.ev env<;>rfl
theorem aup(x i:Src):I.pz env σ (.adg x i) k=ajR (x.ev env) fun s=>zJ s.length (i.ev env) fun j=>FK (.int .u8 (s.getD j 0).toNat) fun v=>k (.val v):=by
 simp only [I.pz];cases x.ev env<;>rfl
theorem auq(c:Nat)(x i:Src):I.pz env σ (.adi c x i) k=apK (x.ev env) fun cs=>zJ c (i.ev env) fun j=>oZ cs[j]? fun v=>FK v fun v=>k (.val v):=by
 simp only [I.pz];cases x.ev env<;>rfl
theorem ayB(x:Src):I.pz env σ (.len x) k=oZ (lenOf σ (x.ev env)) fun n=>FK (.int .i64 n) fun v=>k (.val v):=nr rfl
theorem aur(x:Src):I.pz env σ (.adh x) k=ajR (x.ev env) fun s=>FK (.int .i64 s.length) fun v=>k (.val v):=by
 simp only [I.pz];cases x.ev env<;>rfl
theorem ayC(op:BinOp)(x y:Src):I.pz env σ (.bin op x y) k=zX op (x.ev env) (y.ev env) fun v=>FK v fun v=>k (.val v):=nr rfl
theorem ayD(ne:Bool)(x y:Src):I.pz env σ (.beq ne x y) k=PV (x.ev env) fun a=>PV (y.ev env) fun b=>FK (.bool (if ne=true then !(a == b)else a == b)) fun v=>k (.val v):=by
 simp only [I.pz];cases x.ev env<;>first|rfl|(cases y.ev env<;>rfl)
theorem ayE(x:Src):I.pz env σ (.un .not x) k=PV (x.ev env) fun a=>FK (.bool (!a)) fun v=>k (.val v):=by
 simp only [I.pz];cases x.ev env<;>rfl
theorem ayF(x:Src):I.pz env σ (.un .neg x) k=adL (x.ev env) fun q n=>FK (.int q (q.wrap (0-n))) fun v=>k (.val v):=by
 simp only [I.pz];cases x.ev env<;>rfl
theorem aus(q:IntKind)(x:Src):I.pz env σ (.conv q x) k=adL (x.ev env) fun _ n=>FK (.int q (q.wrap n)) fun v=>k (.val v):=by
 simp only [I.pz];cases x.ev env<;>rfl
theorem ayG(x y:Src):I.pz env σ (.max x y) k=adL (x.ev env) fun q a=>adL (y.ev env) fun q' b=>q=q'/\FK (.int q (if b>a then b else a)) fun v=>k (.val v):=by
 simp only [I.pz];cases x.ev env<;>first|rfl|(cases y.ev env<;>rfl)
theorem aut(i:Nat)(x:Src):I.pz env σ (.ZJ i x) k=apJ (x.ev env) fun vs=>oZ vs[i]? fun v=>FK v fun v=>k (.val v):=by
 simp only [I.pz];cases x.ev env<;>rfl
theorem ayH(x:Src):I.pz env σ (.chk x) k=adK σ (x.ev env) (fun o r off=>oZ (jQ σ o) fun _=>k (.val (.ptr o r off))) fun row off=>k (.val (.qw row off)):=by
 simp only [I.pz];cases x.ev env<;>rfl
theorem ayI(sz b:Nat)(x y:Src):I.pz env σ (.app sz b x y) k=FK (x.ev env) fun xv=>oZ (rowsOf σ xv) fun old=>oZ (rowsOf σ (y.ev env)) fun new =>
  (new.2=[]->k (.val xv))/\(new.2≠[]->(new.1=sz/\(old.2.length+new.2.length)*b<=2 ^ 40/\old.2.length+new.2.length<=2 ^ 40) /\
   slK xv (k (.newS ⟨sz,new.2⟩ new.2.length)) (fun _ _=>False) fun o _ _=>oZ (jQ σ o) fun ob=>ob.sz=sz/\k (.qC o ⟨sz,old.2++new.2⟩ (old.2.length+new.2.length))):=by
 simp only [I.pz,FK];cases x.ev env<;>rfl
end
section
variable (k : V -> Prop) (q : IntKind) (a b : Int)
theorem ayJ:zX .add (.int q a) (.int q b) k=k (.int q (q.wrap (a+b))):=by simp [zX]
theorem ayK:zX .sub (.int q a) (.int q b) k=k (.int q (q.wrap (a-b))):=by simp [zX]
theorem ayL:zX .mul (.int q a) (.int q b) k=k (.int q (q.wrap (a*b))):=by simp [zX]
theorem ayM{b:Int}(h:b≠0):zX .quo (.int q a) (.int q b) k=k (.int q (q.wrap (a.tdiv b))):=by simp [zX,h]
theorem ayN{b:Int}(h:b≠0):zX .rem (.int q a) (.int q b) k=k (.int q (a.tmod b)):=by simp [zX,h]
theorem ayO:zX .eql (.int q a) (.int q b) k=k (.bool (decide (a=b))):=by simp [zX];rfl
theorem ayP:zX .neq (.int q a) (.int q b) k=k (.bool (!decide (a=b))):=by simp [zX,bne];rfl
theorem ayQ:zX .lss (.int q a) (.int q b) k=k (.bool (decide (a<b))):=by simp [zX]
theorem ayR:zX .leq (.int q a) (.int q b) k=k (.bool (decide (a<=b))):=by simp [zX]
theorem ayS:zX .gtr (.int q a) (.int q b) k=k (.bool (decide (b<a))):=by simp [zX]
theorem ayT:zX .geq (.int q a) (.int q b) k=k (.bool (decide (b<=a))):=by simp [zX]
theorem ayU(q':IntKind)(h:0<=b):zX .shr (.int q a) (.int q' b) k=k (.int q (a.fdiv (2 ^ (min b.toNat q.bits)))):=by simp [zX,h]
theorem ayV:zX .and (.int q a) (.int q b) k=k (.int q (KA q a b)):=by simp [zX]
theorem ayW:zX .xor (.int q a) (.int q b) k=k (.int q (Xk q a b)):=by simp [zX]
theorem auu(s t:List UInt8):zX .eql (.str s) (.str t) k=k (.bool (s == t)):=nr rfl
theorem auv(s t:List UInt8):zX .neq (.str s) (.str t) k=k (.bool (!(s == t))):=nr rfl
end
theorem apQ(σ:Store)(row:List V)(off:Nat):rowAt σ (.qw row off)=some (row,off):=nr rfl
theorem apR(σ:Store)(o r off:Nat):rowAt σ (.ptr o r off)=match jQ σ o with|some ob=>(ob.rows[r]?).map (·,off)|none=>none:=nr rfl
theorem apS(σ:Store):lenOf σ .kC=some 0:=nr rfl
theorem apT(σ:Store)(sz:Nat)(rows:List (List V)):lenOf σ (.sl sz rows)=some rows.length:=nr rfl
theorem apU(σ:Store)(o s l:Nat):lenOf σ (.lQ o s l)=(jQ σ o).map fun _=>l:=nr rfl
theorem alF(σ:Store):rowsOf σ .kC=some (0,[]):=nr rfl
theorem alG(σ:Store)(sz:Nat)(rows:List (List V)):rowsOf σ (.sl sz rows)=some (sz,rows):=nr rfl
theorem alH(σ:Store)(o s l:Nat):rowsOf σ (.lQ o s l)=match jQ σ o with
  |some ob=>if s+l<=ob.rows.length then some (ob.sz,(ob.rows.drop s).take l)else none
  |none=>none:=nr rfl
theorem auw(env:Nat->V)(σ:Store)(k:List V->Prop):MS env σ [] k=k []:=nr rfl
theorem auy(env:Nat->V)(σ:Store)(s:Src)(as:List Src)(k:List V->Prop):MS env σ (s::as) k=FK (s.ev env) fun v=>oZ (resolve σ FD v) fun v=>MS env σ as fun vs=>k (v::vs):=nr rfl
def abG(σ:Store):List V->Option (List V)
 | []=>some []
 |
  c::cs=>match resolve σ 11 c with
  |
   some d=>match abG σ cs with
   |some ds=>some (d::ds)
   |none=>none
  |none=>none
theorem abH(σ:Store):∀cs,cs.mapM (resolve σ 11)=abG σ cs
 | []=>rfl
 |
  c::cs=>by
  simp only [bZ,abG,abH σ cs]
  cases resolve σ 11 c with
  |none=>rfl
  |some d=>cases abG σ cs<;>rfl
theorem ayX(σ:Store)(q:IntKind)(n:Int):resolve σ FD (.int q n)=some (.int q n):=nr rfl
theorem auz(σ:Store)(b:Bool):resolve σ FD (.bool b)=some (.bool b):=nr rfl
theorem ayY(σ:Store)(s:List UInt8):resolve σ FD (.str s)=some (.str s):=nr rfl
theorem auA(σ:Store):resolve σ FD .kC=some .kC:=nr rfl
theorem ayZ(σ:Store):resolve σ FD .one=some .one:=nr rfl
theorem aEi(σ:Store)(sz:Nat)(r:List (List V)):resolve σ FD (.sl sz r)=some (.sl sz r):=nr rfl
theorem auB(σ:Store)(r:List V)(o:Nat):resolve σ FD (.qw r o)=some (.qw r o):=nr rfl
theorem ay0(σ:Store)(cs:List V):resolve σ FD (.agg cs)=(abG σ cs).map .agg:=by rw [<-abH];rfl
theorem ay1(σ:Store)(cs:List V):resolve σ FD (.oU cs)=(abG σ cs).map .oU:=by rw [<-abH];rfl
theorem auC(σ:Store):abG σ []=some []:=nr rfl
theorem auD(σ:Store)(c:V)(cs:List V):abG σ (c::cs)=match resolve σ 11 c with
  |
   some d=>match abG σ cs with
   |some ds=>some (d::ds)
   |none=>none
  |none=>none:=nr rfl
theorem auE(σ:Store)(q:IntKind)(n:Int):resolve σ 11 (.int q n)=some (.int q n):=nr rfl
theorem apV(σ:Store)(b:Bool):resolve σ 11 (.bool b)=some (.bool b):=nr rfl
theorem auF(σ:Store)(s:List UInt8):resolve σ 11 (.str s)=some (.str s):=nr rfl
theorem apW(σ:Store):resolve σ 11 .kC=some .kC:=nr rfl
theorem auG(σ:Store):resolve σ 11 .one=some .one:=nr rfl
theorem ay2(σ:Store)(sz:Nat)(r:List (List V)):resolve σ 11 (.sl sz r)=some (.sl sz r):=nr rfl
theorem apX(σ:Store)(r:List V)(o:Nat):resolve σ 11 (.qw r o)=some (.qw r o):=nr rfl
def V.still:V->Bool
 |.one | .int .. | .bool _ | .str _ | .kC | .sl .. | .qw ..=>true
 |_=>false
def nU(rows:List (List V)):Prop:=∀r∈rows,∀v∈r,v.still=true
theorem aaz{σ:Store}{n:Nat}{v:V}(h:v.still=true):resolve σ (n+1) v=some v:=by
 cases v<;>first|rfl|cases h
theorem FY{σ:Store}{n:Nat}:∀{r:List V},(∀v∈r,v.still=true)->r.mapM (resolve σ (n+1))=some r
 | [],_=>rfl
 |
  v::r,h=>by
  rw [bZ,aaz (h v (by simp)),FY fun x hx=>h x (by simp [hx])];rfl
theorem yD{σ:Store}{n:Nat}:∀{rows:List (List V)},nU rows->(rows.mapM fun (r:List V)=>r.mapM (resolve σ (n+1)))=some rows
 | [],_=>rfl
 |
  r::rows,h=>by
  rw [bZ,FY (h r (by simp)),yD fun x hx=>h x (by simp [hx])];rfl
theorem nU.part{rows:List (List V)}(h:nU rows)(s l:Nat):nU ((rows.drop s).take l):=fun r hr=>h r (fC (dH hr))
theorem auH{σ:Store}{n o s l:Nat}{ob:Obj}(ho:jQ σ o=some ob)(hs:nU ob.rows)(hl:s+l<=ob.rows.length):resolve σ (n+2) (.lQ o s l)=some (.sl ob.sz ((ob.rows.drop s).take l)):=by
 rw [resolve];simp only [ho];rw [aQ hl,yD (hs.part s l)];rfl
theorem asL{σ:Store}{o s l:Nat}{ob:Obj}(ho:jQ σ o=some ob)(hs:nU ob.rows)(hl:s+l<=ob.rows.length):resolve σ FD (.lQ o s l)=some (.sl ob.sz ((ob.rows.drop s).take l)):=auH (n:=10) ho hs hl
theorem aEj(env:Nat->V)(σ:Store):nY env σ []=[]:=nr rfl
theorem aEk(env:Nat->V)(σ:Store)(s:Src)(as:List Src):nY env σ (s::as)=reach σ FD (s.ev env)++nY env σ as:=nr rfl
theorem KF{σ:Store}{n:Nat}{v:V}(h:v.still=true):reach σ (n+1) v=[]:=by
 cases v<;>first|rfl|cases h
theorem ay3(σ:Store)(q:IntKind)(n:Int):reach σ FD (.int q n)=[]:=nr rfl
theorem auI(σ:Store)(b:Bool):reach σ FD (.bool b)=[]:=nr rfl
theorem ay4(σ:Store)(s:List UInt8):reach σ FD (.str s)=[]:=nr rfl
theorem auJ(σ:Store):reach σ FD .kC=[]:=nr rfl
theorem aEl(σ:Store)(sz:Nat)(r:List (List V)):reach σ FD (.sl sz r)=[]:=nr rfl
theorem auK(σ:Store)(r:List V)(o:Nat):reach σ FD (.qw r o)=[]:=nr rfl
def abI(σ:Store)(cs:List V):List Nat:=cs.flatMap (reach σ 11)
theorem ay5(σ:Store)(cs:List V):reach σ FD (.agg cs)=abI σ cs:=nr rfl
theorem aEm(σ:Store):abI σ []=[]:=nr rfl
theorem aEn(σ:Store)(c:V)(cs:List V):abI σ (c::cs)=reach σ 11 c++abI σ cs:=nr rfl
theorem auL(σ:Store)(q:IntKind)(n:Int):reach σ 11 (.int q n)=[]:=nr rfl
theorem apY(σ:Store)(b:Bool):reach σ 11 (.bool b)=[]:=nr rfl
theorem auM(σ:Store)(s:List UInt8):reach σ 11 (.str s)=[]:=nr rfl
theorem apZ(σ:Store):reach σ 11 .kC=[]:=nr rfl
theorem ay6(σ:Store)(sz:Nat)(r:List (List V)):reach σ 11 (.sl sz r)=[]:=nr rfl
theorem ap0(σ:Store)(r:List V)(o:Nat):reach σ 11 (.qw r o)=[]:=nr rfl
theorem ay7(q:IntKind)(n:Int):scalar SD (.int q n)=true:=nr rfl
theorem auN(b:Bool):scalar SD (.bool b)=true:=nr rfl
theorem ay8(s:List UInt8):scalar SD (.str s)=true:=nr rfl
def O7:List O6->List V->St->(V->Prop)->Prop
 | [],acc,st,k=>FK (wu acc.reverse) fun v=>oZ (resolve st.objs FD v) k
 |r::rs,acc,st,k=>oZ (r.get st) fun v=>FK v fun v=>O7 rs (v::acc) st k
theorem Vp{st:St}{k:V->Prop}:∀(rs:List O6) (acc:List V),O7 rs acc st k->oZ (rs.mapM (O6.get st)) fun vs=>oZ (resolve st.objs FD (wu (acc.reverse++vs))) k
 | [],acc,h=>by simpa [oZ,O7,FK]using h
 |
  r::rs,acc,h=>by
  obtain⟨v,e,h⟩:=mO h;have:=Vp rs (v::acc) h;obtain⟨vs,e2,h⟩:=mO this;simp only [bZ,e,e2];simpa [oZ,wr]using h
def ap1(rs:List O6)(e:Ex)(k:V->Prop)(st:St):Prop:=match e with
 |.normal=>O7 rs [] st k
 |.ret=>O7 rs [] st k
 |.exit _=>False
theorem auO(rs:List O6)(k:V->Prop)(st:St):ap1 rs .normal k st=O7 rs [] st k:=nr rfl
theorem auP(rs:List O6)(k:V->Prop)(st:St):ap1 rs .ret k st=O7 rs [] st k:=nr rfl
theorem auQ(acc:List V)(st:St)(k:V->Prop):O7 [] acc st k=FK (wu acc.reverse) fun v=>oZ (resolve st.objs FD v) k:=nr rfl
theorem auR(t:Nat)(rs:List O6)(acc:List V)(st:St)(k:V->Prop):O7 (.tmp t::rs) acc st k=FK (st.env t) fun v=>O7 rs (v::acc) st k:=nr rfl
theorem ap2(t n:Nat)(rs:List O6)(acc:List V)(st:St)(k:V->Prop):O7 (.cell t n false::rs) acc st k=oZ (rowAt st.objs (st.env t)) fun p=>oZ p.1[p.2]? fun v=>FK v fun v=>O7 rs (v::acc) st k:=by
 simp only [O7,O6.get]
 cases rowAt st.objs (st.env t)<;>rfl
theorem ay9(v:V):wu [v]=v:=nr rfl
theorem aza(v w:V):wu [v,w]=.oU [v,w]:=nr rfl
theorem azb(v w x:V):wu [v,w,x]=.oU [v,w,x]:=nr rfl
theorem lV{T:Tb}{f:Nat}{F:Fn}{args:List V}{r:V}(rf:Nat->Nat->Bool)(hT:T f=some F)
  (h:wp T rf F.body (fun e st=>ap1 F.res e (· = r) st) (St.enter args [])) (hl:args.length=F.nargs:=by rfl) (hk:F.body.okC=true:=by rfl):PF T f args r:=by
 obtain⟨e,st',h1,h2⟩:=BN hk h;have h3:(e=.normal\/e=.ret)/\O7 F.res [] st' (· = r):=by
  cases e with
  |normal=>exact⟨.inl rfl,h2⟩
  |ret=>exact⟨.inr rfl,h2⟩
  |exit id=>exact h2.elim
 obtain⟨he,h3⟩:=h3;have:=Vp _ _ h3;obtain⟨rs,e1,h4⟩:=mO this;obtain⟨r',e2,h5⟩:=mO h4;subst h5;exact .XZ (.fn hT hl h1 he e1) e2
theorem jK{T:Tb}{f:Nat}{as:List V}{k:V->Prop}{r:V}(h:PF T f as r)(hk:k r):PFK T f as k:=⟨r,h,hk⟩
def kU(l:List Int):List (List V):=l.map fun x=>[.int .i64 x]
abbrev ints(l:List Int):V:=.sl 1 (kU l)
theorem vK(l:List Int):(kU l).length=l.length:=by simp [kU]
theorem ap3{l:List Int}{j:Nat}(h:j<l.length):(kU l).getD j []=[.int .i64 (l.getD j 0)]:=by
 simp [kU,aj,ak h]
theorem auS{l:List Int}{j:Nat}(h:j<l.length):(kU l)[j]? = some [.int .i64 (l.getD j 0)]:=by
 simp [kU,aj,ak h]
theorem auT(l:List Int)(j:Nat)(x:Int):(kU l).set j [.int .i64 x]=kU (l.set j x):=by
 simp only [kU,List.map_set]
theorem RY(n:Nat)(x:Int):List.replicate n [V.int .i64 x]=kU (List.replicate n x):=by simp [kU]
theorem Xm(l:List Int)(n:Nat):(kU l).drop n=kU (l.drop n):=by simp [kU]
theorem TU(l:List Int)(n:Nat):(kU l).take n=kU (l.take n):=by simp [kU]
theorem uM(l:List Int):nU (kU l):=by
 intro r hr v hv;obtain⟨x,_,rfl⟩:=bF.1 hr;simp at hv;subst hv;rfl
theorem auU{σ:Store}{o s n:Nat}{l:List Int}(ho:jQ σ o=some ⟨1,kU l⟩)(h:s=0/\n=l.length):resolve σ FD (.lQ o s n)=some (ints l):=by
 rw [asL ho (uM l) (by simp [vK];omega)];simp [h.1,h.2,TU]
theorem ap4(a b:V):splice [a] 0 [b]=[b]:=nr rfl
theorem Yi:∀{x y:V},nG x y->y.leaf=true->x.leaf=true:=by
 intro x y h hl
 cases x<;>first|rfl|skip
 ·simp only [nG]at h;subst h;exact hl
 ·simp only [nG]at h;obtain⟨_,rfl,_⟩:=h;exact hl
 simp only [nG]at h;obtain⟨_,rfl,_⟩:=h;exact hl
theorem adM:∀{xs ys:List V},wJ xs ys->xs.length=ys.length
 | [],ys,h=>by simp only [wJ]at h;subst h;rfl
 |
  x::xs,ys,h=>by
  simp only [wJ]at h;obtain⟨y,ys',rfl,_,h2⟩:=h;simp [adM h2]
theorem adN:∀{xs ys:List (List V)},ZK xs ys->xs.length=ys.length
 | [],ys,h=>by simp only [ZK]at h;subst h;rfl
 |
  x::xs,ys,h=>by
  simp only [ZK]at h;obtain⟨y,ys',rfl,_,h2⟩:=h;simp [adN h2]
mutual
theorem Vq{w:World}:∀(D:DM) (X:Nat->Prop) (x y:V) (v:Value),nG x y->rd w D X y v->rd w D X x v
 |
  D,X,.sl sz rows,y,v,h,hr=>by
  simp only [nG]at h;rcases h with ⟨rfl,rfl|⟨sz',rfl⟩⟩|⟨rows',rfl,h⟩
  ·simp only [rd]at hr ⊢;obtain⟨a,rfl⟩:=hr;exact⟨a,0,rfl,aJ _,.inl (by trivial)⟩
  ·simp only [rd]at hr ⊢;obtain⟨a,cap,rfl,h2,_⟩:=hr;exact⟨a,cap,rfl,h2,.inl (by trivial)⟩
  simp only [rd]at hr ⊢;obtain⟨a,cap,rfl,h2,h3⟩:=hr;have hl:=adN h;refine⟨a,cap,by rw [hl],by rw [hl];exact h2,?_⟩;rcases h3 with h3|⟨b,off,h3,h4,h5,h6⟩
  ·left;subst h3;exact aY hl
  exact .inr ⟨b,off,h3,h4,h5,Yj DM.none X b sz off rows rows' h h6⟩
 |
  D,X,.agg cs,y,v,h,hr=>by
  simp only [nG]at h;obtain⟨cs',rfl,h⟩:=h;simp only [rd]at hr ⊢;obtain⟨a,rfl,hr⟩:=hr;exact⟨a,rfl,TV D X cs cs' _ h hr⟩
 |
  D,X,.oU cs,y,v,h,hr=>by
  simp only [nG]at h;obtain⟨cs',rfl,h⟩:=h;simp only [rd]at hr ⊢;obtain⟨a,rfl,hr⟩:=hr;exact⟨a,rfl,TV D X cs cs' _ h hr⟩
 |
  D,X,.qw row off,y,v,h,hr=>by
  simp only [nG]at h;obtain⟨row',rfl,h⟩:=h;simp only [rd]at hr ⊢;obtain⟨b,o,rfl,h1,h2,h3⟩:=hr;exact⟨b,o,rfl,h1,h2,PZ DM.none X b o row row' h h3⟩
 |_,_,.any,y,v,h,hr=>by simp [rd]
 |_,_,.one,y,v,h,hr=>by simp only [nG]at h;subst h;exact hr
 |_,_,.int ..,y,v,h,hr=>by simp only [nG]at h;subst h;exact hr
 |_,_,.bool _,y,v,h,hr=>by simp only [nG]at h;subst h;exact hr
 |_,_,.str _,y,v,h,hr=>by simp only [nG]at h;subst h;exact hr
 |_,_,.kC,y,v,h,hr=>by simp only [nG]at h;subst h;exact hr
 |_,_,.lQ ..,y,v,h,hr=>by simp only [nG]at h;subst h;exact hr
 |_,_,.ptr ..,y,v,h,hr=>by simp only [nG]at h;subst h;exact hr
termination_by structural _ _ x=>x
theorem TV{w:World}:∀(D:DM) (X:Nat->Prop) (xs ys:List V) (vs:List Value),wJ xs ys->qH w D X ys vs->qH w D X xs vs
 |D,X,[],ys,vs,h,hr=>by simp only [wJ]at h;subst h;exact hr
 |
  D,X,x::xs,ys,vs,h,hr=>by
  simp only [wJ]at h;obtain⟨y,ys',rfl,h1,h2⟩:=h;simp only [qH]at hr ⊢;obtain⟨v,vs',rfl,k1,k2⟩:=hr;exact⟨v,vs',rfl,Vq D X x y v h1 k1,TV D X xs ys' vs' h2 k2⟩
termination_by structural _ _ x=>x
theorem PZ{w:World}:∀(D:DM) (X:Nat->Prop) (b off:Nat) (xs ys:List V),wJ xs ys->pJ w D X b off ys->pJ w D X b off xs
 |D,X,b,off,[],ys,h,hr=>by simp [pJ]
 |
  D,X,b,off,x::xs,ys,h,hr=>by
  simp only [wJ]at h;obtain⟨y,ys',rfl,h1,h2⟩:=h;simp only [pJ]at hr ⊢;obtain⟨k0,⟨c,k1,k2⟩,k3⟩:=hr;exact⟨Yi h1 k0,⟨c,k1,Vq D X x y c h1 k2⟩,PZ D X b (off+1) xs ys' h2 k3⟩
termination_by structural _ _ _ _ x=>x
theorem Yj{w:World}:∀(D:DM) (X:Nat->Prop) (b sz off:Nat) (xs ys:List (List V)),ZK xs ys->sD w D X b sz off ys->sD w D X b sz off xs
 |D,X,b,sz,off,[],ys,h,hr=>by simp [sD]
 |
  D,X,b,sz,off,x::xs,ys,h,hr=>by
  simp only [ZK]at h;obtain⟨y,ys',rfl,h1,h2⟩:=h;simp only [sD]at hr ⊢;exact⟨(adM h1).trans hr.1,PZ D X b off x y h1 hr.2.1,Yj D X b sz (off+sz) xs ys' h2 hr.2.2⟩
termination_by structural _ _ _ _ _ x=>x
end
mutual
theorem kR:∀(x:V),nG x x
 |.sl sz rows=>by simp only [nG];exact .inr ⟨rows,rfl,aaA rows⟩
 |.agg cs=>by simp only [nG];exact⟨cs,rfl,zi cs⟩
 |.oU cs=>by simp only [nG];exact⟨cs,rfl,zi cs⟩
 |.qw row off=>by simp only [nG];exact⟨row,rfl,zi row⟩
 |.any=>by simp [nG]
 |.one=>by simp [nG]
 |.int ..=>by simp [nG]
 |.bool _=>by simp [nG]
 |.str _=>by simp [nG]
 |.kC=>by simp [nG]
 |.lQ ..=>by simp [nG]
 |.ptr ..=>by simp [nG]
theorem zi:∀(xs:List V),wJ xs xs
 | []=>by simp [wJ]
 |x::xs=>by simp only [wJ];exact⟨x,xs,rfl,kR x,zi xs⟩
theorem aaA:∀(xs:List (List V)),ZK xs xs
 | []=>by simp [ZK]
 |x::xs=>by simp only [ZK];exact⟨x,xs,rfl,zi x,aaA xs⟩
end
def DM.win(D:DM)(W:Px)(kp:Nat):DM:=fun k=>match W[k]? with
 |
  some (some (o,s,l))=>(match D o with
  |.live d=>.live ⟨d.blk,d.ML+s*d.sz,d.sz,l,d.cap⟩
  |x=>x)
 |some Option.none=>if k<kp then(match D k with | .live _=>.oM|x=>x)else .oM
 |Option.none=>.oM
section
variable {w : World} {D : DM} {M : Nat -> Prop} {σ σ2 : Store} {W : Px} {kp : Nat}
theorem JD{k:Nat}{d:ajv}(h:D.win W kp k=.live d):∃o s l d0,W[k]? = some (some (o,s,l))/\D o=.live d0/\d=⟨d0.blk,d0.ML+s*d0.sz,d0.sz,l,d0.cap⟩:=by
 unfold DM.win at h;split at h
 ·rename_i o s l e;split at h
  ·rename_i d0 e2
   cases h
   exact⟨o,s,l,d0,e,e2,rfl⟩
  rename_i hx;rw [h]at hx;exact absurd rfl (hx d)
 ·split at h
  ·split at h
   ·cases h
   rename_i hx;rw [h]at hx;exact absurd rfl (hx d)
  cases h
 cases h
theorem alI:∀b,XS M (D.win W kp) b->XS M D b:=by
 rintro b (h|⟨k,d,hk,rfl⟩)
 ·exact .inl h
 obtain⟨o,s,l,d0,_,h2,rfl⟩:=JD hk;exact .inr ⟨o,d0,h2,rfl⟩
theorem alJ:∀{x y:V},yA W σ x y->x.leaf=true->y.leaf=true:=by
 intro x y h hl
 cases x<;>simp only [V.leaf]at hl<;>first|(cases hl;done)|skip
 all_goals simp only [yA]at h
 case one=>subst h;rfl
 case int=>subst h;rfl
 case bool=>subst h;rfl
 case str=>subst h;rfl
 case kC=>rcases h with rfl|⟨_,rfl⟩<;>rfl
 case sl=>exact Yi h rfl
 case lQ =>
  rcases h with ⟨k,s0,l0,_,_,_,rfl⟩|⟨_,_,sz,rfl⟩|⟨h,_⟩
  ·rfl
  ·rfl
  exact I4 h rfl
 case ptr =>
  rcases h with ⟨k,s0,l0,_,_,_,rfl⟩|⟨h,_⟩
  ·rfl
  exact I4 h rfl
 case qw=>exact Yi h rfl
theorem adO:∀{xs ys:List V},yB W σ xs ys->ys.length=xs.length
 | [],ys,h=>by simp only [yB]at h;subst h;rfl
 |
  x::xs,ys,h=>by
  simp only [yB]at h;obtain⟨y,ys',rfl,_,h2⟩:=h;simp [adO h2]
theorem adP:∀{xs ys:List V},yB W σ xs ys->∀(i:Nat) (y:V),ys[i]? = some y->∃x,xs[i]? = some x/\yA W σ x y
 | [],ys,h,i,y,hi=>by simp only [yB]at h;subst h;simp at hi
 |
  x::xs,ys,h,i,y,hi=>by
  simp only [yB]at h;obtain⟨z,zs,rfl,h1,h2⟩:=h
  cases i with
  |zero=>simp at hi;subst hi;exact⟨x,rfl,h1⟩
  |succ i=>simpa using adP h2 i y (by simpa using hi)
theorem af7{D D':DM}{X X':Nat->Prop}(hX:∀b,X' b->X b){x:V}{v:Value}(hx:(∃sz rows,x=.sl sz rows)\/∃row off,x=.qw row off)(h:rd w D X x v):rd w D' X' x v:=by
 have E:Ext w DM.none X w DM.none X':=⟨aJ _,fun _ _ _=>rfl,fun b _=>hX b,fun _=>vJ.refl _⟩;rcases hx with ⟨sz,rows,rfl⟩|⟨row,off,rfl⟩
 ·have h':rd w DM.none X (.sl sz rows) v:=by simpa only [rd]using h
  have:=oP _ _ E h';simpa only [rd]using this
 have h':rd w DM.none X (.qw row off) v:=by simpa only [rd]using h
 have:=oP _ _ E h';simpa only [rd]using this
theorem ap5{o s l n:Nat}{y:V}(h:resolve σ (n+1) (.lQ o s l)=some y):∃sz rows,y=.sl sz rows:=by
 simp only [resolve]at h;split at h<;>first|(cases h;done)|skip
 split at h<;>first|(cases h;done)|skip
 simp only [aO]at h;obtain⟨_,_,rfl⟩:=h;exact⟨_,_,rfl⟩
theorem ahY{o r f n:Nat}{y:V}(h:resolve σ (n+1) (.ptr o r f)=some y):∃row off,y=.qw row off:=by
 simp only [resolve]at h;split at h<;>first|(cases h;done)|skip
 split at h<;>first|(cases h;done)|skip
 simp only [aO]at h;obtain⟨_,_,rfl⟩:=h;exact⟨_,_,rfl⟩
theorem aaB(hS:uP w D M σ){x y:V}{v:Value}(h:resolve σ FD x=some y)(hq:∀q,q∈reach σ FD x->∀(k s0 l0:Nat),W[k]? ≠ some (some (q,s0,l0)))
  (hy:(∃sz rows,y=.sl sz rows)\/∃row off,y=.qw row off) (hr:rd w D (XS M D) x v):rd w (D.win W kp) (XS M (D.win W kp)) y v:=by
 have h1:=FU hS (R:=reach σ FD x) FD x y v h (fun _ ho=>ho) hr;refine af7 (fun b hb=>?_) hy h1;rcases hb with hb|⟨k,d,hk,rfl⟩
 ·exact .inl hb
 obtain⟨o,s,l,d0,e1,e2,rfl⟩:=JD hk;exact .inr ⟨o,d0,e2,rfl,fun ho=>hq o ho k s l e1⟩
mutual
theorem abJ(hS:uP w D M σ)(hW:∀(k o s l:Nat),W[k]? = some (some (o,s,l))->(jQ σ o).isSome=true):∀(x y:V) (v:Value),yA W σ x y->rd w D (XS M D) x v ->
  rd w (D.win W kp) (XS M (D.win W kp)) y v
 |
  .lQ o s l,y,v,h,hr=>by
  simp only [yA]at h;rcases h with ⟨k,s0,l0,h1,h2,h3,rfl⟩|⟨rfl,ho,sz,rfl⟩|⟨h1,h2⟩
  ·obtain⟨ob,hob⟩:=ji.1 (hW k o s0 l0 h1);obtain⟨d,hd⟩:=hS.alive o ob hob;simp only [rd,hd]at hr;obtain⟨e1,a,cap,rfl,e2,e3⟩:=hr;simp only [rd,DM.win,h1,hd];refine⟨by omega,a,cap,rfl,e2,e3.imp ?_ id⟩;rintro⟨rfl,e4⟩;have hm:s*d.sz=s0*d.sz+(s-s0)*d.sz:=by rw [<-gJ];congr 1;omega
   refine⟨by congr 2;omega,?_⟩;have:(s+cap)*d.sz=s0*d.sz+(s-s0+cap)*d.sz:=by rw [<-gJ];congr 1;omega
   omega
  ·obtain⟨ob,hob⟩:=ji.1 ho;obtain⟨d,hd⟩:=hS.alive o ob hob;simp only [rd,hd]at hr ⊢;obtain⟨e1,a,cap,rfl,e2,e3⟩:=hr;exact⟨a,cap,rfl,eH _,.inl (by trivial)⟩
  exact aaB hS h1 h2 (.inl (ap5 (n:=11) h1)) hr
 |
  .ptr o r off,y,v,h,hr=>by
  simp only [yA]at h;rcases h with ⟨k,s0,l0,h1,h2,h3,rfl⟩|⟨h1,h2⟩
  rotate_left
  ·exact aaB hS h1 h2 (.inr (ahY (n:=11) h1)) hr
  obtain⟨ob,hob⟩:=ji.1 (hW k o s0 l0 h1);obtain⟨d,hd⟩:=hS.alive o ob hob;simp only [rd,hd]at hr;subst hr;simp only [rd,DM.win,h1,hd];have hm:r*d.sz=s0*d.sz+(r-s0)*d.sz:=by rw [<-gJ];congr 1;omega
  congr 3;omega
 |
  .agg cs,y,v,h,hr=>by
  simp only [yA]at h;obtain⟨ds,rfl,h⟩:=h;simp only [rd]at hr ⊢;obtain⟨a,rfl,hr⟩:=hr;exact⟨a,rfl,abK hS hW cs ds _ h hr⟩
 |
  .oU cs,y,v,h,hr=>by
  simp only [yA]at h;obtain⟨ds,rfl,h⟩:=h;simp only [rd]at hr ⊢;obtain⟨a,rfl,hr⟩:=hr;exact⟨a,rfl,abK hS hW cs ds _ h hr⟩
 |
  .kC,y,v,h,hr=>by
  simp only [yA]at h;simp only [rd]at hr;obtain⟨a,rfl⟩:=hr;rcases h with rfl|⟨sz,rfl⟩
  ·simp only [rd];exact⟨a,rfl⟩
  simp only [rd];exact⟨a,0,rfl,aJ _,.inl (by trivial)⟩
 |
  .sl sz rows,y,v,h,hr=>by
  simp only [yA]at h;exact Vq _ _ _ _ _ h (af7 alI (.inl ⟨sz,rows,rfl⟩) hr)
 |
  .qw row off,y,v,h,hr=>by
  simp only [yA]at h;exact Vq _ _ _ _ _ h (af7 alI (.inr ⟨row,off,rfl⟩) hr)
 |.any,y,v,h,hr=>by simp only [yA]at h;subst h;simp [rd]
 |.one,y,v,h,hr=>by simp only [yA]at h;subst h;simpa only [rd]using hr
 |.int ..,y,v,h,hr=>by simp only [yA]at h;subst h;simpa only [rd]using hr
 |.bool _,y,v,h,hr=>by simp only [yA]at h;subst h;simpa only [rd]using hr
 |.str _,y,v,h,hr=>by simp only [yA]at h;subst h;simpa only [rd]using hr
theorem abK(hS:uP w D M σ)(hW:∀(k o s l:Nat),W[k]? = some (some (o,s,l))->(jQ σ o).isSome=true):∀(xs ys:List V) (vs:List Value),yB W σ xs ys->qH w D (XS M D) xs vs ->
  qH w (D.win W kp) (XS M (D.win W kp)) ys vs
 | [],ys,vs,h,hr=>by simp only [yB]at h;subst h;simpa only [qH]using hr
 |
  x::xs,ys,vs,h,hr=>by
  simp only [yB]at h;obtain⟨y,ys',rfl,h1,h2⟩:=h;simp only [qH]at hr ⊢;obtain⟨v,vs',rfl,k1,k2⟩:=hr;exact⟨v,vs',rfl,abJ hS hW x y v h1 k1,abK hS hW xs ys' vs' h2 k2⟩
end
theorem uP.re(hS:uP w D M σ)(h:ReS W σ σ2)(hkp:kp<=W.length):uP w (D.win W kp) M σ2:=by
 have hW:∀(k o s l:Nat),W[k]? = some (some (o,s,l))->(jQ σ o).isSome=true:=fun k o s l hk=>by
  obtain⟨ob,_,h1,_⟩:=h.win k o s l hk;rw [h1];rfl
 refine⟨?_,?_,?_,?_,hS.mlt⟩
 ·intro k d hk;obtain⟨o,s,l,d0,e1,e2,rfl⟩:=JD hk;obtain⟨ob,ob2,w1,w2,w3,w4,w5,w6⟩:=h.win k o s l e1;obtain⟨ob',c,e,h1,h2,h3,h4,h5,h6,h7,h8,h9,h10,h11⟩:=hS.live o d0 e2;rw [w1]at h1;cases h1;have hrow:∀i r2,ob2.rows[i]? = some r2->∃r,ob.rows[s+i]? = some r/\yB W σ r r2:=by
   intro i r2 hi;have hlt:s+i<ob.rows.length:=by have:=(aP.1 hi).1;omega
   exact⟨ob.rows[s+i],ak hlt,w6 i _ r2 (ak hlt) hi⟩
  have hlen2:∀r∈ob2.rows,r.length=ob2.sz:=by
   intro r2 hr2;obtain⟨i,hi⟩:=bJ.1 hr2;obtain⟨r,hr,hc⟩:=hrow i r2 hi;rw [adO hc,w4];exact h10 r (bn hr)
  refine⟨ob2,c,e,w3,by simp only [];rw [w4];exact h2,by simp only [];exact w5.symm,h4,h5,h6,h7,h8,?_,hlen2,?_⟩
  ·simp only [];have:d0.ML+s*d0.sz+l*d0.sz=d0.ML+(s+l)*d0.sz:=by rw [gJ];omega
   rw [this];refine dw (Nat.add_le_add_left (dG _ ?_) _) h9;omega
  intro i z hz;have hpos:0<ob.sz:=by rw [<-h2];exact h4
  have hilt:=(aP.1 hz).1;have hfl:=Aa hlen2;have hq:i / ob.sz<ob2.rows.length:=jw (by rw [dS,<-w4];omega);have hmod:i % ob.sz<ob2.rows[i / ob.sz].length:=by rw [hlen2 _ (by simp),w4];exact kK _ hpos
  have hz':=DL hlen2 (i:=i / ob.sz) (j:=i % ob.sz) (r:=ob2.rows[i / ob.sz]) (x:=ob2.rows[i / ob.sz][i % ob.sz]) (by simp [hq]) (by simp [hmod]);have hi:i / ob.sz*ob2.sz+i % ob.sz=i:=by rw [w4,dS];exact Nat.div_add_mod i ob.sz
  rw [hi,hz]at hz';obtain⟨r,hr,hc⟩:=hrow (i / ob.sz) ob2.rows[i / ob.sz] (by simp [hq]);obtain⟨x,hx,hcx⟩:=adP hc (i % ob.sz) z (by rw [Option.some.inj hz'];simp [hmod]);obtain⟨hlf,cv,k1,k2⟩:=h11 _ x (DL h10 hr hx);refine⟨alJ hcx hlf,cv,?_,abJ hS hW x z cv hcx k2⟩;rw [<-k1];simp only []
  congr 1
  have hi2:i=i / ob.sz*ob.sz+i % ob.sz:=by rw [<-w4];rw [w4];rw [w4]at hi;exact hi.symm
  rw [h2,gJ];omega
 ·intro k ob hk;have hlt:k<W.length:=by
   rw [<-h.len];rcases dW k σ2.length with h'|h'
   ·exact h'
   rw [jQ,bC h']at hk;cases hk
  cases hw:W[k]with
  |
   none =>
   have:=h.hole k (by rw [ak hlt,hw]);rw [this]at hk;cases hk
  |
   some p =>
   obtain⟨o,s,l⟩:=p;have hk':W[k]? = some (some (o,s,l)):=by rw [ak hlt,hw]
   obtain⟨ob0,_,w1,_⟩:=h.win k o s l hk';obtain⟨d,hd⟩:=hS.alive o ob0 w1;exact⟨⟨d.blk,d.ML+s*d.sz,d.sz,l,d.cap⟩,by simp only [DM.win,hk',hd]⟩
 ·intro k k' d d' hk hk' hb;obtain⟨o,s,l,d0,e1,e2,rfl⟩:=JD hk;obtain⟨o',s',l',d0',e1',e2',rfl⟩:=JD hk';have:=hS.inj o o' d0 d0' e2 e2' hb;subst this;exact h.nd k k' o s l s' l' e1 e1'
 intro k hk;rw [h.len]at hk;simp only [DM.win,bC hk]
end
section
variable {P : Program} {ν : Nat -> Option Nat} {nt : Nat} {M : Nat -> Prop} {w0 : World} {D0 : DM} {st st2 : St} {D : DM} {a : Act} {w : World} {W : Px}
theorem ReS.some{σ σ2:Store}(h:ReS W σ σ2):∀(k o s l:Nat),W[k]? = some (some (o,s,l))->(jQ σ o).isSome=true:=fun k o s l hk=>by
 obtain⟨ob,_,h1,_⟩:=h.win k o s l hk;rw [h1];rfl
theorem SR.re(h:SR nt M w0 D0 st D a w)(hr:atB W st st2):SR nt M w0 D0 st2 (D.win W st.keep) a w:=by
 have hkp:st.keep<=W.length:=by
  rcases dW W.length st.keep with h'|h'
  ·have:W[W.length]? = Option.none:=by simp
   rcases hr.kp W.length h' with ⟨ob,_,h2⟩|⟨_,h2⟩<;>rw [this]at h2<;>cases h2
  exact h'
 refine⟨fun t=>?_,h.tm,h.df,h.store.re hr.objs hkp,h.gr,?_,?_⟩
 ·rcases hr.env t with e|e
  ·rw [e];simp [rd]
  exact abJ h.store hr.objs.some _ _ _ e (h.env t)
 ·intro k d hk;obtain⟨o,s,l,d0,_,e2,rfl⟩:=JD hk;exact h.fr o d0 e2
 intro k hk;rw [hr.keep]at hk;have hle:=h.kp k hk;rcases hr.kp k hk with ⟨ob,h1,h2⟩|⟨h1,h2⟩
 ·obtain⟨d,hd⟩:=h.store.alive k ob h1;obtain⟨ob',c,e,g1,g2,g3,_⟩:=h.store.live k d hd;rw [h1]at g1;cases g1;have:D.win W st.keep k=D k:=by
   simp only [DM.win,h2,hd,kJ,iP,<-g3]
  rw [this];exact hle
 have:D.win W st.keep k=D k:=by
  simp only [DM.win,h2,aQ hk]
  cases hd:D k with
  |
   live d =>
   obtain⟨ob',c,e,g1,_⟩:=h.store.live k d hd;rw [h1]at g1;cases g1
  |_=>rfl
 rw [this];exact hle
theorem SR.forget(h:SR nt M w0 D0 st D a w)(he:∀t,st2.env t=.any\/nG (st2.env t) (st.env t))(ho:st2.objs=st.objs)(hk:st2.keep=st.keep):SR nt M w0 D0 st2 D a w:=by
 refine⟨fun t=>?_,h.tm,h.df,by rw [ho];exact h.store,h.gr,h.fr,by rw [hk];exact h.kp⟩;rcases he t with e|e
 ·rw [e];simp [rd]
 exact Vq _ _ _ _ _ e (h.env t)
end
inductive Fg:St->St->Prop
 |env {st2 st:St} (he:∀t,st2.env t=.any\/nG (st2.env t) (st.env t)) (ho:st2.objs=st.objs) (hk:st2.keep=st.keep):Fg st2 st
 |re {st2 st:St} (W:Px) (h:atB W st st2):Fg st2 st
theorem Fg.run{T:Tb}{c:C}{st2 st:St}{o:Out}(h:Fg st2 st)(k:Run T (.code c st2) o):Run T (.code c st) o:=by
 cases h with
 |env he ho hk=>exact .forget he ho hk k
 |re W h=>exact .re W h k
theorem Yk{T:Tb}{rf:Nat->Nat->Bool}{c:C}{Q:Ex->St->Prop}{α:Type}(I:α->St)(P:α->Prop)(m:α->Nat)(hk:c.okC=true)
  (step:∀a,P a->wp T rf c (fun e st'=>abE e (∃a',m a'<m a/\P a'/\Fg (I a') st') (Q e st')) (I a)) :
  ∀(n:Nat) (a:α) (st:St),m a<n->P a->Fg (I a) st->Ws T c Q st
 |0,_,_,hn,_,_=>absurd hn (dB _)
 |
  n+1,a,st,hn,h,hf=>by
  obtain⟨e,st1,h1,h2⟩:=BN hk (step a h)
  cases e with
  |
   normal =>
   obtain⟨a',hlt,h3,h3'⟩:=h2;obtain⟨e,st2,h4,h5⟩:=Yk I P m hk step n a' _ (by omega) h3 h3';exact⟨e,st2,hf.run (.ak3 h1 h4),h5⟩
  |exit id=>exact⟨_,_,hf.run (.adl (by simp) h1),h2⟩
  |ret=>exact⟨_,_,hf.run (.adl (by simp) h1),h2⟩
theorem kZ{T:Tb}(rf:Nat->Nat->Bool){c:C}{Q:Ex->St->Prop}{α:Type}(I:α->St)(P:α->Prop)(m:α->Nat)(hk:c.okC=true)(a:α){st:St}(h0:P a)(hf:Fg (I a) st)
  (step:∀a,P a->wp T rf c (fun e st'=>abE e (∃a',m a'<m a/\P a'/\Fg (I a') st') (Q e st')) (I a)) :
  Ws T c Q st:=Yk I P m hk step (m a+1) a st (by omega) h0 hf
def EvV(v y:V):Prop:=v=.any\/nG v y
theorem ap6(y:V):EvV .any y=True:=iy (.inl rfl)
theorem alK(y:V):EvV y y=True:=iy (.inr (kR y))
theorem P5{v y:V}(h:v=y):EvV v y:=h▸.inr (kR v)
theorem NK{q:IntKind}{a b:Int}(h:a=b):EvV (.int q a) (.int q b):=P5 (by rw [h])
theorem KG(sz:Nat):EvV (.sl sz []) .kC:=.inr (by simp [nG])
def OJ:List V->Nat->(Nat->V)->Prop
 | [],_,_=>True
 |v::vs,i,env=>EvV v (env i)/\OJ vs (i+1) env
theorem ap7(i:Nat)(env:Nat->V):OJ [] i env=True:=nr rfl
theorem ap8(v:V)(vs:List V)(i:Nat)(env:Nat->V):OJ (v::vs) i env=(EvV v (env i)/\OJ vs (i+1) env):=nr rfl
theorem OJ.at_:∀{l:List V} {i:Nat} {env:Nat->V},OJ l i env->∀t,mJ l t=.any\/nG (mJ l t) (env (i+t))
 | [],_,_,_,t=>.inl rfl
 |v::vs,i,env,h,0=>h.1
 |
  v::vs,i,env,h,t+1=>by
  have:=OJ.at_ h.2 t;rw [show i+1+t=i+(t+1) by omega]at this;exact this
theorem kS{l:List V}{env:Nat->V}{objs:Store}{kp b1 b2:Nat}{r1 r2 m1 m2:List Nat}(h:OJ l 0 env):Fg ⟨mJ l,objs,kp,b1,r1,m1⟩ ⟨env,objs,kp,b2,r2,m2⟩ :=
 .env (fun t=>by have:=h.at_ t;rwa [aX]at this) rfl rfl
theorem FZ{W:Px}{σ:Store}{v:V}(h:v.still=true):yA W σ v v:=by
 cases v<;>simp only [V.still]at h<;>first|(cases h;done)|skip
 all_goals simp only [yA]
 ·exact .inl (by trivial)
 ·exact kR _
 exact kR _
theorem JE{W:Px}{σ:Store}:∀{r:List V},(∀v∈r,v.still=true)->yB W σ r r
 | [],_=>by simp [yB]
 |
  v::r,h=>by
  simp only [yB];exact⟨v,r,rfl,FZ (h v (by simp)),JE fun x hx=>h x (by simp [hx])⟩
theorem alL{σ:Store}(l:List (Nat×Obj))(hn:(l.map (·.1)).Nodup)(h:∀p∈l,jQ σ p.1=some p.2/\nU p.2.rows) :
  ReS (l.map fun p=>some (p.1,0,p.2.rows.length)) σ (l.map fun p=>some p.2):=by
 have hget:∀(k o s n:Nat),(l.map fun p=>some (p.1,0,p.2.rows.length))[k]? = some (some (o,s,n))->∃p,l[k]? = some p/\o=p.1/\s=0/\n=p.2.rows.length:=by
  intro k o s n hk;rw [bP,aO]at hk;obtain⟨p,h1,h2⟩:=hk;simp only [aB,Prod.mk.injEq]at h2;exact⟨p,h1,h2.1.symm,h2.2.1.symm,h2.2.2.symm⟩
 refine⟨by simp,?_,?_,?_⟩
 ·intro i j o s n s' n' hi hj;obtain⟨p,p1,p2,_⟩:=hget i o s n hi;obtain⟨q,q1,q2,_⟩:=hget j o s' n' hj;have hi':=(aP.1 p1).1;have hj':=(aP.1 q1).1;have e1:=(aP.1 p1).2;have e2:=(aP.1 q1).2;refine(List.getElem_inj (h₀:=by simpa using hi') (h₁:=by simpa using hj') hn).1 ?_;simp [e1,e2,<-p2,<-q2]
 ·intro k o s n hk;obtain⟨p,p1,rfl,rfl,rfl⟩:=hget k o s n hk;obtain⟨h1,h2⟩:=h p (bn p1);refine⟨p.2,p.2,h1,by omega,by unfold jQ;rw [bP,p1];rfl,rfl,rfl,fun i r r2 hr hr2=>?_⟩;rw [aX,hr2]at hr
  cases hr
  exact JE (h2 _ (bn hr2))
 intro k hk;rw [bP,aO]at hk;obtain⟨p,_,h⟩:=hk
 cases h
def P6(W:Px)(σ:Store)(v y:V):Prop:=v=.any\/yA W σ y v
theorem alM(W:Px)(σ:Store)(y:V):P6 W σ .any y=True:=iy (.inl rfl)
theorem alN(W:Px)(σ:Store)(q:IntKind)(a b:Int):P6 W σ (.int q a) (.int q b)=(a=b):=by simp [P6,yA]
theorem ajS(W:Px)(σ:Store)(a b:Bool):P6 W σ (.bool a) (.bool b)=(a=b):=by simp [P6,yA]
theorem NM(W:Px)(σ:Store){y:V}(h:y.still=true):P6 W σ y y:=.inr (FZ h)
theorem ap9(W:Px)(σ:Store)(sz:Nat)(rows:List (List V)):P6 W σ (.sl sz rows) (.sl sz rows)=True:=iy (NM W σ rfl)
theorem alO(W:Px)(σ:Store)(a:List UInt8):P6 W σ (.str a) (.str a)=True:=iy (NM W σ rfl)
theorem BO(W:Px)(σ:Store)(sz:Nat):P6 W σ (.sl sz []) .kC=True:=iy (.inr (by simp only [yA];exact .inr ⟨sz,rfl⟩))
theorem ajT(W:Px)(σ:Store):P6 W σ .kC .kC=True:=iy (NM W σ rfl)
theorem qK{W:Px}{σ:Store}{k o l l' n:Nat}(h:W[k]? = some (some (o,0,n)))(hl:l<=n)(e:l'=l):P6 W σ (.lQ k 0 l') (.lQ o 0 l) :=
 .inr (by simp only [yA];exact .inl ⟨k,0,n,h,aJ _,by omega,by rw [e]⟩)
theorem Ac{W:Px}{σ:Store}{k o r off n:Nat}(h:W[k]? = some (some (o,0,n)))(hl:r<n):P6 W σ (.ptr k r off) (.ptr o r off) :=
 .inr (by simp only [yA];exact .inl ⟨k,0,n,h,eH _,by omega,by simp⟩)
theorem D8{W:Px}{σ:Store}{o s l:Nat}{y:V}(h:resolve σ FD (.lQ o s l)=some y)(hq:∀q,q∈reach σ FD (.lQ o s l)->∀(k s0 l0:Nat),W[k]? ≠ some (some (q,s0,l0))):P6 W σ y (.lQ o s l) :=
 .inr (by simp only [yA];exact .inr (.inr ⟨h,hq⟩))
theorem pW{W:Px}{σ:Store}{x y:V}(h:y.still=true)(e:x=y):P6 W σ x y:=e▸NM W σ (e▸h)
def Lc(W:Px)(σ:Store):List V->Nat->(Nat->V)->Prop
 | [],_,_=>True
 |v::vs,i,env=>P6 W σ v (env i)/\Lc W σ vs (i+1) env
theorem alP(W:Px)(σ:Store)(i:Nat)(env:Nat->V):Lc W σ [] i env=True:=nr rfl
theorem alQ(W:Px)(σ:Store)(v:V)(vs:List V)(i:Nat)(env:Nat->V):Lc W σ (v::vs) i env=(P6 W σ v (env i)/\Lc W σ vs (i+1) env):=nr rfl
theorem Lc.at_{W:Px}{σ:Store}:∀{l:List V} {i:Nat} {env:Nat->V},Lc W σ l i env->∀t,mJ l t=.any\/yA W σ (env (i+t)) (mJ l t)
 | [],_,_,_,t=>.inl rfl
 |v::vs,i,env,h,0=>h.1
 |
  v::vs,i,env,h,t+1=>by
  have:=Lc.at_ h.2 t;rw [show i+1+t=i+(t+1) by omega]at this;exact this
theorem Rh(l:List (Nat×Obj)){vs:List V}{env:Nat->V}{σ σ2:Store}{b1 b2:Nat}{r1 r2 m1 m2:List Nat}(hn:(l.map (·.1)).Nodup)
  (h:∀p∈l,jQ σ p.1=some p.2/\nU p.2.rows) (ho:σ2=l.map fun p=>some p.2)
  (he:Lc (l.map fun p=>some (p.1,0,p.2.rows.length)) σ vs 0 env):Fg ⟨mJ vs,σ2,0,b1,r1,m1⟩ ⟨env,σ,0,b2,r2,m2⟩:=by
 subst ho;exact .re _ ⟨alL l hn h,rfl,fun i hi=>absurd hi (dB _),fun t=>by have:=he.at_ t;rwa [aX]at this⟩
theorem aqa(t n:Nat)(rs:List O6)(acc:List V)(st:St)(k:V->Prop):O7 (.cell t n true::rs) acc st k=oZ (rowAt st.objs (st.env t)) fun p=>if p.2+n<=p.1.length then FK (.agg ((p.1.drop p.2).take n)) fun v=>O7 rs (v::acc) st k else False:=by
 simp only [O7,O6.get]
 cases e:rowAt st.objs (st.env t)with
 |none=>rfl
 |
  some p =>
  by_cases h:p.2+n<=p.1.length
  ·simp only [oZ,if_true,FK,rM,aQ h]
  simp only [oZ,if_true,FK,rM,aN h]
theorem aqb{c:Prop} [Decidable c] {α:Type} {a b:Option α} (h:c):(if c then a else b)=a:=by rw [aQ h]
def NP(env:Nat->V)(sz:Nat):List (List V)->List (Nat×Src)->(List (List V)->Prop)->Prop
 |rows,[],k=>k rows
 |rows,(i,s)::rest,k=>tZ (s.ev env) fun cs=>(cs.length=sz/\i<rows.length)/\NP env sz (rows.set i cs) rest k
@[congr] theorem axC {env:Nat->V} {sz:Nat} {r r':List (List V)} {ps:List (Nat×Src)} {k:List (List V)->Prop} (h:wr r=r'):NP env sz r ps k=NP env sz r' ps k:=by rw [<-h,rM]
theorem alR(env:Nat->V)(sz:Nat)(rows:List (List V))(k:List (List V)->Prop):NP env sz rows [] k=k rows:=nr rfl
theorem alS(env:Nat->V)(sz:Nat)(r:List V)(rows:List (List V))(i:Nat)(s:Src)(rest:List (Nat×Src))(k:List (List V)->Prop) :
  NP env sz (r::rows) ((i,s)::rest) k=tZ (s.ev env) fun cs=>(cs.length=sz/\i<(r::rows).length)/\NP env sz ((r::rows).set i cs) rest k:=nr rfl
theorem aaC{env:Nat->V}{sz:Nat}:∀{ps:List (Nat×Src)} {rows:List (List V)} {k:List (List V)->Prop},oZ (vI env sz rows ps) k=NP env sz rows ps k
 | [],rows,k=>rfl
 |
  (i,s)::rest,rows,k=>by
  simp only [vI,NP,tZ]
  cases h:(s.ev env).cells? with
  |none=>rfl
  |
   some cs =>
   simp only [oZ];by_cases hc:cs.length=sz/\i<rows.length
   ·rw [aQ hc];simp only [hc,and_self,true_and];exact aaC
   rw [aN hc];simp only [hc,false_and]
theorem aqc(env:Nat->V)(σ:Store)(k:Eff->Prop)(sz:Nat)(z:List V)(n:Nat)(ps:List (Nat×Src)):I.pz env σ (.nO sz z (n+1) ps) k=NP env sz (List.replicate (n+1) z) ps fun rows=>k (.newS ⟨sz,rows⟩ (n+1)):=by
 rw [aum,aaC]
 congr 1
theorem aqd(env:Nat->V)(σ:Store)(k:Eff->Prop)(sz:Nat)(z:List V):I.pz env σ (.nO sz z 0 []) k=k (.val .kC):=nr rfl
def TW(env:Nat->V):List V->List (Nat×Nat×Src)->(List V->Prop)->Prop
 |row,[],k=>k row
 |row,(off,n,s)::rest,k=>tZ (s.ev env) fun cs=>(cs.length=n/\off+n<=row.length)/\TW env (splice row off cs) rest k
@[congr] theorem azc {env:Nat->V} {r r':List V} {ps:List (Nat×Nat×Src)} {k:List V->Prop} (h:wr r=r'):TW env r ps k=TW env r' ps k:=by rw [<-h,rM]
theorem aqe(env:Nat->V)(row:List V)(k:List V->Prop):TW env row [] k=k row:=nr rfl
theorem aqf(env:Nat->V)(c:V)(row:List V)(off n:Nat)(s:Src)(rest:List (Nat×Nat×Src))(k:List V->Prop) :
  TW env (c::row) ((off,n,s)::rest) k=tZ (s.ev env) fun cs=>(cs.length=n/\off+n<=(c::row).length)/\TW env (splice (c::row) off cs) rest k:=nr rfl
theorem adQ{env:Nat->V}:∀{ps:List (Nat×Nat×Src)} {row:List V} {k:List V->Prop},oZ (CQ env row ps) k=TW env row ps k
 | [],row,k=>rfl
 |
  (off,n,s)::rest,row,k=>by
  simp only [CQ,TW,tZ]
  cases h:(s.ev env).cells? with
  |none=>rfl
  |
   some cs =>
   simp only [oZ];by_cases hc:cs.length=n/\off+n<=row.length
   ·rw [aQ hc];simp only [hc,and_self,true_and];exact adQ
   rw [aN hc];simp only [hc,false_and]
theorem alT(env:Nat->V)(σ:Store)(k:Eff->Prop)(z:List V)(ps:List (Nat×Nat×Src)):I.pz env σ (.build z ps) k=TW env z ps fun cs=>FK (.agg cs) fun v=>k (.val v):=by
 rw [apM,adQ];rfl
def af8:Option Src->(Nat->V)->Nat->(Nat->Prop)->Prop
 |none,_,n,k=>RX n k
 |some h,env,n,k=>uK n (h.ev env) k
def af9:Option Src->(Nat->V)->Nat->(Nat->Prop)->Prop
 |none,_,_,k=>k 0
 |some h,env,n,k=>uK n (h.ev env) k
theorem auV(env:Nat->V)(n:Nat)(k:Nat->Prop):af8 none env n k=RX n k:=nr rfl
theorem auW(h:Src)(env:Nat->V)(n:Nat)(k:Nat->Prop):af8 (some h) env n k=uK n (h.ev env) k:=nr rfl
theorem auX(env:Nat->V)(n:Nat)(k:Nat->Prop):af9 none env n k=k 0:=nr rfl
theorem auY(h:Src)(env:Nat->V)(n:Nat)(k:Nat->Prop):af9 (some h) env n k=uK n (h.ev env) k:=nr rfl
@[congr] theorem aCV {o:Option Src} {env:Nat->V} {n n':Nat} {k:Nat->Prop} (h:wr n=n'):af8 o env n k=af8 o env n' k:=by rw [<-h,rM]
@[congr] theorem aCW {o:Option Src} {env:Nat->V} {n n':Nat} {k:Nat->Prop} (h:wr n=n'):af9 o env n k=af9 o env n' k:=by rw [<-h,rM]
theorem aqg(env:Nat->V)(σ:Store)(k:Eff->Prop)(sz:Nat)(x:Src)(lo hi:Option Src):I.pz env σ (.slice sz x lo hi) k =
  oZ (lenOf σ (x.ev env)) fun n=>af8 hi env n fun h=>af9 lo env h fun l=>slK (x.ev env) (FK .kC fun v=>k (.val v)) (fun sz' rows=>sz'=sz/\FK (.sl sz' ((rows.take h).drop l)) fun v=>k (.val v))
   (fun o s _=>oZ (jQ σ o) fun ob=>ob.sz=sz/\FK (.lQ o (s+l) (h-l)) fun v=>k (.val v)):=by
 simp only [I.pz]
 congr 1
 funext n
 cases hi<;>cases lo<;>simp only [af8,af9,RX,FK]<;>(cases x.ev env<;>rfl)
theorem alU(env:Nat->V)(σ:Store)(k:Eff->Prop)(x:Src)(lo hi:Option Src):I.pz env σ (.RG x lo hi) k =
  ajR (x.ev env) fun s=>af8 hi env s.length fun h=>af9 lo env h fun l=>FK (.str ((s.take h).drop l)) fun v=>k (.val v):=by
 simp only [I.pz]
 cases x.ev env<;>first|rfl|(cases hi<;>cases lo<;>rfl)
theorem PF.lax{T:Tb}{f:Nat}{as as':List V}{r r':V}(h:PF T f as r)(ha:wJ as as')(hr:nG r' r):PF T f as' r':=Run.abt ha h hr
def val:List Int->Nat
 | []=>0
 |d::l=>d.toNat+1000000000*val l
def mk(n:Nat):List Int:=if h:n=0 then []else((n % 1000000000:Nat):Int)::mk (n / 1000000000)
termination_by n
decreasing_by omega
def Lb(l:List Int):Prop:=∀d∈l,0<=d/\d<1000000000
theorem mk_zero:mk 0=[]:=by rw [mk];rfl
theorem mk_pos{n:Nat}(h:n≠0):mk n=((n % 1000000000:Nat):Int)::mk (n / 1000000000):=by rw [mk];rw [dif_neg h]
theorem val_mk(n:Nat):val (mk n)=n:=by
 induction n using Nat.strongRecOn with
 |
  ind n ih =>
  by_cases h:n=0
  ·subst h;rw [mk_zero];rfl
  rw [mk_pos h];simp only [val];rw [ih _ (by omega),gU];omega
theorem wC(n:Nat):Lb (mk n):=by
 induction n using Nat.strongRecOn with
 |
  ind n ih =>
  by_cases h:n=0
  ·subst h;rw [mk_zero];intro d hd;cases hd
  rw [mk_pos h];intro d hd;rcases aI.1 hd with rfl|hd
  ·omega
  exact ih _ (by omega) d hd
theorem val_append(a b:List Int):val (a++b)=val a+1000000000 ^ a.length*val b:=by
 induction a with
 |nil=>simp [val]
 |
  cons d a ih =>
  simp only [dI,val,ih,au,jk,jC];rw [dS (1000000000 ^ a.length) 1000000000,ig];omega
theorem zL{l:List Int}(h:Lb l):val l<1000000000 ^ l.length:=by
 induction l with
 |nil=>simp [val]
 |
  cons d l ih =>
  have h1:=h d (by simp);have h2:=ih fun x hx=>h x (by simp [hx]);simp only [val,au,jk];have:d.toNat<1000000000:=by omega
  generalize 1000000000 ^ l.length=p at *;omega
theorem Yl(n:Nat):∀(l:List Int),Lb l->val l=n->n≠0->l.getLast? ≠ some 0->mk n=l:=by
 induction n using Nat.strongRecOn with
 |
  ind n ih =>
  intro l hl hv hn ht
  cases l with
  |nil=>simp [val]at hv;omega
  |
   cons d l =>
   have hd:=hl d (by simp);have hl':Lb l:=fun x hx=>hl x (by simp [hx]);simp only [val]at hv;rw [mk_pos hn];have e1:((n % 1000000000:Nat):Int)=d:=by omega
   have e2:n / 1000000000=val l:=by omega
   rw [e1,e2]
   congr 1
   by_cases h0:val l=0
   ·rw [h0,mk_zero];have hz:∀(l:List Int),Lb l->val l=0->∀x∈l,x=0:=by
     intro l
     induction l with
     |nil=>intro _ _ x hx;cases hx
     |
      cons y l ih2 =>
      intro hl hv x hx;simp only [val]at hv;have hy:=hl y (by simp);rcases aI.1 hx with rfl|hx
      ·omega
      exact ih2 (fun z hz=>hl z (by simp [hz])) (by omega) x hx
    cases l with
    |nil=>rfl
    |
     cons y l =>
     exfalso
     apply ht
     have hlast:(d::y::l).getLast? = some ((y::l).getLast (by simp)):=by
      rw [List.getLast?_cons_cons,List.getLast?_eq_some_getLast (by simp)]
     rw [hlast]
     congr 1
     exact hz _ hl' h0 _ (List.getLast_mem _)
   refine ih (val l) (by omega) l hl' rfl h0 ?_
   cases l with
   |nil=>simp [val]at h0
   |cons y l=>rwa [List.getLast?_cons_cons]at ht
def Can(l:List Int):Prop:=Lb l/\l.getLast? ≠ some 0
theorem mk_val{l:List Int}(h:Can l):mk (val l)=l:=by
 by_cases h0:val l=0
 ·rw [h0,mk_zero]
  cases l with
  |nil=>rfl
  |
   cons d l =>
   exfalso
   apply h.2
   have hz:∀(l:List Int),Lb l->val l=0->∀x∈l,x=0:=by
    intro l
    induction l with
    |nil=>intro _ _ x hx;cases hx
    |
     cons y l ih2 =>
     intro hl hv x hx;simp only [val]at hv;have hy:=hl y (by simp);rcases aI.1 hx with rfl|hx
     ·omega
     exact ih2 (fun z hz=>hl z (by simp [hz])) (by omega) x hx
   rw [List.getLast?_eq_some_getLast (by simp)]
   congr 1
   exact hz _ h.1 h0 _ (List.getLast_mem _)
 exact Yl _ l h.1 rfl h0 h.2
theorem wY(n:Nat):Can (mk n):=by
 refine⟨wC n,?_⟩
 induction n using Nat.strongRecOn with
 |
  ind n ih =>
  by_cases h:n=0
  ·subst h;rw [mk_zero];simp
  rw [mk_pos h];by_cases h1:n / 1000000000=0
  ·rw [h1,mk_zero];simp;omega
  rw [mk_pos h1,List.getLast?_cons_cons,<-mk_pos h1];exact ih _ (by omega)
theorem l9{n k:Nat}:(mk n).length<=k↔n<1000000000 ^ k:=by
 constructor
 ·intro h;have h1:=zL (wC n);rw [val_mk]at h1;exact bD h1 (gI (by omega) h)
 induction k generalizing n with
 |zero =>
      intro h;have:n=0:=by simpa using h
      subst this;rw [mk_zero];simp
 |
  succ k ih =>
  intro h;by_cases h0:n=0
  ·subst h0;rw [mk_zero];simp
  rw [mk_pos h0,au];have:n / 1000000000<1000000000 ^ k:=by
   rw [jk,dS]at h;exact jw h
  have:=ih this;omega
theorem aaD{n k:Nat}:k<(mk n).length↔1000000000 ^ k<=n:=by
 have:=@l9 n k;omega
theorem alV{n:Nat}:mk n=[]↔n=0:=by
 constructor
 ·intro h;have:=val_mk n;rw [h]at this;simpa [val]using this.symm
 rintro rfl;exact mk_zero
theorem alW{n:Nat}(h:n≠0):0<(mk n).length:=by
 rw [mk_pos h];simp
theorem ajU{l:List Int}(h:Lb l)(hv:l≠[]->1000000000 ^ (l.length-1)<=val l):Can l:=by
 refine⟨h,fun ht=>?_⟩
 cases hl:l with
 |nil=>rw [hl]at ht;simp at ht
 |
  cons d r =>
  have hne:l≠[]:=by rw [hl];simp
  have h1:=hv hne;have h2:l=l.dropLast++[0]:=by
   have:=List.dropLast_concat_getLast hne;rw [List.getLast?_eq_some_getLast hne]at ht;rw [Option.some.inj ht]at this;exact this.symm
  have h3:Lb l.dropLast:=fun x hx=>h x (List.dropLast_subset _ hx);have h4:=zL h3;rw [h2,val_append]at h1;simp only [val,aS,au,aG,List.length_dropLast]at h1 h4;simp at h1;omega
def yE(l:List Int):Nat->Nat
 |0=>0
 |n+1=>if l.getD n 0=0 then yE l n else n+1
def trim(l:List Int):List Int:=l.take (yE l l.length)
theorem adS(l:List Int):∀n,yE l n<=n
 |0=>aJ _
 |n+1=>by simp only [yE];split;exact Nat.le_succ_of_le (adS l n);exact aJ _
theorem pq{l:List Int}{n:Nat}(h:n<l.length):l.take (n+1)=l.take n++[l.getD n 0]:=by
 rw [iY];simp [aj,h]
theorem aaE(l:List Int):∀n,n<=l.length->val (l.take (yE l n))=val (l.take n)/\(l.take (yE l n)).getLast? ≠ some 0
 |0,_=>by simp [yE]
 |
  n+1,h=>by
  simp only [yE];obtain⟨h1,h2⟩:=aaE l n (by omega);split
  ·rename_i h0;refine⟨?_,h2⟩;rw [h1,pq (by omega),h0,val_append];simp [val]
  rename_i h0;refine⟨rfl,?_⟩;rw [pq (by omega)];simp only [List.getLast?_append,List.getLast?_singleton,Option.some_or,ne_eq,aB];exact h0
theorem abL{l:List Int}(h:Lb l)(n:Nat):Lb (l.take n):=fun x hx=>h x (dH hx)
theorem CS{l:List Int}(h:Lb l):trim l=mk (val l):=by
 obtain⟨h1,h2⟩:=aaE l l.length (aJ _);rw [bI]at h1;have hc:Can (trim l):=⟨abL h _,h2⟩;rw [<-h1];exact(mk_val hc).symm
theorem Ym{l:List Int}(h:Can l):trim l=l:=by rw [CS h.1,mk_val h]
theorem aga:Lb []:=fun x hx=>by cases hx
theorem abM{d:Int}{l:List Int}(h0:0<=d)(h1:d<1000000000)(h:Lb l):Lb (l++[d]):=by
 intro x hx;rcases aK.1 hx with hx|hx
 ·exact h x hx
 simp at hx;subst hx;exact⟨h0,h1⟩
theorem NQ{l:List Int}{d:Int}{i:Nat}(h0:0<=d)(h1:d<1000000000)(h:Lb l):Lb (l.set i d):=by
 intro x hx;rcases jd hx with hx|rfl
 ·exact h x hx
 exact⟨h0,h1⟩
theorem wE{l:List Int}(h:Lb l)(i:Nat):0<=l.getD i 0/\l.getD i 0<1000000000:=by
 by_cases hi:i<l.length
 ·rw [aj,ak hi];exact h _ (jy _)
 rw [aj,bC (by omega)];simp
theorem RZ(n:Nat):Lb (List.replicate n 0):=by
 intro x hx;have:=jD hx;subst this;omega
theorem yX(l:List Int)(d:Int):val (l++[d])=val l+1000000000 ^ l.length*d.toNat:=by
 rw [val_append];simp [val]
theorem alX{l:List Int}{i:Nat}(h:i<l.length):val (l.drop i)=(l.getD i 0).toNat+1000000000*val (l.drop (i+1)):=by
 rw [dK h];simp [val,aj,h]
theorem nK{l:List Int}{i:Nat}(h:l.length<=i):val (l.drop i)=0:=by
 rw [eP h];rfl
theorem BP(l:List Int)(i:Nat):val l=val (l.take i)+1000000000 ^ (l.take i).length*val (l.drop i):=by
 rw [<-val_append,gZ]
theorem ahZ(n:Nat):val (List.replicate n 0)=0:=by
 induction n with
 |zero=>rfl
 |succ n ih=>simp [kH,val,ih]
theorem Xn{l:List Int}{i:Nat}{d:Int}(h:i<l.length):val (l.set i d)+1000000000 ^ i*(l.getD i 0).toNat=val l+1000000000 ^ i*d.toNat:=by
 induction l generalizing i with
 |nil=>simp at h
 |
  cons x l ih =>
  cases i with
  |zero=>simp [val];omega
  |
   succ i =>
   have:=ih (i:=i) (by simpa using h);simp only [List.set_cons_succ,val,jk];have e:(x::l).getD (i+1) 0=l.getD i 0:=by simp
   rw [e];have e1:∀z,1000000000 ^ i*1000000000*z=1000000000*(1000000000 ^ i*z):=fun z=>by rw [dS (1000000000 ^ i) 1000000000,ig]
   rw [e1,e1];generalize 1000000000 ^ i*(l.getD i 0).toNat=p at *;generalize 1000000000 ^ i*d.toNat=q at *;omega
def MX(a b:Nat):Int:=if a<b then -1 else if b<a then 1 else 0
theorem val_last{l:List Int}{n:Nat}(h:n<l.length):val (l.take (n+1))=val (l.take n)+1000000000 ^ n*(l.getD n 0).toNat:=by
 have e:(l.take n).length=n:=by simp;omega
 rw [pq h,yX,e]
theorem agb{l:List Int}(h:Can l)(hne:l≠[]):1000000000 ^ (l.length-1)<=val l:=by
 have h1:=@aaD (val l) (l.length-1);rw [mk_val h]at h1
 apply h1.1
 have:l.length≠0:=fun e=>hne (aY e);omega
theorem zl{a b:List Int}(ha:Lb a)(hb:Can b)(h:a.length<b.length):val a<val b:=by
 have h1:=zL ha;have hne:b≠[]:=by intro e;subst e;simp at h
 have h2:=agb hb hne;exact bD h1 (dw (gI (by omega) (by omega)) h2)
theorem QA{a b:List Int}(ha:Lb a)(hb:Lb b){i:Nat}(hia:i<a.length)(hib:i<b.length)(hd:a.drop (i+1)=b.drop (i+1))(hlt:a.getD i 0<b.getD i 0):val a<val b:=by
 rw [BP a (i+1),BP b (i+1),hd,val_last hia,val_last hib];have h1:=zL (abL ha i);have e1:(a.take (i+1)).length=i+1:=by simp;omega
 have e2:(b.take (i+1)).length=i+1:=by simp;omega
 have e3:(a.take i).length=i:=by simp;omega
 rw [e1,e2];rw [e3]at h1;have h2:=wE ha i;have h3:=wE hb i;have:1000000000 ^ i*(a.getD i 0).toNat+1000000000 ^ i<=1000000000 ^ i*(b.getD i 0).toNat:=by
  rw [<-Nat.mul_succ];exact Nat.mul_le_mul_left _ (by omega)
 omega
structure R where
 neg:Bool
 mag:List Int
 den:List Int
 deriving DecidableEq
instance:Inhabited R:=⟨⟨false,[],[]⟩⟩
def fits(q:Rat):Bool:=decide (q.num.natAbs<1000000000 ^ 24)&&decide (q.den<1000000000 ^ 24)
abbrev Q:=Option Rat
def norm(q:Rat):Q:=if fits q=true then some q else none
def Q.raw:Q->R
 |none=>⟨false,[],[]⟩
 |some q=>⟨decide (q.num<0),mk q.num.natAbs,mk q.den⟩
def Q.ok:Q->Prop
 |none=>True
 |some q=>fits q=true
theorem abN(q:Rat):(norm q).ok:=by
 unfold norm;split
 ·assumption
 trivial
theorem zn{q:Rat}(h:fits q=true):norm q=some q:=by unfold norm;rw [aQ h]
theorem aaF{q:Rat}(h:fits q=false):norm q=none:=by unfold norm;rw [aN (by simp [h])]
def negQ:Q->Q
 |some a=>some (-a)
 |none=>none
def O8:Q->Q->Q
 |some a,some b=>norm (a+b)
 |_,_=>none
def agc(a b:Q):Q:=O8 a (negQ b)
def WQ:Q->Q->Q
 |some a,some b=>norm (a*b)
 |_,_=>none
def WR:Q->Q->Q
 |some a,some b=>if b=0 then none else norm (a / b)
 |_,_=>none
def TG(n d:Int):Q:=if d=0 then none else norm (Rat.divInt n d)
def sgn(n:Int):Int:=if n<0 then -1 else if n=0 then 0 else 1
def yF:Q->Int
 |some a=>sgn a.num
 |none=>0
def auZ(n:Int):Q:=some (n:Rat)
theorem Ua{a:Q}(h:a.ok):(negQ a).ok:=by
 cases a with
 |none=>trivial
 |
  some a =>
  simp only [negQ,Q.ok,fits,Rat.neg_num,Rat.neg_den,Int.natAbs_neg]at h ⊢;exact h
theorem abO(a b:Q):(O8 a b).ok:=by
 unfold O8;split<;>first|exact abN _|trivial
theorem ah0(a b:Q):(agc a b).ok:=abO _ _
theorem ah1(a b:Q):(WQ a b).ok:=by
 unfold WQ;split<;>first|exact abN _|trivial
theorem ah2(a b:Q):(WR a b).ok:=by
 unfold WR;split<;>first|(split<;>first|exact abN _|trivial)|trivial
theorem ah3{n:Int}(h:n.natAbs<1000000000 ^ 24):(auZ n).ok:=by
 have h1:decide (n.natAbs<1000000000 ^ 24)=true:=aT h;show (decide ((n:Rat).num.natAbs<1000000000 ^ 24)&&decide ((n:Rat).den<1000000000 ^ 24))=true;rw [Rat.num_intCast,Rat.den_intCast,h1];rfl
theorem abP(a b:Rat):TG (a.num*b.den+b.num*a.den) (a.den*b.den)=norm (a+b):=by
 have ha:=a.den_nz;have hb:=b.den_nz;have h0:(a.den:Int)*b.den≠0:=by
  intro h;rcases Int.mul_eq_zero.1 h with h|h<;>omega
 unfold TG;rw [aN h0,Rat.add_def',<-Rat.divInt_ofNat];simp
theorem abQ(a b:Rat):TG (a.num*b.num) (a.den*b.den)=norm (a*b):=by
 have ha:=a.den_nz;have hb:=b.den_nz;have h0:(a.den:Int)*b.den≠0:=by
  intro h;rcases Int.mul_eq_zero.1 h with h|h<;>omega
 unfold TG;rw [aN h0,Rat.mul_def',<-Rat.divInt_ofNat];simp
theorem abR(a b:Rat):TG (a.num*b.den) (b.num*a.den)=if b=0 then none else norm (a / b):=by
 have ha:=a.den_nz;have hb:=b.den_nz;unfold TG;by_cases h:b=0
 ·subst h;simp
 have hn:b.num≠0:=fun k=>h (Rat.num_eq_zero.1 k);have h0:b.num*(a.den:Int)≠0:=by
  intro h;rcases Int.mul_eq_zero.1 h with h|h<;>omega
 rw [aN h0,aN h,eF,Rat.inv_def]
 congr 1
 conv=>rhs;lhs;rw [<-Rat.num_divInt_den a]
 rw [Rat.divInt_mul_divInt,Int.mul_comm b.num]
theorem agd{n d:Int}(h:d≠0):(Rat.divInt n d).num.natAbs=n.natAbs / Nat.gcd n.natAbs d.natAbs/\(Rat.divInt n d).den=d.natAbs / Nat.gcd n.natAbs d.natAbs /\
  (decide ((Rat.divInt n d).num<0)=(decide (n≠0)&&(decide (n<0) != decide (d<0)))):=by
 have hg:d.gcd n=Nat.gcd n.natAbs d.natAbs:=by rw [Int.gcd_comm];rfl
 have azd:0<Nat.gcd n.natAbs d.natAbs:=jE _ (by omega);have hdvd:((Nat.gcd n.natAbs d.natAbs:Nat):Int)∣d.sign*n:=by
  have:((Nat.gcd n.natAbs d.natAbs:Nat):Int)∣n:=Int.ofNat_dvd_left.2 (Nat.gcd_dvd_left _ _);exact Int.dvd_trans this (Int.dvd_mul_left _ _)
 rw [Rat.num_divInt,Rat.den_divInt,aN h,hg];obtain⟨c,hc⟩:=hdvd;have hsg:d.sign=1\/d.sign = -1:=by
  rcases Int.lt_trichotomy d 0 with h1|h1|h1
  ·right;exact Int.sign_eq_neg_one_of_neg h1
  ·exact absurd h1 h
  left;exact Int.sign_eq_one_of_pos h1
 refine⟨?_,rfl,?_⟩
 ·rw [hc,Int.mul_ediv_cancel_left _ (by omega)];have h1:(d.sign*n).natAbs=n.natAbs:=by
   rcases hsg with e|e<;>rw [e]<;>simp
  have h2:n.natAbs=Nat.gcd n.natAbs d.natAbs*c.natAbs:=by
   have h3:=congrArg Int.natAbs hc;rw [h1,iW,dF]at h3;exact h3
  generalize hG:Nat.gcd n.natAbs d.natAbs=G at *;rw [h2,Nat.mul_div_cancel_left _ azd]
 rw [hc,Int.mul_ediv_cancel_left _ (by omega)];have hcn:(c<0)↔(d.sign*n<0):=by
  rw [hc];constructor
  ·intro hlt;exact Int.mul_neg_of_pos_of_neg (by omega) hlt
  intro hlt;by_cases k:c<0
  ·exact k
  have k:0<=c:=by omega
  have:=Int.mul_nonneg (by omega:(0:Int)<=((Nat.gcd n.natAbs d.natAbs:Nat):Int)) k;omega
 rcases Int.lt_trichotomy d 0 with h1|h1|h1
 ·rw [Int.sign_eq_neg_one_of_neg h1]at hcn;have e1:decide (d<0)=true:=by simpa using h1
  rw [e1];by_cases hn:n<0
  ·have:¬c<0:=by rw [hcn];omega
   simp [hn,this]
  by_cases hn0:n=0
  ·have:¬c<0:=by rw [hcn];omega
   simp [hn0,this]
  have:c<0:=by rw [hcn];omega
  simp [hn,hn0,this]
 ·exact absurd h1 h
 rw [Int.sign_eq_one_of_pos h1]at hcn;have e1:decide (d<0)=false:=by simp;omega
 rw [e1];by_cases hn:n<0
 ·have:c<0:=by rw [hcn];omega
  have h2:n≠0:=by omega
  simp [hn,this,h2]
 have:¬c<0:=by rw [hcn];omega
 simp [hn,this]
def yY(a:List Int):Bool:=decide (a.length<=60)&&a.all (fun d=>decide (0<=d)&&decide (d<1000000000))&&(a.isEmpty||decide (a.getD (a.length-1) 0≠0))
theorem QB{a:List Int}:yY a=true↔a.length<=60/\Can a:=by
 unfold yY Can Lb;simp only [aH,aZ,bg,dX,List.isEmpty_iff];have h:(a=[]\/a.getD (a.length-1) 0≠0)↔a.getLast? ≠ some 0:=by
  cases a with
  |nil=>simp
  |
   cons d l =>
   rw [List.getLast?_eq_getElem?,aj];simp
 rw [h,and_assoc]
theorem MZ{a:List Int}(h:yY a=true):a=mk (val a):=(mk_val (QB.1 h).2).symm
theorem Yn{n:Nat}(h:n<1000000000 ^ 60):yY (mk n)=true:=QB.2 ⟨l9.2 h,wY n⟩
def R.ok(r:R):Bool:=yY r.mag&&(!(r.neg&&r.mag.isEmpty))&&yY r.den && !r.den.isEmpty&&decide (r.mag.length<=24)&&decide (r.den.length<=24) &&
 decide (Nat.gcd (val r.mag) (val r.den)=1)
theorem au0{q:Rat}(h:fits q=true):(Q.raw (some q)).ok=true:=by
 simp only [fits,aH,aZ]at h;obtain⟨h1,h2⟩:=h;have p:(1000000000:Nat) ^ 24<=1000000000 ^ 60:=gI (by omega) (by omega);unfold R.ok Q.raw;simp only [aH,aZ,iL,jU,List.isEmpty_eq_false_iff,val_mk];refine⟨⟨⟨⟨⟨⟨Yn (by omega),?_⟩,Yn (by omega)⟩,?_⟩,l9.2 h1⟩,l9.2 h2⟩,q.reduced⟩
 ·by_cases h0:q.num<0
  ·right;intro e;rw [alV]at e;omega
  left;exact bH h0
 intro e;rw [alV]at e;exact q.den_nz e
theorem Ir{r:R}(h:r.ok=true):∃q:Rat,fits q=true/\r=Q.raw (some q):=by
 obtain⟨neg,mag,den⟩:=r;unfold R.ok at h;simp only [aH,aZ,iL,jU,List.isEmpty_eq_false_iff]at h;obtain⟨⟨⟨⟨⟨⟨h1,h2⟩,h3⟩,h4⟩,h5⟩,h6⟩,h7⟩:=h;have em:=MZ h1;have ed:=MZ h3;have hdn:val den≠0:=by intro e;rw [e,mk_zero]at ed;exact h4 ed
 refine⟨⟨if neg then -(val mag:Int)else val mag,val den,hdn,?_⟩,?_,?_⟩
 ·unfold Nat.Coprime
  cases neg<;>simpa using h7
 ·simp only [fits,aH,aZ];rw [em]at h5;rw [ed]at h6;rw [l9]at h5 h6;refine⟨?_,h6⟩
  cases neg<;>simpa using h5
 simp only [Q.raw,R.mk.injEq];refine⟨?_,?_,ed⟩
 ·cases neg with
  |false=>simp
  |
   true =>
   simp only [if_true];rcases h2 with h2|h2
   ·cases h2
   have:val mag≠0:=by intro e;rw [e,mk_zero]at em;exact h2 em
   simp;omega
 have:(if neg=true then -(val mag:Int)else(val mag:Int)).natAbs=val mag:=by cases neg<;>simp
 rw [this];exact em
theorem adU:(Q.raw none).ok=false:=by decide
def R.q(r:R):Q:=if r.ok=true then some (mkRat (if r.neg then -(val r.mag:Int)else val r.mag) (val r.den))else none
theorem D9{q:Q}(h:q.ok):(Q.raw q).q=q:=by
 cases q with
 |none=>unfold R.q;rw [adU];rfl
 |
  some q =>
  have h':fits q=true:=h;unfold R.q;rw [aQ (au0 h')]
  congr 1
  simp only [Q.raw,val_mk];have:(if decide (q.num<0)=true then -(q.num.natAbs:Int)else(q.num.natAbs:Int))=q.num:=by
   split
   ·rename_i h;have h:=of_decide_eq_true h;omega
   rename_i h;have h:¬q.num<0:=fun k=>h (aT k);omega
  rw [this,Rat.mkRat_self]
theorem Ld(r:R):r.q.ok:=by
 by_cases h:r.ok=true
 ·obtain⟨q,h1,rfl⟩:=Ir h;rw [D9 (q:=some q) h1];exact h1
 unfold R.q;rw [aN h];trivial
theorem aze{r:R}(h:r.ok=true):Q.raw r.q=r:=by
 obtain⟨q,h1,rfl⟩:=Ir h;rw [D9 (q:=some q) h1]
theorem agf{r:R}:r.q.isSome=r.ok:=by
 unfold R.q;split<;>simp_all
abbrev iv(n:Int):V:=.int .i64 n
structure Lk where
 a:Int
 b:Int
 w:R
 dx:R
 dy:R
 deriving Inhabited,DecidableEq
structure Pt where
 x:R
 y:R
 deriving Inhabited,DecidableEq
structure Pa where
 node:Int
 share:R
 dx:R
 dy:R
 deriving Inhabited,DecidableEq
structure Cd where
 node:Int
 total:R
 ps:List Pa
 deriving Inhabited,DecidableEq
structure Tn where
 node:Int
 up:Int
 own:List Lk
 cond:Cd
 msgs:List Lk
 NR:R
 deriving Inhabited,DecidableEq
structure Po where
 turn:Int
 x:Int
 y:Int
 deriving Inhabited,DecidableEq
structure Bi where
 neg:Bool
 mag:List Int
 deriving Inhabited,DecidableEq
abbrev R.num(r:R):Bi:=⟨r.neg,r.mag⟩
abbrev Bi.cells(z:Bi):List V:=[.bool z.neg,ints z.mag]
abbrev R.cells(r:R):List V:=[.bool r.neg,ints r.mag,ints r.den]
abbrev Lk.cells(l:Lk):List V:=[iv l.a,iv l.b,.bool l.w.neg,ints l.w.mag,ints l.w.den,.bool l.dx.neg,ints l.dx.mag,ints l.dx.den,.bool l.dy.neg,ints l.dy.mag,ints l.dy.den]
abbrev Pt.cells(p:Pt):List V:=[.bool p.x.neg,ints p.x.mag,ints p.x.den,.bool p.y.neg,ints p.y.mag,ints p.y.den]
abbrev Pa.cells(p:Pa):List V:=[iv p.node,.bool p.share.neg,ints p.share.mag,ints p.share.den,.bool p.dx.neg,ints p.dx.mag,ints p.dx.den,.bool p.dy.neg,ints p.dy.mag,ints p.dy.den]
abbrev QX(l:List Pa):V:=.sl 10 (l.map Pa.cells)
abbrev nZ(l:List Lk):V:=.sl 11 (l.map Lk.cells)
abbrev Ub(l:List Pt):V:=.sl 6 (l.map Pt.cells)
abbrev pK(l:List R):V:=.sl 3 (l.map R.cells)
abbrev Cd.cells(c:Cd):List V:=[iv c.node,.bool c.total.neg,ints c.total.mag,ints c.total.den,QX c.ps]
abbrev Uc(l:List Cd):V:=.sl 5 (l.map Cd.cells)
abbrev Tn.cells(t:Tn):List V:=[iv t.node,iv t.up,nZ t.own,iv t.cond.node,.bool t.cond.total.neg,ints t.cond.total.mag,ints t.cond.total.den,QX t.cond.ps,nZ t.msgs,
 .bool t.NR.neg,ints t.NR.mag,ints t.NR.den]
abbrev aEo(l:List Tn):V:=.sl 12 (l.map Tn.cells)
abbrev sG(l:List (List R)):V:=.sl 1 (l.map fun r=>[pK r])
abbrev Po.cells(p:Po):List V:=[iv p.turn,iv p.x,iv p.y]
abbrev lD(r:R):V:=.agg r.cells
abbrev Xo(z:Bi):V:=.agg z.cells
abbrev Wu(l:Lk):V:=.agg l.cells
abbrev ptV(p:Pt):V:=.agg p.cells
abbrev cdV(c:Cd):V:=.agg c.cells
theorem mg{α:Type} [Inhabited α] {l:List α} {f:α->List V} {j:Nat} (h:j<l.length):(l.map f).getD j []=f (l.getD j default):=by
 simp [aj,ak h]
theorem mg?{α:Type} [Inhabited α] {l:List α} {f:α->List V} {j:Nat} (h:j<l.length):(l.map f)[j]? = some (f (l.getD j default)):=by
 simp [aj,ak h]
theorem R.ext'{p q:R}(h1:p.neg=q.neg)(h2:p.mag=q.mag)(h3:p.den=q.den):p=q:=by cases p;cases q;simp_all
theorem Pt.ext'{p q:Pt}(h1:p.x=q.x)(h2:p.y=q.y):p=q:=by cases p;cases q;simp_all
theorem Lk.ext'{p q:Lk}(h1:p.a=q.a)(h2:p.b=q.b)(h3:p.w=q.w)(h4:p.dx=q.dx)(h5:p.dy=q.dy):p=q:=by cases p;cases q;simp_all
theorem Pa.ext'{p q:Pa}(h1:p.node=q.node)(h2:p.share=q.share)(h3:p.dx=q.dx)(h4:p.dy=q.dy):p=q:=by cases p;cases q;simp_all
theorem Cd.ext'{p q:Cd}(h1:p.node=q.node)(h2:p.total=q.total)(h3:p.ps=q.ps):p=q:=by cases p;cases q;simp_all
theorem Tn.ext'{p q:Tn}(h1:p.node=q.node)(h2:p.up=q.up)(h3:p.own=q.own)(h4:p.cond=q.cond)(h5:p.msgs=q.msgs)(h6:p.NR=q.NR):p=q:=by cases p;cases q;simp_all
def szr(left:Int)(n:Nat):Int:=if left<n then -1 else left-n
def NS{α:Type}(f:α->Nat)(l:List α):Nat:=l.length+(l.map f).sum
theorem P7{α:Type}(f:α->Nat)(l:List α):NS f l=l.length+(l.map f).sum:=rfl
def R.sz(r:R):Nat:=r.mag.length+r.den.length
def Lk.sz(l:Lk):Nat:=l.w.sz+l.dx.sz+l.dy.sz
def Pt.sz(p:Pt):Nat:=p.x.sz+p.y.sz
def Pa.sz(p:Pa):Nat:=p.share.sz+p.dx.sz+p.dy.sz
def Cd.sz(c:Cd):Nat:=c.total.sz+NS Pa.sz c.ps
def Tn.sz(t:Tn):Nat:=NS Lk.sz t.own+t.cond.sz+NS Lk.sz t.msgs+t.NR.sz
def R.wf(r:R):Prop:=r.mag.length<=9223372036854775807/\r.den.length<=9223372036854775807
def Lk.wf(l:Lk):Prop:=l.w.wf/\l.dx.wf/\l.dy.wf
def Pt.wf(p:Pt):Prop:=p.x.wf/\p.y.wf
def Pa.wf(p:Pa):Prop:=p.share.wf/\p.dx.wf/\p.dy.wf
def DR{α:Type}(f:α->Prop)(l:List α):Prop:=l.length<=9223372036854775807/\∀x∈l,f x
def Cd.wf(c:Cd):Prop:=c.total.wf/\DR Pa.wf c.ps
def Tn.wf(t:Tn):Prop:=DR Lk.wf t.own/\t.cond.wf/\DR Lk.wf t.msgs/\t.NR.wf
theorem DR.at_{α:Type} [Inhabited α] {f:α->Prop} {l:List α} (h:DR f l) {i:Nat} (hi:i<l.length):f (l.getD i default):=by
 refine h.2 _ ?_;simp [aj,ak hi]
theorem getD_mem{α:Type} [Inhabited α] {l:List α} {i:Nat} (hi:i<l.length):l.getD i default∈l:=by
 simp [aj,ak hi]
theorem aaI{α:Type} [Inhabited α] {a b:List α} (hl:a.length=b.length) (h:∀j,j<a.length->a.getD j default=b.getD j default):a=b:=by
 refine List.ext_getElem hl fun i h1 h2=>?_;have:=h i h1;simpa [aj,h1,h2]using this
theorem map_set{α:Type}(f:α->List V)(l:List α)(i:Nat)(z:α):(l.map f).set i (f z)=(l.set i z).map f:=by simp [List.map_set]
theorem F5{α:Type}{f:α->List V}{l:List α}(h:∀x∈l,∀v∈f x,v.still=true):nU (l.map f):=by
 intro r hr v hv;obtain⟨x,hx,rfl⟩:=bF.1 hr;exact h x hx v hv
end Go.Ml
namespace Go.Ml
theorem au1{α:Type}{f:α->List V}{l:List α}{σ:Store}{o n:Nat}(hs:∀x∈l,∀v∈f x,v.still=true)(ho:jQ σ o=some ⟨n,l.map f⟩):resolve σ FD (.lQ o 0 l.length)=some (.sl n (l.map f)):=by
 rw [asL ho (F5 hs) (by simp),dA,bG (by simp)]
theorem Si{α:Type}{f:α->Nat}{k:Nat}:∀{l:List α},(∀x∈l,f x<=k)->NS f l<=l.length*(k+1)
 | [],_=>by simp [NS]
 |
  x::l,h=>by
  have h1:=h x (by simp);have h2:=Si (f:=f) (k:=k) (l:=l) fun y hy=>h y (by simp [hy]);unfold NS at h2 ⊢;simp only [au,bT,List.sum_cons];rw [fA];omega
def WS(σ:Store)(s l:Nat)(o:Option Obj):Option V:=match o with
 |some ob=>if s+l<=ob.rows.length then(((ob.rows.drop s).take l).mapM fun (r:List V)=>r.mapM (resolve σ 11)).map (.sl ob.sz)else none
 |none=>none
def Ri(σ:Store)(s l:Nat)(o:Option Obj):Option V:=match o with
 |some ob=>if s+l<=ob.rows.length then(((ob.rows.drop s).take l).mapM fun (r:List V)=>r.mapM (resolve σ 10)).map (.sl ob.sz)else none
 |none=>none
theorem au2(σ:Store)(o s l:Nat):resolve σ FD (.lQ o s l)=WS σ s l (jQ σ o):=nr rfl
theorem ah4(σ:Store)(o s l:Nat):resolve σ 11 (.lQ o s l)=Ri σ s l (jQ σ o):=nr rfl
@[congr] theorem aCX {σ:Store} {s l:Nat} {o o':Option Obj} (h:wr o=o'):WS σ s l o=WS σ s l o':=by rw [<-h,rM]
@[congr] theorem azf {σ:Store} {s l:Nat} {o o':Option Obj} (h:wr o=o'):Ri σ s l o=Ri σ s l o':=by rw [<-h,rM]
theorem NT{σ:Store}{s l n:Nat}{rows:List (List V)}(hs:nU rows)(h:s+l<=rows.length):WS σ s l (some ⟨n,rows⟩)=some (.sl n ((rows.drop s).take l)):=by
 unfold WS;simp only [];rw [aQ h,yD (n:=10) (hs.part s l)];rfl
theorem Yo{σ:Store}{s l n:Nat}{rows:List (List V)}(hs:nU rows)(h:s+l<=rows.length):Ri σ s l (some ⟨n,rows⟩)=some (.sl n ((rows.drop s).take l)):=by
 unfold Ri;simp only [];rw [aQ h,yD (n:=9) (hs.part s l)];rfl
theorem au3{σ:Store}{s l n:Nat}{xs:List Int}(h:s+l<=xs.length):WS σ s l (some ⟨n,kU xs⟩)=some (.sl n (kU ((xs.drop s).take l))):=by
 rw [NT (uM xs) (by rw [vK];exact h),Xm,TU]
theorem aqh{σ:Store}{s l n:Nat}{xs:List Int}(h:s+l<=xs.length):Ri σ s l (some ⟨n,kU xs⟩)=some (.sl n (kU ((xs.drop s).take l))):=by
 rw [Yo (uM xs) (by rw [vK];exact h),Xm,TU]
theorem wZ{α:Type}(f:α->List V)(L:List α)(s l:Nat):((L.map f).drop s).take l=((L.drop s).take l).map f:=by simp [kP,List.map_take]
theorem agh(L:List R):nU (L.map R.cells):=F5 (by intro x _ v hv;simp at hv;rcases hv with rfl|rfl|rfl<;>rfl)
theorem asN(L:List Pt):nU (L.map Pt.cells):=F5 (by intro x _ v hv;simp at hv;rcases hv with rfl|rfl|rfl|rfl|rfl|rfl<;>rfl)
theorem IX(L:List Lk):nU (L.map Lk.cells):=F5 (by intro x _ v hv;simp at hv;rcases hv with rfl|rfl|rfl|rfl|rfl|rfl|rfl|rfl|rfl|rfl|rfl<;>rfl)
theorem adW(L:List Pa):nU (L.map Pa.cells):=F5 (by intro x _ v hv;simp at hv;rcases hv with rfl|rfl|rfl|rfl|rfl|rfl|rfl|rfl|rfl|rfl<;>rfl)
theorem aaJ(L:List Cd):nU (L.map Cd.cells):=F5 (by intro x _ v hv;simp at hv;rcases hv with rfl|rfl|rfl|rfl|rfl<;>rfl)
theorem asO(L:List (List R)):nU (L.map fun r=>[pK r]):=F5 (by intro x _ v hv;simp at hv;subst hv;rfl)
theorem au4{σ:Store}{s l n:Nat}{L:List R}(h:s+l<=L.length):WS σ s l (some ⟨n,L.map R.cells⟩)=some (.sl n (((L.drop s).take l).map R.cells)):=by rw [NT (agh L) (by simpa using h),wZ]
theorem aqi{σ:Store}{s l n:Nat}{L:List Pt}(h:s+l<=L.length):WS σ s l (some ⟨n,L.map Pt.cells⟩)=some (.sl n (((L.drop s).take l).map Pt.cells)):=by rw [NT (asN L) (by simpa using h),wZ]
theorem aqj{σ:Store}{s l n:Nat}{L:List Lk}(h:s+l<=L.length):WS σ s l (some ⟨n,L.map Lk.cells⟩)=some (.sl n (((L.drop s).take l).map Lk.cells)):=by rw [NT (IX L) (by simpa using h),wZ]
theorem aqk{σ:Store}{s l n:Nat}{L:List Pa}(h:s+l<=L.length):WS σ s l (some ⟨n,L.map Pa.cells⟩)=some (.sl n (((L.drop s).take l).map Pa.cells)):=by rw [NT (adW L) (by simpa using h),wZ]
theorem alY{σ:Store}{s l n:Nat}{L:List Pa}(h:s+l<=L.length):Ri σ s l (some ⟨n,L.map Pa.cells⟩)=some (.sl n (((L.drop s).take l).map Pa.cells)):=by rw [Yo (adW L) (by simpa using h),wZ]
theorem aql{σ:Store}{s l n:Nat}{L:List Cd}(h:s+l<=L.length):WS σ s l (some ⟨n,L.map Cd.cells⟩)=some (.sl n (((L.drop s).take l).map Cd.cells)):=by rw [NT (aaJ L) (by simpa using h),wZ]
theorem aqm{σ:Store}{s l n:Nat}{L:List (List R)}(h:s+l<=L.length):WS σ s l (some ⟨n,L.map fun r=>[pK r]⟩)=some (.sl n (((L.drop s).take l).map fun r=>[pK r])):=by rw [NT (asO L) (by simpa using h),wZ]
def Ea(σ:Store)(rows:List (List V)):List Nat:=rows.flatMap fun (r:List V)=>r.flatMap (reach σ 11)
def Yp(σ:Store)(o:Option Obj):List Nat:=match o with
 |some ob=>Ea σ ob.rows
 |none=>[]
theorem au5(σ:Store)(o s l:Nat):reach σ FD (.lQ o s l)=o::Yp σ (jQ σ o):=nr rfl
@[congr] theorem axF {σ:Store} {o o':Option Obj} (h:wr o=o'):Yp σ o=Yp σ o':=by rw [<-h,rM]
theorem alZ(σ:Store)(n:Nat)(rows:List (List V)):Yp σ (some ⟨n,rows⟩)=Ea σ rows:=nr rfl
theorem al0(σ:Store):Yp σ none=[]:=nr rfl
theorem Dv{σ:Store}{rows:List (List V)}(h:nU rows):Ea σ rows=[]:=by
 unfold Ea;rw [List.flatMap_eq_nil_iff];intro r hr;rw [List.flatMap_eq_nil_iff];intro v hv;exact KF (n:=10) (h r hr v hv)
theorem ajV(σ:Store)(xs:List Int):Ea σ (kU xs)=[]:=Dv (uM xs)
theorem ajW(σ:Store)(L:List R):Ea σ (L.map R.cells)=[]:=Dv (agh L)
theorem agi(σ:Store)(L:List Pt):Ea σ (L.map Pt.cells)=[]:=Dv (asN L)
theorem agj(σ:Store)(L:List Lk):Ea σ (L.map Lk.cells)=[]:=Dv (IX L)
theorem agk(σ:Store)(L:List Pa):Ea σ (L.map Pa.cells)=[]:=Dv (adW L)
theorem agl(σ:Store)(L:List Cd):Ea σ (L.map Cd.cells)=[]:=Dv (aaJ L)
theorem agm(σ:Store)(L:List (List R)):Ea σ (L.map fun r=>[pK r])=[]:=Dv (asO L)
theorem aEp(sz:Nat)(r:List (List V)):scalar SD (.sl sz r)=false:=nr rfl
theorem au6:scalar SD .kC=true:=nr rfl
def aaK(n:Nat)(cs:List V):Bool:=cs.all (scalar n)
theorem azg(cs:List V):scalar SD (.agg cs)=aaK 3 cs:=nr rfl
theorem azh(cs:List V):scalar SD (.oU cs)=aaK 3 cs:=nr rfl
theorem aqn(n:Nat):aaK n []=true:=nr rfl
theorem aqo(n:Nat)(c:V)(cs:List V):aaK n (c::cs)=(scalar n c&&aaK n cs):=nr rfl
theorem au7(q:IntKind)(n:Int):scalar 3 (.int q n)=true:=nr rfl
theorem aqp(b:Bool):scalar 3 (.bool b)=true:=nr rfl
theorem au8(s:List UInt8):scalar 3 (.str s)=true:=nr rfl
theorem aqr:scalar 3 .kC=true:=nr rfl
theorem azi(sz:Nat)(r:List (List V)):scalar 3 (.sl sz r)=false:=nr rfl
theorem au9(cs:List V):scalar 3 (.agg cs)=aaK 2 cs:=nr rfl
theorem ava(q:IntKind)(n:Int):scalar 2 (.int q n)=true:=nr rfl
theorem aqs(b:Bool):scalar 2 (.bool b)=true:=nr rfl
theorem avb(s:List UInt8):scalar 2 (.str s)=true:=nr rfl
theorem aqt:scalar 2 .kC=true:=nr rfl
theorem azj(sz:Nat)(r:List (List V)):scalar 2 (.sl sz r)=false:=nr rfl
theorem aEq{t b:Int}(h:0<=t/\t<=9223372036854775807/\0<b):IntKind.i64.wrap (t.tdiv b)=t.tdiv b:=by
 rw [gQ h.1];have h1:0<=t / b:=Int.ediv_nonneg h.1 (by omega);have h2:t / b<=t:=Int.ediv_le_self _ h.1;exact w64 (by omega)
theorem al1{α:Type}{l:List α}{n:Nat}(h:l.length<=n):l.take n=l:=bG h
theorem aqu(env:Nat->V)(x:Src):I.reads env (.qC x)=[]:=by simp [I.reads,I.yC]
theorem aqv(env:Nat->V)(x:Src):I.reads env (.box x)=[]:=by simp [I.reads,I.yC]
theorem al2(env:Nat->V)(x:Src):I.reads env (.adh x)=[]:=by simp [I.reads,I.yC]
theorem aqw(env:Nat->V)(x:Src):I.reads env (.len x)=sH (x.ev env):=by simp [I.reads,I.yC]
theorem aqx(env:Nat->V)(x:Src):I.reads env (.chk x)=sH (x.ev env):=by simp [I.reads,I.yC]
theorem aqy(env:Nat->V)(d:Nat)(x:Src):I.reads env (.fld d x)=sH (x.ev env):=by simp [I.reads,I.yC]
theorem avc(env:Nat->V)(d:UnOp)(x:Src):I.reads env (.un d x)=[]:=by simp [I.reads,I.yC]
theorem al3(env:Nat->V)(d:IntKind)(x:Src):I.reads env (.conv d x)=[]:=by simp [I.reads,I.yC]
theorem al4(env:Nat->V)(d:Nat)(x:Src):I.reads env (.ZJ d x)=[]:=by simp [I.reads,I.yC]
theorem al5(env:Nat->V)(n:Nat)(b:Bool)(x:Src):I.reads env (.load n b x)=sH (x.ev env):=by simp [I.reads,I.yC]
theorem al6(env:Nat->V)(z:List V)(n:Nat)(x:Src):I.reads env (.make z n x)=[]:=by simp [I.reads,I.yC]
theorem ajX(env:Nat->V)(z:List V):I.reads env (.alloc z)=[]:=by simp [I.reads,I.yC]
theorem al7(env:Nat->V)(x y z:Src):I.reads env (.pick x y z)=[]:=by simp [I.reads,I.yC]
theorem ajY(env:Nat->V)(n:Nat)(x y:Src):I.reads env (.store n x y)=sH (x.ev env):=by simp [I.reads,I.yC]
theorem aqz(env:Nat->V)(n:Nat)(x y:Src):I.reads env (.idx n x y)=sH (x.ev env):=by simp [I.reads,I.yC]
theorem al8(env:Nat->V)(m n:Nat)(x y:Src):I.reads env (.abr m n x y)=sH (x.ev env):=by simp [I.reads,I.yC]
theorem al9(env:Nat->V)(x y:Src):I.reads env (.adg x y)=[]:=by simp [I.reads,I.yC]
theorem ama(env:Nat->V)(m:Nat)(x y:Src):I.reads env (.adi m x y)=[]:=by simp [I.reads,I.yC]
theorem aqA(env:Nat->V)(n:BinOp)(x y:Src):I.reads env (.bin n x y)=[]:=by simp [I.reads,I.yC]
theorem aqB(env:Nat->V)(n:Bool)(x y:Src):I.reads env (.beq n x y)=[]:=by simp [I.reads,I.yC]
theorem aqC(env:Nat->V)(m n:Nat)(x y:Src):I.reads env (.app m n x y)=sH (x.ev env)++sH (y.ev env):=by simp [I.reads,I.yC]
theorem aqD(env:Nat->V)(x y:Src):I.reads env (.max x y)=[]:=by simp [I.reads,I.yC]
theorem avd(env:Nat->V)(z:List V):I.reads env (.build z [])=[]:=by simp [I.reads,I.yC]
theorem ave(env:Nat->V)(z:List V)(a b:Nat)(x:Src)(l:List (Nat×Nat×Src)):I.reads env (.build z ((a,b,x)::l))=[]:=by simp [I.reads,I.yC]
theorem avf(env:Nat->V)(sz:Nat)(z:List V)(n:Nat):I.reads env (.nO sz z n [])=[]:=by simp [I.reads,I.yC]
theorem avg(env:Nat->V)(sz:Nat)(z:List V)(n a:Nat)(x:Src)(l:List (Nat×Src)):I.reads env (.nO sz z n ((a,x)::l))=[]:=by simp [I.reads,I.yC]
theorem aqE(q:IntKind)(n:Int):sH (.int q n)=[]:=nr rfl
theorem amb(b:Bool):sH (.bool b)=[]:=nr rfl
theorem aqF(b:List UInt8):sH (.str b)=[]:=nr rfl
theorem amc  : sH .kC=[]:=nr rfl
theorem aqG  : sH .one=[]:=nr rfl
theorem aqH  : sH .any=[]:=nr rfl
theorem avh(n:Nat)(r:List (List V)):sH (.sl n r)=[]:=nr rfl
theorem amd(r:List V)(n:Nat):sH (.qw r n)=[]:=nr rfl
theorem aqI(r:List V):sH (.agg r)=[]:=nr rfl
theorem aqJ(r:List V):sH (.oU r)=[]:=nr rfl
theorem aqK(o r k:Nat):sH (.ptr o r k)=[o]:=nr rfl
theorem aqL(o r k:Nat):sH (.lQ o r k)=[o]:=nr rfl
end Go.Ml
end
section
set_option linter.defProp false
namespace Go.Ml
def EVp:=(ah (ah (ah (ah (ah (ah @Go.Ml.rM.{1} @Go.Ml.asH) (ah @Go.Ml.asI (ah @Go.Ml.wp_skip 
 @Go.Ml.apF))) (ah (ah @Go.Ml.apG @Go.Ml.wp_seq) (ah @Go.Ml.alE (ah @Go.Ml.wp_block @Go.Ml.wp_loop)))) (ah 
 (ah (ah @Go.Ml.wp_exit @Go.Ml.wp_ret) (ah @Go.Ml.atW (ah @Go.Ml.atX @Go.Ml.atY))) (ah (ah @Go.Ml.at7 
 (ah @Go.Ml.aua @Go.Ml.aub)) (ah @Go.Ml.apH (ah @Go.Ml.apI @Go.Ml.auc))))) (ah (ah (ah (ah 
 @Go.Ml.aud @Go.Ml.aD9) (ah @Go.Ml.aEa (ah @Go.Ml.aEb @Go.Ml.aue))) (ah (ah @Go.Ml.ayo (ah @Go.Ml.atV 
 @Go.Ml.ayp)) (ah @Go.Ml.ayq (ah @Go.Ml.ayr @Go.Ml.ays)))) (ah (ah (ah @Go.Ml.alC @Go.Ml.ayw) (ah 
 @Go.Ml.aul (ah @Go.Ml.apL @Go.Ml.ayx))) (ah (ah @Go.Ml.alT (ah @Go.Ml.aqc @Go.Ml.aqd)) (ah 
 @Go.Ml.alR (ah @Go.Ml.alS @Go.Ml.aqe)))))) (ah (ah (ah (ah (ah @Go.Ml.aqf @Go.Ml.aun) (ah 
 @Go.Ml.apN (ah @Go.Ml.apO @Go.Ml.apP))) (ah (ah @Go.Ml.ayz @Go.Ml.ayA) (ah @Go.Ml.auo (ah @Go.Ml.aup 
 @Go.Ml.auq)))) (ah (ah (ah @Go.Ml.ayB @Go.Ml.aur) (ah @Go.Ml.ayC (ah @Go.Ml.ayD @Go.Ml.ayE))) (ah 
 (ah @Go.Ml.ayF (ah @Go.Ml.aus @Go.Ml.ayG)) (ah @Go.Ml.aut (ah @Go.Ml.ayH @Go.Ml.aqg))))) (ah (ah 
 (ah (ah @Go.Ml.alU @Go.Ml.auV) (ah @Go.Ml.auW (ah @Go.Ml.auX @Go.Ml.auY))) (ah (ah @Go.Ml.ayI 
 (ah @Go.Ml.auw @Go.Ml.auy)) (ah @Go.Ml.auO (ah @Go.Ml.auP @Go.Ml.auQ)))) (ah (ah (ah @Go.Ml.auR 
 @Go.Ml.ap2) (ah @Go.Ml.aqa (ah @Go.Ml.aD6 @Go.Ml.aD7))) (ah (ah @Go.Ml.apB (ah @Go.Ml.ajO @Go.Ml.atO)) 
 (ah @Go.Ml.atP (ah @Go.Ml.atQ @Go.Ml.atS)))))))
def EVq:=(ah (ah (ah (ah (ah (ah (ah (ah @Go.Ml.apz @Go.Ml.asH) (ah @Go.Ml.asI @Go.Ml.atL)) 
 (ah (ah @Go.Ml.atM @Go.Ml.apy) (ah @Go.Ml.atN @Go.Ml.ajL))) (ah (ah (ah @Go.Ml.apA @Go.Ml.ayk) 
 (ah @Go.Ml.ayl @Go.Ml.alB)) (ah (ah @Go.Ml.ajM @Go.Ml.ajN) (ah @Go.Ml.adG (ah @Go.Ml.afZ 
 @Go.Ml.adH))))) (ah (ah (ah (ah @Go.Ml.af0 @Go.Ml.adI) (ah @Go.Ml.af2 @Go.Ml.ajQ)) 
 (ah (ah @Go.Ml.af4 @Go.Ml.af5) (ah @Go.Ml.adJ (ah @Go.Ml.af6 @Go.Ml.auf)))) (ah (ah 
 (ah @Go.Ml.aug @Go.Ml.ayt) (ah @Go.Ml.ayu @Go.Ml.ayv)) (ah (ah @Go.Ml.auh @Go.Ml.aui) (ah @Go.Ml.auk 
 (ah @Go.Ml.auj @Go.Ml.ayU)))))) (ah (ah (ah (ah (ah @Go.Ml.ayV @Go.Ml.ayW) (ah @Go.Ml.ayJ 
 @Go.Ml.ayK)) (ah (ah @Go.Ml.ayL @Go.Ml.ayM) (ah @Go.Ml.ayN (ah @Go.Ml.ayO @Go.Ml.ayP)))) (ah (ah 
 (ah @Go.Ml.ayQ @Go.Ml.ayR) (ah @Go.Ml.ayS @Go.Ml.ayT)) (ah (ah @Go.Ml.auu @Go.Ml.auv) (ah @Go.Ml.w64 (ah 
 @Go.Ml.apQ @Go.Ml.apR))))) (ah (ah (ah (ah @Go.Ml.apS @Go.Ml.apT) (ah @Go.Ml.apU @Go.Ml.alF)) 
 (ah (ah @Go.Ml.alG @Go.Ml.alH) (ah @Go.Ml.ayX (ah @Go.Ml.auz @Go.Ml.ayY)))) (ah (ah (ah 
 @Go.Ml.auA @Go.Ml.ayZ) (ah @Go.Ml.aEi @Go.Ml.auB)) (ah (ah @Go.Ml.ay0 @Go.Ml.ay1) (ah @Go.Ml.auC (ah 
 @Go.Ml.auD @Go.Ml.auE))))))) (ah (ah (ah (ah (ah (ah @Go.Ml.apV @Go.Ml.auF) (ah @Go.Ml.apW 
 @Go.Ml.auG)) (ah (ah @Go.Ml.ay2 @Go.Ml.apX) (ah @Go.Ml.aEj (ah @Go.Ml.aEk @Go.Ml.ay3)))) (ah (ah 
 (ah @Go.Ml.auI @Go.Ml.ay4) (ah @Go.Ml.auJ @Go.Ml.aEl)) (ah (ah @Go.Ml.auK @Go.Ml.ay5) (ah @Go.Ml.aEm 
 (ah @Go.Ml.aEn @Go.Ml.auL))))) (ah (ah (ah (ah @Go.Ml.apY @Go.Ml.auM) (ah @Go.Ml.apZ @Go.Ml.ay6)) 
 (ah (ah @Go.Ml.ap0 @Go.Ml.ay7) (ah @Go.Ml.auN (ah @Go.Ml.ay8 @Go.Ml.ay9)))) (ah (ah (ah 
 @Go.Ml.aza @Go.Ml.azb) (ah @Go.Ml.apC @Go.Ml.apD)) (ah (ah @Go.Ml.apE @Go.Ml.aym) (ah @Go.Ml.ayn (ah 
 @Go.Ml.atT @Go.Ml.atU)))))) (ah (ah (ah (ah (ah @Go.Ml.alD @Go.Ml.ajP) (ah @Go.Ml.atZ 
 @Go.Ml.at1)) (ah (ah @Go.Ml.at6 @Go.Ml.aEc) (ah @Go.Ml.aEd (ah @Go.Ml.aEe @Go.Ml.aEf)))) (ah (ah (ah 
 @Go.Ml.aEg @Go.Ml.vK) (ah @Go.Ml.ap3 @Go.Ml.auS)) (ah (ah @Go.Ml.auT @Go.Ml.ap4) (ah @Go.Ml.aqu (ah 
 @Go.Ml.aqv @Go.Ml.al2))))) (ah (ah (ah (ah @Go.Ml.aqw @Go.Ml.aqx) (ah @Go.Ml.aqy @Go.Ml.avc)) 
 (ah (ah @Go.Ml.al3 @Go.Ml.al4) (ah @Go.Ml.al5 (ah @Go.Ml.al6 @Go.Ml.ajX)))) (ah (ah 
 (ah @Go.Ml.al7 @Go.Ml.ajY) (ah @Go.Ml.aqz @Go.Ml.al8)) (ah (ah @Go.Ml.al9 @Go.Ml.ama) (ah 
 @Go.Ml.aqA (ah @Go.Ml.aqB @Go.Ml.aqC)))))))) (ah (ah (ah (ah (ah (ah (ah @Go.Ml.aqD 
 @Go.Ml.avd) (ah @Go.Ml.ave @Go.Ml.avf)) (ah (ah @Go.Ml.avg @Go.Ml.aqE) (ah @Go.Ml.amb @Go.Ml.aqF))) 
 (ah (ah (ah @Go.Ml.amc @Go.Ml.aqG) (ah @Go.Ml.aqH @Go.Ml.avh)) (ah (ah @Go.Ml.amd @Go.Ml.aqI) 
 (ah @Go.Ml.aqJ (ah @Go.Ml.aqK @Go.Ml.aqL))))) (ah (ah (ah (ah @Int.toNat_zero @Int.toNat_one) (ah 
 @Go.Ml.aEq @Bool.false_and)) (ah (ah @Bool.true_and @Bool.and_false) (ah @Go.Ml.au2 (ah @Go.Ml.ah4 @Go.Ml.au3)))) 
 (ah (ah (ah @Go.Ml.aqh @Go.Ml.au4) (ah @Go.Ml.aqi @Go.Ml.aqj)) (ah (ah @Go.Ml.aqk @Go.Ml.alY) 
 (ah @Go.Ml.aql (ah @Go.Ml.aqm @Go.Ml.au5)))))) (ah (ah (ah (ah (ah @Go.Ml.alZ @Go.Ml.al0) 
 (ah @Go.Ml.ajV @Go.Ml.ajW)) (ah (ah @Go.Ml.agi @Go.Ml.agj) (ah @Go.Ml.agk (ah 
 @Go.Ml.agl @Go.Ml.agm)))) (ah (ah (ah @Go.Ml.aEp @Go.Ml.au6) (ah @Go.Ml.azg @Go.Ml.azh)) (ah (ah 
 @Go.Ml.aqn @Go.Ml.aqo) (ah @Go.Ml.au7 (ah @Go.Ml.aqp @Go.Ml.au8))))) (ah (ah (ah (ah @Go.Ml.aqr 
 @Go.Ml.azi) (ah @Go.Ml.au9 @Go.Ml.ava)) (ah (ah @Go.Ml.aqs @Go.Ml.avb) (ah @Go.Ml.aqt (ah @Go.Ml.azj 
 @Go.Ml.al1)))) (ah (ah (ah @Go.Ml.aqb @Nat.le_refl) (ah @List.replicate_succ.{0} @List.replicate_zero.{0})) (ah 
 (ah @List.take_length.{0} @Go.Ml.aD5) (ah @Go.Ml.w8u (ah @Go.Ml.aD4 @Go.Ml.TU))))))) (ah (ah (ah (ah 
 (ah (ah @Go.Ml.Xm @Nat.sub_zero) (ah @implies_true.{0} @false_implies)) (ah (ah @true_implies @List.length_map.{0,0}) 
 (ah @true_or (ah @or_true @Bool.beq_eq_decide_eq.{0})))) (ah (ah (ah @List.set_cons_zero.{0} @List.set_cons_succ.{0}) 
 (ah @Go.Ml.ap7 @Go.Ml.ap8)) (ah (ah @Go.Ml.ap6 @Go.Ml.alK) (ah @Go.Ml.alP (ah @Go.Ml.alQ 
 @Go.Ml.alM))))) (ah (ah (ah (ah @Go.Ml.ap9 @Go.Ml.alN) (ah @Go.Ml.ajS @Go.Ml.alO)) (ah 
 (ah @Go.Ml.BO @Go.Ml.ajT) (ah @List.reverse_cons.{0} (ah @List.reverse_nil.{0} @List.nil_append.{0})))) (ah (ah 
 (ah @List.cons_append.{0} @List.append_nil.{0}) (ah @List.length_cons.{0} @List.length_nil.{0})) (ah (ah 
 @List.getElem?_cons_zero.{0} @List.getElem?_cons_succ.{0}) (ah @Nat.zero_add (ah @Nat.add_zero @ite_self.{1})))))) (ah (ah 
 (ah (ah (ah @ite_true.{1} @ite_false.{1}) (ah @if_true.{1} @if_false.{1})) (ah (ah @eq_self.{1} @and_true) (ah 
 @true_and (ah @and_self @Bool.not_true)))) (ah (ah (ah @Bool.not_false @Bool.true_eq_false) (ah @Bool.false_eq_true 
 @Bool.not_eq_true')) (ah (ah @decide_eq_true_eq @decide_eq_false_iff_not) (ah @Bool.not_eq_eq_eq_not (ah @Option.map_some.{0,0} 
 @Option.map_none.{0,0}))))) (ah (ah (ah (ah @Int.toNat_natCast @List.drop_zero.{0}) (ah @List.drop_succ_cons.{0} 
 @List.take_succ_cons.{0})) (ah (ah @List.take_zero.{0} @List.all_cons.{0}) (ah @List.all_nil.{0} (ah @Bool.and_true 
 @Bool.and_self)))) (ah (ah (ah @Go.Ml.Ex.exit.injEq @not_false_eq_true) (ah @not_true_eq_false @decide_true)) (ah (ah 
 @decide_false @ite_not.{1}) (ah @decide_not (ah @Bool.not_not @ne_eq.{1})))))))))
theorem ev{P Q:Prop}(h:Q)(e:P=Q:=by conv=>lhs;simp (maxSteps:=1000000) (disch:=first|omega|assumption|(simp;done)|(simp;omega)) only [↓EVp,EVq,splice,Nat.reduceAdd,Nat.reduceEqDiff,Nat.reduceMul,Nat.reduceLT,Nat.reduceLeDiff,reduceIte,V.leaf,MW,NJ,PW,cZ,dQ,fP,fE,iq,reduceCtorEq]):P:=Eq.mpr (e) h
theorem ev1{P Q A1:Prop}(x1:A1)(h:Q)(e:A1->P=Q:=by intro x1;conv=>lhs;simp (maxSteps:=1000000) (disch:=first|omega|assumption|(simp;done)|(simp;omega)) only [↓EVp,EVq,splice,Nat.reduceAdd,Nat.reduceEqDiff,Nat.reduceMul,Nat.reduceLT,Nat.reduceLeDiff,reduceIte,V.leaf,MW,NJ,PW,cZ,dQ,fP,fE,iq,reduceCtorEq,x1]):P:=Eq.mpr (e x1) h
theorem xP{P Q A1 A2:Prop}(x1:A1)(x2:A2)(h:Q)(e:A1->A2->P=Q:=by intro x1 x2;conv=>lhs;simp (maxSteps:=1000000) (disch:=first|omega|assumption|(simp;done)|(simp;omega)) only [↓EVp,EVq,splice,Nat.reduceAdd,Nat.reduceEqDiff,Nat.reduceMul,Nat.reduceLT,Nat.reduceLeDiff,reduceIte,V.leaf,MW,NJ,PW,cZ,dQ,fP,fE,iq,reduceCtorEq,x1,x2]):P:=Eq.mpr (e x1 x2) h
theorem Dw{P Q A1 A2 A3:Prop}(x1:A1)(x2:A2)(x3:A3)(h:Q)(e:A1->A2->A3->P=Q:=by intro x1 x2 x3;conv=>lhs;simp (maxSteps:=1000000) (disch:=first|omega|assumption|(simp;done)|(simp;omega)) only [↓EVp,EVq,splice,Nat.reduceAdd,Nat.reduceEqDiff,Nat.reduceMul,Nat.reduceLT,Nat.reduceLeDiff,reduceIte,V.leaf,MW,NJ,PW,cZ,dQ,fP,fE,iq,reduceCtorEq,x1,x2,x3]):P:=Eq.mpr (e x1 x2 x3) h
theorem ev4{P Q A1 A2 A3 A4:Prop}(x1:A1)(x2:A2)(x3:A3)(x4:A4)(h:Q)(e:A1->A2->A3->A4->P=Q:=by intro x1 x2 x3 x4;conv=>lhs;simp (maxSteps:=1000000) (disch:=first|omega|assumption|(simp;done)|(simp;omega)) only [↓EVp,EVq,splice,Nat.reduceAdd,Nat.reduceEqDiff,Nat.reduceMul,Nat.reduceLT,Nat.reduceLeDiff,reduceIte,V.leaf,MW,NJ,PW,cZ,dQ,fP,fE,iq,reduceCtorEq,x1,x2,x3,x4]):P:=Eq.mpr (e x1 x2 x3 x4) h
theorem ev5{P Q A1 A2 A3 A4 A5:Prop}(x1:A1)(x2:A2)(x3:A3)(x4:A4)(x5:A5)(h:Q)(e:A1->A2->A3->A4->A5->P=Q:=by intro x1 x2 x3 x4 x5;conv=>lhs;simp (maxSteps:=1000000) (disch:=first|omega|assumption|(simp;done)|(simp;omega)) only [↓EVp,EVq,splice,Nat.reduceAdd,Nat.reduceEqDiff,Nat.reduceMul,Nat.reduceLT,Nat.reduceLeDiff,reduceIte,V.leaf,MW,NJ,PW,cZ,dQ,fP,fE,iq,reduceCtorEq,x1,x2,x3,x4,x5]):P:=Eq.mpr (e x1 x2 x3 x4 x5) h
theorem ev6{P Q A1 A2 A3 A4 A5 A6:Prop}(x1:A1)(x2:A2)(x3:A3)(x4:A4)(x5:A5)(x6:A6)(h:Q)(e:A1->A2->A3->A4->A5->A6->P=Q:=by intro x1 x2 x3 x4 x5 x6;conv=>lhs;simp (maxSteps:=1000000) (disch:=first|omega|assumption|(simp;done)|(simp;omega)) only [↓EVp,EVq,splice,Nat.reduceAdd,Nat.reduceEqDiff,Nat.reduceMul,Nat.reduceLT,Nat.reduceLeDiff,reduceIte,V.leaf,MW,NJ,PW,cZ,dQ,fP,fE,iq,reduceCtorEq,x1,x2,x3,x4,x5,x6]):P:=Eq.mpr (e x1 x2 x3 x4 x5 x6) h
abbrev oN(d:Nat)(i:I):qJ:=⟨none,some d,0,i,[]⟩
abbrev oS(i:I):qJ:=⟨none,none,0,i,[]⟩
abbrev oG(g:Nat)(b:Bool)(d:Nat)(i:I):qJ:=⟨some (g,b),some d,0,i,[]⟩
abbrev oK(d k:Nat)(i:I):qJ:=⟨none,some d,k,i,[]⟩
abbrev oA(d k:Nat)(i:I)(a:List Nat):qJ:=⟨none,some d,k,i,a⟩
abbrev oH(g:Nat)(b:Bool)(d k:Nat)(i:I)(a:List Nat):qJ:=⟨some (g,b),some d,k,i,a⟩
abbrev oV(n:Nat):I:=.qC (.t n)
abbrev cI(n:Int):Src:=.c (.int .i64 n)
end Go.Ml
end
namespace Go.Ml
abbrev nR:Nat->Nat->Bool:=fun _ _=>false
def oW(d n:Nat):qJ:=⟨none,some d,0,.qC (.t n),[]⟩
def mF:I:=.qC (.c (.bool false))
def mT:I:=.qC (.c (.bool true))
def mN:I:=.qC (.c .kC)
def lT(n a:Nat):I:=.load n true (.t a)
def lF(n a:Nat):I:=.load n false (.t a)
def ix(n a b:Nat):I:=.idx n (.t a) (.t b)
def ln(a:Nat):I:=.len (.t a)
def fd(n a:Nat):I:=.fld n (.t a)
def ex(n a:Nat):I:=.ZJ n (.t a)
def nt(a:Nat):I:=.un .not (.t a)
def bt(o:BinOp)(a b:Nat):I:=.bin o (.t a) (.t b)
def bc(o:BinOp)(a:Nat)(n:Int):I:=.bin o (.t a) (.c (.int .i64 n))
def cd(a:Nat)(c e:C):C:=.cond (.t a) c e
def rf(n:Nat)(l:List qJ):C:=.reg false n l
def rt(n:Nat)(l:List qJ):C:=.reg true n l
def rg(l:List qJ):C:=.reg false 0 l
def sr(l:List qJ)(c:C):C:=.seq (.reg false 0 l) c
def uJ:List V:=[.bool false,.kC,.kC]
def I5:List V:=[.int .i64 0,.int .i64 0,.bool false,.kC,.kC,.bool false,.kC,.kC,.bool false,.kC,.kC]
def Kt:List V:=[.int .i64 0]
def zz3:List V:=[.bool false,.kC]
def zz4:List V:=[.int .i64 0,.bool false,.kC,.kC,.kC]
def zz5:List V:=[.int .i64 0,.bool false,.kC,.kC,.bool false,.kC,.kC,.bool false,.kC,.kC]
def zz6:List V:=[.bool false,.kC,.kC,.bool false,.kC,.kC]
def cl(f:Nat)(l:List Nat):I:=.call f (l.map .t)
theorem Lz:(∀(d:Nat),∀(i:I),oN d i=(⟨none,some d,0,i,[]⟩:qJ))/\(∀(i:I),oS i=(⟨none,none,0,i,[]⟩:qJ))/\(∀(g:Nat),∀(b:Bool),∀(d:Nat),∀(i:I),oG g b d i=(⟨some (g,b),some d,0,i,[]⟩:qJ))/\(∀(d k:Nat),∀(i:I),oK d k i=(⟨none,some d,k,i,[]⟩:qJ))/\(∀(d k:Nat),∀(i:I),∀(a:List Nat),oA d k i a=(⟨none,some d,k,i,a⟩:qJ))/\(∀(g:Nat),∀(b:Bool),∀(d k:Nat),∀(i:I),∀(a:List Nat),oH g b d k i a=(⟨some (g,b),some d,k,i,a⟩:qJ))/\(∀(n:Nat),oV n=(.qC (.t n):I))/\(∀(n:Int),cI n=(.c (.int .i64 n):Src))/\(∀(d n:Nat),oW d n=(⟨none,some d,0,.qC (.t n),[]⟩:qJ))/\(mF=(.qC (.c (.bool false)):I))/\(mT=(.qC (.c (.bool true)):I))/\(mN=(.qC (.c .kC):I))/\(∀(n a:Nat),lT n a=(.load n true (.t a):I))/\(∀(n a:Nat),lF n a=(.load n false (.t a):I))/\(∀(n a b:Nat),ix n a b=(.idx n (.t a) (.t b):I))/\(∀(a:Nat),ln a=(.len (.t a):I))/\(∀(n a:Nat),fd n a=(.fld n (.t a):I))/\(∀(n a:Nat),ex n a=(.ZJ n (.t a):I))/\(∀(a:Nat),nt a=(.un .not (.t a):I))/\(∀(o:BinOp),∀(a b:Nat),bt o a b=(.bin o (.t a) (.t b):I))/\(∀(o:BinOp),∀(a:Nat),∀(n:Int),bc o a n=(.bin o (.t a) (.c (.int .i64 n)):I))/\(∀(a:Nat),∀(c e:C),cd a c e=(.cond (.t a) c e:C))/\(∀(n:Nat),∀(l:List qJ),rf n l=(.reg false n l:C))/\(∀(n:Nat),∀(l:List qJ),rt n l=(.reg true n l:C))/\(∀(l:List qJ),rg l=(.reg false 0 l:C))/\(∀(l:List qJ),∀(c:C),sr l c=(.seq (.reg false 0 l) c:C))/\(uJ=([.bool false,.kC,.kC]:List V))/\(I5=([.int .i64 0,.int .i64 0,.bool false,.kC,.kC,.bool false,.kC,.kC,.bool false,.kC,.kC]:List V))/\(Kt=([.int .i64 0]:List V))/\(zz3=([.bool false,.kC]:List V))/\(zz4=([.int .i64 0,.bool false,.kC,.kC,.kC]:List V))/\(zz5=([.int .i64 0,.bool false,.kC,.kC,.bool false,.kC,.kC,.bool false,.kC,.kC]:List V))/\(zz6=([.bool false,.kC,.kC,.bool false,.kC,.kC]:List V))/\(nR=fun _ _=>false)/\(∀f:Nat,cl f []=.call f [])/\(∀f a:Nat,cl f [a]=.call f [.t a])/\(∀f a b:Nat,cl f [a,b]=.call f [.t a,.t b])/\(∀f a b c:Nat,cl f [a,b,c]=.call f [.t a,.t b,.t c])/\(∀f a b c d:Nat,cl f [a,b,c,d]=.call f [.t a,.t b,.t c,.t d])/\(∀f a b c d e:Nat,cl f [a,b,c,d,e]=.call f [.t a,.t b,.t c,.t d,.t e])/\(∀f a b c d e f:Nat,cl f [a,b,c,d,e,f]=.call f [.t a,.t b,.t c,.t d,.t e,.t f])/\(∀f a b c d e f g:Nat,cl f [a,b,c,d,e,f,g]=.call f [.t a,.t b,.t c,.t d,.t e,.t f,.t g])/\(∀f a b c d e f g h:Nat,cl f [a,b,c,d,e,f,g,h]=.call f [.t a,.t b,.t c,.t d,.t e,.t f,.t g,.t h]) :=
 ⟨fun _ _=>rfl,fun _=>rfl,fun _ _ _ _=>rfl,fun _ _ _=>rfl,fun _ _ _ _=>rfl,fun _ _ _ _ _ _=>rfl,fun _=>rfl,fun _=>rfl,fun _ _=>rfl,rfl,rfl,rfl,fun _ _=>rfl,fun _ _=>rfl,fun _ _ _=>rfl,fun _=>rfl,fun _ _=>rfl,fun _ _=>rfl,fun _=>rfl,fun _ _ _=>rfl,fun _ _ _=>rfl,fun _ _ _=>rfl,fun _ _=>rfl,fun _ _=>rfl,fun _=>rfl,fun _ _=>rfl,rfl,rfl,rfl,rfl,rfl,rfl,rfl,rfl,fun _=>rfl,fun _ _=>rfl,fun _ _ _=>rfl,fun _ _ _ _=>rfl,fun _ _ _ _ _=>rfl,fun _ _ _ _ _ _=>rfl,fun _ _ _ _ _ _ _=>rfl,fun _ _ _ _ _ _ _ _=>rfl,fun _ _ _ _ _ _ _ _ _=>rfl⟩
end Go.Ml
namespace Go.Ml
theorem Kr{l:List V}{env:Nat->V}(h:OJ l 0 env:=by (try (refine ev ?_;try with_reducible exact aC))<;>(repeat' (first|refine⟨?_,?_⟩|exact NK (by omega)|exact P5 (by simp)|exact KG _))):OJ l 0 env:=h
end Go.Ml
section
namespace Go.Ml
def slV:Nat->V
 |0=>.kC
 |n+1=>.lQ 0 0 (n+1)
def slS(n:Nat):List (List V)->Store
 | []=>[]
 |r::rs=>[some ⟨n,r::rs⟩]
theorem xG:slV 0=.kC:=nr rfl
theorem wF(n:Nat):slV (n+1)=.lQ 0 0 (n+1):=nr rfl
theorem asP(n:Nat):slS n []=[]:=nr rfl
theorem ame(n:Nat)(r:List V)(rs:List (List V)):slS n (r::rs)=[some ⟨n,r::rs⟩]:=nr rfl
theorem amf(n:Nat)(rows:List (List V))(r:List V):slS n (rows++[r])=[some ⟨n,rows++[r]⟩]:=by cases rows<;>rfl
theorem KH{vs:List V}{env:Nat->V}{σ:Store}{b1 b2 n k:Nat}{r1 r2 m1 m2:List Nat}{rows:List (List V)}{r:List V}(hs:nU (rows++[r]))
  (h:jQ σ k=some ⟨n,rows++[r]⟩) (he:Lc [some (k,0,rows.length+1)] σ vs 0 env):Fg ⟨mJ vs,slS n (rows++[r]),0,b1,r1,m1⟩ ⟨env,σ,0,b2,r2,m2⟩:=by
 rw [amf];refine Rh [(k,⟨n,rows++[r]⟩)] (by simp) ?_ rfl (by simpa using he);intro p hp;simp only [aI,bY,or_false]at hp;subst hp;exact⟨h,hs⟩
theorem DT{σ:Store}{k l n m:Nat}(hl:l<=m)(e:n=l)(h0:0<n):P6 [some (k,0,m)] σ (slV n) (.lQ k 0 l):=by
 subst e;obtain⟨j,rfl⟩:∃j,n=j+1:=⟨n-1,by omega⟩;rw [wF];exact qK rfl hl rfl
theorem kX{T:Tb}{f:Nat}{F:Fn}{args:List V}{r:V}(rf:Nat->Nat->Bool)(hT:T f=some F)
  (h:wp T rf F.body (fun e st=>ap1 F.res e (nG r) st) (St.enter args [])) (hl:args.length=F.nargs:=by rfl) (hk:F.body.okC=true:=by rfl):PF T f args r:=by
 obtain⟨e,st',h1,h2⟩:=BN hk h;have h3:(e=.normal\/e=.ret)/\O7 F.res [] st' (nG r):=by
  cases e with
  |normal=>exact⟨.inl rfl,h2⟩
  |ret=>exact⟨.inr rfl,h2⟩
  |exit id=>exact h2.elim
 obtain⟨he,h3⟩:=h3;have:=Vp _ _ h3;obtain⟨rs,e1,h4⟩:=mO this;obtain⟨r',e2,h5⟩:=mO h4;exact .abt (zi _) (.XZ (.fn hT hl h1 he e1) e2) h5
theorem amg(q:IntKind)(a b:Int):nG (.int q a) (.int q b)=(b=a):=by simp [nG]
theorem Na(a b:Bool):nG (.bool a) (.bool b)=(b=a):=by simp [nG]
theorem qg(sz:Nat):nG (.sl sz []) .kC=True:=by simp [nG]
theorem P8(xs ys:List V):nG (.agg xs) (.agg ys)=wJ xs ys:=by simp [nG]
theorem Vr:wJ [] []=True:=by simp [wJ]
theorem Vt(x y:V)(xs ys:List V):wJ (x::xs) (y::ys)=(nG x y/\wJ xs ys):=by
 simp only [wJ,iF];exact propext ⟨fun ⟨_,_,⟨e1,e2⟩,h1,h2⟩=>by subst e1;subst e2;exact⟨h1,h2⟩,fun ⟨h1,h2⟩=>⟨y,ys,⟨rfl,rfl⟩,h1,h2⟩⟩
theorem aqM{T:Tb}{f:Nat}{as as':List V}{k:V->Prop}{r:V}(h:PF T f as' r)(ha:wJ as' as)(hk:k r):PFK T f as k:=⟨r,h.lax ha (kR r),hk⟩
theorem Ad(l:List Int)(d:Int):kU l++[[V.int .i64 d]]=kU (l++[d]):=by simp [kU]
theorem EVi:(∀x:Int,[[V.int .i64 x]]=kU [x])/\(∀(x:Int) (l:List Int),[V.int .i64 x]::kU l=kU (x::l))/\(∀(l:List Int) (x:Int),kU l++[[V.int .i64 x]]=kU (l++[x])) /\
  (∀l m:List Int,kU l++kU m=kU (l++m)) :=
 ⟨fun _=>rfl,fun _ _=>rfl,fun l x=>by simp [kU],fun l m=>by simp [kU]⟩
theorem NU{l:List Int}:kU l=[]↔l=[]:=by simp [kU]
theorem qE:slS 1 (kU [])=[]:=rfl
theorem oD(x:Int)(l:List Int):slS 1 (kU (x::l))=[some ⟨1,kU (x::l)⟩]:=rfl
theorem DU(l:List Int)(d:Int):nU (kU l++[[V.int .i64 d]]):=by rw [Ad];exact uM _
theorem aj0:kU []=[]:=rfl
theorem Yq(x:Int)(l:List Int):kU (x::l)=[V.int .i64 x]::kU l:=rfl
mutual
def mP(σ:Store):V->V->List Nat->Prop
 |v,.sl sz rows,os=>(rows=[]/\v=.sl sz []/\os=[])\/∃o rows' os',v=.lQ o 0 rows.length/\jQ σ o=some ⟨sz,rows'⟩/\os=o::os'/\tX σ rows' rows os'
 |v,.agg cs,os=>∃cs',v=.agg cs'/\nC σ cs' cs os
 |v,.oU cs,os=>∃cs',v=.oU cs'/\nC σ cs' cs os
 |v,.any,os=>False
 |v,.one,os=>False
 |v,.int k n,os=>v=.int k n/\os=[]
 |v,.bool b,os=>v=.bool b/\os=[]
 |v,.str s,os=>v=.str s/\os=[]
 |v,.kC,os=>False
 |v,.lQ _ _ _,os=>False
 |v,.ptr _ _ _,os=>False
 |v,.qw _ _,os=>False
def nC(σ:Store):List V->List V->List Nat->Prop
 |vs,[],os=>vs=[]/\os=[]
 |vs,t::ts,os=>∃v vs' o1 o2,vs=v::vs'/\os=o1++o2/\mP σ v t o1/\nC σ vs' ts o2
def tX(σ:Store):List (List V)->List (List V)->List Nat->Prop
 |vs,[],os=>vs=[]/\os=[]
 |vs,t::ts,os=>∃v vs' o1 o2,vs=v::vs'/\os=o1++o2/\nC σ v t o1/\tX σ vs' ts o2
end
section
variable {σ σ' : Store}
theorem lH{o:Nat}{ob:Obj}(h:jQ σ o=some ob):o<σ.length:=by
 rcases dW o σ.length with k|k
 ·exact k
 rw [jQ,bC k]at h;cases h
mutual
theorem mP.lt:∀{t v:V} {os:List Nat},mP σ v t os->∀o∈os,o<σ.length
 |
  .sl sz rows,v,os,h=>by
  simp only [mP]at h;rcases h with ⟨_,_,rfl⟩|⟨o,rows',os',_,h2,rfl,h3⟩
  ·intro o ho;cases ho
  intro q hq;rcases aI.1 hq with rfl|hq
  ·exact lH h2
  exact tX.lt h3 q hq
 |.agg cs,v,os,h=>by simp only [mP]at h;obtain⟨cs',_,h⟩:=h;exact nC.lt h
 |.oU cs,v,os,h=>by simp only [mP]at h;obtain⟨cs',_,h⟩:=h;exact nC.lt h
 |.any,v,os,h=>by simp [mP]at h
 |.one,v,os,h=>by simp [mP]at h
 |.int ..,v,os,h=>by simp only [mP]at h;rw [h.2];intro o ho;cases ho
 |.bool _,v,os,h=>by simp only [mP]at h;rw [h.2];intro o ho;cases ho
 |.str _,v,os,h=>by simp only [mP]at h;rw [h.2];intro o ho;cases ho
 |.kC,v,os,h=>by simp [mP]at h
 |.lQ ..,v,os,h=>by simp [mP]at h
 |.ptr ..,v,os,h=>by simp [mP]at h
 |.qw ..,v,os,h=>by simp [mP]at h
theorem nC.lt:∀{ts vs:List V} {os:List Nat},nC σ vs ts os->∀o∈os,o<σ.length
 | [],vs,os,h=>by simp only [nC]at h;rw [h.2];intro o ho;cases ho
 |
  t::ts,vs,os,h=>by
  simp only [nC]at h;obtain⟨v,vs',o1,o2,_,rfl,h1,h2⟩:=h;intro o ho;rcases aK.1 ho with ho|ho
  ·exact mP.lt h1 o ho
  exact nC.lt h2 o ho
theorem tX.lt:∀{ts vs:List (List V)} {os:List Nat},tX σ vs ts os->∀o∈os,o<σ.length
 | [],vs,os,h=>by simp only [tX]at h;rw [h.2];intro o ho;cases ho
 |
  t::ts,vs,os,h=>by
  simp only [tX]at h;obtain⟨v,vs',o1,o2,_,rfl,h1,h2⟩:=h;intro o ho;rcases aK.1 ho with ho|ho
  ·exact nC.lt h1 o ho
  exact tX.lt h2 o ho
end
mutual
theorem mP.frame:∀{t v:V} {os:List Nat},mP σ v t os->(∀o∈os,jQ σ' o=jQ σ o)->mP σ' v t os
 |
  .sl sz rows,v,os,h,hf=>by
  simp only [mP]at h ⊢;rcases h with h|⟨o,rows',os',h1,h2,rfl,h3⟩
  ·exact .inl h
  exact .inr ⟨o,rows',os',h1,by rw [hf o (by simp)];exact h2,rfl,tX.frame h3 fun q hq=>hf q (by simp [hq])⟩
 |.agg cs,v,os,h,hf=>by simp only [mP]at h ⊢;obtain⟨cs',e,h⟩:=h;exact⟨cs',e,nC.frame h hf⟩
 |.oU cs,v,os,h,hf=>by simp only [mP]at h ⊢;obtain⟨cs',e,h⟩:=h;exact⟨cs',e,nC.frame h hf⟩
 |.any,v,os,h,_=>by simp [mP]at h
 |.one,v,os,h,_=>by simp [mP]at h
 |.int ..,v,os,h,_=>by simpa only [mP]using h
 |.bool _,v,os,h,_=>by simpa only [mP]using h
 |.str _,v,os,h,_=>by simpa only [mP]using h
 |.kC,v,os,h,_=>by simp [mP]at h
 |.lQ ..,v,os,h,_=>by simp [mP]at h
 |.ptr ..,v,os,h,_=>by simp [mP]at h
 |.qw ..,v,os,h,_=>by simp [mP]at h
theorem nC.frame:∀{ts vs:List V} {os:List Nat},nC σ vs ts os->(∀o∈os,jQ σ' o=jQ σ o)->nC σ' vs ts os
 | [],vs,os,h,_=>by simpa only [nC]using h
 |
  t::ts,vs,os,h,hf=>by
  simp only [nC]at h ⊢;obtain⟨v,vs',o1,o2,e,rfl,h1,h2⟩:=h;exact⟨v,vs',o1,o2,e,rfl,mP.frame h1 fun q hq=>hf q (by simp [hq]),nC.frame h2 fun q hq=>hf q (by simp [hq])⟩
theorem tX.frame:∀{ts vs:List (List V)} {os:List Nat},tX σ vs ts os->(∀o∈os,jQ σ' o=jQ σ o)->tX σ' vs ts os
 | [],vs,os,h,_=>by simpa only [tX]using h
 |
  t::ts,vs,os,h,hf=>by
  simp only [tX]at h ⊢;obtain⟨v,vs',o1,o2,e,rfl,h1,h2⟩:=h;exact⟨v,vs',o1,o2,e,rfl,nC.frame h1 fun q hq=>hf q (by simp [hq]),tX.frame h2 fun q hq=>hf q (by simp [hq])⟩
end
theorem mP.leaf{t v:V}{os:List Nat}(h:mP σ v t os)(hl:t.leaf=true):v.leaf=true:=by
 cases t<;>simp only [V.leaf]at hl<;>first|(cases hl;done)|skip
 all_goals simp only [mP]at h
 all_goals first|(cases h;done)|skip
 case int=>rw [h.1];rfl
 case bool=>rw [h.1];rfl
 case str=>rw [h.1];rfl
 case sl=>rcases h with ⟨_,rfl,_⟩|⟨_,_,_,rfl,_⟩<;>rfl
theorem tX.len:∀{ts vs:List (List V)} {os:List Nat},tX σ vs ts os->vs.length=ts.length
 | [],vs,os,h=>by simp only [tX]at h;simp [h.1]
 |
  t::ts,vs,os,h=>by
  simp only [tX]at h;obtain⟨v,vs',o1,o2,rfl,_,_,h2⟩:=h;simp [tX.len h2]
mutual
theorem mP.shift{n:Nat}(hn:∀o,jQ σ' (n+o)=(jQ σ o).map (rD (mV n))):∀{t v:V} {os:List Nat},mP σ v t os->mP σ' (lS (mV n) v) t (os.map (n + ·))
 |
  .sl sz rows,v,os,h=>by
  simp only [mP]at h ⊢;rcases h with ⟨h1,rfl,rfl⟩|⟨o,rows',os',rfl,h2,rfl,h3⟩
  ·exact .inl ⟨h1,rfl,rfl⟩
  exact .inr ⟨n+o,_,os'.map (n + ·),rfl,by rw [hn,h2];rfl,rfl,tX.shift hn h3⟩
 |.agg cs,v,os,h=>by simp only [mP]at h ⊢;obtain⟨cs',rfl,h⟩:=h;exact⟨_,rfl,nC.shift hn h⟩
 |.oU cs,v,os,h=>by simp only [mP]at h ⊢;obtain⟨cs',rfl,h⟩:=h;exact⟨_,rfl,nC.shift hn h⟩
 |.any,v,os,h=>by simp [mP]at h
 |.one,v,os,h=>by simp [mP]at h
 |.int ..,v,os,h=>by simp only [mP]at h ⊢;obtain⟨rfl,rfl⟩:=h;exact⟨rfl,rfl⟩
 |.bool _,v,os,h=>by simp only [mP]at h ⊢;obtain⟨rfl,rfl⟩:=h;exact⟨rfl,rfl⟩
 |.str _,v,os,h=>by simp only [mP]at h ⊢;obtain⟨rfl,rfl⟩:=h;exact⟨rfl,rfl⟩
 |.kC,v,os,h=>by simp [mP]at h
 |.lQ ..,v,os,h=>by simp [mP]at h
 |.ptr ..,v,os,h=>by simp [mP]at h
 |.qw ..,v,os,h=>by simp [mP]at h
theorem nC.shift{n:Nat}(hn:∀o,jQ σ' (n+o)=(jQ σ o).map (rD (mV n))):∀{ts vs:List V} {os:List Nat},nC σ vs ts os->nC σ' (lS.IZ (mV n) vs) ts (os.map (n + ·))
 | [],vs,os,h=>by simp only [nC]at h ⊢;obtain⟨rfl,rfl⟩:=h;exact⟨rfl,rfl⟩
 |
  t::ts,vs,os,h=>by
  simp only [nC]at h ⊢;obtain⟨v,vs',o1,o2,rfl,rfl,h1,h2⟩:=h;exact⟨_,_,_,_,rfl,by rw [bU],mP.shift hn h1,nC.shift hn h2⟩
theorem tX.shift{n:Nat}(hn:∀o,jQ σ' (n+o)=(jQ σ o).map (rD (mV n))):∀{ts vs:List (List V)} {os:List Nat},tX σ vs ts os->tX σ' (vs.map fun r=>r.map (lS (mV n))) ts (os.map (n + ·))
 | [],vs,os,h=>by simp only [tX]at h ⊢;obtain⟨rfl,rfl⟩:=h;exact⟨rfl,rfl⟩
 |
  t::ts,vs,os,h=>by
  simp only [tX]at h ⊢;obtain⟨v,vs',o1,o2,rfl,rfl,h1,h2⟩:=h;have hm:∀l:List V,lS.IZ (mV n) l=l.map (lS (mV n)):=by
   intro l
   induction l with
   |nil=>rfl
   |cons x l ih=>simp only [lS.IZ,bT,ih]
  exact⟨_,_,_,_,rfl,by rw [bU],by rw [show (fun r=>List.map (lS (mV n)) r) v=lS.IZ (mV n) v from(hm v).symm];exact nC.shift hn h1,tX.shift hn h2⟩
end
def oI:Nat->V->Prop
 |0,_=>False
 |n+1,.sl _ rows=>∀r∈rows,∀c∈r,oI n c
 |n+1,.agg cs=>∀c∈cs,oI n c
 |n+1,.oU cs=>∀c∈cs,oI n c
 |_+1,_=>True
theorem P9:∀(n:Nat) {t v:V} {os:List Nat},mP σ v t os->oI n t->resolve σ n v=some t
 |0,t,v,os,_,hd=>by simp [oI]at hd
 |
  n+1,t,v,os,h,hd=>by
  have hl:∀(ts vs:List V) (os:List Nat),nC σ vs ts os->(∀c∈ts,oI n c)->vs.mapM (resolve σ n)=some ts:=by
   intro ts
   induction ts with
   |nil=>intro vs os h _;simp only [nC]at h;rw [h.1];rfl
   |
    cons t ts ih =>
    intro vs os h hd;simp only [nC]at h;obtain⟨v,vs',o1,o2,rfl,rfl,h1,h2⟩:=h;rw [bZ,P9 n h1 (hd t (by simp)),ih vs' o2 h2 fun c hc=>hd c (by simp [hc])];rfl
  have hr:∀(ts vs:List (List V)) (os:List Nat),tX σ vs ts os->(∀r∈ts,∀c∈r,oI n c)->(vs.mapM fun (r:List V)=>r.mapM (resolve σ n))=some ts:=by
   intro ts
   induction ts with
   |nil=>intro vs os h _;simp only [tX]at h;rw [h.1];rfl
   |
    cons t ts ih =>
    intro vs os h hd;simp only [tX]at h;obtain⟨v,vs',o1,o2,rfl,rfl,h1,h2⟩:=h;rw [bZ,hl t v o1 h1 (hd t (by simp)),ih vs' o2 h2 fun c hc=>hd c (by simp [hc])];rfl
  cases t with
  |
   sl sz rows =>
   simp only [mP]at h;simp only [oI]at hd;rcases h with ⟨rfl,rfl,_⟩|⟨o,rows',os',rfl,h2,_,h3⟩
   ·rfl
   rw [resolve];simp only [h2];have:=h3.len;rw [aQ (by omega),dA,bG (by omega),hr rows rows' os' h3 hd];rfl
  |
   agg cs =>
   simp only [mP]at h;obtain⟨cs',rfl,h⟩:=h;rw [resolve];rw [hl cs cs' os h hd];rfl
  |
   oU cs =>
   simp only [mP]at h;obtain⟨cs',rfl,h⟩:=h;rw [resolve];rw [hl cs cs' os h hd];rfl
  |any=>simp [mP]at h
  |one=>simp [mP]at h
  |int k i=>simp only [mP]at h;rw [h.1];rfl
  |bool b=>simp only [mP]at h;rw [h.1];rfl
  |str s=>simp only [mP]at h;rw [h.1];rfl
  |kC=>simp [mP]at h
  |lQ=>simp [mP]at h
  |ptr=>simp [mP]at h
  |qw=>simp [mP]at h
mutual
theorem mP.ou:∀{t v:V} {os:List Nat},mP σ v t os->ou v=true
 |
  .sl sz rows,v,os,h=>by
  simp only [mP]at h;rcases h with ⟨rfl,rfl,_⟩|⟨o,rows',os',rfl,_⟩<;>rfl
 |.agg cs,v,os,h=>by simp only [mP]at h;obtain⟨cs',rfl,h⟩:=h;simp only [Ml.ou];exact nC.ou h
 |.oU cs,v,os,h=>by simp only [mP]at h;obtain⟨cs',rfl,h⟩:=h;simp only [Ml.ou];exact nC.ou h
 |.any,v,os,h=>by simp [mP]at h
 |.one,v,os,h=>by simp [mP]at h
 |.int ..,v,os,h=>by simp only [mP]at h;rw [h.1];rfl
 |.bool _,v,os,h=>by simp only [mP]at h;rw [h.1];rfl
 |.str _,v,os,h=>by simp only [mP]at h;rw [h.1];rfl
 |.kC,v,os,h=>by simp [mP]at h
 |.lQ ..,v,os,h=>by simp [mP]at h
 |.ptr ..,v,os,h=>by simp [mP]at h
 |.qw ..,v,os,h=>by simp [mP]at h
theorem nC.ou:∀{ts vs:List V} {os:List Nat},nC σ vs ts os->ou.xM vs=true
 | [],vs,os,h=>by simp only [nC]at h;rw [h.1];rfl
 |
  t::ts,vs,os,h=>by
  simp only [nC]at h;obtain⟨v,vs',o1,o2,rfl,rfl,h1,h2⟩:=h;simp only [ou.xM,mP.ou h1,nC.ou h2,Bool.and_self]
end
end
mutual
theorem ad1{w:World}{D:DM}{X X':Nat->Prop}:∀(x:V) (v:Value),ou x=true->rd w D X x v->rd w D X' x v
 |
  .sl sz rows,v,h,hr=>by
  simp only [ou,List.isEmpty_iff]at h;subst h;simp only [rd]at hr ⊢;obtain⟨a,cap,h1,h2,_⟩:=hr;exact⟨a,cap,h1,h2,.inl (by trivial)⟩
 |
  .agg cs,v,h,hr=>by
  simp only [ou]at h;simp only [rd]at hr ⊢;obtain⟨a,rfl,hr⟩:=hr;exact⟨a,rfl,Vu cs _ h hr⟩
 |
  .oU cs,v,h,hr=>by
  simp only [ou]at h;simp only [rd]at hr ⊢;obtain⟨a,rfl,hr⟩:=hr;exact⟨a,rfl,Vu cs _ h hr⟩
 |.qw ..,v,h,hr=>by simp [ou]at h
 |.any,_,_,_=>by simp [rd]
 |.one,v,h,hr=>by simpa only [rd]using hr
 |.int ..,v,h,hr=>by simpa only [rd]using hr
 |.bool _,v,h,hr=>by simpa only [rd]using hr
 |.str _,v,h,hr=>by simpa only [rd]using hr
 |.kC,v,h,hr=>by simpa only [rd]using hr
 |.lQ ..,v,h,hr=>by simpa only [rd]using hr
 |.ptr ..,v,h,hr=>by simpa only [rd]using hr
theorem Vu{w:World}{D:DM}{X X':Nat->Prop}:∀(xs:List V) (vs:List Value),ou.xM xs=true->qH w D X xs vs->qH w D X' xs vs
 | [],vs,_,hr=>by simpa only [qH]using hr
 |
  x::xs,vs,h,hr=>by
  simp only [ou.xM,aH]at h;simp only [qH]at hr ⊢;obtain⟨v,vs',rfl,k1,k2⟩:=hr;exact⟨v,vs',rfl,ad1 x v h.1 k1,Vu xs vs' h.2 k2⟩
end
mutual
theorem Vw{g:Nat->Option Nat}:∀(x:V),ou x=true->ou (lS g x)=true
 |.sl sz rows,h=>by simpa only [lS]using h
 |.agg cs,h=>by simp only [ou,lS]at h ⊢;exact NV cs h
 |.oU cs,h=>by simp only [ou,lS]at h ⊢;exact NV cs h
 |.qw ..,h=>by simp [ou]at h
 |.lQ o s l,_=>by simp only [lS];split<;>rfl
 |.ptr o s l,_=>by simp only [lS];split<;>rfl
 |.any,_=>rfl
 |.one,_=>rfl
 |.int ..,_=>rfl
 |.bool _,_=>rfl
 |.str _,_=>rfl
 |.kC,_=>rfl
theorem NV{g:Nat->Option Nat}:∀(xs:List V),ou.xM xs=true->ou.xM (lS.IZ g xs)=true
 | [],_=>rfl
 |
  x::xs,h=>by
  simp only [ou.xM,aH,lS.IZ]at h ⊢;exact⟨Vw x h.1,NV xs h.2⟩
end
theorem rO{σ σ':Store}{o:Nat}:jQ (zW σ σ') o=if o<σ.length then jQ σ o else(jQ σ' (o-σ.length)).map (rD (mV σ.length)):=by
 unfold zW jQ;by_cases h:o<σ.length
 ·rw [aQ h,bK h]
 rw [aN h,bW (by omega),bP]
 cases σ'[o-σ.length]? <;> rfl
section
variable {P : Program} {ν : Nat -> Option Nat} {nt : Nat} {M : Nat -> Prop} {w0 : World} {D0 : DM} {st : St} {D : DM} {a : Act} {w : World}
theorem agn{x:qJ}{f:Nat}{as:List Src}{as':List V}{r:V}{σ':Store}{R:List Nat}(hg:∀g want,x.g=some (g,want)->st.env g=.bool want)(hi:x.i=.call f as)
  (ha:as.mapM (fun s=>resolve st.objs FD (s.ev st.env))=some as') (ih:RP P ν f as' [] r σ')
  (hR:R=if ou r&&FP σ' then []else as.flatMap fun s=>reach st.objs FD (s.ev st.env)) :
  adx P ν x st { st with env:=oO st.env x.dst (lS (mV st.objs.length) r),objs:=zW (nT st.objs R) σ' }:=by
 have hlk:(nT st.objs R).length=st.objs.length:=JC R _;refine⟨rfl,rfl,by simp [zW,hlk],?_⟩;intro ops dr nt m k o htr M w0 D0 D a w hs _ K Q hK;obtain⟨t1,t2,t3,t4⟩:=Jt htr;rw [aQ ((FV hs t4).1 hg)];rw [hi]at t1;obtain⟨fid,xs,c1,c2,c3⟩:=KE t1;have hrd:=Vh hs.store hs.env xs c2 ha (R:=as.flatMap fun s=>reach st.objs FD (s.ev st.env)) (fun o h=>h)
 let X':Nat->Prop:=fun b=>M b\/∃o d,D o=.live d/\d.blk=b/\o∉as.flatMap fun s=>reach st.objs FD (s.ev st.env)
 have hX:∀b,XS X' DM.none b->X' b:=by
  rintro b (h|⟨o,d,h,_⟩)
  ·exact h
  simp [DM.none]at h
 have hlt:∀b,X' b->b<w.heap.size:=by
  rintro b (h|⟨o,d,h,rfl,_⟩)
  ·exact hs.store.mlt b h
  obtain⟨_,_,_,_,_,_,_,_,h6,_⟩:=hs.store.live o d h;exact h6
 have hcall:=ih fid c1 w X' DM.none (xs.map a.eval).toArray (by simpa using Vj hrd hX)
  ⟨fun o d h=>by simp [DM.none]at h,fun o ob h=>by simp [jQ]at h,fun o o' d d' h=>by simp [DM.none]at h,fun _ _=>rfl,hlt⟩
 refine TQ (c3 a w) (R:=fun v w'=>∃Dc,rd w' Dc (XS X' Dc) r v/\uP w' Dc X' σ'/\Gr (Own DM.none) w w'/\∀o d,Dc o=.live d->w.heap.size<=d.blk) (hcall.mono ?_) ?_
 ·rintro e w' ⟨v,D',rfl,h1,h2,h3,h4,_⟩;refine⟨v,rfl,D',h1,h2,h3,fun o d ho=>?_⟩;rcases h4 o d ho with ⟨_,_,h,_⟩|h
  ·simp [DM.none]at h
  exact h
 rintro v w' ⟨Dc,h1,h2,h3,h4⟩;have hsame:∀b,b<w.heap.size->w'.heap[b]? = w.heap[b]?:=fun b hb=>h3.block b hb (by rintro⟨o,d,h,_⟩;simp [DM.none]at h)
 let n:=st.objs.length
 let D':DM:=fun o=>if o<n then D.kill R o else Dc (o-n)
 have ZP:∀o,o<n->D' o=D.kill R o:=fun o h=>by simp only [D',aQ h]
 have dNew:∀j,D' (n+j)=Dc j:=fun j=>by simp only [D'];rw [aN (by omega)];congr 1;omega
 have OI:∀o d,D' o=.live d->(o<n/\o∉R/\D o=.live d)\/(n<=o/\Dc (o-n)=.live d):=by
  intro o d ho;by_cases hon:o<n
  ·rw [ZP o hon]at ho;obtain⟨k1,k2⟩:=FX ho;exact .inl ⟨hon,k2,k1⟩
  simp only [D',aN hon]at ho;exact .inr ⟨by omega,ho⟩
 have E:Ext w D (XS M D) w' D' (XS M D'):=by
  refine⟨h3.size,fun b hb _=>hsame b hb,?_,?_⟩
  ·rintro b hb (h|⟨o,d,ho,rfl⟩)
   ·exact .inl h
   rcases OI o d ho with ⟨_,_,k⟩|⟨_,k⟩
   ·exact .inr ⟨o,d,k,rfl⟩
   have:=h4 _ d k;omega
  intro o;by_cases hon:o<n
  ·rw [ZP o hon];exact abA D R o
  rw [hs.store.far o (by omega)];trivial
 have ady:∀{x:V} {v:Value},((ou r&&FP σ')=true->ou x=true)->rd w' Dc (XS X' Dc) x v->rd w' D' (XS M D') (lS (mV n) x) v:=by
  intro x v hx hr;have h:=Vf (D':=D') (g:=mV n) (fun j j' hj=>by simp only [mV,aB]at hj;subst hj;rw [dNew];exact vJ.refl _) x v hr;by_cases hf:(ou r&&FP σ')=true
  ·exact ad1 _ _ (Vw _ (hx hf)) h
  rw [aN hf]at hR;refine oP _ _ ⟨aJ _,fun _ _ _=>rfl,fun b _ hb=>?_,fun _=>vJ.refl _⟩ h;rcases hb with hb|⟨o,d,ho,rfl⟩
  ·exact .inl (.inl hb)
  rcases OI o d ho with ⟨_,k2,k⟩|⟨_,k⟩
  ·exact .inl (.inr ⟨o,d,k,rfl,by rw [<-hR];exact k2⟩)
  exact .inr ⟨_,d,k,rfl⟩
 have hcell:∀{j:Nat} {ob:Obj},jQ σ' j=some ob->∀x∈ob.rows.flatten,((ou r&&FP σ')=true->ou x=true):=by
  intro j ob hj x hx hf;simp only [aH,FP,bg]at hf;have hmem:some ob∈σ':=by
   unfold jQ at hj
   cases hc:σ'[j]? with
   |none=>rw [hc]at hj;cases hj
   |some z=>rw [hc]at hj;simp at hj;subst hj;exact bn hc
  obtain⟨rw',hr1,hr2⟩:=List.mem_flatten.1 hx;have:=hf.2 _ hmem;simp only [bg]at this;exact this rw' hr1 x hr2
 have hst:uP w' D' M (zW (nT st.objs R) σ'):=by
  refine⟨?_,?_,?_,?_,fun b hb=>bD (hs.store.mlt b hb) h3.size⟩
  ·intro o d ho;rcases OI o d ho with ⟨k1,k2,k⟩|⟨k1,k⟩
   ·obtain⟨ob,c,e,g1,g2,g3,g4,g5,g6,g7,g8,g9,g10,g11⟩:=hs.store.live o d k;refine⟨ob,c,e,by rw [rO,hlk,aQ k1,FW,aN k2];exact g1,g2,g3,g4,g5,bD g6 h3.size,by rw [hsame _ g6];exact g7,g8,g9,g10,fun i x hi=>?_⟩;obtain⟨k0,y,j1,j2⟩:=g11 i x hi;exact⟨k0,y,j1,oP _ _ E j2⟩
   obtain⟨ob,c,e,g1,g2,g3,g4,g5,g6,g7,g8,g9,g10,g11⟩:=h2.live _ d k;refine⟨rD (mV n) ob,c,e,by rw [rO,hlk,aN (by omega),g1];rfl,g2,by simp [rD,g3],g4,fun hm=>g5 (.inl hm),g6,g7,g8,g9,?_,fun i x hi=>?_⟩
   ·intro rr hrr;simp only [rD,bF]at hrr;obtain⟨r0,hr0,rfl⟩:=hrr;simpa [rD]using g10 r0 hr0
   rw [NI,bP,aO]at hi;obtain⟨x0,hx0,rfl⟩:=hi;obtain⟨k0,y,j1,j2⟩:=g11 i x0 hx0;exact⟨X9 k0,y,j1,ady (hcell g1 x0 (bn hx0)) j2⟩
  ·intro o ob ho;rw [rO,hlk]at ho;split at ho
   ·rename_i hon;rw [FW]at ho;split at ho
    ·cases ho
    rename_i hR';obtain⟨d,hd⟩:=hs.store.alive o ob ho;exact⟨d,by rw [ZP o hon];simp only [DM.kill,aN hR'];exact hd⟩
   rename_i hon;simp only [aO]at ho;obtain⟨ob0,ho,_⟩:=ho;obtain⟨d,hd⟩:=h2.alive _ ob0 ho;refine⟨d,?_⟩;show (if o<n then _ else _)=_;rw [aN hon];exact hd
  ·intro o o' d d' ho ho' hb;rcases OI o d ho with ⟨a1,a2,a3⟩|⟨a1,a3⟩<;>rcases OI o' d' ho' with ⟨b1,b2,b3⟩|⟨b1,b3⟩
   ·exact hs.store.inj o o' d d' a3 b3 hb
   ·obtain⟨_,_,_,_,_,_,_,_,g6,_⟩:=hs.store.live o d a3;have:=h4 _ d' b3;omega
   ·obtain⟨_,_,_,_,_,_,_,_,g6,_⟩:=hs.store.live o' d' b3;have:=h4 _ d a3;omega
   have:=h2.inj _ _ d d' a3 b3 hb;omega
  intro o ho;have hlo:n+σ'.length<=o:=by simpa [zW,hlk]using ho
  simp only [D'];rw [aN (by omega)];exact h2.far _ (by omega)
 rw [t2];refine hK D' _ w' ⟨Ve (fun t=>oP _ _ E (hs.env t)) (fun d hd=>by rw [hs.tm];exact t3 d (t2.trans hd)) (ady (fun hf=>by simp only [aH]at hf;exact hf.1) h1),?_,?_,hst,?_,?_,fun o ho=>(hs.kp o ho).trans (E.ds o)⟩ ?_
 ·rw [<-hs.tm];cases x.dst<;>simp [Act.put]
 ·rw [<-hs.df];cases x.dst<;>rfl
 ·exact hs.gr.trans (h3.mono fun b _ ⟨o,d,h,_⟩=>by simp [DM.none]at h)
 ·intro o d ho;rcases OI o d ho with ⟨_,_,k⟩|⟨_,k⟩
  ·exact hs.fr o d k
  exact .inr (dw hs.gr.size (h4 _ d k))
 intro o _ ho hu _;rw [ZP o ho];simp only [DM.kill,hu];split<;>rfl
theorem aaM{X:Nat->Prop}{env:Nat->V}(he:∀t,rd w D X (env t) (a.tmps.getD t undef)) :
  ∀(xs:List Operand) {as:List Src},Ip xs=some as->qH w D X (as.map fun s=>s.ev env) (xs.map a.eval)
 | [],as,h=>by simp only [Ip,aB]at h;subst h;simp [qH]
 |
  x::xs,as,h=>by
  simp only [Ip]at h;split at h<;>first|(cases h;done)|skip
  rename_i s r h1 h2;simp only [aB]at h;subst h;simp only [bT,qH];exact⟨_,_,rfl,oQ he h1,aaM he xs h2⟩
theorem agp{x:qJ}{f:Nat}{as:List Src}{r:V}{σ':Store}(hg:∀g want,x.g=some (g,want)->st.env g=.bool want)(hi:x.i=.call f as)
  (ih:RP P ν f (as.map fun s=>s.ev st.env) st.objs r σ') (hl:st.objs.length<=σ'.length) (hb:st.objs.length<=st.base) :
  adx P ν x st { st with env:=oO st.env x.dst r,objs:=σ' }:=by
 refine⟨rfl,rfl,hl,?_⟩;intro ops dr nt m k o htr M w0 D0 D a w hs _ K Q hK;obtain⟨t1,t2,t3,t4⟩:=Jt htr;rw [aQ ((FV hs t4).1 hg)];rw [hi]at t1;obtain⟨fid,xs,c1,c2,c3⟩:=KE t1;have hcall:=ih fid c1 w M D (xs.map a.eval).toArray (by simpa using aaM hs.env xs c2) hs.store;refine TQ (c3 a w) (R:=fun v w'=>∃D',rd w' D' (XS M D') r v/\uP w' D' M σ'/\Gr (Own D) w w'/\(∀o d,D' o=.live d->Own D d.blk\/w.heap.size<=d.blk)/\∀j,j<st.objs.length->vJ (D j) (D' j)) (hcall.mono ?_) ?_
 ·rintro e w' ⟨v,D',rfl,h1,h2,h3,h4,h5⟩;exact⟨v,rfl,D',h1,h2,h3,h4,h5⟩
 rintro v w' ⟨D',h1,h2,h3,h4,h5⟩;have E:Ext w D (XS M D) w' D' (XS M D'):=by
  refine⟨h3.size,fun b hb hx=>h3.block b hb (fun ho=>hx (.inr ho)),?_,?_⟩
  ·rintro b hb (h|⟨o,d,ho,rfl⟩)
   ·exact .inl h
   rcases h4 o d ho with h|h
   ·exact .inr h
   omega
  intro o;rcases dW o st.objs.length with h|h
  ·exact h5 o h
  rw [hs.store.far o h];trivial
 rw [t2];refine hK D' _ w' ⟨Ve (fun t=>oP _ _ E (hs.env t)) (fun d hd=>by rw [hs.tm];exact t3 d (t2.trans hd)) h1,?_,?_,h2,?_,?_,fun o ho=>(hs.kp o ho).trans (E.ds o)⟩ ?_
 ·rw [<-hs.tm];cases x.dst<;>simp [Act.put]
 ·rw [<-hs.df];cases x.dst<;>rfl
 ·exact hs.gr.trans (h3.mono fun b _ ho=>by obtain⟨o,d,h,hb⟩:=ho;rw [<-hb];exact hs.fr o d h)
 ·intro o d ho;rcases h4 o d ho with ⟨q,d',hq,hb⟩|h
  ·rw [<-hb];exact hs.fr q d' hq
  exact .inr (dw hs.gr.size h)
 intro o h1 h2 _ _;omega
theorem amh{W:Px}{f:Nat}{args args2:List V}{σ' σ2:Store}{r r2:V}(ha:wJ args args2)(hs:ReS W σ' σ2)(hr:yA W σ' r r2)(ih:RP P ν f args [] r σ'):RP P ν f args2 [] r2 σ2:=by
 intro fid hf w M D vals h1 h2;refine(ih fid hf w M D vals (TV _ _ _ _ _ ha h1) h2).mono ?_;rintro e w' ⟨v,D',rfl,k1,k2,k3,k4,k5⟩;refine⟨v,D'.win W 0,rfl,abJ k2 hs.some _ _ _ hr k1,k2.re hs (eH _),k3,?_,fun o ho=>by simp at ho⟩;intro k d hk;obtain⟨o,s,l,d0,_,e2,rfl⟩:=JD hk;exact k4 o d0 e2
theorem aj1{f:Nat}{args args2:List V}{σ σ':Store}{r r2:V}(ha:wJ args args2)(hr:nG r2 r)(ih:RP P ν f args σ r σ'):RP P ν f args2 σ r2 σ':=by
 intro fid hf w M D vals h1 h2;refine(ih fid hf w M D vals (TV _ _ _ _ _ ha h1) h2).mono ?_;rintro e w' ⟨v,D',rfl,k1,k2⟩;exact⟨v,D',rfl,Vq _ _ _ _ _ hr k1,k2⟩
end
section
variable {σ : Store} {ρ : List Nat}
mutual
theorem mP.gc{g:Nat->Nat}:∀{t v:V} {os:List Nat},mP σ v t os->(∀o∈os,place ρ o=some (g o)/\o∈ρ)->mP (Ij ρ σ) (lS (place ρ) v) t (os.map g)
 |
  .sl sz rows,v,os,h,hg=>by
  simp only [mP]at h ⊢;rcases h with ⟨h1,rfl,rfl⟩|⟨o,rows',os',rfl,h2,rfl,h3⟩
  ·exact .inl ⟨h1,rfl,rfl⟩
  obtain⟨g1,g2⟩:=hg o (by simp);refine .inr ⟨g o,rows'.map fun r=>r.map (lS (place ρ)),os'.map g,by simp only [lS,g1],?_,rfl,tX.gc h3 fun q hq=>hg q (by simp [hq])⟩;rw [MR,sJ g1];simp only [h2,dh];rfl
 |.agg cs,v,os,h,hg=>by simp only [mP]at h ⊢;obtain⟨cs',rfl,h⟩:=h;exact⟨_,rfl,nC.gc h hg⟩
 |.oU cs,v,os,h,hg=>by simp only [mP]at h ⊢;obtain⟨cs',rfl,h⟩:=h;exact⟨_,rfl,nC.gc h hg⟩
 |.any,v,os,h,_=>by simp [mP]at h
 |.one,v,os,h,_=>by simp [mP]at h
 |.int ..,v,os,h,_=>by simp only [mP]at h ⊢;obtain⟨rfl,rfl⟩:=h;exact⟨rfl,rfl⟩
 |.bool _,v,os,h,_=>by simp only [mP]at h ⊢;obtain⟨rfl,rfl⟩:=h;exact⟨rfl,rfl⟩
 |.str _,v,os,h,_=>by simp only [mP]at h ⊢;obtain⟨rfl,rfl⟩:=h;exact⟨rfl,rfl⟩
 |.kC,v,os,h,_=>by simp [mP]at h
 |.lQ ..,v,os,h,_=>by simp [mP]at h
 |.ptr ..,v,os,h,_=>by simp [mP]at h
 |.qw ..,v,os,h,_=>by simp [mP]at h
theorem nC.gc{g:Nat->Nat}:∀{ts vs:List V} {os:List Nat},nC σ vs ts os->(∀o∈os,place ρ o=some (g o)/\o∈ρ)->nC (Ij ρ σ) (lS.IZ (place ρ) vs) ts (os.map g)
 | [],vs,os,h,_=>by simp only [nC]at h ⊢;obtain⟨rfl,rfl⟩:=h;exact⟨rfl,rfl⟩
 |
  t::ts,vs,os,h,hg=>by
  simp only [nC]at h ⊢;obtain⟨v,vs',o1,o2,rfl,rfl,h1,h2⟩:=h;exact⟨_,_,_,_,rfl,by rw [bU],mP.gc h1 fun q hq=>hg q (by simp [hq]),nC.gc h2 fun q hq=>hg q (by simp [hq])⟩
theorem tX.gc{g:Nat->Nat}:∀{ts vs:List (List V)} {os:List Nat},tX σ vs ts os->(∀o∈os,place ρ o=some (g o)/\o∈ρ)->tX (Ij ρ σ) (vs.map fun r=>r.map (lS (place ρ))) ts (os.map g)
 | [],vs,os,h,_=>by simp only [tX]at h ⊢;obtain⟨rfl,rfl⟩:=h;exact⟨rfl,rfl⟩
 |
  t::ts,vs,os,h,hg=>by
  simp only [tX]at h ⊢;obtain⟨v,vs',o1,o2,rfl,rfl,h1,h2⟩:=h;have hm:∀l:List V,lS.IZ (place ρ) l=l.map (lS (place ρ)):=by
   intro l
   induction l with
   |nil=>rfl
   |cons x l ih=>simp only [lS.IZ,bT,ih]
  exact⟨_,_,_,_,rfl,by rw [bU],by rw [show (fun r=>List.map (lS (place ρ)) r) v=lS.IZ (place ρ) v from(hm v).symm];exact nC.gc h1 fun q hq=>hg q (by simp [hq]),tX.gc h2 fun q hq=>hg q (by simp [hq])⟩
end
theorem abS{cs:List V}:ou.xM cs=true↔∀c∈cs,ou c=true:=by
 induction cs with
 |nil=>simp [ou.xM]
 |cons c cs ih=>simp [ou.xM,ih]
mutual
theorem mP.objs:∀{t v:V} {os:List Nat},mP σ v t os->∀o∈os,∃ob,jQ σ o=some ob/\∀r∈ob.rows,∀c∈r,ou c=true
 |
  .sl sz rows,v,os,h=>by
  simp only [mP]at h;rcases h with ⟨_,_,rfl⟩|⟨o,rows',os',_,h2,rfl,h3⟩
  ·intro o ho;cases ho
  intro q hq;rcases aI.1 hq with rfl|hq
  ·exact⟨_,h2,tX.ou h3⟩
  exact tX.objs h3 q hq
 |.agg cs,v,os,h=>by simp only [mP]at h;obtain⟨cs',_,h⟩:=h;exact nC.objs h
 |.oU cs,v,os,h=>by simp only [mP]at h;obtain⟨cs',_,h⟩:=h;exact nC.objs h
 |.any,v,os,h=>by simp [mP]at h
 |.one,v,os,h=>by simp [mP]at h
 |.int ..,v,os,h=>by simp only [mP]at h;rw [h.2];intro o ho;cases ho
 |.bool _,v,os,h=>by simp only [mP]at h;rw [h.2];intro o ho;cases ho
 |.str _,v,os,h=>by simp only [mP]at h;rw [h.2];intro o ho;cases ho
 |.kC,v,os,h=>by simp [mP]at h
 |.lQ ..,v,os,h=>by simp [mP]at h
 |.ptr ..,v,os,h=>by simp [mP]at h
 |.qw ..,v,os,h=>by simp [mP]at h
theorem nC.objs:∀{ts vs:List V} {os:List Nat},nC σ vs ts os->∀o∈os,∃ob,jQ σ o=some ob/\∀r∈ob.rows,∀c∈r,ou c=true
 | [],vs,os,h=>by simp only [nC]at h;rw [h.2];intro o ho;cases ho
 |
  t::ts,vs,os,h=>by
  simp only [nC]at h;obtain⟨v,vs',o1,o2,_,rfl,h1,h2⟩:=h;intro o ho;rcases aK.1 ho with ho|ho
  ·exact mP.objs h1 o ho
  exact nC.objs h2 o ho
theorem tX.objs:∀{ts vs:List (List V)} {os:List Nat},tX σ vs ts os->∀o∈os,∃ob,jQ σ o=some ob/\∀r∈ob.rows,∀c∈r,ou c=true
 | [],vs,os,h=>by simp only [tX]at h;rw [h.2];intro o ho;cases ho
 |
  t::ts,vs,os,h=>by
  simp only [tX]at h;obtain⟨v,vs',o1,o2,_,rfl,h1,h2⟩:=h;intro o ho;rcases aK.1 ho with ho|ho
  ·exact nC.objs h1 o ho
  exact tX.objs h2 o ho
theorem tX.ou:∀{ts vs:List (List V)} {os:List Nat},tX σ vs ts os->∀r∈vs,∀c∈r,Ml.ou c=true
 | [],vs,os,h=>by simp only [tX]at h;rw [h.1];intro r hr;cases hr
 |
  t::ts,vs,os,h=>by
  simp only [tX]at h;obtain⟨v,vs',o1,o2,rfl,_,h1,h2⟩:=h;intro r hr;rcases aI.1 hr with rfl|hr
  ·exact abS.1 (nC.ou h1)
  exact tX.ou h2 r hr
end
def PO(T:Tb)(f:Nat)(args:List V)(t:V):Prop :=
 ∃r σ' os,Run T (.fn f args []) (.fn r σ')/\mP σ' r t os/\os.Nodup/\FP σ'=true
theorem PO.of{T:Tb}{f:Nat}{args:List V}{t r:V}{σ':Store}{os:List Nat}(h:Run T (.fn f args []) (.fn r σ'))(ho:mP σ' r t os)(hn:os.Nodup):PO T f args t:=by
 have hg:∀o∈os,place os o=some ((place os o).getD 0)/\o∈os:=by
  intro o hm;refine⟨?_,hm⟩
  cases hp:place os o with
  |none=>exact absurd hm (Du hp)
  |some j=>rfl
 refine⟨_,_,_,.gcF os hn (fun i hi=>by simp at hi) h,ho.gc hg,?_,?_⟩
 ·refine(iM.2 ?_);refine List.Pairwise.imp_of_mem (fun {a b} ha hb hne e=>hne ?_) hn;have e1:=sJ (hg a ha).1;have e2:=sJ (hg b hb).1;rw [e,e2]at e1;exact(Option.some.inj e1).symm
 simp only [FP,bg];intro x hx;obtain⟨o,hm,rfl⟩:=bF.1 hx;obtain⟨ob,h1,h2⟩:=ho.objs o hm;rw [h1];simp only [dh,rD,bg];intro r hr c hc;obtain⟨r0,hr0,rfl⟩:=bF.1 hr;obtain⟨c0,hc0,rfl⟩:=bF.1 hc;exact Vw _ (h2 r0 hr0 c0 hc0)
theorem PO.XZ{T:Tb}{f:Nat}{args:List V}{t:V}(h:PO T f args t)(hd:oI FD t):PF T f args t:=by
 obtain⟨r,σ',os,h1,h2,_,_⟩:=h;exact .XZ h1 (P9 FD h2 hd)
theorem ami{T:Tb}{f:Nat}{as:List Src}{dst:Option Nat}{env:Nat->V}{σ:Store}{kp bs:Nat}{rs ms:List Nat}{k:St->Prop}{as':List V}{t:V}(h:PO T f as' t)
  (ha:MS env σ as (· = as'))
  (hk:∀r σ2 os,mP σ2 r t os->os.Nodup->(∀o∈os,σ.length<=o)->(∀o,o<σ.length->jQ σ2 o=jQ σ o)->σ.length<=σ2.length->k ⟨oO env dst r,σ2,kp,bs,rs,ms⟩) :
  QW T f as dst ⟨env,σ,kp,bs,rs,ms⟩ k:=by
 obtain⟨r,σ',os,h1,h2,h3,h4⟩:=h;obtain⟨vs,e,rfl⟩:=AY ha;refine⟨_,.own e h1 (R:=[]) (by rw [aQ];simp [h2.ou,h4]),?_⟩;have key:∀o,jQ (zW (nT σ []) σ') (σ.length+o)=(jQ σ' o).map (rD (mV σ.length)):=by
  intro o;show jQ (zW σ σ') _=_;rw [rO,aN (by omega)]
  congr 2;omega
 refine hk _ _ (os.map (σ.length + ·)) (h2.shift key) ?_ ?_ ?_ ?_
 ·exact iM.2 (h3.imp fun hne e=>hne (by omega))
 ·intro o ho;obtain⟨q,_,rfl⟩:=bF.1 ho;omega
 ·intro o ho;show jQ (zW σ σ') _=_;rw [rO,aQ ho]
 simp [zW,nT]
theorem amj{T:Tb}{f:Nat}{as:List Src}{dst:Option Nat}{env:Nat->V}{σ σ':Store}{kp bs:Nat}{rs ms:List Nat}{k:St->Prop}{r:V}
  (h:Run T (.fn f (as.map fun s=>s.ev env) σ) (.fn r σ')) (hl:σ.length<=σ'.length) (hb:σ.length<=bs) (hk:k ⟨oO env dst r,σ',kp,bs,rs,ms⟩):QW T f as dst ⟨env,σ,kp,bs,rs,ms⟩ k :=
 ⟨_,.idn h hl hb,hk⟩
def outW:List O6->List V->St->(V->Store->Prop)->Prop
 | [],acc,st,k=>FK (wu acc.reverse) fun v=>k v st.objs
 |r::rs,acc,st,k=>oZ (r.get st) fun v=>FK v fun v=>outW rs (v::acc) st k
theorem aaN{st:St}{k:V->Store->Prop}:∀(rs:List O6) (acc:List V),outW rs acc st k->oZ (rs.mapM (O6.get st)) fun vs=>k (wu (acc.reverse++vs)) st.objs
 | [],acc,h=>by simpa [oZ,outW,FK]using h
 |
  r::rs,acc,h=>by
  obtain⟨v,e,h⟩:=mO h;have:=aaN rs (v::acc) h;obtain⟨vs,e2,h⟩:=mO this;simp only [bZ,e,e2];simpa [oZ,wr]using h
def endW(rs:List O6)(e:Ex)(k:V->Store->Prop)(st:St):Prop:=match e with
 |.normal=>outW rs [] st k
 |.ret=>outW rs [] st k
 |.exit _=>False
theorem avi(rs:List O6)(k:V->Store->Prop)(st:St):endW rs .normal k st=outW rs [] st k:=nr rfl
theorem avj(rs:List O6)(k:V->Store->Prop)(st:St):endW rs .ret k st=outW rs [] st k:=nr rfl
theorem avk(acc:List V)(st:St)(k:V->Store->Prop):outW [] acc st k=FK (wu acc.reverse) fun v=>k v st.objs:=nr rfl
theorem avl(t:Nat)(rs:List O6)(acc:List V)(st:St)(k:V->Store->Prop):outW (.tmp t::rs) acc st k=FK (st.env t) fun v=>outW rs (v::acc) st k:=nr rfl
theorem aqN(t n:Nat)(rs:List O6)(acc:List V)(st:St)(k:V->Store->Prop):outW (.cell t n false::rs) acc st k=oZ (rowAt st.objs (st.env t)) fun p=>oZ p.1[p.2]? fun v=>FK v fun v=>outW rs (v::acc) st k:=by
 simp only [outW,O6.get]
 cases rowAt st.objs (st.env t)<;>rfl
theorem aqO(t n:Nat)(rs:List O6)(acc:List V)(st:St)(k:V->Store->Prop):outW (.cell t n true::rs) acc st k=oZ (rowAt st.objs (st.env t)) fun p=>if p.2+n<=p.1.length then FK (.agg ((p.1.drop p.2).take n)) fun v=>outW rs (v::acc) st k else False:=by
 simp only [outW,O6.get]
 cases e:rowAt st.objs (st.env t)with
 |none=>rfl
 |
  some p =>
  by_cases h:p.2+n<=p.1.length
  ·simp only [oZ,if_true,FK,rM,aQ h]
  simp only [oZ,if_true,FK,rM,aN h]
theorem run_end{T:Tb}{f:Nat}{F:Fn}{args:List V}{σ:Store}{k:V->Store->Prop}(rf:Nat->Nat->Bool)(hT:T f=some F)
  (h:wp T rf F.body (fun e st=>endW F.res e k st) (St.enter args σ)) (hl:args.length=F.nargs:=by rfl) (hk:F.body.okC=true:=by rfl):∃r σ',Run T (.fn f args σ) (.fn r σ')/\k r σ':=by
 obtain⟨e,st',h1,h2⟩:=BN hk h;have h3:(e=.normal\/e=.ret)/\outW F.res [] st' k:=by
  cases e with
  |normal=>exact⟨.inl rfl,h2⟩
  |ret=>exact⟨.inr rfl,h2⟩
  |exit id=>exact h2.elim
 obtain⟨he,h3⟩:=h3;obtain⟨rs,e1,h4⟩:=mO (aaN _ _ h3);exact⟨_,_,.fn hT hl h1 he e1,h4⟩
end
section
variable {σ : Store}
theorem nC.len:∀{ts vs:List V} {os:List Nat},nC σ vs ts os->vs.length=ts.length
 | [],vs,os,h=>by simp only [nC]at h;simp [h.1]
 |
  t::ts,vs,os,h=>by
  simp only [nC]at h;obtain⟨v,vs',o1,o2,rfl,_,_,h2⟩:=h;simp [nC.len h2]
theorem nC.focus:∀{ts vs:List V} {os:List Nat} (c:Nat) (t:V),nC σ vs ts os->os.Nodup->ts[c]? = some t ->
  ∃
   vc oc,vs[c]? = some vc/\mP σ vc t oc/\oc.Nodup/\(∀q∈oc,q∈os) /\
   ∀σ' vc' tc',mP σ' vc' tc' oc->(∀q∈os,q∉oc->jQ σ' q=jQ σ q)->nC σ' (vs.set c vc') (ts.set c tc') os
 | [],vs,os,c,t,_,_,hc=>by simp at hc
 |
  x::ts,vs,os,0,t,h,hn,hc=>by
  simp only [nC]at h;obtain⟨v,vs',o1,o2,rfl,rfl,h1,h2⟩:=h;simp at hc;subst hc;rw [bf]at hn;refine⟨v,o1,rfl,h1,hn.1,fun q hq=>by simp [hq],fun σ' vc' tc' hv hf=>?_⟩;simp only [jR,nC];exact⟨vc',vs',o1,o2,rfl,rfl,hv,h2.frame fun q hq=>hf q (by simp [hq]) fun h=>hn.2.2 q h q hq rfl⟩
 |
  x::ts,vs,os,c+1,t,h,hn,hc=>by
  simp only [nC]at h;obtain⟨v,vs',o1,o2,rfl,rfl,h1,h2⟩:=h;rw [bf]at hn;obtain⟨vc,oc,k1,k2,k3,k4,k5⟩:=nC.focus c t h2 hn.2.1 (by simpa using hc);refine⟨vc,oc,by simpa using k1,k2,k3,fun q hq=>by simp [k4 q hq],fun σ' vc' tc' hv hf=>?_⟩;simp only [List.set_cons_succ,nC];exact⟨v,_,o1,o2,rfl,rfl,h1.frame fun q hq=>hf q (by simp [hq]) fun h=>hn.2.2 q hq q (k4 q h) rfl,k5 σ' vc' tc' hv fun q hq hnq=>hf q (by simp [hq]) hnq⟩
theorem tX.focus:∀{ts vs:List (List V)} {os:List Nat} (c:Nat) (t:List V),tX σ vs ts os->os.Nodup->ts[c]? = some t ->
  ∃
   vc oc,vs[c]? = some vc/\nC σ vc t oc/\oc.Nodup/\(∀q∈oc,q∈os) /\
   ∀σ' vc' tc',nC σ' vc' tc' oc->(∀q∈os,q∉oc->jQ σ' q=jQ σ q)->tX σ' (vs.set c vc') (ts.set c tc') os
 | [],vs,os,c,t,_,_,hc=>by simp at hc
 |
  x::ts,vs,os,0,t,h,hn,hc=>by
  simp only [tX]at h;obtain⟨v,vs',o1,o2,rfl,rfl,h1,h2⟩:=h;simp at hc;subst hc;rw [bf]at hn;refine⟨v,o1,rfl,h1,hn.1,fun q hq=>by simp [hq],fun σ' vc' tc' hv hf=>?_⟩;simp only [jR,tX];exact⟨vc',vs',o1,o2,rfl,rfl,hv,h2.frame fun q hq=>hf q (by simp [hq]) fun h=>hn.2.2 q h q hq rfl⟩
 |
  x::ts,vs,os,c+1,t,h,hn,hc=>by
  simp only [tX]at h;obtain⟨v,vs',o1,o2,rfl,rfl,h1,h2⟩:=h;rw [bf]at hn;obtain⟨vc,oc,k1,k2,k3,k4,k5⟩:=tX.focus c t h2 hn.2.1 (by simpa using hc);refine⟨vc,oc,by simpa using k1,k2,k3,fun q hq=>by simp [k4 q hq],fun σ' vc' tc' hv hf=>?_⟩;simp only [List.set_cons_succ,tX];exact⟨v,_,o1,o2,rfl,rfl,h1.frame fun q hq=>hf q (by simp [hq]) fun h=>hn.2.2 q hq q (k4 q h) rfl,k5 σ' vc' tc' hv fun q hq hnq=>hf q (by simp [hq]) hnq⟩
theorem mP.focus{v:V}{sz:Nat}{rows:List (List V)}{os:List Nat}{i c:Nat}{row:List V}{t:V}(h:mP σ v (.sl sz rows) os)(hn:os.Nodup)(hi:rows[i]? = some row)(hc:row[c]? = some t) :
  ∃
   o rows' row' vc oc,v=.lQ o 0 rows.length/\jQ σ o=some ⟨sz,rows'⟩/\rows'.length=rows.length/\rows'[i]? = some row'/\row'.length=row.length/\row'[c]? = some vc/\mP σ vc t oc/\oc.Nodup/\(∀q∈oc,q∈os)/\o∈os/\o∉oc /\
   (∀σ' tc',mP σ' vc tc' oc->(∀q∈os,q∉oc->jQ σ' q=jQ σ q)->mP σ' v (.sl sz (rows.set i (row.set c tc'))) os) /\
   (∀x,oc=[]->(x.leaf=true)->(∃k n,x=.int k n)\/(∃b,x=.bool b)->mP (σ.set o (some ⟨sz,rows'.set i (row'.set c x)⟩)) v (.sl sz (rows.set i (row.set c x))) os):=by
 simp only [mP]at h;rcases h with ⟨rfl,_,_⟩|⟨o,rows',os',rfl,h2,rfl,h3⟩
 ·simp at hi
 rw [eU]at hn;obtain⟨row',oi,k1,k2,k3,k4,k5⟩:=h3.focus i row hn.2 hi;obtain⟨vc,oc,j1,j2,j3,j4,j5⟩:=k2.focus c t k3 hc;have hno:o∉oc:=fun h=>hn.1 (k4 o (j4 o h));have hset:rows'.set i (row'.set c vc)=rows':=by
  have:row'.set c vc=row':=by
   apply fV
   intro n;rw [fH];split
   ·subst_vars
    split
    ·exact j1.symm
    rename_i hlt;rw [bC (by omega)]
   rfl
  rw [this]
  apply fV
  intro n;rw [fH];split
  ·subst_vars
   split
   ·exact k1.symm
   rename_i hlt;rw [bC (by omega)]
  rfl
 refine⟨o,rows',row',vc,oc,rfl,h2,h3.len,k1,k2.len,j1,j2,j3,fun q hq=>by simp [k4 q (j4 q hq)],by simp,hno,?_,?_⟩
 ·intro σ' tc' hv hf;simp only [mP];refine .inr ⟨o,rows',os',by simp,by rw [hf o (by simp) hno];exact h2,rfl,?_⟩;have h6:=j5 σ' vc tc' hv fun q hq hnq=>hf q (by simp [k4 q hq]) hnq;have h7:=k5 σ' _ _ h6 fun q hq hnq=>hf q (by simp [hq]) fun h=>hnq (j4 q h)
  rwa [hset]at h7
 intro x hoc hl hx;have hlt:=lH h2;have hf:∀q,q≠o->jQ (σ.set o (some ⟨sz,rows'.set i (row'.set c x)⟩)) q=jQ σ q:=fun q hq=>by
  rw [vg hlt,aN (fun e=>hq e.symm)]
 simp only [mP];refine .inr ⟨o,rows'.set i (row'.set c x),os',by simp,by rw [vg hlt,aQ rfl],rfl,?_⟩;have hno':∀q∈os',q≠o:=fun q hq e=>hn.1 (e▸hq);have hx':mP (σ.set o (some ⟨sz,rows'.set i (row'.set c x)⟩)) x x oc:=by
  rw [hoc];rcases hx with ⟨k,n,rfl⟩|⟨b,rfl⟩<;>simp [mP]
 have h6:=j5 (σ.set o (some ⟨sz,rows'.set i (row'.set c x)⟩)) x x hx' fun q hq _=>hf q (hno' q (k4 q hq));exact k5 _ _ _ h6 fun q hq _=>hf q (hno' q hq)
def Yr(σ:Store)(vs ts:List V):Prop:=∃os,nC σ vs ts os/\os.Nodup
theorem nD:∀{ts vs ts' vs':List V} {os os':List Nat},nC σ vs ts os->nC σ vs' ts' os'->nC σ (vs++vs') (ts++ts') (os++os')
 | [],vs,ts',vs',os,os',h,h'=>by simp only [nC]at h;obtain⟨rfl,rfl⟩:=h;simpa using h'
 |
  t::ts,vs,ts',vs',os,os',h,h'=>by
  simp only [nC]at h;obtain⟨v,vs1,o1,o2,rfl,rfl,h1,h2⟩:=h;simp only [dI,nC];exact⟨v,vs1++vs',o1,o2++os',rfl,by simp,h1,nD h2 h'⟩
theorem Yr.push{σ2:Store}{vs ts:List V}{r t:V}{os:List Nat}(h:Yr σ vs ts)(h1:mP σ2 r t os)(h2:os.Nodup)(h3:∀o∈os,σ.length<=o)(h4:∀o,o<σ.length->jQ σ2 o=jQ σ o) :
  Yr σ2 (vs++[r]) (ts++[t]):=by
 obtain⟨os0,k1,k2⟩:=h;refine⟨os0++os,nD (k1.frame fun o ho=>h4 o (nC.lt k1 o ho)) ?_,?_⟩
 ·simp only [nC];exact⟨r,[],os,[],rfl,by simp,h1,rfl,rfl⟩
 rw [bf];refine⟨k2,h2,fun a ha b hb e=>?_⟩;have:=nC.lt k1 a ha;have:=h3 b hb;omega
theorem Yr.frame{σ2:Store}{vs ts:List V}(h:Yr σ vs ts)(h4:∀o,o<σ.length->jQ σ2 o=jQ σ o):Yr σ2 vs ts:=by
 obtain⟨os0,k1,k2⟩:=h;exact⟨os0,k1.frame fun o ho=>h4 o (nC.lt k1 o ho),k2⟩
theorem Yr.res{vs ts:List V}(h:Yr σ vs ts){i:Nat}{v t:V}(hv:vs[i]? = some v)(ht:ts[i]? = some t)(hd:oI FD t):resolve σ FD v=some t:=by
 obtain⟨os,k1,k2⟩:=h;obtain⟨vc,oc,j1,j2,_⟩:=k1.focus i t k2 ht;rw [hv]at j1
 cases j1
 exact P9 FD j2 hd
def Mk(T:Tb)(f:Nat)(t:V)(k:Int)(t':V)(k':Int):Prop :=
 ∀σ v os,mP σ v t os->os.Nodup->∃σ',Run T (.fn f [v,.int .i64 k] σ) (.fn (.int .i64 k') σ')/\mP σ' v t' os/\(∀o,o<σ.length->o∉os->jQ σ' o=jQ σ o)/\σ.length<=σ'.length
end
theorem EVw:(∀(rs:List O6) (k:V->Store->Prop) (st:St),endW rs .normal k st=outW rs [] st k)/\(∀(rs:List O6) (k:V->Store->Prop) (st:St),endW rs .ret k st=outW rs [] st k) /\
  (∀(acc:List V) (st:St) (k:V->Store->Prop),outW [] acc st k=FK (wu acc.reverse) fun v=>k v st.objs) /\
  (∀(t:Nat) (rs:List O6) (acc:List V) (st:St) (k:V->Store->Prop),outW (.tmp t::rs) acc st k=FK (st.env t) fun v=>outW rs (v::acc) st k) /\
  (∀(t n:Nat) (rs:List O6) (acc:List V) (st:St) (k:V->Store->Prop),outW (.cell t n false::rs) acc st k=oZ (rowAt st.objs (st.env t)) fun p=>oZ p.1[p.2]? fun v=>FK v fun v=>outW rs (v::acc) st k) /\
  (∀(t n:Nat) (rs:List O6) (acc:List V) (st:St) (k:V->Store->Prop),outW (.cell t n true::rs) acc st k=oZ (rowAt st.objs (st.env t)) fun p=>if p.2+n<=p.1.length then FK (.agg ((p.1.drop p.2).take n)) fun v=>outW rs (v::acc) st k else False) :=
 ⟨avi,avj,avk,avl,aqN,aqO⟩
theorem rP(σ:Store)(a:Option Obj):jQ (σ++[a]) σ.length=a:=by simp [jQ]
theorem abT(σ:Store)(o:Nat):jQ (σ++[none]) o=jQ σ o:=by
 unfold jQ;rcases Nat.lt_trichotomy o σ.length with h|h|h
 ·rw [bK h]
 ·subst h;simp
 rw [bC (by simp;omega),bC (by omega)]
theorem kV{σ:Store}{a:Option Obj}{o:Nat}(h:o<σ.length):jQ (σ++[a]) o=jQ σ o:=by
 unfold jQ;rw [bK h]
theorem Yt(σ:Store)(a b:Option Obj):(σ++[a]).set σ.length b=σ++[b]:=by
 rw [List.set_append_right _ _ (aJ _)];simp
theorem ad2{σ:Store}{a b:Option Obj}{o:Nat}(h:o<σ.length):(σ++[a]).set o b=σ.set o b++[a]:=List.set_append_left _ _ h
theorem kY{σ:Store}{o:Nat}{x:Option Obj}(h:o<σ.length):jQ (σ.set o x) o=x:=by
 rw [vg h,aQ rfl]
theorem kN{σ:Store}{o p:Nat}{x:Option Obj}(h:o≠p):jQ (σ.set p x) o=jQ σ o:=by
 unfold jQ;rw [fH,aN (fun e=>h e.symm)]
theorem amk(σ:Store)(k:Store->Prop):Vo σ k=k σ:=nr rfl
theorem Sj:(∀(σ:Store) (k:Store->Prop),Vo σ k=k σ)/\(∀(σ:Store) (a:Option Obj),jQ (σ++[a]) σ.length=a)/\(∀(σ:Store) (o:Nat),jQ (σ++[none]) o=jQ σ o) /\
  (∀{σ:Store} {a:Option Obj} {o:Nat},o<σ.length->jQ (σ++[a]) o=jQ σ o)/\(∀(σ:Store) (a b:Option Obj),(σ++[a]).set σ.length b=σ++[b]) /\
  (∀{σ:Store} {a b:Option Obj} {o:Nat},o<σ.length->(σ++[a]).set o b=σ.set o b++[a])/\(∀{σ:Store} {o:Nat} {x:Option Obj},o<σ.length->jQ (σ.set o x) o=x) /\
  (∀{σ:Store} {o p:Nat} {x:Option Obj},o≠p->jQ (σ.set p x) o=jQ σ o)/\(∀(σ:Store) (a:Option Obj),(σ++[a]).length=σ.length+1)/\(∀(σ:Store) (o:Nat) (x:Option Obj),(σ.set o x).length=σ.length) :=
 ⟨amk,rP,abT,fun h=>kV h,Yt,fun h=>ad2 h,fun h=>kY h,fun h=>kN h,fun σ a=>by simp,fun σ o x=>by simp⟩
structure Got (σ σ2:Store) (r t:V) (os:List Nat):Prop where
 ow:mP σ2 r t os
 nd:os.Nodup
 fresh:∀o∈os,σ.length<=o
 old:∀o,o<σ.length->jQ σ2 o=jQ σ o
 len:σ.length<=σ2.length
theorem nH{T:Tb}{f:Nat}{as:List Src}{dst:Option Nat}{env:Nat->V}{σ:Store}{kp bs:Nat}{rs ms:List Nat}{k:St->Prop}{as':List V}{t:V}(h:PO T f as' t)
  (ha:MS env σ as (· = as')) (hk:∀r σ2 os,Got σ σ2 r t os->k ⟨oO env dst r,σ2,kp,bs,rs,ms⟩):QW T f as dst ⟨env,σ,kp,bs,rs,ms⟩ k :=
 ami h ha fun r σ2 os h1 h2 h3 h4 h5=>hk r σ2 os ⟨h1,h2,h3,h4,h5⟩
theorem ad3{T:Tb}{f:Nat}{as:List Src}{dst:Option Nat}{env:Nat->V}{σ:Store}{kp bs:Nat}{rs ms:List Nat}{k:List Nat->List Nat->Bool->St->Prop}{as':List V}{t:V}(h:PO T f as' t)
  (ha:MS env σ as (· = as')) (hk:∀r σ2 os,Got σ σ2 r t os->k (nY env σ as) [] true ⟨oO env dst r,σ2,kp,bs,rs,ms⟩):ZT T f as dst ⟨env,σ,kp,bs,rs,ms⟩ k:=by
 obtain⟨r,σ',os,h1,h2,h3,h4⟩:=h;obtain⟨vs,e,rfl⟩:=AY ha;refine .inl ⟨_,r,σ',e,h1,by simp [h2.ou,h4],?_⟩;have key:∀o,jQ (zW σ σ') (σ.length+o)=(jQ σ' o).map (rD (mV σ.length)):=by
  intro o;rw [rO,aN (by omega)]
  congr 2;omega
 refine hk _ _ (os.map (σ.length + ·)) ⟨h2.shift key,?_,?_,?_,?_⟩
 ·exact iM.2 (h3.imp fun hne e=>hne (by omega))
 ·intro o ho;obtain⟨q,_,rfl⟩:=bF.1 ho;omega
 ·intro o ho;rw [rO,aQ ho]
 simp [zW]
theorem Yr.got{σ σ2:Store}{vs ts:List V}{r t:V}{os:List Nat}(h:Yr σ vs ts)(g:Got σ σ2 r t os):Yr σ2 (vs++[r]) (ts++[t]):=h.push g.ow g.nd g.fresh g.old
theorem KI{σ:Store}{q:IntKind}{n:Int}{vs ts:List V}{os:List Nat}(h:nC σ vs ts os):nC σ (.int q n::vs) (.int q n::ts) os:=by
 simp only [nC];exact⟨_,vs,[],os,rfl,rfl,by simp [mP],h⟩
theorem qV{σ:Store}{b:Bool}{vs ts:List V}{os:List Nat}(h:nC σ vs ts os):nC σ (.bool b::vs) (.bool b::ts) os:=by
 simp only [nC];exact⟨_,vs,[],os,rfl,rfl,by simp [mP],h⟩
theorem qQ{σ:Store}{v t:V}{vs ts:List V}{o1 o2:List Nat}(h1:mP σ v t o1)(h:nC σ vs ts o2):nC σ (v::vs) (t::ts) (o1++o2):=by
 simp only [nC];exact⟨v,vs,o1,o2,rfl,rfl,h1,h⟩
theorem qm{σ:Store}:nC σ [] [] []:=by simp [nC]
theorem ru{σ:Store}{cs ts:List V}{os:List Nat}(h:nC σ cs ts os):mP σ (.agg cs) (.agg ts) os:=by simp only [mP];exact⟨cs,rfl,h⟩
theorem I7{σ:Store}{cs ts:List V}{os:List Nat}(h:nC σ cs ts os):mP σ (.oU cs) (.oU ts) os:=by simp only [mP];exact⟨cs,rfl,h⟩
theorem Ud{σ:Store}{o:Nat}{l:List Int}(h:jQ σ o=some ⟨1,kU l⟩):mP σ (.lQ o 0 l.length) (ints l) [o]:=by
 simp only [mP];refine .inr ⟨o,kU l,[],by rw [vK],h,rfl,?_⟩;have:∀(l:List Int),tX σ (kU l) (kU l) []:=by
  intro l
  induction l with
  |nil=>simp [kU,tX]
  |cons x l ih=>simp only [Yq,tX];exact⟨_,_,[],[],rfl,rfl,KI qm,ih⟩
 exact this _
theorem nP{σ:Store}:mP σ (.sl 1 []) (ints []) []:=by simp [mP,kU]
theorem mP.yZ{σ:Store}{v:V}{l:List Int}{os:List Nat}(h:mP σ v (ints l) os):(l=[]/\v=.sl 1 []/\os=[])\/∃o,v=.lQ o 0 l.length/\jQ σ o=some ⟨1,kU l⟩/\os=[o]:=by
 simp only [mP]at h;rcases h with ⟨h1,h2,h3⟩|⟨o,rows',os',h1,h2,h3,h4⟩
 ·left;exact⟨by simpa [kU]using h1,h2,h3⟩
 right;have key:∀(l:List Int) (rows':List (List V)) (os':List Nat),tX σ rows' (kU l) os'->rows'=kU l/\os'=[]:=by
  intro l
  induction l with
  |nil=>intro rows' os' h;simp only [aj0,tX]at h;exact h
  |
   cons x l ih =>
   intro rows' os' h;simp only [Yq,tX]at h;obtain⟨v,vs',o1,o2,rfl,rfl,h1,h2⟩:=h;obtain⟨rfl,rfl⟩:=ih _ _ h2;simp only [nC,mP]at h1;obtain⟨v1,vs1,a1,a2,rfl,rfl,⟨rfl,rfl⟩,rfl,rfl⟩:=h1;exact⟨rfl,rfl⟩
 obtain⟨rfl,rfl⟩:=key l rows' os' h4;exact⟨o,by rw [h1,vK],h2,h3⟩
structure Fr (os:List Nat) (σ σ':Store):Prop where
 old:∀o,o<σ.length->o∉os->jQ σ' o=jQ σ o
 len:σ.length<=σ'.length
theorem Fr.refl(os:List Nat)(σ:Store):Fr os σ σ:=⟨fun _ _ _=>rfl,aJ _⟩
theorem Fr.trans{os:List Nat}{a b c:Store}(h:Fr os a b)(k:Fr os b c):Fr os a c:=⟨fun o hl ho=>(k.old o (bD hl h.len) ho).trans (h.old o hl ho),dw h.len k.len⟩
theorem Fr.mono{os os':List Nat}{a b:Store}(h:Fr os a b)(hs:∀o∈os,o∈os'):Fr os' a b:=⟨fun o hl ho=>h.old o hl fun k=>ho (hs o k),h.len⟩
def Fin(σ:Store)(r t:V):Prop:=∃r' os,nG r' r/\mP σ r' t os/\os.Nodup
theorem xg{σ:Store}{r t:V}{os:List Nat}(h:mP σ r t os)(hn:os.Nodup):Fin σ r t:=⟨r,os,kR _,h,hn⟩
theorem qF{σ:Store}{sz:Nat}:Fin σ .kC (.sl sz []):=⟨.sl sz [],[],by simp [nG],by simp [mP],.nil⟩
theorem Yu{σ:Store}{o:Nat}{l:List Int}(h:jQ σ o=some ⟨1,kU l⟩):Fin σ (.lQ o 0 l.length) (ints l):=xg (Ud h) (by simp)
theorem aj3{σ:Store}{l:List Int}(h:kU l=[]):Fin σ .kC (ints l):=by
 have:l=[]:=NU.1 h;subst this;exact qF
theorem mM{T:Tb}{f:Nat}{F:Fn}{args:List V}{t:V}(rf:Nat->Nat->Bool)(hT:T f=some F)
  (h:wp T rf F.body (fun e st=>endW F.res e (fun r σ=>Fin σ r t) st) (St.enter args [])) (hl:args.length=F.nargs:=by rfl) (hk:F.body.okC=true:=by rfl):PO T f args t:=by
 obtain⟨r,σ',h1,r',os,h2,h3,h4⟩:=run_end rf hT h hl hk;exact .of (.abt (zi _) h1 h2) h3 h4
theorem Yv{v:V}(h:v.leaf=true)(k:List V->Prop):tZ v k=k [v]:=by
 cases v<;>first|rfl|(simp [V.leaf]at h)
theorem Got.lf{σ σ2:Store}{r t:V}{os:List Nat}(g:Got σ σ2 r t os)(h:t.leaf=true)(k:List V->Prop):tZ r k=k [r]:=Yv (g.ow.leaf h) k
theorem Got.at{σ σ2:Store}{r t:V}{os:List Nat}(g:Got σ σ2 r t os)(o:Nat){x:Option Obj}(h:o<σ.length)(hx:jQ σ o=x):jQ σ2 o=x:=(g.old o h).trans hx
theorem EVl:V.leaf .one=true/\(∀k n,V.leaf (.int k n)=true)/\(∀b,V.leaf (.bool b)=true)/\(∀b,V.leaf (.str b)=true)/\V.leaf .kC=true/\(∀a b,V.leaf (.sl a b)=true)/\(∀a b c,V.leaf (.lQ a b c)=true) /\
  (∀a b c,V.leaf (.ptr a b c)=true)/\(∀a b,V.leaf (.qw a b)=true)/\(∀a,V.leaf (.agg a)=false)/\(∀a,V.leaf (.oU a)=false)/\V.leaf .any=false :=
 ⟨rfl,fun _ _=>rfl,fun _=>rfl,fun _=>rfl,rfl,fun _ _=>rfl,fun _ _ _=>rfl,fun _ _ _=>rfl,fun _ _=>rfl,fun _=>rfl,fun _=>rfl,rfl⟩
theorem Got.lfb{σ σ2:Store}{r t:V}{os:List Nat}(g:Got σ σ2 r t os)(h:t.leaf=true):r.leaf=true:=g.ow.leaf h
theorem mP.lU{σ:Store}{r:V}{ts:List V}{os:List Nat}(h:mP σ r (.agg ts) os):∃cs,r=.agg cs/\nC σ cs ts os:=by simpa only [mP]using h
theorem mP.ah7{σ:Store}{r:V}{ts:List V}{os:List Nat}(h:mP σ r (.oU ts) os):∃cs,r=.oU cs/\nC σ cs ts os:=by simpa only [mP]using h
theorem nC.abU{σ:Store}{vs ts:List V}{q:IntKind}{n:Int}{os:List Nat}(h:nC σ vs (.int q n::ts) os):∃vs',vs=.int q n::vs'/\nC σ vs' ts os:=by
 simp only [nC,mP]at h;obtain⟨v,vs',o1,o2,rfl,rfl,⟨rfl,rfl⟩,h⟩:=h;exact⟨vs',rfl,h⟩
theorem nC.xQ{σ:Store}{vs ts:List V}{b:Bool}{os:List Nat}(h:nC σ vs (.bool b::ts) os):∃vs',vs=.bool b::vs'/\nC σ vs' ts os:=by
 simp only [nC,mP]at h;obtain⟨v,vs',o1,o2,rfl,rfl,⟨rfl,rfl⟩,h⟩:=h;exact⟨vs',rfl,h⟩
theorem nC.inv{σ:Store}{vs ts:List V}{t:V}{os:List Nat}(h:nC σ vs (t::ts) os):∃v vs' o1 o2,vs=v::vs'/\os=o1++o2/\mP σ v t o1/\nC σ vs' ts o2:=by
 simpa only [nC]using h
theorem nC.Ec{σ:Store}{vs:List V}{os:List Nat}(h:nC σ vs [] os):vs=[]/\os=[]:=by simpa only [nC]using h
theorem nC.leaf:∀{σ:Store} {ts vs:List V} {os:List Nat},nC σ vs ts os->ts.all V.leaf=true->vs.all V.leaf=true
 |_,[],vs,os,h,_=>by obtain⟨rfl,_⟩:=h.Ec;rfl
 |
  σ,t::ts,vs,os,h,hl=>by
  obtain⟨v,vs',o1,o2,rfl,rfl,h1,h2⟩:=h.inv;simp only [dD,aH]at hl ⊢;exact⟨h1.leaf hl.1,h2.leaf hl.2⟩
theorem Nb{cs:List V}(h:cs.all V.leaf=true)(k:List V->Prop):tZ (.agg cs) k=k cs:=by
 unfold tZ;simp only [V.cells?];rw [aQ h];rfl
theorem mP.avm{σ:Store}{v:V}{n:Bool}{l:List Int}{os:List Nat}(h:mP σ v (.agg [.bool n,ints l]) os):∃v1,v=.agg [.bool n,v1]/\mP σ v1 (ints l) os:=by
 obtain⟨cs,rfl,a⟩:=h.lU;obtain⟨cs,rfl,b⟩:=a.xQ;obtain⟨v1,cs,o1,o2,rfl,rfl,c,d⟩:=b.inv;obtain⟨rfl,rfl⟩:=d.Ec;exact⟨v1,rfl,by simpa using c⟩
theorem mP.Xp{σ:Store}{v:V}{n:Bool}{l m:List Int}{os:List Nat}(h:mP σ v (.agg [.bool n,ints l,ints m]) os) :
  ∃v1 v2 o1 o2,v=.agg [.bool n,v1,v2]/\os=o1++o2/\mP σ v1 (ints l) o1/\mP σ v2 (ints m) o2:=by
 obtain⟨cs,rfl,a⟩:=h.lU;obtain⟨cs,rfl,b⟩:=a.xQ;obtain⟨v1,cs,o1,o2,rfl,rfl,c,d⟩:=b.inv;obtain⟨v2,cs,o3,o4,rfl,rfl,e,f⟩:=d.inv;obtain⟨rfl,rfl⟩:=f.Ec;exact⟨v1,v2,o1,o3,rfl,by simp,c,e⟩
structure Ow (n:Nat) (σ:Store) (vs ts:List V):Prop where
 ex:∃os,nC σ vs ts os/\os.Nodup/\∀o∈os,n<=o
theorem avn{n:Nat}{σ:Store}:Ow n σ [] []:=⟨[],qm,.nil,by simp⟩
theorem Ow.set{n:Nat}{σ:Store}{vs ts:List V}(h:Ow n σ vs ts){o:Nat}{x:Option Obj}(ho:o<n):Ow n (σ.set o x) vs ts:=by
 obtain⟨os,a,b,c⟩:=h.ex;exact⟨os,a.frame fun q hq=>kN (by have:=c q hq;omega),b,c⟩
theorem Ow.snoc{n:Nat}{σ:Store}{vs ts:List V}(h:Ow n σ vs ts){x:Option Obj}:Ow n (σ++[x]) vs ts:=by
 obtain⟨os,a,b,c⟩:=h.ex;exact⟨os,a.frame fun q hq=>kV (a.lt q hq),b,c⟩
theorem Ow.got{n:Nat}{σ σ2:Store}{vs ts:List V}{r t:V}{os:List Nat}(h:Ow n σ vs ts)(g:Got σ σ2 r t os)(hn:n<=σ.length):Ow n σ2 (vs++[r]) (ts++[t]):=by
 obtain⟨os0,a,b,c⟩:=h.ex;refine⟨os0++os,nD (a.frame fun o ho=>g.old o (a.lt o ho)) ?_,?_,fun o ho=>?_⟩
 ·simpa using qQ g.ow qm
 ·rw [bf];refine⟨b,g.nd,fun x hx y hy e=>?_⟩;have:=a.lt x hx;have:=g.fresh y hy;omega
 rcases aK.1 ho with ho|ho
 ·exact c o ho
 have:=g.fresh o ho;omega
theorem Ow.int{n:Nat}{σ:Store}{vs ts:List V}(h:Ow n σ vs ts)(q:IntKind)(k:Int):Ow n σ (vs++[.int q k]) (ts++[.int q k]):=by
 obtain⟨os0,a,b,c⟩:=h.ex;exact⟨os0,by simpa using nD a (KI (q:=q) (n:=k) qm),b,c⟩
theorem Ow.bool{n:Nat}{σ:Store}{vs ts:List V}(h:Ow n σ vs ts)(k:Bool):Ow n σ (vs++[.bool k]) (ts++[.bool k]):=by
 obtain⟨os0,a,b,c⟩:=h.ex;exact⟨os0,by simpa using nD a (qV (b:=k) qm),b,c⟩
theorem pV:∀{σ:Store} {ts ts' vs:List V} {os:List Nat},nC σ vs (ts++ts') os->∃v1 v2 o1 o2,vs=v1++v2/\os=o1++o2/\nC σ v1 ts o1/\nC σ v2 ts' o2
 |σ,[],ts',vs,os,h=>⟨[],vs,[],os,rfl,rfl,qm,h⟩
 |
  σ,t::ts,ts',vs,os,h=>by
  obtain⟨v,vs',o1,o2,rfl,rfl,h1,h2⟩:=nC.inv h;obtain⟨a,b,c,d,rfl,rfl,h3,h4⟩:=pV h2;exact⟨v::a,b,o1++c,d,rfl,by simp,qQ h1 h3,h4⟩
theorem Ow.fin{n:Nat}{σ:Store}{vs ts:List V}(h:Ow n σ vs ts):Fin σ (.agg vs) (.agg ts):=by
 obtain⟨os0,a,b,c⟩:=h.ex;exact xg (ru a) b
theorem Dx:∀{σ:Store} {ts vs ts' vs':List (List V)} {os os':List Nat},tX σ vs ts os->tX σ vs' ts' os'->tX σ (vs++vs') (ts++ts') (os++os')
 |σ,[],vs,ts',vs',os,os',h,h'=>by simp only [tX]at h;obtain⟨rfl,rfl⟩:=h;simpa using h'
 |
  σ,t::ts,vs,ts',vs',os,os',h,h'=>by
  simp only [tX]at h;obtain⟨v,vs1,o1,o2,rfl,rfl,h1,h2⟩:=h;simp only [dI,tX];exact⟨v,vs1++vs',o1,o2++os',rfl,by simp,h1,Dx h2 h'⟩
theorem aaO{σ:Store}{v t:List V}{os:List Nat}(h:nC σ v t os):tX σ [v] [t] os:=by
 simp only [tX];exact⟨v,[],os,[],rfl,by simp,h,rfl,rfl⟩
structure ad4 (n:Nat) (σ:Store) (vs ts:List (List V)):Prop where
 ex:∃os,tX σ vs ts os/\os.Nodup/\∀o∈os,n<=o
theorem ad4.set{n:Nat}{σ:Store}{vs ts:List (List V)}(h:ad4 n σ vs ts){o:Nat}{x:Option Obj}(ho:o<n):ad4 n (σ.set o x) vs ts:=by
 obtain⟨os,a,b,c⟩:=h.ex;exact⟨os,a.frame fun q hq=>kN (by have:=c q hq;omega),b,c⟩
theorem ad4.got{n:Nat}{σ σ2:Store}{vs ts:List (List V)}{cs tcs:List V}{os:List Nat}(h:ad4 n σ vs ts)(g:Got σ σ2 (.agg cs) (.agg tcs) os)(hn:n<=σ.length):ad4 n σ2 (vs++[cs]) (ts++[tcs]):=by
 obtain⟨os0,a,b,c⟩:=h.ex;obtain⟨cs',e,h5⟩:=g.ow.lU
 cases e
 refine⟨os0++os,Dx (a.frame fun o ho=>g.old o (a.lt o ho)) (aaO h5),?_,fun o ho=>?_⟩
 ·rw [bf];refine⟨b,g.nd,fun x hx y hy e=>?_⟩;have:=a.lt x hx;have:=g.fresh y hy;omega
 rcases aK.1 ho with ho|ho
 ·exact c o ho
 have:=g.fresh o ho;omega
theorem ad4.fin{n o sz:Nat}{σ:Store}{vs ts:List (List V)}(h:ad4 n σ vs ts)(ho:jQ σ o=some ⟨sz,vs⟩)(hn:o<n):Fin σ (.lQ o 0 ts.length) (.sl sz ts):=by
 obtain⟨os0,a,b,c⟩:=h.ex;refine xg (os:=o::os0) ?_ (eU.2 ⟨fun k=>by have:=c o k;omega,b⟩);simp only [mP];exact .inr ⟨o,vs,os0,rfl,ho,rfl,a⟩
theorem ew{P Q:Prop}(h:Q)(e:P=Q:=by conv=>lhs;simp (maxSteps:=1000000) (disch:=first|omega|assumption|(simp;done)|(simp;omega)) only [↓EVp,↓EVw,Sj,EVl,EVq,splice,Nat.reduceAdd,Nat.reduceEqDiff,Nat.reduceMul,Nat.reduceLT,Nat.reduceLeDiff,Nat.reduceBEq,reduceIte,MW,NJ,PW,cZ,dQ,fP,fE,iq,reduceCtorEq]):P:=Eq.mpr (e) h
theorem Ae{P Q A1:Prop}(x1:A1)(h:Q)(e:A1->P=Q:=by intro x1;conv=>lhs;simp (maxSteps:=1000000) (disch:=first|omega|assumption|(simp;done)|(simp;omega)) only [↓EVp,↓EVw,Sj,EVl,EVq,splice,Nat.reduceAdd,Nat.reduceEqDiff,Nat.reduceMul,Nat.reduceLT,Nat.reduceLeDiff,Nat.reduceBEq,reduceIte,MW,NJ,PW,cZ,dQ,fP,fE,iq,reduceCtorEq,x1]):P:=Eq.mpr (e x1) h
theorem AZ{P Q A1 A2:Prop}(x1:A1)(x2:A2)(h:Q)(e:A1->A2->P=Q:=by intro x1 x2;conv=>lhs;simp (maxSteps:=1000000) (disch:=first|omega|assumption|(simp;done)|(simp;omega)) only [↓EVp,↓EVw,Sj,EVl,EVq,splice,Nat.reduceAdd,Nat.reduceEqDiff,Nat.reduceMul,Nat.reduceLT,Nat.reduceLeDiff,Nat.reduceBEq,reduceIte,MW,NJ,PW,cZ,dQ,fP,fE,iq,reduceCtorEq,x1,x2]):P:=Eq.mpr (e x1 x2) h
theorem Dy{P Q A1 A2 A3:Prop}(x1:A1)(x2:A2)(x3:A3)(h:Q)(e:A1->A2->A3->P=Q:=by intro x1 x2 x3;conv=>lhs;simp (maxSteps:=1000000) (disch:=first|omega|assumption|(simp;done)|(simp;omega)) only [↓EVp,↓EVw,Sj,EVl,EVq,splice,Nat.reduceAdd,Nat.reduceEqDiff,Nat.reduceMul,Nat.reduceLT,Nat.reduceLeDiff,Nat.reduceBEq,reduceIte,MW,NJ,PW,cZ,dQ,fP,fE,iq,reduceCtorEq,x1,x2,x3]):P:=Eq.mpr (e x1 x2 x3) h
theorem D6{P Q A1 A2 A3 A4:Prop}(x1:A1)(x2:A2)(x3:A3)(x4:A4)(h:Q)(e:A1->A2->A3->A4->P=Q:=by intro x1 x2 x3 x4;conv=>lhs;simp (maxSteps:=1000000) (disch:=first|omega|assumption|(simp;done)|(simp;omega)) only [↓EVp,↓EVw,Sj,EVl,EVq,splice,Nat.reduceAdd,Nat.reduceEqDiff,Nat.reduceMul,Nat.reduceLT,Nat.reduceLeDiff,Nat.reduceBEq,reduceIte,MW,NJ,PW,cZ,dQ,fP,fE,iq,reduceCtorEq,x1,x2,x3,x4]):P:=Eq.mpr (e x1 x2 x3 x4) h
theorem Ku{P Q A1 A2 A3 A4 A5:Prop}(x1:A1)(x2:A2)(x3:A3)(x4:A4)(x5:A5)(h:Q)(e:A1->A2->A3->A4->A5->P=Q:=by intro x1 x2 x3 x4 x5;conv=>lhs;simp (maxSteps:=1000000) (disch:=first|omega|assumption|(simp;done)|(simp;omega)) only [↓EVp,↓EVw,Sj,EVl,EVq,splice,Nat.reduceAdd,Nat.reduceEqDiff,Nat.reduceMul,Nat.reduceLT,Nat.reduceLeDiff,Nat.reduceBEq,reduceIte,MW,NJ,PW,cZ,dQ,fP,fE,iq,reduceCtorEq,x1,x2,x3,x4,x5]):P:=Eq.mpr (e x1 x2 x3 x4 x5) h
theorem D5{P Q A1 A2 A3 A4 A5 A6:Prop}(x1:A1)(x2:A2)(x3:A3)(x4:A4)(x5:A5)(x6:A6)(h:Q)(e:A1->A2->A3->A4->A5->A6->P=Q:=by intro x1 x2 x3 x4 x5 x6;conv=>lhs;simp (maxSteps:=1000000) (disch:=first|omega|assumption|(simp;done)|(simp;omega)) only [↓EVp,↓EVw,Sj,EVl,EVq,splice,Nat.reduceAdd,Nat.reduceEqDiff,Nat.reduceMul,Nat.reduceLT,Nat.reduceLeDiff,Nat.reduceBEq,reduceIte,MW,NJ,PW,cZ,dQ,fP,fE,iq,reduceCtorEq,x1,x2,x3,x4,x5,x6]):P:=Eq.mpr (e x1 x2 x3 x4 x5 x6) h
theorem ew7{P Q A1 A2 A3 A4 A5 A6 A7:Prop}(x1:A1)(x2:A2)(x3:A3)(x4:A4)(x5:A5)(x6:A6)(x7:A7)(h:Q)(e:A1->A2->A3->A4->A5->A6->A7->P=Q:=by intro x1 x2 x3 x4 x5 x6 x7;conv=>lhs;simp (maxSteps:=1000000) (disch:=first|omega|assumption|(simp;done)|(simp;omega)) only [↓EVp,↓EVw,Sj,EVl,EVq,splice,Nat.reduceAdd,Nat.reduceEqDiff,Nat.reduceMul,Nat.reduceLT,Nat.reduceLeDiff,Nat.reduceBEq,reduceIte,MW,NJ,PW,cZ,dQ,fP,fE,iq,reduceCtorEq,x1,x2,x3,x4,x5,x6,x7]):P:=Eq.mpr (e x1 x2 x3 x4 x5 x6 x7) h
theorem ew8{P Q A1 A2 A3 A4 A5 A6 A7 A8:Prop}(x1:A1)(x2:A2)(x3:A3)(x4:A4)(x5:A5)(x6:A6)(x7:A7)(x8:A8)(h:Q)(e:A1->A2->A3->A4->A5->A6->A7->A8->P=Q:=by intro x1 x2 x3 x4 x5 x6 x7 x8;conv=>lhs;simp (maxSteps:=1000000) (disch:=first|omega|assumption|(simp;done)|(simp;omega)) only [↓EVp,↓EVw,Sj,EVl,EVq,splice,Nat.reduceAdd,Nat.reduceEqDiff,Nat.reduceMul,Nat.reduceLT,Nat.reduceLeDiff,Nat.reduceBEq,reduceIte,MW,NJ,PW,cZ,dQ,fP,fE,iq,reduceCtorEq,x1,x2,x3,x4,x5,x6,x7,x8]):P:=Eq.mpr (e x1 x2 x3 x4 x5 x6 x7 x8) h
end Go.Ml
end
namespace Go.Ml
theorem uw{l:List V}{env:Nat->V}(h:OJ l 0 env:=by (try (refine ew ?_;try with_reducible exact aC))<;>(repeat' (first|refine⟨?_,?_⟩|exact NK (by omega)|exact P5 (by simp)|exact KG _))):OJ l 0 env:=h
end Go.Ml
namespace Go.Ml
theorem DV{a b:Option Obj}(h:a=b:=by simp (disch:=first|omega|(simp only [aS,bV,au,aG];omega)) only [Sj]):a=b:=h
end Go.Ml
section
namespace Go.Ml
theorem Mk.go{T:Tb}{f:Nat}{t t':V}{k k':Int}(h:Mk T f t k t' k'){σ:Store}{v:V}{os:List Nat}(ho:mP σ v t os)(hn:os.Nodup) :
  ∃σ',Run T (.fn f [v,.int .i64 k] σ) (.fn (.int .i64 k') σ')/\mP σ' v t' os/\Fr os σ σ':=by
 obtain⟨σ',a,b,c,d⟩:=h σ v os ho hn;exact⟨σ',a,b,⟨c,d⟩⟩
structure Cs (σ:Store) (cs ts:List V) (os:List Nat):Prop where
 ow:nC σ cs ts os
 nd:os.Nodup
theorem avo{α:Type}{l:List α}{i:Nat}{x:α}(h:l[i]? = some x):l.set i x=l:=by
 apply fV
 intro n;rw [fH];split
 ·subst_vars
  split
  ·exact h.symm
  rename_i hlt;rw [bC (by omega)]
 rfl
section
variable {σ σ' : Store} {cs ts : List V} {os : List Nat}
theorem Cs.lt(h:Cs σ cs ts os):∀q∈os,q<σ.length:=h.ow.lt
theorem Cs.frame(h:Cs σ cs ts os)(f:∀q∈os,jQ σ' q=jQ σ q):Cs σ' cs ts os:=⟨h.ow.frame f,h.nd⟩
theorem Cs.fr{os':List Nat}(h:Cs σ cs ts os)(f:Fr os' σ σ')(hd:∀q∈os,q∉os'):Cs σ' cs ts os:=h.frame fun q hq=>f.old q (h.lt q hq) (hd q hq)
theorem Cs.snoc(h:Cs σ cs ts os){x:Option Obj}:Cs (σ++[x]) cs ts os:=h.frame fun q hq=>kV (h.lt q hq)
theorem Cs.set(h:Cs σ cs ts os){o:Nat}{x:Option Obj}(ho:o∉os):Cs (σ.set o x) cs ts os:=h.frame fun q hq=>kN fun e=>ho (e▸hq)
theorem Cs.call{T:Tb}{f:Nat}{t t' v:V}{k k':Int}(h:Cs σ cs ts os)(c:Nat)(hm:Mk T f t k t' k')(hv:cs[c]? = some v)(ht:ts[c]? = some t) :
  ∃σ',Run T (.fn f [v,.int .i64 k] σ) (.fn (.int .i64 k') σ')/\Cs σ' cs (ts.set c t') os/\Fr os σ σ':=by
 obtain⟨vc,oc,j1,j2,j3,j4,j5⟩:=h.ow.focus c t h.nd ht;rw [hv]at j1
 cases j1
 obtain⟨σ',m1,m2,m3⟩:=hm.go j2 j3;refine⟨σ',m1,⟨?_,h.nd⟩,m3.mono j4⟩;have:=j5 σ' v t' m2 fun q hq' hq=>m3.old q (h.lt q hq') hq
 rwa [avo hv]at this
theorem Cs.part{T:Tb}{f:Nat}{t2 t2':List V}{k k':Int}(h:Cs σ cs ts os)(n m:Nat)(hm:Mk T f (.agg t2) k (.agg t2') k')(ht:(ts.drop n).take m=t2)(hn:n+m<=ts.length) :
  ∃σ',Run T (.fn f [.agg ((cs.drop n).take m),.int .i64 k] σ) (.fn (.int .i64 k') σ')/\Cs σ' cs (ts.take n++t2'++ts.drop (n+m)) os/\Fr os σ σ':=by
 have e:ts=ts.take n++(t2++ts.drop (n+m)):=by
  rw [<-ht]
  conv=>lhs;rw [<-gZ n ts,<-gZ m (ts.drop n),List.drop_drop]
 have lt2:t2.length=m:=by rw [<-ht];simp;omega
 have h1:=h.ow;rw [e]at h1;obtain⟨c1,c2,o1,o2,rfl,rfl,a1,a2⟩:=pV h1;have l1:=a1.len;obtain⟨c3,c4,o3,o4,rfl,rfl,a3,a4⟩:=pV a2;have l2:=a3.len;have nd:=h.nd;have l1':c1.length=n:=by rw [l1];simp;omega
 have e2:((c1++(c3++c4)).drop n).take m=c3:=by
  rw [<-l1',List.drop_left,<-lt2,<-l2,List.take_left]
 rw [e2];simp only [bf,aK]at nd;obtain⟨nd1,⟨nd3,nd4,d34⟩,d1⟩:=nd;obtain⟨σ',m1,m2,m3⟩:=hm.go (ru a3) nd3;obtain⟨cs',e3,m4⟩:=m2.lU
 cases e3
 have lt:=h.lt;refine⟨σ',m1,⟨?_,h.nd⟩,m3.mono (by simp +contextual)⟩;rw [cO];refine nD (a1.frame fun q hq=>m3.old q (lt q (by simp [hq])) fun hk=>d1 q hq q (.inl hk) rfl) (nD m4 (a4.frame fun q hq=>m3.old q (lt q (by simp [hq])) fun hk=>d34 q hk q hq rfl))
theorem Cs.got{σ2:Store}{r t:V}{os2:List Nat}(h:Cs σ cs ts os)(g:Got σ σ2 r t os2):Cs σ2 (cs++[r]) (ts++[t]) (os++os2):=by
 refine⟨nD (h.ow.frame fun q hq=>g.old q (h.lt q hq)) (by simpa using qQ g.ow qm),?_⟩;rw [bf];refine⟨h.nd,g.nd,fun x hx y hy e=>?_⟩;have:=h.lt x hx;have:=g.fresh y hy;omega
theorem Sl:Cs σ [] [] []:=⟨qm,.nil⟩
theorem Cs.res(h:Cs σ cs ts os)(c:Nat){v t:V}(hv:cs[c]? = some v)(ht:ts[c]? = some t)(hd:oI FD t):resolve σ FD v=some t:=by
 obtain⟨vc,oc,j1,j2,_⟩:=h.ow.focus c t h.nd ht;rw [hv]at j1
 cases j1
 exact P9 FD j2 hd
end
theorem mP.Yw{σ:Store}{v:V}{sz:Nat}{rows:List (List V)}{os:List Nat}(h:mP σ v (.sl sz rows) os) :
  (rows=[]/\v=.sl sz []/\os=[])\/∃o R os',v=.lQ o 0 rows.length/\jQ σ o=some ⟨sz,R⟩/\R.length=rows.length/\os=o::os'/\tX σ R rows os':=by
 simp only [mP]at h;rcases h with ⟨rfl,h1,h2⟩|⟨o,R,os',rfl,h2,rfl,h3⟩
 ·exact .inl ⟨rfl,h1,h2⟩
 exact .inr ⟨o,R,os',rfl,h2,h3.len,rfl,h3⟩
theorem Xq{T:Tb}{f:Nat}{as:List Src}{dst:Option Nat}{env:Nat->V}{σ σ':Store}{kp bs:Nat}{rs ms:List Nat}{k:St->Prop}{as':List V}{r:V}
  (h:Run T (.fn f as' σ) (.fn r σ')) (ha:(as.map fun s=>s.ev env)=as') (hl:σ.length<=σ'.length) (hb:σ.length<=bs) (hk:k ⟨oO env dst r,σ',kp,bs,rs,ms⟩):QW T f as dst ⟨env,σ,kp,bs,rs,ms⟩ k:=by
 subst ha;exact amj h hl hb hk
def cnL{α:Type}(c:α->Nat)(l:List α)(i:Nat):Nat:=((l.take i).map c).sum
theorem Ue(g:Nat->Option Nat):∀l:List V,lS.IZ g l=l.map (lS g)
 | []=>rfl
 |x::l=>by simp only [lS.IZ,bT,Ue g l]
section
variable {σ σ2 : Store} {m : Nat}
theorem JF{n:Nat}(ih:∀v t:V,resolve σ n v=some t->resolve σ2 n (lS (mV m) v)=some t):∀(l l':List V),l.mapM (resolve σ n)=some l'->(l.map (lS (mV m))).mapM (resolve σ2 n)=some l'
 | [],l',h=>by simpa using h
 |
  x::l,l',h=>by
  simp only [bZ,jl,iI,fD,bT]at h ⊢;obtain⟨a,ha,b,hb,e⟩:=h;exact⟨a,ih x a ha,b,JF ih l b hb,e⟩
theorem Wv{n:Nat}(ih:∀v t:V,resolve σ n v=some t->resolve σ2 n (lS (mV m) v)=some t):∀(l:List (List V)) (l':List (List V)),(l.mapM fun (r:List V)=>r.mapM (resolve σ n))=some l' ->
  ((l.map fun r=>r.map (lS (mV m))).mapM fun (r:List V)=>r.mapM (resolve σ2 n))=some l'
 | [],l',h=>by simpa using h
 |
  x::l,l',h=>by
  simp only [bZ,jl,iI,fD,bT]at h ⊢;obtain⟨a,ha,b,hb,e⟩:=h;exact⟨a,JF ih x a ha,b,Wv ih l b hb,e⟩
theorem aaP(hs:∀o,jQ σ2 (m+o)=(jQ σ o).map (rD (mV m))):∀(n:Nat) (v t:V),resolve σ n v=some t->resolve σ2 n (lS (mV m) v)=some t
 |0,_,_,h=>by simp [resolve]at h
 |
  n+1,v,t,h=>by
  have ih:=aaP hs n
  cases v with
  |
   lQ o s l =>
   simp only [lS,mV,resolve,hs]at h ⊢
   cases ho:jQ σ o with
   |none=>rw [ho]at h;cases h
   |
    some ob =>
    rw [ho]at h;simp only [dh,rD,aV]at h ⊢;split at h
    ·rename_i hl;rw [aQ hl];obtain⟨rows,h1,rfl⟩:=aO.1 h;rw [aO];refine⟨rows,?_,rfl⟩;rw [<-kP,<-List.map_take];exact Wv ih _ _ h1
    cases h
  |
   ptr o r off =>
   simp only [lS,mV,resolve,hs]at h ⊢
   cases ho:jQ σ o with
   |none=>rw [ho]at h;cases h
   |
    some ob =>
    rw [ho]at h;simp only [dh,rD,bP]at h ⊢
    cases hr:ob.rows[r]? with
    |none=>rw [hr]at h;cases h
    |
     some row =>
     rw [hr]at h;simp only [dh]at h ⊢;obtain⟨row',h1,rfl⟩:=aO.1 h;rw [aO];exact⟨row',JF ih _ _ h1,rfl⟩
  |
   agg cs =>
   simp only [lS,resolve]at h ⊢;obtain⟨cs',h1,rfl⟩:=aO.1 h;rw [aO,Ue];exact⟨cs',JF ih _ _ h1,rfl⟩
  |
   oU cs =>
   simp only [lS,resolve]at h ⊢;obtain⟨cs',h1,rfl⟩:=aO.1 h;rw [aO,Ue];exact⟨cs',JF ih _ _ h1,rfl⟩
  |any=>simp [resolve]at h
  |one=>simpa only [lS,resolve]using h
  |int k n=>simpa only [lS,resolve]using h
  |bool b=>simpa only [lS,resolve]using h
  |str b=>simpa only [lS,resolve]using h
  |kC=>simpa only [lS,resolve]using h
  |sl a b=>simpa only [lS,resolve]using h
  |qw a b=>simpa only [lS,resolve]using h
end
def Xr(σ:Store):List V->List (Bool×V)->List Nat->Prop
 |vs,[],os=>vs=[]/\os=[]
 |vs,(b,t)::ts,os=>∃v vs' o1 o2,vs=v::vs'/\os=o1++o2/\(if b=true then mP σ v t o1 else resolve σ FD v=some t/\o1=[])/\Xr σ vs' ts o2
theorem Xr.shift{σ σ2:Store}{n:Nat}(hs:∀o,jQ σ2 (n+o)=(jQ σ o).map (rD (mV n))):∀{ts:List (Bool×V)} {vs:List V} {os:List Nat},Xr σ vs ts os->Xr σ2 (vs.map (lS (mV n))) ts (os.map (n + ·))
 | [],vs,os,h=>by simp only [Xr]at h ⊢;obtain⟨rfl,rfl⟩:=h;exact⟨rfl,rfl⟩
 |
  (b,t)::ts,vs,os,h=>by
  simp only [Xr]at h ⊢;obtain⟨v,vs',o1,o2,rfl,rfl,h1,h2⟩:=h;refine⟨_,_,o1.map (n + ·),o2.map (n + ·),rfl,by rw [bU],?_,Xr.shift hs h2⟩
  cases b with
  |true=>simp only [if_true]at h1 ⊢;exact mP.shift hs h1
  |
   false =>
   simp only [bM,if_false]at h1 ⊢;exact⟨aaP hs _ _ _ h1.1,by rw [h1.2];rfl⟩
def PX(T:Tb)(f:Nat)(args:List V)(ts:List (Bool×V)):Prop:=∃vs σ' os,Run T (.fn f args []) (.fn (.oU vs) σ')/\Xr σ' vs ts os/\os.Nodup
structure aj6 (σ σ2:Store) (vs:List V) (ts:List (Bool×V)) (os:List Nat):Prop where
 ow:Xr σ2 vs ts os
 nd:os.Nodup
 fresh:∀o∈os,σ.length<=o
 old:∀o,o<σ.length->jQ σ2 o=jQ σ o
 len:σ.length<=σ2.length
theorem aaQ{T:Tb}{f:Nat}{as:List Src}{dst:Option Nat}{env:Nat->V}{σ:Store}{kp bs:Nat}{rs ms:List Nat}{k:St->Prop}{as':List V}{ts:List (Bool×V)}(h:PX T f as' ts)
  (ha:MS env σ as (· = as')) (hr:nY env σ as=[]) (hk:∀vs σ2 os,aj6 σ σ2 vs ts os->k ⟨oO env dst (.oU vs),σ2,kp,bs,rs,ms⟩):QW T f as dst ⟨env,σ,kp,bs,rs,ms⟩ k:=by
 obtain⟨vs,σ',os,h1,h2,h3⟩:=h;obtain⟨as2,e,rfl⟩:=AY ha;refine⟨_,.own e h1 (R:=[]) (by split;rfl;exact hr.symm),?_⟩;have key:∀o,jQ (zW (nT σ []) σ') (σ.length+o)=(jQ σ' o).map (rD (mV σ.length)):=by
  intro o;show jQ (zW σ σ') _=_;rw [rO,aN (by omega)]
  congr 2;omega
 have:=hk (vs.map (lS (mV σ.length))) (zW (nT σ []) σ') (os.map (σ.length + ·)) ⟨h2.shift key,?_,?_,?_,?_⟩
 ·simpa only [lS,Ue]using this
 ·exact iM.2 (h3.imp fun hne e=>hne (by omega))
 ·intro o ho;obtain⟨q,_,rfl⟩:=bF.1 ho;omega
 ·intro o ho;show jQ (zW σ σ') _=_;rw [rO,aQ ho]
 simp [zW,nT]
theorem aj6.of1{σ σ2:Store}{vs:List V}{t u:V}{os:List Nat}(g:aj6 σ σ2 vs [(true,t),(false,u)] os):∃v w,vs=[v,w]/\resolve σ2 FD w=some u/\Got σ σ2 v t os:=by
 obtain⟨v,vs',o1,o2,rfl,rfl,h1,h2⟩:=(by simpa only [Xr]using g.ow:∃v vs' o1 o2,_);obtain⟨w,vs2,o3,o4,rfl,rfl,h3,h4⟩:=h2;obtain⟨rfl,rfl⟩:=h4;simp only [if_true,bM,if_false]at h1 h3;obtain⟨h3,rfl⟩:=h3;refine⟨v,w,rfl,h3,⟨by simpa using h1,g.nd,g.fresh,g.old,g.len⟩⟩
theorem aj6.fo{σ σ2:Store}{vs:List V}{t u b:V}{os:List Nat}(g:aj6 σ σ2 vs [(false,u),(true,t),(false,b)] os):∃w v z,vs=[w,v,z]/\resolve σ2 FD w=some u/\resolve σ2 FD z=some b/\Got σ σ2 v t os:=by
 obtain⟨w,vs',o1,o2,rfl,rfl,h1,h2⟩:=(by simpa only [Xr]using g.ow:∃v vs' o1 o2,_);obtain⟨v,vs2,o3,o4,rfl,rfl,h3,h4⟩:=h2;obtain⟨z,vs3,o5,o6,rfl,rfl,h5,h6⟩:=h4;obtain⟨rfl,rfl⟩:=h6;simp only [if_true,bM,if_false]at h1 h3 h5;obtain⟨h1,rfl⟩:=h1;obtain⟨h5,rfl⟩:=h5;refine⟨w,v,z,rfl,h1,h5,⟨by simpa using h3,g.nd,g.fresh,g.old,g.len⟩⟩
theorem I8{σ:Store}{z:V}{b:Bool}(h:resolve σ FD z=some (.bool b)):z=.bool b:=by
 rw [show FD=11+1 from rfl]at h
 cases z with
 |bool c=>simpa [resolve]using h
 |
  lQ o s l =>
  rw [resolve]at h
  cases ho:jQ σ o with
  |none=>simp only [ho]at h;cases h
  |
   some ob =>
   simp only [ho]at h;by_cases hl:s+l<=ob.rows.length
   ·rw [aQ hl]at h;obtain⟨_,_,e⟩:=aO.1 h
    cases e
   rw [aN hl]at h;cases h
 |
  ptr o r off =>
  rw [resolve]at h
  cases ho:jQ σ o with
  |none=>simp only [ho]at h;cases h
  |
   some ob =>
   simp only [ho]at h
   cases hr:ob.rows[r]? with
   |none=>simp only [hr]at h;cases h
   |
    some row =>
    simp only [hr]at h;obtain⟨_,_,e⟩:=aO.1 h
    cases e
 |
  agg cs =>
  rw [resolve]at h;obtain⟨_,_,e⟩:=aO.1 h
  cases e
 |
  oU cs =>
  rw [resolve]at h;obtain⟨_,_,e⟩:=aO.1 h
  cases e
 |any=>rw [resolve]at h;cases h
 |one=>rw [resolve]at h<;>simp_all
 |int k n=>rw [resolve]at h<;>simp_all
 |str n=>rw [resolve]at h<;>simp_all
 |kC=>rw [resolve]at h<;>simp_all
 |sl k n=>rw [resolve]at h<;>simp_all
 |qw k n=>rw [resolve]at h<;>simp_all
def agr(σ:Store)(r:V)(ts:List (Bool×V)):Prop:=∃vs os,nG (.oU vs) r/\Xr σ vs ts os/\os.Nodup
theorem sK{T:Tb}{f:Nat}{as:List Src}{dst:Option Nat}{env:Nat->V}{σ:Store}{kp bs:Nat}{rs ms:List Nat}{k:List Nat->List Nat->Bool->St->Prop}{as':List V}{t:V}(h:PO T f as' t)
  (ha:MS env σ as (· = as')) (hr:nY env σ as=[]) (hk:∀r σ2 os,Got σ σ2 r t os->k [] [] true ⟨oO env dst r,σ2,kp,bs,rs,ms⟩):ZT T f as dst ⟨env,σ,kp,bs,rs,ms⟩ k :=
 ad3 h ha fun r σ2 os g=>by rw [hr];exact hk r σ2 os g
theorem Got.Ba{σ σ2:Store}{r t:V}{b:Bool}{os:List Nat}(g:Got σ σ2 r (.oU [t,.bool b]) os):∃v,r=.oU [v,.bool b]/\Got σ σ2 v t os:=by
 obtain⟨cs,rfl,h⟩:=g.ow.ah7;obtain⟨v,vs,o1,o2,rfl,rfl,h1,h2⟩:=h.inv;obtain⟨vs,rfl,h3⟩:=h2.xQ;obtain⟨rfl,rfl⟩:=h3.Ec;exact⟨v,rfl,by simpa using h1,g.nd,g.fresh,g.old,g.len⟩
theorem Got.aEr{σ σ2:Store}{r t u:V}{b:Bool}{os:List Nat}(g:Got σ σ2 r (.oU [t,u,.bool b]) os):∃v w,r=.oU [v,w,.bool b]/\Got σ σ2 (.agg [v,w]) (.agg [t,u]) os:=by
 obtain⟨cs,rfl,h⟩:=g.ow.ah7;obtain⟨v,vs,o1,o2,rfl,rfl,h1,h2⟩:=h.inv;obtain⟨w,vs,o3,o4,rfl,rfl,h3,h4⟩:=h2.inv;obtain⟨vs,rfl,h5⟩:=h4.xQ;obtain⟨rfl,rfl⟩:=h5.Ec;exact⟨v,w,rfl,ru (qQ h1 (by simpa using qQ h3 qm)),g.nd,g.fresh,g.old,g.len⟩
theorem Fin.Ba{σ:Store}{v t:V}{b:Bool}(h:Fin σ v t):Fin σ (.oU [v,.bool b]) (.oU [t,.bool b]):=by
 obtain⟨r',os,h1,h2,h3⟩:=h;refine⟨.oU [r',.bool b],os,?_,I7 (by simpa using qQ h2 (qV qm)),h3⟩;simp only [nG,wJ];exact⟨_,rfl,_,_,rfl,h1,_,_,rfl,rfl,rfl⟩
theorem Xt(n:Nat)(q:IntKind)(k:Int):oI (n+1) (.int q k):=by simp [oI]
theorem vM(n:Nat)(b:Bool):oI (n+1) (.bool b):=by simp [oI]
theorem kM(n:Nat)(l:List Int):oI (n+2) (ints l):=by
 simp only [oI];intro r hr c hc;simp only [kU,bF]at hr;obtain⟨x,_,rfl⟩:=hr;simp only [aI,bY,or_false]at hc;subst hc;simp [oI]
theorem Yx{α:Type}{f:α->List V}{n k:Nat}{l:List α}(h:∀x,∀c∈f x,oI n c):oI (n+1) (.sl k (l.map f)):=by
 simp only [oI];intro r hr c hc;obtain⟨x,_,rfl⟩:=bF.1 hr;exact h x c hc
theorem ah8{n:Nat}{cs:List V}(h:∀c∈cs,oI n c):oI (n+1) (.agg cs):=by simpa only [oI]using h
theorem aml(n:Nat)(x:R):∀c∈x.cells,oI (n+2) c:=by
 simp only [fM];exact⟨vM _ _,kM _ _,kM _ _,by simp⟩
theorem azm(n:Nat)(x:Pt):∀c∈x.cells,oI (n+2) c:=by
 simp only [fM];exact⟨vM _ _,kM _ _,kM _ _,vM _ _,kM _ _,kM _ _,by simp⟩
theorem azn(n:Nat)(x:Lk):∀c∈x.cells,oI (n+2) c:=by
 simp only [fM];exact⟨Xt _ _ _,Xt _ _ _,vM _ _,kM _ _,kM _ _,vM _ _,kM _ _,kM _ _,vM _ _,kM _ _,kM _ _,by simp⟩
theorem azo(n:Nat)(x:Pa):∀c∈x.cells,oI (n+2) c:=by
 simp only [fM];exact⟨Xt _ _ _,vM _ _,kM _ _,kM _ _,vM _ _,kM _ _,kM _ _,vM _ _,kM _ _,kM _ _,by simp⟩
theorem Ik(n:Nat)(l:List R):oI (n+3) (pK l):=Yx fun x=>aml n x
theorem Xu(n:Nat)(l:List Pt):oI (n+3) (Ub l):=Yx fun x=>azm n x
theorem aqR(n:Nat)(l:List Pa):oI (n+3) (QX l):=Yx fun x=>azo n x
theorem aqS(n:Nat)(x:R):oI (n+3) (lD x):=ah8 (aml n x)
theorem avp(n:Nat)(x:Lk):oI (n+3) (Wu x):=ah8 (azn n x)
theorem aj7(n:Nat)(l:List (List R)):oI (n+4) (sG l):=Yx fun x=>by
 simp only [fM];exact⟨Ik _ _,by simp⟩
theorem azp(n:Nat)(x:Cd):∀c∈x.cells,oI (n+3) c:=by
 simp only [fM];exact⟨Xt _ _ _,vM _ _,kM _ _,kM _ _,aqR _ _,by simp⟩
theorem aqT(n:Nat)(l:List Cd):oI (n+4) (Uc l):=Yx fun x=>azp n x
theorem Qa{n:Nat}{a b:V}(h1:oI n a)(h2:oI n b):oI (n+1) (.oU [a,b]):=by
 simp only [oI,fM];exact⟨h1,h2,by simp⟩
theorem amm{n:Nat}{a b c:V}(h1:oI n a)(h2:oI n b)(h3:oI n c):oI (n+1) (.oU [a,b,c]):=by
 simp only [oI,fM];exact⟨h1,h2,h3,by simp⟩
structure Grow (s:Store) (v:V) (sz:Nat) (A ts:List (List V)):Prop where
 ex:∃os,tX s A ts os/\os.Nodup/\((A=[]/\v=.kC)\/∃o,v=.lQ o 0 A.length/\jQ s o=some ⟨sz,A⟩/\o∉os)
section
variable {s s1 σ2 S : Store} {v : V} {sz : Nat} {A ts : List (List V)}
theorem Grow.len(h:Grow s v sz A ts):A.length=ts.length:=by obtain⟨os,a,_⟩:=h.ex;exact a.len
theorem Grow.cases(h:Grow s v sz A ts):(A=[]/\ts=[]/\v=.kC)\/∃o,v=.lQ o 0 A.length/\jQ s o=some ⟨sz,A⟩/\o<s.length:=by
 have hl:=h.len;obtain⟨os,a,b,c⟩:=h.ex;rcases c with ⟨rfl,rfl⟩|⟨o,rfl,h1,h2⟩
 ·exact .inl ⟨rfl,aY (by simpa using hl.symm),rfl⟩
 exact .inr ⟨o,rfl,h1,lH h1⟩
theorem Grow.frame(h:Grow s v sz A ts)(f:∀o,o<s.length->jQ S o=jQ s o):Grow S v sz A ts:=by
 obtain⟨os,a,b,c⟩:=h.ex;refine⟨os,a.frame fun q hq=>f q (a.lt q hq),b,?_⟩;rcases c with c|⟨o,rfl,h1,h2⟩
 ·exact .inl c
 exact .inr ⟨o,rfl,(f o (lH h1)).trans h1,h2⟩
theorem Grow.fin(h:Grow s v sz A ts):Fin s v (.sl sz ts):=by
 have hl:=h.len;obtain⟨os,a,b,c⟩:=h.ex;rcases c with ⟨rfl,rfl⟩|⟨o,rfl,h1,h2⟩
 ·have:ts=[]:=aY (by simpa using hl.symm);subst this;exact qF
 rw [hl];refine xg (os:=o::os) ?_ (eU.2 ⟨h2,b⟩);simp only [mP];exact .inr ⟨o,A,os,rfl,h1,rfl,a⟩
theorem Grow.app{cs tcs:List V}{os2:List Nat}{id2:Nat}(h:Grow s v sz A ts)(hs:∀o,o<s.length->jQ s1 o=jQ s o)(hl:s.length<=s1.length)(g:Got s1 σ2 (.agg cs) (.agg tcs) os2)
  (h0:s.length<=id2) (hid:id2<s1.length) (h2:jQ S id2=some ⟨sz,A++[cs]⟩)
  (hf:∀q,q≠id2->(q<s.length\/s1.length<=q)->(∀n,v≠.lQ q 0 n)->jQ S q=jQ σ2 q):Grow S (.lQ id2 0 (A.length+1)) sz (A++[cs]) (ts++[tcs]):=by
 obtain⟨os,a,b,c⟩:=h.ex;have a':=a.frame (σ':=σ2) fun q hq=>by
  have:=a.lt q hq;rw [g.old q (by omega),hs q this]
 obtain⟨cs',e,hc⟩:=g.ow.lU
 cases e
 have hlt:=a.lt;have hv:∀q∈os++os2,∀n,v≠.lQ q 0 n:=by
  intro q hq n;rcases c with ⟨_,rfl⟩|⟨o,rfl,h1,h2⟩
  ·simp
  intro e;have e2:o=q:=by injection e
  rw [e2]at h1 h2;rcases aK.1 hq with hq|hq
  ·exact h2 hq
  have:=g.fresh q hq;have:=lH h1;omega
 have hne:∀q∈os++os2,q≠id2/\(q<s.length\/s1.length<=q):=by
  intro q hq;rcases aK.1 hq with hq|hq
  ·have:=hlt q hq;exact⟨by omega,by omega⟩
  have:=g.fresh q hq;exact⟨by omega,by omega⟩
 have fr:∀q∈os++os2,jQ S q=jQ σ2 q:=fun q hq=>hf q (hne q hq).1 (hne q hq).2 (hv q hq);refine⟨os++os2,Dx (a'.frame fun q hq=>fr q (eG _ hq)) (aaO (hc.frame fun q hq=>fr q (dL _ hq))),?_,.inr ⟨id2,by simp,h2,fun hm=>(hne id2 hm).1 rfl⟩⟩;rw [bf];refine⟨b,g.nd,fun x hx y hy e=>?_⟩;have:=hlt x hx;have:=g.fresh y hy;omega
theorem nX{s t:Store}{o:Nat}(h:o<s.length):jQ (s++t) o=jQ s o:=by
 unfold jQ;rw [bK h]
end
theorem Got.abV{s σ2:Store}{r t:V}{os:List Nat}(g:Got s σ2 r t os){o:Nat}{x:Option Obj}(h:o<s.length):Fin (σ2.set o x) r t :=
 xg (g.ow.frame fun q hq=>kN (by have:=g.fresh q hq;omega)) g.nd
theorem ah9:nU []:=fun r hr=>by cases hr
theorem ad5{r:List V}{rs:List (List V)}:nU (r::rs)↔(∀v∈r,v.still=true)/\nU rs:=by simp [nU]
theorem aia{a b:List (List V)}:nU (a++b)↔nU a/\nU b:=by
 unfold nU;constructor
 ·exact fun h=>⟨fun r hr=>h r (eG _ hr),fun r hr=>h r (dL _ hr)⟩
 intro h r hr;rcases aK.1 hr with k|k
 ·exact h.1 r k
 exact h.2 r k
theorem amn(x:Lk):∀v∈x.cells,v.still=true:=fun v hv=>IX [x] _ (by simp) v hv
structure Ep (s:Store) (cs ts:List V) (os:List Nat) (L:List (Nat×Obj)):Prop where
 c:Cs s cs ts os
 l:∀q∈L,jQ s q.1=some q.2/\q.1∉os
section
variable {s σ2 : Store} {cs ts : List V} {os os2 : List Nat} {L : List (Nat × Obj)}
theorem Ep.lt(E:Ep s cs ts os L):∀q∈L,q.1<s.length:=fun q hq=>lH (E.l q hq).1
theorem Ep.snoc(E:Ep s cs ts os L){x:Option Obj}:Ep (s++[x]) cs ts os L:=⟨E.c.snoc,fun q hq=>⟨(kV (E.lt q hq)).trans (E.l q hq).1,(E.l q hq).2⟩⟩
theorem Ep.res(E:Ep s cs ts os L)(c:Nat){v t:V}(hv:cs[c]? = some v)(ht:ts[c]? = some t)(hd:oI FD t):resolve s FD v=some t:=E.c.res c hv ht hd
theorem Ep.res1(E:Ep s cs ts os L)(c:Nat){v t:V}(hv:cs[c]? = some v)(ht:ts[c]? = some t)(hd:oI 11 t):resolve s 11 v=some t:=by
 obtain⟨vc,oc,j1,j2,_⟩:=E.c.ow.focus c t E.c.nd ht;rw [hv]at j1
 cases j1
 exact P9 11 j2 hd
theorem Ep.leaf(E:Ep s cs ts os L)(c:Nat){v t:V}(hv:cs[c]? = some v)(ht:ts[c]? = some t)(hl:t.leaf=true:=by rfl):v.leaf=true:=by
 obtain⟨vc,oc,j1,j2,_⟩:=E.c.ow.focus c t E.c.nd ht;rw [hv]at j1
 cases j1
 exact j2.leaf hl
theorem Ep.got{s1:Store}{rs trs:List V}(E:Ep s cs ts os L)(h1:∀o,o<s.length->jQ s1 o=jQ s o)(hl:s.length<=s1.length)(ho:nC σ2 rs trs os2)(hn:os2.Nodup)(hf:∀o∈os2,s1.length<=o)
  (old:∀o,o<s1.length->jQ σ2 o=jQ s1 o):Ep σ2 (cs++rs) (ts++trs) (os++os2) L:=by
 have hlt:=E.c.lt;refine⟨⟨nD (E.c.ow.frame fun q hq=>?_) ho,?_⟩,fun q hq=>⟨?_,?_⟩⟩
 ·have:=hlt q hq;rw [old q (by omega),h1 q this]
 ·rw [bf];refine⟨E.c.nd,hn,fun x hx y hy e=>?_⟩;have:=hlt x hx;have:=hf y hy;omega
 ·have:=E.lt q hq;rw [old _ (by omega),h1 _ this];exact(E.l q hq).1
 intro hm;have:=E.lt q hq;rcases aK.1 hm with hm|hm
 ·exact(E.l q hq).2 hm
 have:=hf _ hm;omega
theorem Ep.free{s1:Store}(E:Ep s cs ts os L){p:Nat}(hf:∀o∈os2,s1.length<=o)(h0:s.length<=p)(h1:p<s1.length):p∉os++os2:=by
 intro hm;rcases aK.1 hm with hm|hm
 ·have:=E.c.lt p hm;omega
 have:=hf p hm;omega
theorem Ep.loc{p:Nat}{ob:Obj}(E:Ep s cs ts os L)(hp:p∉os)(hl:p<s.length)(hL:∀q∈L,q.1≠p):Ep (s.set p (some ob)) cs ts os (L++[(p,ob)]):=by
 refine⟨E.c.set hp,fun q hq=>?_⟩;rcases aK.1 hq with hq|hq
 ·exact⟨(kN (hL q hq)).trans (E.l q hq).1,(E.l q hq).2⟩
 simp only [aI,bY,or_false]at hq;subst hq;exact⟨kY hl,hp⟩
theorem Ep.call{T:Tb}{f:Nat}{t t' v:V}{k k':Int}(E:Ep s cs ts os L)(c:Nat)(hm:Mk T f t k t' k')(hv:cs[c]? = some v)(ht:ts[c]? = some t) :
  ∃s',Run T (.fn f [v,.int .i64 k] s) (.fn (.int .i64 k') s')/\Ep s' cs (ts.set c t') os L/\s.length<=s'.length:=by
 obtain⟨s',h1,h2,h3⟩:=E.c.call c hm hv ht;exact⟨s',h1,⟨h2,fun q hq=>⟨(h3.old _ (E.lt q hq) (E.l q hq).2).trans (E.l q hq).1,(E.l q hq).2⟩⟩,h3.len⟩
theorem Ep.part{T:Tb}{f:Nat}{t2 t2' r2:List V}{k k':Int}(E:Ep s cs ts os L)(n m:Nat)(hm:Mk T f (.agg t2) k (.agg t2') k')(hr:(cs.drop n).take m=r2)(ht:(ts.drop n).take m=t2)(hn:n+m<=ts.length) :
  ∃s',Run T (.fn f [.agg r2,.int .i64 k] s) (.fn (.int .i64 k') s')/\Ep s' cs (ts.take n++t2'++ts.drop (n+m)) os L/\s.length<=s'.length:=by
 obtain⟨s',h1,h2,h3⟩:=E.c.part n m hm ht hn;rw [hr]at h1;exact⟨s',h1,⟨h2,fun q hq=>⟨(h3.old _ (E.lt q hq) (E.l q hq).2).trans (E.l q hq).1,(E.l q hq).2⟩⟩,h3.len⟩
theorem Ep.at0{p:Nat}{ob:Obj}(E:Ep s cs ts os L)(h:(p,ob)∈L):jQ s p=some ob/\p<s.length:=⟨(E.l _ h).1,E.lt _ h⟩
end
section
variable {σ : Store} {os : List Nat}
theorem nC.rat{cs:List V}{x:R}(h:nC σ cs x.cells os):∃c1 c2,cs=[.bool x.neg,c1,c2]:=by
 obtain⟨cs,rfl,h1⟩:=h.xQ
 match cs,h1.len with
 | [a,b],_=>exact⟨a,b,rfl⟩
theorem nC.pt{cs:List V}{x:Pt}(h:nC σ cs x.cells os):∃c1 c2 c4 c5,cs=[.bool x.x.neg,c1,c2,.bool x.y.neg,c4,c5]:=by
 obtain⟨cs,rfl,h1⟩:=h.xQ;obtain⟨a,cs,_,_,rfl,rfl,_,h2⟩:=h1.inv;obtain⟨b,cs,_,_,rfl,rfl,_,h3⟩:=h2.inv;obtain⟨cs,rfl,h4⟩:=h3.xQ
 match cs,h4.len with
 | [c,d],_=>exact⟨a,b,c,d,rfl⟩
theorem nC.lk{cs:List V}{x:Lk}(h:nC σ cs x.cells os):∃c3 c4 c6 c7 c9 c10,cs=[iv x.a,iv x.b,.bool x.w.neg,c3,c4,.bool x.dx.neg,c6,c7,.bool x.dy.neg,c9,c10]:=by
 obtain⟨cs,rfl,h1⟩:=h.abU;obtain⟨cs,rfl,h2⟩:=h1.abU;obtain⟨cs,rfl,h3⟩:=h2.xQ;obtain⟨a,cs,_,_,rfl,rfl,_,h4⟩:=h3.inv;obtain⟨b,cs,_,_,rfl,rfl,_,h5⟩:=h4.inv;obtain⟨cs,rfl,h6⟩:=h5.xQ;obtain⟨c,cs,_,_,rfl,rfl,_,h7⟩:=h6.inv;obtain⟨d,cs,_,_,rfl,rfl,_,h8⟩:=h7.inv;obtain⟨cs,rfl,h9⟩:=h8.xQ
 match cs,h9.len with
 | [e,f],_=>exact⟨a,b,c,d,e,f,rfl⟩
theorem nC.cd{cs:List V}{x:Cd}(h:nC σ cs x.cells os):∃c2 c3 c4,cs=[iv x.node,.bool x.total.neg,c2,c3,c4]:=by
 obtain⟨cs,rfl,h1⟩:=h.abU;obtain⟨cs,rfl,h2⟩:=h1.xQ
 match cs,h2.len with
 | [a,b,c],_=>exact⟨a,b,c,rfl⟩
theorem nC.tr{cs:List V}{x:List Tn}(h:nC σ cs [aEo x] os):∃c0,cs=[c0]:=by
 match cs,h.len with
 | [a],_=>exact⟨a,rfl⟩
theorem asT{v t:V}(h:mP σ v t os):nC σ [v] [t] os:=by simpa using qQ h qm
end
end Go.Ml
namespace Go.Ml
theorem kQ(l:List Nat)(k:List Nat->Prop):TT l k=k l:=nr rfl
theorem lI(p:Prop):(p\/True)=True:=by simp
theorem Ep.JG{s:Store}{cs ts:List V}{os:List Nat}{L L':List (Nat×Obj)}{p:Nat}{ob:Obj}(E:Ep s cs ts os L)(hp:p∉os)(hl:p<s.length)(h:∀q∈L',(q.1≠p/\q∈L)\/q=(p,ob)) :
  Ep (s.set p (some ob)) cs ts os L':=by
 refine⟨E.c.set hp,fun q hq=>?_⟩;rcases h q hq with ⟨h1,h2⟩|rfl
 ·exact⟨(kN h1).trans (E.l q h2).1,(E.l q h2).2⟩
 exact⟨kY hl,hp⟩
end Go.Ml
namespace Go.Ml
def sh(n0 n x:Nat):Nat:=if x<n0 then x else x+(n-n0)
theorem azq{n0 n x y:Nat}:sh n0 n x<sh n0 n y↔x<y:=by
 unfold sh;split<;>split<;>omega
theorem asU{n0 n x y:Nat}:sh n0 n x=sh n0 n y↔x=y:=by
 unfold sh;split<;>split<;>omega
def Yy(n0 n:Nat)(a:Acc):Acc:=⟨a.i,a.R.map (sh n0 n),a.W.map (sh n0 n),a.n⟩
theorem ad6{n0 n:Nat}(l:List Nat)(p:Nat):(l.map (sh n0 n)).contains (sh n0 n p)=l.contains p:=by
 rw [jV,jW,jW,bF];constructor
 ·rintro⟨q,h1,h2⟩;rw [asU.1 h2]at h1;exact h1
 exact fun h=>⟨p,h,rfl⟩
theorem ad7{n0 n L:Nat}(a b:Acc):BI (sh n0 n L) (Yy n0 n a) (Yy n0 n b)=BI L a b:=by
 unfold BI Yy;simp only [jH,Function.comp_def];simp only [azq]
theorem amo{n0 n L:Nat}(d e:qJ)(a b:Acc):wX (sh n0 n L) d e (Yy n0 n a) (Yy n0 n b)=wX L d e a b:=by
 unfold wX;rw [ad7,ad7];simp only [Yy,jH,Function.comp_def];simp only [ad6]
 congr 6
 congr 1
 funext p
 congr 2
 funext q
 rw [bne,bne]
 congr 1
 rw [jV,beq_iff_eq,beq_iff_eq];exact asU
theorem amq{n0 n L:Nat}{B:Nat->List Nat}{ops:List qJ}:∀l:List Acc,okA (sh n0 n L) B ops (l.map (Yy n0 n))=okA L B ops l
 | []=>rfl
 |
  a::l=>by
  simp only [bT,okA,jH,Function.comp_def];rw [amq l]
  congr 2
  funext b
  have h1:(Yy n0 n a).i=a.i:=rfl;have h2:(Yy n0 n b).i=b.i:=rfl;rw [amo,h1,h2]
theorem aj8{ops:List qJ}{LF:Nat->Nat}{aF:Nat->List Acc}(n0 n:Nat)(hL:LF n=sh n0 n (LF n0))(ha:aF n=(aF n0).map (Yy n0 n))(hk:sF (LF n0) ops (aF n0)):sF (LF n) ops (aF n):=by
 unfold sF at hk ⊢;rw [hL,ha,<-List.map_reverse,amq];exact hk
end Go.Ml
namespace Go.Ml
theorem y7{ops:List qJ}(LF:Nat->Nat)(aF:Nat->List Acc)(n0:Nat)(hL:∀n,n0<=n->LF n=sh n0 n (LF n0))(ha:∀n,n0<=n->aF n=(aF n0).map (Yy n0 n))(hk:sF (LF n0) ops (aF n0)) :
  ∀n,n0<=n->sF (LF n) ops (aF n):=fun n h=>aj8 n0 n (hL n h) (ha n h) hk
theorem Sm{t:Int}(h:0<=t):t.tmod 1000000000=t % 1000000000:=iZ h
theorem Sr{t:Int}(h:0<=t):t.tdiv 1000000000=t / 1000000000:=gQ h
theorem ad8{N i va vb va' vb':Nat}{xs:List Int}{c x y:Int}(hl:xs.length=i)(hc:0<=c)(hx:0<=x)(hy:0<=y)
  (h:val xs+1000000000 ^ i*(c.toNat+va+vb)=N) (ha:va=x.toNat+1000000000*va') (hb:vb=y.toNat+1000000000*vb') :
  val (xs++[(c+x+y) % 1000000000])+1000000000 ^ (i+1)*(((c+x+y) / 1000000000).toNat+va'+vb')=N:=by
 rw [yX,hl,jk];have e:c.toNat+va+vb=((c+x+y) % 1000000000).toNat+1000000000*(((c+x+y) / 1000000000).toNat+va'+vb'):=by omega
 rw [e,jC,<-ig]at h;omega
theorem ad9{vx va vb p x y d bo bo':Nat}(h:vx+vb=va+bo*p)(hd:d+y+bo=x+bo'*1000000000) :
  (vx+p*d)+(vb+p*y)=(va+p*x)+bo'*(p*1000000000):=by
 have e:=congrArg (fun z=>p*z) hd;simp only [jC]at e;have e1:p*bo=bo*p:=dS _ _;have e2:p*(bo'*1000000000)=bo'*(p*1000000000):=by rw [<-ig,dS p bo',ig]
 omega
theorem ZU{l:List Int}{i:Nat}{d:Int}(h:i<l.length):(l.set i d).take (i+1)=l.take i++[d]:=by
 rw [pq (by simpa using h)]
 congr 1
 ·rw [List.take_set,List.set_eq_of_length_le (by simp;omega)]
 simp [aj,h]
theorem aeb{vp vp' V0 a p q pb x y:Nat}{c t:Nat}
  (h:vp+c*(p*q)=V0+a*(p*pb)) (hs:vp'+(p*q)*x=vp+(p*q)*(t % 1000000000)) (ht:t=c+x+a*y) :
  vp'+t / 1000000000*(p*(q*1000000000))=V0+a*(p*(pb+q*y)):=by
 have e1:(p*q)*(t % 1000000000)+t / 1000000000*(p*(q*1000000000))=(p*q)*t:=by
  have:t / 1000000000*(p*(q*1000000000))=(p*q)*(1000000000*(t / 1000000000)):=by
   rw [<-ig p q,dS (t / 1000000000),ig]
  rw [this,<-jC]
  congr 1
  omega
 have e2:(p*q)*t=(p*q)*c+(p*q)*x+(p*q)*(a*y):=by rw [ht,jC,jC]
 have e3:a*(p*(pb+q*y))=a*(p*pb)+(p*q)*(a*y):=by
  rw [jC,jC,<-ig p q y]
  congr 1
  rw [<-ig,dS a (p*q),ig]
 have e4:c*(p*q)=(p*q)*c:=dS _ _;omega
theorem NW{a b q r:Nat}(h:a=q*b+r)(hr:r<b):q=a / b/\r=a % b:=by
 have hb:0<b:=by omega
 subst h;constructor
 ·rw [dS,Nat.mul_add_div hb,Nat.div_eq_of_lt hr,iP]
 rw [dS,Nat.mul_add_mod,Nat.mod_eq_of_lt hr]
end Go.Ml
namespace Go.Ml
theorem Wx{l:List Int}(i:Nat):val (l.drop i)<=val l:=by
 rw [BP l i];have:val (l.drop i)<=1000000000 ^ (l.take i).length*val (l.drop i):=Nat.le_mul_of_pos_left _ (Nat.pow_pos (by omega));omega
theorem QC{l:List Int}{i:Nat}(h:i<l.length):l.drop i=l.getD i 0::l.drop (i+1):=by
 rw [dK h,aj,ak h];rfl
theorem aib{m n:Nat}{xs:List Int}(hv:val xs=m+n)(hb:Lb xs)(hl:xs.length<=max (mk m).length (mk n).length\/xs.getLast? ≠ some 0):mk (m+n)=xs:=by
 rw [<-hv];refine mk_val ⟨hb,?_⟩;rcases hl with hl|hl
 ·refine(ajU hb fun hne=>?_).2;have hpos:0<xs.length:=by
   cases xs with
   |nil=>exact absurd rfl hne
   |cons=>simp
  rw [hv];have p1:∀k:Nat,mk k≠[]->1000000000 ^ ((mk k).length-1)<=k:=fun k hk=>by
   have:=agb (wY k) hk
   rwa [val_mk]at this
  by_cases hmn:(mk n).length<=(mk m).length
  ·have hm:mk m≠[]:=by intro e;have h0:(mk m).length=0:=(by rw [e];rfl);omega
   have:=p1 m hm;have h2:(1000000000:Nat) ^ (xs.length-1)<=1000000000 ^ ((mk m).length-1):=gI (by omega) (by omega);omega
  have hm:mk n≠[]:=by intro e;have h0:(mk n).length=0:=(by rw [e];rfl);omega
  have:=p1 n hm;have h2:(1000000000:Nat) ^ (xs.length-1)<=1000000000 ^ ((mk n).length-1):=gI (by omega) (by omega);omega
 exact hl
theorem NY{l:List Int}{i:Nat}(h:l.length<=i):l.getD i 0=0:=by
 rw [aj,bC h];rfl
theorem qW(l:List Int)(i:Nat):val (l.drop i)=(l.getD i 0).toNat+1000000000*val (l.drop (i+1)):=by
 by_cases h:i<l.length
 ·exact alX h
 rw [nK (by omega),nK (by omega),NY (by omega)];rfl
end Go.Ml
namespace Go.Ml
theorem sV(l:List Int)(i j:Nat)(v:Int):(l.set i v).getD j 0=if i=j/\i<l.length then v else l.getD j 0:=by
 simp only [aj,fH];by_cases h:i=j
 ·subst h;by_cases h2:i<l.length
  ·simp [h2]
  simp [h2,bC (Nat.le_of_not_lt h2)]
 simp [h]
end Go.Ml
namespace Go.Ml
theorem drop_set_self{l:List Int}{i:Nat}{d:Int}(h:i<l.length):(l.set i d).drop i=d::l.drop (i+1):=by
 induction l generalizing i with
 |nil=>simp at h
 |
  cons x l ih =>
  cases i with
  |zero=>simp
  |succ i=>simpa using ih (by simpa using h)
theorem yG{a b:Nat}:0<=MX a b↔b<=a:=by
 unfold MX;by_cases h:a<b
 ·rw [aQ h];omega
 rw [aN h];split<;>omega
theorem mk_one{d:Nat}(h0:0<d)(h1:d<1000000000):mk d=[(d:Int)]:=by
 rw [mk_pos (by omega),Nat.mod_eq_of_lt h1,Nat.div_eq_of_lt h1,mk_zero]
theorem amr{r b:Nat}(hb:0<b)(hle:b<=r)(hlt:r<b*1000000000) :
  (mk b).length<=(mk r).length/\(mk r).length<=(mk b).length+1/\0<(mk b).length /\
  ((mk b).length=1->let d:=val ((mk r).drop 0) / ((mk b).getD 0 0).toNat;0<d/\d<1000000000/\d*b<=r/\0<((mk b).getD 0 0).toNat) /\
  (let d:=val ((mk r).drop ((mk b).length-1)) / (((mk b).getD ((mk b).length-1) 0).toNat+1);d<1000000000/\d*b<=r):=by
 have hbm:=alW (n:=b) (by omega);have h1:(mk b).length<=(mk r).length:=by
  have:(mk b).length-1<(mk r).length:=by
   rw [aaD];have:=agb (wY b) (by intro e;rw [e]at hbm;simp at hbm);rw [val_mk]at this;omega
  omega
 have h2:(mk r).length<=(mk b).length+1:=by
  rw [l9,jk];have:=zL (wC b);rw [val_mk]at this;exact bD hlt (dG _ (Nat.le_of_lt this))
 refine⟨h1,h2,hbm,?_,?_⟩
 ·intro hm;have eb:((mk b).getD 0 0).toNat=b:=by
   have h3:=qW (mk b) 0;rw [dA,val_mk,nK (by omega)]at h3;omega
  rw [dA,val_mk,eb];refine⟨Nat.div_pos hle hb,jw (by omega),Nat.div_mul_le_self r b,hb⟩
 have er:=BP (mk r) ((mk b).length-1);have eb:=BP (mk b) ((mk b).length-1);rw [val_mk]at er eb;have l1:((mk r).take ((mk b).length-1)).length=(mk b).length-1:=by simp;omega
 have l2:((mk b).take ((mk b).length-1)).length=(mk b).length-1:=by simp
 rw [l1]at er;rw [l2]at eb;have ed:=qW (mk b) ((mk b).length-1);rw [show (mk b).length-1+1=(mk b).length by omega,nK (aJ _)]at ed;have hlo:=zL (abL (wC b) ((mk b).length-1));rw [l2]at hlo;generalize hP:1000000000 ^ ((mk b).length-1)=P at *;generalize hT:val ((mk r).drop ((mk b).length-1))=t at *;generalize hB:((mk b).getD ((mk b).length-1) 0).toNat=bt at *;have hd:=Nat.div_mul_le_self t (bt+1);generalize hq:t / (bt+1)=d at *;have hbb:b<=P*(bt+1):=by rw [Nat.mul_succ];rw [ed]at eb;simp only [kL,iP]at eb;omega
 have key:d*b<=r:=by
  have s1:d*b<=d*(P*(bt+1)):=Nat.mul_le_mul_left _ hbb;have s2:d*(P*(bt+1))=P*(d*(bt+1)):=by rw [Nat.mul_left_comm]
  have s3:P*(d*(bt+1))<=P*t:=Nat.mul_le_mul_left _ hd;omega
 refine⟨?_,key⟩;have:d*b<1000000000*b:=by rw [dS 1000000000];omega
 exact Nat.lt_of_mul_lt_mul_right this
def azr(σ:Store)(r:V)(ts:List (Bool×V)):Prop:=∃W σ2 vs os,ReS W σ σ2/\yA W σ r (.oU vs)/\Xr σ2 vs ts os/\os.Nodup
theorem Uf{T:Tb}{f:Nat}{F:Fn}{args:List V}{ts:List (Bool×V)}(rf:Nat->Nat->Bool)(hT:T f=some F)
  (h:wp T rf F.body (fun e st=>endW F.res e (fun r σ=>agr σ r ts\/azr σ r ts) st) (St.enter args [])) (hl:args.length=F.nargs:=by rfl) (hk:F.body.okC=true:=by rfl):PX T f args ts:=by
 obtain⟨r,σ',h1,h2⟩:=run_end rf hT h hl hk;rcases h2 with ⟨vs,os,h2,h3,h4⟩|⟨W,σ2,vs,os,h2,h3,h4,h5⟩
 ·exact⟨vs,σ',os,.abt (zi _) h1 h2,h3,h4⟩
 exact⟨vs,σ2,os,.reF W (zi _) h1 h2 h3,h4,h5⟩
theorem aqU{σ:Store}{v w t u:V}{os:List Nat}(h:mP σ v t os)(hn:os.Nodup)(hr:resolve σ FD w=some u):agr σ (.oU [v,w]) [(true,t),(false,u)]:=by
 refine⟨[v,w],os,kR _,?_,hn⟩;simp only [Xr,if_true,bM,if_false];exact⟨v,[w],os,[],rfl,by simp,h,w,[],[],[],rfl,rfl,⟨hr,rfl⟩,rfl,rfl⟩
theorem aaR(l:List Int):trim l=l.take (trim l).length/\(trim l).length<=l.length:=by
 have h:=adS l l.length;have e2:(trim l).length=yE l l.length:=by unfold trim;rw [eu];omega
 exact⟨by rw [e2];rfl,by omega⟩
theorem aqV{Q:List Int}{n:Nat}(h:n<=Q.length):ReS [some (0,0,n)] [some ⟨1,kU Q⟩] [some ⟨1,kU (Q.take n)⟩]:=by
 refine⟨rfl,fun i j o s l s' l' h1 h2=>?_,fun k o s l hk=>?_,fun k hk=>?_⟩
 ·cases i with
  |
   zero=>cases j with
   |zero=>rfl
   |succ j=>simp at h2
  |succ i=>simp at h1
 ·cases k with
  |succ k=>simp at hk
  |
   zero =>
   simp only [jP,aB,Prod.mk.injEq]at hk;obtain⟨rfl,rfl,rfl⟩:=hk;refine⟨⟨1,kU Q⟩,⟨1,kU (Q.take n)⟩,rfl,by rw [vK];omega,rfl,rfl,by rw [vK,eu];omega,fun i r r2 h1 h2=>?_⟩;have hi:i<n:=by
    have:=(aP.1 h2).1;rw [vK,eu]at this;omega
   have e:r2=r:=by
    rw [aX]at h1;simp only [kU,bP]at h1 h2;rw [jL hi,h1]at h2;exact(Option.some.inj h2).symm
   subst e;refine JE fun v hv=>uM Q r2 ?_ v hv;exact bn h1
 cases k<;>simp at hk
theorem ams{Q:List Int}{n:Nat}{t u:V}(h:n<=Q.length)(ht:t=ints (Q.take n))(hu:u.still=true):azr [some ⟨1,kU Q⟩] (.oU [.lQ 0 0 n,u]) [(true,t),(false,u)]:=by
 subst ht;refine⟨[some (0,0,n)],[some ⟨1,kU (Q.take n)⟩],[.lQ 0 0 n,u],[0],aqV h,?_,?_,by simp⟩
 ·simp only [yA,yB];exact⟨_,rfl,_,_,rfl,.inl ⟨0,0,n,rfl,aJ _,by omega,rfl⟩,_,_,rfl,FZ hu,rfl⟩
 simp only [Xr,if_true,bM,if_false];refine⟨_,[u],[0],[],rfl,rfl,?_,u,[],[],[],rfl,rfl,⟨aaz (n:=11) hu,rfl⟩,rfl,rfl⟩;have:=Ud (σ:=[some ⟨1,kU (Q.take n)⟩]) (o:=0) (l:=Q.take n) rfl
 rwa [eu,Nat.min_eq_left h]at this
end Go.Ml
end
