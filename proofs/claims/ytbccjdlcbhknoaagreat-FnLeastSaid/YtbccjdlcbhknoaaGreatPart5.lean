/- Contracts of functions. -/
import Derived.Test.YtbccjdlcbhknoaaGreatPart4
set_option linter.unusedSimpArgs false
set_option linter.unusedVariables false
set_option maxRecDepth 100000
set_option maxHeartbeats 16000000
section
namespace Go.Ml
def OO(g:Gd)(v:Int):Nat:=dg g v.toNat 10
def pk(g:Gd):List Int→Int→Int
 | [],b=>b
 |v::l,b=>pk g l (if OO g v<OO g b then v else b)
theorem akz(g:Gd)(v:Int)(l:List Int)(b:Int):pk g (v::l) b=pk g l (if OO g v<OO g b then v else b):=rfl
theorem akA(g:Gd):∀(l:List Int) (b:Int),pk g l b=b∨pk g l b∈l
 | [],b=>.inl rfl
 |
  v::l,b=>by
  rw [akz];rcases akA g l (if OO g v<OO g b then v else b)with h|h
  ·rw [h];split
   ·exact .inr (by simp)
   exact .inl rfl
  exact .inr (by simp [h])
def chI(rest last:List Int):List Int:=rest.filter fun x=>decide (x∉last)
def ch2(rest last:List Int):List Int:=if chI rest last=[]then rest else chI rest last
def WC(g:Gd)(rest last:List Int):Int:=pk g (ch2 rest last) ((ch2 rest last).getD 0 0)
theorem ae8{rest last:List Int}{x:Int}(h:x∈ch2 rest last):x∈rest:=by
 unfold ch2 at h;split at h
 ·exact h
 exact(dO.1 h).1
theorem akB{rest last:List Int}(h:rest≠[]):ch2 rest last≠[]:=by
 unfold ch2;split
 ·exact h
 assumption
theorem abk{g:Gd}{rest last:List Int}(h:rest≠[]):WC g rest last∈rest:=by
 have h2:=akB (last:=last) h;have h3:(ch2 rest last).getD 0 0∈ch2 rest last:=by
  cases e:ch2 rest last with
  |nil=>exact absurd e h2
  |cons x l=>simp
 refine ae8 (last:=last) ?_;unfold WC;rcases akA g (ch2 rest last) ((ch2 rest last).getD 0 0)with e|e
 ·rw [e];exact h3
 exact e
def IC(last:List Int)(g0:Gd)(ns:List Int):Nat→Gd×List Int×List Int
 |0=>(g0,ns,[])
 |k+1=>(abb (IC last g0 ns k).1 (WC (IC last g0 ns k).1 (IC last g0 ns k).2.1 last).toNat,woI (IC last g0 ns k).2.1 (WC (IC last g0 ns k).1 (IC last g0 ns k).2.1 last),(IC last g0 ns k).2.2++[WC (IC last g0 ns k).1 (IC last g0 ns k).2.1 last])
theorem anO{l:List Int}{n x:Int}(h:x∈woI l n):x∈l:=(dO.1 h).1
structure az7 (last:List Int) (g0:Gd) (ns:List Int) (k:Nat):Prop where
 len:(IC last g0 ns k).2.1.length+k=ns.length
 out:(IC last g0 ns k).2.2.length=k
 nd:(IC last g0 ns k).2.1.Nodup
 sub:∀x∈(IC last g0 ns k).2.1,x∈ns
 rest:(IC last g0 ns k).2.1=ns.filter fun x=>decide (x∉(IC last g0 ns k).2.2)
 gok:Gok (IC last g0 ns k).1
theorem ae9{last:List Int}{g0:Gd}{ns:List Int}(hn:ns.Nodup)(hg:Gok g0):∀k,k≤ns.length→az7 last g0 ns k
 |0,_=>⟨rfl,rfl,hn,fun x h=>h,(List.filter_eq_self.2 (by intro x _;simp [IC])).symm,hg⟩
 |
  k+1,hk=>by
  have ih:=ae9 (last:=last) hn hg k (by omega);have hne:(IC last g0 ns k).2.1≠[]:=fun e=>by have:=ih.len;rw [e]at this;simp at this;omega
  have hm:=abk (g:=(IC last g0 ns k).1) (last:=last) hne;have hl:=anN ih.nd hm;have h1:=ih.len;have h2:=ih.out;refine⟨?_,?_,ih.nd.filter _,fun x hx=>ih.sub x (anO hx),?_,anM ih.gok _⟩
  ·show (woI (IC last g0 ns k).2.1 _).length+(k+1)=ns.length;omega
  ·show ((IC last g0 ns k).2.2++[_]).length=k+1;rw [aO,h2];rfl
  show woI (IC last g0 ns k).2.1 _=ns.filter fun x=>decide (x∉(IC last g0 ns k).2.2++[_]);rw [←adp,←ih.rest]
def VO(l:List Lk)(last:List Int):List Int:=if kN l=true then(IC last (gOf l l.length) (uz l) (uz l).length).2.2 else []
theorem anP(l:List Lk)(last:List Int):(VO l last).length≤10:=by
 unfold VO;split
 ·rename_i h;rw [(ae9 (F5 (JF l)) (TR h l.length (aJ _)) _ (aJ _)).out];exact JE l
 simp
theorem abl{l:List Int}{i:Nat}(h:i<l.length):l.getD i 0∈l:=by
 rw [aj,au h];exact fD h
theorem anQ{l:List Lk}{last:List Int}(hok:kN l=true):ND l (VO l last)=true:=by
 have io:=ae9 (last:=last) (F5 (JF l)) (TR hok l.length (aJ _)) _ (aJ _);unfold VO;rw [if_pos hok];refine decide_eq_true ⟨hok,io.out,fun x hx=>?_⟩;have h0:(IC last (gOf l l.length) (uz l) (uz l).length).2.1=[]:=aY (by have:=io.len;omega);have hr:=io.rest;rw [h0]at hr;have:=List.filter_eq_nil_iff.1 hr.symm x hx;simpa using this
theorem adq{n:Nat}{S:List Lk}(h:Qb n S):1≤(uz S).length:=by
 obtain⟨x,hx,h1,h2⟩:=h.base 0 (by have:=h.rn;omega);have hm:(1:Int)∈uz S:=by
  rw [PS h.ok,Oq];refine⟨by decide,by decide,?_⟩;obtain⟨k,hk⟩:=bD.1 hx;have hkl:=(aN.1 hk).1;refine aaI.2 ⟨k,hkl,.inr ?_⟩;rw [aj,hk];exact h2
 exact List.length_pos_of_mem hm
def tN:Nat→Nat
 |0=>63
 |i+1=>n1 (tN i) (5-i)
def tB:Nat→Nat
 |0=>1260
 |i+1=>b1 (tN i) (tB i) (5-i)
def tD:Nat→Nat
 |0=>1
 |i+1=>tD i*((5-i)*tN i)
theorem avR:∀i,i<5→stF (tD i) (tN i) (tB i) (5-i)=true:=by decide +kernel
theorem arD:∀i,i<6→63≤tN i∧1260≤tB i∧1≤tD i:=by decide +kernel
inductive Cn (S:List Lk):Int→Prop
 |z:Cn S 0
 |s {u w:Int} {x:Lk}:x∈S→(x.a=u∧x.b=w∨x.a=w∧x.b=u)→Cn S w→Cn S u
def Adj(S:List Lk)(u w:Int):Prop:=∃x∈S,x.a=u∧x.b=w∨x.a=w∧x.b=u
theorem Cn.of{S:List Lk}{u w:Int}(h:Adj S u w)(hw:Cn S w):Cn S u:=by
 obtain⟨x,hx,h⟩:=h;exact .s hx h hw
theorem Adj.sym{S:List Lk}{u w:Int}(h:Adj S u w):Adj S w u:=by
 obtain⟨x,hx,h⟩:=h;exact⟨x,hx,h.symm⟩
theorem Cn.adj{S:List Lk}{u:Int}(h:Cn S u)(h0:u≠0):∃w,Adj S u w:=by
 cases h with
 |z=>exact absurd rfl h0
 |s hx h hw=>exact⟨_,_,hx,h⟩
theorem Y9{S:List Lk}{v w:Int}(h:Adj S v w):∃a∈nS S v,a.node=w:=by
 obtain⟨x,hx,h⟩:=h;have hs:stP v x=true:=by
  unfold stP;simp only [dB,decide_eq_true_eq];omega
 refine⟨Vt v x,?_,?_⟩
 ·rw [I8];exact bG.2 ⟨x,dO.2 ⟨hx,hs⟩,rfl⟩
 unfold Vt;split
 ·dsimp only;omega
 dsimp only;omega
theorem anR{S:List Lk}{v:Int}{a:Pa}(h:a∈nS S v):Adj S v a.node:=by
 rw [I8]at h;obtain⟨x,hx,rfl⟩:=bG.1 h;obtain⟨h1,h2⟩:=dO.1 hx;unfold stP at h2;simp only [dB,decide_eq_true_eq]at h2;refine⟨x,h1,?_⟩;unfold Vt;split
 ·exact .inl ⟨by assumption,rfl⟩
 exact .inr ⟨rfl,by omega⟩
theorem akC{A:List Pa}{a b:Pa}(ha:a∈A)(hb:b∈A)(hn:a.node≠b.node):Adj (JR A) a.node b.node:=by
 obtain⟨i,hi,rfl⟩:=List.mem_iff_getElem.1 ha;obtain⟨j,hj,rfl⟩:=List.mem_iff_getElem.1 hb;have ei:A[i]=A.getD i default:=by rw [aj,au hi];rfl
 have ej:A[j]=A.getD j default:=by rw [aj,au hj];rfl
 rw [ei,ej]at *;rcases Nat.lt_trichotomy i j with h|h|h
 ·exact⟨_,Qk hi h hj,.inl ⟨rfl,rfl⟩⟩
 ·subst h;exact absurd rfl hn
 exact⟨_,Qk hj h hi,.inr ⟨rfl,rfl⟩⟩
theorem TS{S:List Lk}{v:Int}(h:Kw S v=true)(i j:Int):(∃x∈TP S v,x.a=i∧x.b=j)↔∃x∈S.filter (Tq v)++JR (nS S v),x.a=i∧x.b=j:=by
 have e2:=(Wx h).2.1;unfold Kw at h;rw [aG]at h;obtain⟨hB,hj⟩:=h;have eM:=(aa3 hB).2;unfold TM at hB;simp only [aG]at hB;obtain⟨⟨⟨hS,_⟩,_⟩,hM⟩:=hB;have hL:OM S v=S.filter (Tq v)++JR (nS S v):=by unfold OM;rw [eM]
 rw [e2,←hL];refine TI hj (fun x hx=>?_) i j;rw [hL]at hx;rcases aK.1 hx with hx|hx
 ·exact pW hS (dO.1 hx).1
 exact aT.1 hM x hx
theorem akD{S:List Lk}{v u w:Int}(h:Kw S v=true):Adj (TP S v) u w↔Adj (S.filter (Tq v)++JR (nS S v)) u w:=by
 have k1:=TS h u w;have k2:=TS h w u;constructor
 ·rintro⟨x,hx,e|e⟩
  ·obtain⟨y,hy,e⟩:=k1.1 ⟨x,hx,e⟩;exact⟨y,hy,.inl e⟩
  obtain⟨y,hy,e⟩:=k2.1 ⟨x,hx,e⟩;exact⟨y,hy,.inr e⟩
 rintro⟨x,hx,e|e⟩
 ·obtain⟨y,hy,e⟩:=k1.2 ⟨x,hx,e⟩;exact⟨y,hy,.inl e⟩
 obtain⟨y,hy,e⟩:=k2.2 ⟨x,hx,e⟩;exact⟨y,hy,.inr e⟩
theorem anS{S:List Lk}{v:Int}(hS:kN S=true)(h:Kw S v=true)(hv:v≠0):∀u,Cn S u→(u≠v→Cn (TP S v) u)∧(u=v→∃w,w≠v∧Adj S v w∧Cn (TP S v) w):=by
 intro u hu
 induction hu with
 |z=>exact⟨fun _=>.z,fun e=>absurd e.symm hv⟩
 |
  @s u w x hx hxe hw ih =>
  have hne:u≠w:=by
   have:=qJ (pW hS hx);omega
  constructor
  ·intro huv;by_cases e:w=v
   ·obtain⟨w',h1,h2,h3⟩:=ih.2 e;subst e;by_cases e2:w'=u
    ·rw [←e2];exact h3
    obtain⟨a,ha,rfl⟩:=Y9 (Adj.sym ⟨x,hx,hxe⟩);obtain⟨b,hb,rfl⟩:=Y9 h2;obtain⟨y,hy,hye⟩:=akC ha hb fun e=>e2 e.symm;exact Cn.of (akD h |>.2 ⟨y,aK.2 (.inr hy),hye⟩) h3
   refine Cn.of (akD h |>.2 ⟨x,aK.2 (.inl (dO.2 ⟨hx,?_⟩)),hxe⟩) (ih.1 e);unfold Tq;simp only [aG,decide_eq_true_eq];rcases hxe with ⟨e1,e2⟩|⟨e1,e2⟩
   ·rw [e1,e2];exact⟨huv,e⟩
   rw [e1,e2];exact⟨e,huv⟩
  rintro rfl;exact⟨w,fun e=>hne e.symm,⟨x,hx,hxe⟩,ih.1 fun e=>hne e.symm⟩
def cS(S:List Lk)(o:List Int):Nat→List Lk
 |0=>S
 |k+1=>TP (cS S o k) (o.getD k 0)
def cA(S:List Lk)(o:List Int)(k:Nat):List Pa:=nS (cS S o k) (o.getD k 0)
def cD(S:List Lk)(o:List Int):Nat→Int
 |0=>1
 |k+1=>cD S o k*SA (cD S o k) (cA S o k)
def cE(S:List Lk)(o:List Int):Nat→R
 |0=>ku 0
 |k+1=>mG (cE S o k) (rnE (cS S o k) (o.getD k 0))
def cN(S:List Lk)(o:List Int)(k:Nat):List Cd:=(List.range k).map fun j=>TN (cS S o j) (o.getD j 0)
theorem az8(S:List Lk)(o:List Int)(k:Nat):cN S o (k+1)=cN S o k++[TN (cS S o k) (o.getD k 0)]:=by
 unfold cN;rw [jd,cZ];rfl
theorem aoM{S:List Lk}{o:List Int}:∀k,(∀j,j<k→Kw (cS S o j) (o.getD j 0)=true)→Sz S o k=some (cS S o k,cN S o k,cE S o k)
 |0,_=>rfl
 |
  k+1,h=>by
  simp only [Sz];rw [aoM k fun j hj=>h j (by omega)];dsimp only;rw [if_pos (h k (by omega)),az8];rfl
structure Dr (S:List Lk) (o:List Int):Prop where
 ok:kN S=true
 cm:∀x∈S,Cm 1 63 1260 x
 len:o.length≤5
 nd:∀x∈S,(x.a=0∨x.a∈o)∧(x.b=0∨x.b∈o)
 cn:∀u∈o,Cn S u
 o:o.Nodup∧∀u∈o,1≤u∧u≤9
structure Ch (S:List Lk) (o:List Int) (k:Nat):Prop where
 ok:kN (cS S o k)=true
 cm:∀x∈cS S o k,Cm (cD S o k) (tN (5-o.length+k)) (tB (5-o.length+k)) x
 d:1≤cD S o k∧Ab (cD S o k) (tD (5-o.length+k))
 nd:∀x∈cS S o k,(x.a=0∨x.a∈o.drop k)∧(x.b=0∨x.b∈o.drop k)
 cn:∀u∈o.drop k,Cn (cS S o k) u
structure Cst (S:List Lk) (o:List Int) (k:Nat):Prop where
 ar:Ar (o.getD k 0) (cD S o k) (tN (5-o.length+k)) (tB (5-o.length+k)) (o.length-k) (cA S o k)
 b:Kw (cS S o k) (o.getD k 0)=true
 nd:∀a∈cA S o k,a.node=0∨a.node∈o.drop (k+1)
theorem abm{o:List Int}{k:Nat}(h:k<o.length):o.drop k=o.getD k 0::o.drop (k+1):=by
 rw [bH h,aj,au h];rfl
theorem anT{S:List Lk}{o:List Int}(h:Dr S o){k:Nat}(hk:k<o.length)(hc:Ch S o k):Cst S o k∧Ch S o (k+1):=by
 have hd:=abm hk;have hvo:o.getD k 0∈o:=abl hk;have hv:=h.o.2 _ hvo;have hnd:(o.drop k).Nodup:=(List.drop_sublist k o).nodup h.o.1;have hl:=h.len;rw [hd]at hnd;have hvn:o.getD k 0∉o.drop (k+1):=(gI.1 hnd).1;have hcn:=hc.cn;have hcd:=hc.nd;rw [hd]at hcn hcd;generalize hve:o.getD k 0=v at *;have hA:cA S o k=nS (cS S o k) v:=by unfold cA;rw [hve]
 have hD:cD S o (k+1)=cD S o k*SA (cD S o k) (nS (cS S o k) v):=by rw [←hA];rfl
 have hS':cS S o (k+1)=TP (cS S o k) v:=by rw [←hve];rfl
 have hok:=hc.ok;have hcm:=hc.cm;have hdd:=hc.d;generalize hSk:cS S o k=Sk at *;generalize hDk:cD S o k=D at *;have harm:∀a∈nS Sk v,a.node=0∨a.node∈o.drop (k+1):=fun a ha=>by
  obtain⟨x,hx,e⟩:=anR ha;have n:=qJ (pW hok hx);have m:=hcd x hx;rcases e with ⟨e1,e2⟩|⟨e1,e2⟩
  ·rcases m.2 with m|m
   ·exact .inl (by omega)
   rcases aH.1 m with m|m
   ·omega
   rw [←e2];exact .inr m
  rcases m.1 with m|m
  ·exact .inl (by omega)
  rcases aH.1 m with m|m
  ·omega
  rw [←e1];exact .inr m
 have hasc:(nS Sk v).Pairwise fun a b=>a.node<b.node:=by
  have e:=(aeL hok v).symm;have hn:Asc (nbI Sk v Sk.length):=by rw [←aot hok v];exact Tm _ _ .nil
  rw [e,fQ];refine List.Pairwise.imp ?_ hn;intro a b hab;unfold Vl;split<;>split<;>exact hab
 have hlen:(nS Sk v).length≤o.length-k:=by
  have:=Bo (a:=(nS Sk v).map (·.node)) (b:=0::o.drop (k+1)) (by
   unfold List.Nodup;rw [fQ];exact hasc.imp fun h=>by omega) (fun x hx=>by
   obtain⟨a,ha,rfl⟩:=bG.1 hx;rcases harm a ha with e|e
   ·rw [e];simp
   exact dK _ e)
  simp at this;omega
 have hpos:1≤(nS Sk v).length:=by
  obtain⟨w,hw⟩:=(hcn v (by simp)).adj (by omega);obtain⟨a,ha,_⟩:=Y9 hw;exact List.length_pos_of_mem ha
 have hF:=avR (5-o.length+k) (by omega);have hlo:=arD (5-o.length+k) (by omega);have hm:5-(5-o.length+k)=o.length-k:=by omega
 rw [hm]at hF;obtain⟨hAr,hB,hC⟩:=avQ hok hcm hdd.1 hdd.2 ⟨hv.1,hv.2⟩ ⟨hpos,hlen⟩ (by omega) (by omega) hF;have ht:=hAr.t;have hi:5-o.length+(k+1)=5-o.length+k+1:=by omega
 have hS2:=hS';refine⟨⟨by rw [hA,hve,hDk];exact hAr,by rw [hve,hSk];exact hB,by rw [hA];exact harm⟩,⟨by rw [hS'];exact akd hB,?_,?_,?_,?_⟩⟩
 ·rw [hS',hD,hi];intro x hx;have:=hC x hx;show Cm _ (n1 (tN (5-o.length+k)) (5-(5-o.length+k))) (b1 (tN (5-o.length+k)) (tB (5-o.length+k)) (5-(5-o.length+k))) x;rw [hm];exact this
 ·rw [hD,hi];refine⟨pz hdd.1 ht.1,?_⟩;show Ab _ (tD (5-o.length+k)*((5-(5-o.length+k))*tN (5-o.length+k)));rw [hm];exact jY hdd.2 ht.2
 ·rw [hS'];intro x hx;obtain⟨y,hy,e1,e2⟩:=(TS hB x.a x.b).1 ⟨x,hx,rfl,rfl⟩;rw [←e1,←e2];rcases aK.1 hy with hy|hy
  ·obtain⟨h1,h2⟩:=dO.1 hy;unfold Tq at h2;simp only [aG,decide_eq_true_eq]at h2;have m:=hcd y h1;refine⟨?_,?_⟩
   ·rcases m.1 with m|m
    ·exact .inl m
    exact .inr ((aH.1 m).resolve_left h2.1)
   rcases m.2 with m|m
   ·exact .inl m
   exact .inr ((aH.1 m).resolve_left h2.2)
  obtain⟨p,q,h1,h2,h3,rfl⟩:=GR hy;exact⟨harm _ (getD_mem (by omega)),harm _ (getD_mem h3)⟩
 rw [hS'];intro u hu;exact(anS hok hB (by omega) u (hcn u (by simp [hu]))).1 fun e=>hvn (e▸hu)
theorem BU{S:List Lk}{o:List Int}(h:Dr S o):∀k,k≤o.length→Ch S o k∧∀j,j<k→Cst S o j
 |
  0,hk=>by
  have hl:=h.len;have hlo:=arD (5-o.length) (by omega);refine⟨⟨h.ok,fun x hx=>?_,⟨Int.le_refl 1,?_⟩,h.nd,h.cn⟩,fun j hj=>absurd hj (gG _)⟩
  ·exact(h.cm x hx).mono (by rw [gq];exact hlo.1) (by rw [gq];exact hlo.2.1)
  rw [gq];exact hlo.2.2
 |
  k+1,hk=>by
  obtain⟨h1,h2⟩:=BU h k (by omega);obtain⟨h3,h4⟩:=anT h (by omega) h1;refine⟨h4,fun j hj=>?_⟩;by_cases e:j=k
  ·subst e;exact h3
  exact h2 j (by omega)
def cV(S:List Lk)(o:List Int):Nat→Rat
 |0=>0
 |k+1=>cV S o k+(rnE (cS S o k) (o.getD k 0)).v
def cQ(P:List Pt)(S:List Lk)(o:List Int):Nat→Rat
 |0=>0
 |k+1=>cQ P S o k+(TN (cS S o k) (o.getD k 0)).total.v*dsq P (o.getD k 0) (cA S o k)
theorem VD{P:List Pt}{S:List Lk}{o:List Int}:∀k,(∀j,j<k→Kw (cS S o j) (o.getD j 0)=true)→tot (Qg P) S=tot (Qg P) (cS S o k)+cV S o k+cQ P S o k
 |
  0,_=>by
  simp only [cV,cQ,Rat.add_zero];rfl
 |
  k+1,h=>by
  rw [VD (P:=P) k fun j hj=>h j (by omega),(akm (P:=P) (h k (by omega))).1];simp only [cV,cQ,cS];show _=_+(_+_)+(_+_*dsq P (o.getD k 0) (nS (cS S o k) (o.getD k 0)))
  grind
theorem aoN(a:Rat):0≤a*a:=by
 rcases Rat.le_total (a:=0) (b:=a)with h|h
 ·exact Rat.mul_nonneg h h
 have:0 ≤ -a:=by grind
 have:=Rat.mul_nonneg this this
 grind
theorem arE(P:List Pt)(v:Int)(A:List Pa):0≤dsq P v A:=by
 unfold dsq;have h1:=aoN ((P.getD v.toNat default).x.v-pX P A);have h2:=aoN ((P.getD v.toNat default).y.v-pY P A)
 grind
theorem aoO{P:List Pt}{S:List Lk}{o:List Int}:∀k,(∀j,j<k→Kw (cS S o j) (o.getD j 0)=true)→0≤cQ P S o k
 |0,_=>Rat.le_refl
 |
  k+1,h=>by
  have h1:=aoO (P:=P) (S:=S) (o:=o) k fun j hj=>h j (by omega);have h2:=(akm (P:=P) (h k (by omega))).2.1;have h3:=Rat.mul_nonneg (Rat.le_of_lt h2) (arE P (o.getD k 0) (cA S o k));simp only [cQ]
  grind
def cod(x:Lk):Int:=10*x.a+x.b
theorem arG{S:List Lk}(h:kN S=true):(S.map cod).Nodup:=by
 obtain⟨h1,h2⟩:=qB.1 h;unfold List.Nodup;rw [fQ];refine List.Pairwise.imp_of_mem ?_ h2;intro a b ha hb hab;have n1:=qJ (h1 a ha);have n2:=qJ (h1 b hb);rw [uD]at hab;unfold cod;omega
theorem abn(v:Int):∀S:List Lk,S.length=(S.filter (Tq v)).length+(S.filter (stP v)).length
 | []=>rfl
 |
  x::S=>by
  have ih:=abn v S;have hw:=akg v x
  cases h:stP v x
  ·rw [h]at hw;rw [List.filter_cons_of_pos hw,List.filter_cons_of_neg (by rw [h];simp)];simp only [ak];omega
  rw [h]at hw;rw [List.filter_cons_of_neg (by rw [hw];simp),List.filter_cons_of_pos h];simp only [ak];omega
theorem arH{S:List Lk}{v:Int}(hS:kN S=true)(h:Kw S v=true):S.length≤(TP S v).length+(nS S v).length:=by
 have e:(nS S v).length=(S.filter (stP v)).length:=by rw [I8,aX]
 have k:=Bo (a:=(S.filter (Tq v)).map cod) (b:=(TP S v).map cod) (((List.filter_sublist).map cod).nodup (arG hS)) fun x hx=>by
  obtain⟨y,hy,rfl⟩:=bG.1 hx;obtain⟨z,hz,e1,e2⟩:=(TS h y.a y.b).2 ⟨y,aK.2 (.inl hy),rfl,rfl⟩;exact bG.2 ⟨z,hz,by unfold cod;rw [e1,e2]⟩
 rw [aX,aX]at k;rw [abn v S,e];omega
def tL(i:Nat):Nat:=(5-i)*(6-i) / 2
theorem az9:∀i,i<5→tL i=tL (i+1)+(5-i):=by decide
theorem akE{S:List Lk}{o:List Int}(h:Ch S o o.length):cS S o o.length=[]:=by
 have hn:=h.nd;have hk:=h.ok
 cases hS:cS S o o.length with
 |nil=>rfl
 |
  cons x l =>
  rw [hS]at hn hk;have n:=hn x (by simp);have m:=qJ (pW hk (x:=x) (by simp));rw [gJ]at n;simp only [bP,or_false]at n;omega
theorem adr{S:List Lk}{o:List Int}(h:Dr S o):∀d k,k+d=o.length→(cS S o k).length≤tL (5-o.length+k)
 |
  0,k,hk=>by
  have e:k=o.length:=by omega
  rw [e,akE (BU h _ (aJ _)).1];exact fH _
 |
  d+1,k,hk=>by
  have ih:=adr h d (k+1) (by omega);have hc:=(BU h k (by omega)).1;have hs:=(BU h (k+1) (by omega)).2 k (by omega);have:=arH hc.ok hs.b;have hl:=hs.ar.len.2;have hl5:=h.len;have ht:=az9 (5-o.length+k) (by omega);have e2:5-o.length+(k+1)=5-o.length+k+1:=by omega
  rw [e2]at ih;have e3:(cS S o (k+1)).length=(TP (cS S o k) (o.getD k 0)).length:=rfl;have e4:(cA S o k).length=(nS (cS S o k) (o.getD k 0)).length:=rfl;omega
theorem abo{P N:Nat}(hN:1≤N){k:Nat}:∀n,k≤n→(hb P N k).1≤(hb P N n).1∧(hb P N k).2≤(hb P N n).2
 |0,h=>by rw [Nat.le_zero.1 h];exact⟨aJ _,aJ _⟩
 |
  n+1,h=>by
  by_cases e:k=n+1
  ·rw [e];exact⟨aJ _,aJ _⟩
  have h1:=abo (P:=P) hN n (by omega:k≤n);have h2:=Y7 (P:=P) hN n;omega
theorem avS{D:Int}{N B:Nat}{x:Lk}(h:Cm D N B x):∃z n:Int,(1≤n∧Ab n N)∧Ab z (2*(B*B))∧mZ x=(z:Rat) / ((D*n:Int):Rat):=by
 obtain⟨n,p,q,h1,h2,h3,h4,h5⟩:=h.ex;refine⟨p*p+q*q,n,h1,(vC (jY h2.1 h2.1) (jY h2.2 h2.2)).mono (by omega),?_⟩;have hD:=lJ h3.n;have hn:=lJ h1.1;unfold mZ;rw [h3.v,h4.v,h5.v];simp only [Rat.intCast_mul,Rat.intCast_add]
 grind
theorem ads{D:Int}{N B:Nat}(hD:1≤D):∀S:List Lk,(∀x∈S,Cm D N B x)→∃z Q:Int,1≤Q∧Ab Q (hb (2*(B*B)) N S.length).2∧Ab z (hb (2*(B*B)) N S.length).1∧tot mZ S=(z:Rat) / ((D*Q:Int):Rat)
 | [],_=>⟨0,1,by decide,by simp [Ab,hb],by simp [Ab,hb],by simp only [tot];rw [Rat.intCast_zero,Rat.div_def,Rat.zero_mul]⟩
 |
  x::S,h=>by
  obtain⟨z,Q,h1,h2,h3,h4⟩:=ads hD S fun y hy=>h y (by simp [hy]);obtain⟨y,n,k1,k2,k3⟩:=avS (h x (by simp));refine⟨z*n+y*Q,Q*n,pz h1 k1.1,jY h2 k1.2,vC (jY h3 k1.2) (jY k2 h2),?_⟩;simp only [tot];rw [k3,h4];exact adn (pz hD k1.1) (pz hD h1) (pz hD (pz h1 k1.1)) (by grind)
theorem v0:(default:Pt).x.v=0∧(default:Pt).y.v=0:=⟨rfl,rfl⟩
theorem afa(x:Lk):Qg [] x=mZ x:=by
 unfold Qg;rw [TQ];have e:∀k,([]:List Pt).getD k default=default:=fun k=>rfl;rw [e,e,v0.1,v0.2]
 grind
theorem avT{v D:Int}{N B m:Nat}{A:List Pa}(h:Ar v D N B m A):∃z:Int,Ab z (2*(m*B*(m*B)))∧sm sW A*dsq [] v A=(z:Rat) / ((D*SA D A:Int):Rat):=by
 have ht:=h.t;have hd:=h.d;have e:∀k,([]:List Pt).getD k default=default:=fun k=>rfl;have e1:sm sW A=(SA D A:Rat) / (D:Rat):=LX fun a ha=>(h.am a ha).w.v;have k:∀n p d:Rat,n≠0→n / d*(0+p / n)=p / d:=fun n p d h=>by rw [Rat.zero_add,Rat.div_def,Rat.div_def,Rat.div_def];grind
 have e2:sm (fun a=>sW a*qX [] a) A=(LV (xN D) A:Rat) / (D:Rat):=LX fun a ha=>by
  have j:=h.am a ha;unfold sW qX;rw [e,v0.1,j.w.v,j.x.v,k _ _ _ (lJ j.n.1)]
 have e3:sm (fun a=>sW a*qY [] a) A=(LV (yN D) A:Rat) / (D:Rat):=LX fun a ha=>by
  have j:=h.am a ha;unfold sW qY;rw [e,v0.2,j.w.v,j.y.v,k _ _ _ (lJ j.n.1)]
 have b2:=Hw (f:=xN D) (m:=m) (A:=A) (fun a ha=>(h.am a ha).p.1) h.len.2 A.length;have b3:=Hw (f:=yN D) (m:=m) (A:=A) (fun a ha=>(h.am a ha).p.2) h.len.2 A.length;rw [bM]at b2 b3;refine⟨LV (xN D) A*LV (xN D) A+LV (yN D) A*LV (yN D) A,(vC (jY b2 b2) (jY b3 b3)).mono (by omega),?_⟩;unfold dsq pX pY;rw [e,v0.1,v0.2,e1,e2,e3];have hT:=lJ ht.1;have hD:=lJ hd;generalize LV (xN D) A=X;generalize LV (yN D) A=Y;simp only [Rat.intCast_mul,Rat.intCast_add]
 grind
def wB:Nat→Nat
 |0=>0
 |i+1=>wB i*((5-i)*tN i)+2*((5-i)*tB i*((5-i)*tB i))
theorem afb{S:List Lk}{o:List Int}(h:Dr S o):∀k,k≤o.length→∃w:Int,Ab w (wB (5-o.length+k))∧cQ [] S o k=(w:Rat) / (cD S o k:Rat)
 |0,_=>⟨0,fH _,by simp only [cQ];rw [Rat.intCast_zero,Rat.div_def,Rat.zero_mul]⟩
 |
  k+1,hk=>by
  obtain⟨w,h1,h2⟩:=afb h k (by omega);have hs:=(BU h (k+1) (by omega)).2 k (by omega);have hl:=h.len;have ht:=hs.ar.t;have hd:=hs.ar.d;obtain⟨z,h3,h4⟩:=avT hs.ar;have ei:5-o.length+(k+1)=5-o.length+k+1:=by omega
  have em:5-(5-o.length+k)=o.length-k:=by omega
  refine⟨w*SA (cD S o k) (cA S o k)+z,?_,?_⟩
  ·rw [ei];show Ab _ (wB (5-o.length+k)*((5-(5-o.length+k))*tN (5-o.length+k))+2*((5-(5-o.length+k))*tB (5-o.length+k)*((5-(5-o.length+k))*tB (5-o.length+k))));rw [em];exact vC (jY h1 ht.2) h3
  simp only [cQ];have e:=(akm (P:=[]) hs.b).2.2;have e':(TN (cS S o k) (o.getD k 0)).total.v=sm sW (cA S o k):=e;have hDs:cD S o (k+1)=cD S o k*SA (cD S o k) (cA S o k):=rfl;rw [h2,e',h4,hDs];clear h3 h4 e e' hs h1;generalize SA (cD S o k) (cA S o k)=T at *;generalize cD S o k=D at *;exact adn hd (pz hd ht.1) (pz hd ht.1) (by grind)
def q0:Nat×Nat:=hb (2*(1260*1260)) 63 15
def qi(i:Nat):Nat×Nat:=hb (2*(tB i*tB i)) (tN i) (tL i)
def vF(i:Nat):Bool:=Ft (q0.1*(tD i*(qi i).2)+(qi i).1*q0.2+wB i*(q0.2*(qi i).2)) (q0.2*(tD i*(qi i).2))
theorem arI:∀i,i<6→vF i=true:=by decide +kernel
theorem arJ{S:List Lk}{o:List Int}(h:Dr S o){k:Nat}(hk:k≤o.length):norm (cV S o k)=some (cV S o k):=by
 obtain⟨hc,hs⟩:=BU h k hk;have hl:=h.len;have hlo:=arD (5-o.length+k) (by omega);have hch:=VD (P:=[]) (S:=S) (o:=o) k fun j hj=>(hs j hj).b;rw [Nc (L:=S) (fun x _=>afa x),Nc (L:=cS S o k) (fun x _=>afa x)]at hch;obtain⟨w,w1,w2⟩:=afb h k hk;obtain⟨z,Q,z1,z2,z3,z4⟩:=ads hc.d.1 _ hc.cm;obtain⟨y,U,y1,y2,y3,y4⟩:=ads (D:=1) (by decide) _ h.cm;have l1:=adr h (o.length-k) k (by omega);have l0:=adr h o.length 0 (by omega);have l0:S.length≤15:=by
  have e:(cS S o 0).length=S.length:=rfl;rw [e,gq]at l0;have:∀i,i<6→tL i≤15:=by decide
  have:=this (5-o.length) (by omega);omega
 have z2:=z2.mono (abo (by omega) _ l1).2;have z3:=z3.mono (abo (by omega) _ l1).1;have y2:=y2.mono (abo (P:=2*(1260*1260)) (N:=63) (by decide) 15 l0).2;have y3:=y3.mono (abo (P:=2*(1260*1260)) (N:=63) (by decide) 15 l0).1;have hd:=hc.d;have hF:=arI (5-o.length+k) (by omega);rw [z4,y4,w2]at hch;have e:cV S o k=((y*(cD S o k*Q)-z*U-w*(U*Q):Int):Rat) / ((U*(cD S o k*Q):Int):Rat):=by
  have a1:=lJ hd.1;have a2:=lJ z1;have a3:=lJ y1;simp only [Rat.intCast_mul,Rat.intCast_sub,Rat.intCast_one]at *
  grind
 rw [e];exact Ql (pz y1 (pz hd.1 z1)) (BR (BR (jY y3 (jY hd.2 z2)) (jY z3 y2)) (jY w1 (jY y2 z2))) (jY y2 (jY hd.2 z2)) hF
theorem avU{S:List Lk}{o:List Int}(h:Dr S o):∀k,k≤o.length→(cE S o k).q=some (cV S o k)
 |0,_=>ET (n:=0) (by decide)
 |
  k+1,hk=>by
  have ih:=avU h k (by omega);have hs:=(BU h (k+1) (by omega)).2 k (by omega);have ho:(rnE (cS S o k) (o.getD k 0)).ok=true:=by
   obtain⟨e1,e2,e3⟩:=Wx hs.b;have hb:=hs.b;unfold Kw at hb;rw [aG]at hb;rw [e3];exact(P9 hb.2).2.2
  show (mG _ _).q=_;rw [Ig,ih,R.wK ho];exact arJ h hk
structure Ps (P:List Pt) (E:Int) (Q:Nat) (us:List Int) (fx fy:Int→Int):Prop where
 x:∀u∈us,Fq (P.getD u.toNat default).x (fx u) E∧Ab (fx u) Q
 y:∀u∈us,Fq (P.getD u.toNat default).y (fy u) E∧Ab (fy u) Q
 n:∀u∈us,0≤u∧u<P.length
theorem Ps.perm{P:List Pt}{E:Int}{Q:Nat}{us vs:List Int}{fx fy:Int→Int}(h:Ps P E Q us fx fy)(hs:∀u∈vs,u∈us):Ps P E Q vs fx fy:=⟨fun u hu=>h.x u (hs u hu),fun u hu=>h.y u (hs u hu),fun u hu=>h.n u (hs u hu)⟩
def acF(N B m EB Q:Nat):Bool:=Ft (Q*N+B*EB) (EB*N)&&Ft (Q*N+B*EB) (EB*(m*N))&&Ft (m*(Q*N+B*EB)) (EB*(m*N))
theorem adt{v D:Int}{N B m DB:Nat}{A:List Pa}(h:Ar v D N B m A)(hD:Ab D DB)(hF:arF DB N B m=true){P:List Pt}{E:Int}{EB Q:Nat}(hE1:1≤E)(hE:Ab E EB)(hF2:acF N B m EB Q=true)
  {dR:Pa→R} {pR:Pt→R} {dn:Pa→Int} {f:Int→Int} {G:Nat→R} (hd:∀a∈A,Fq (dR a) (dn a) (wN D a)∧Ab (dn a) B) (hp:∀a∈A,Fq (pR (P.getD a.node.toNat default)) (f a.node) E∧Ab (f a.node) Q) (g0:G 0=ku 0)
  (gs:∀k,k<A.length→G (k+1)=mG (G k) (mulR (xR (A.getD k default).share (pU A)) (mG (pR (P.getD (A.getD k default).node.toNat default)) (dR (A.getD k default))))) :
  ∀k,k≤A.length→Fq (G k) (LV (fun a=>f a.node*wN D a+dn a*E) (A.take k)) (E*SA D A)
 |0,_=>by rw [g0,List.take_zero];exact abh.to (pz hE1 h.t.1) (by simp [LV])
 |
  k+1,hk=>by
  have ih:=adt h hD hF hE1 hE hF2 hd hp g0 gs k (by omega);unfold acF at hF2;simp only [aG]at hF2;obtain⟨⟨f1,f2⟩,f3⟩:=hF2;have hm:=getD_mem (l:=A) (i:=k) (by omega);have j:=h.am _ hm;have ht:=h.t;obtain⟨d1,d2⟩:=hd _ hm;obtain⟨p1,p2⟩:=hp _ hm;have sh:=VA h hD hF hm;have hb:=Hw (f:=fun a=>f a.node*wN D a+dn a*E) (N:=Q*N+B*EB) (m:=m) (A:=A) (fun a ha=>vC (jY (hp a ha).2 (h.am a ha).n.2) (jY (hd a ha).2 hE)) h.len.2 (k+1);rw [gs k (by omega)];rw [Vz _ (by omega)]at hb ⊢
  try dsimp only at hb
  try dsimp only
  generalize A.getD k default=a at *;have b1:=vC (jY p2 j.n.2) (jY d2 hE);have s1:=p1.add d1 (p:=f a.node*wN D a+dn a*E) (n:=E*wN D a) (by grind) (pz hE1 j.n.1) b1 (jY hE j.n.2) f1;have s2:=sh.mul s1 (p:=f a.node*wN D a+dn a*E) (n:=E*SA D A) (by grind) (pz hE1 ht.1) b1 (jY hE ht.2) f2;exact ih.add s2 (by grind) (pz hE1 ht.1) hb (jY hE ht.2) f3
theorem aoP(n d a e p:Rat)(hn:n≠0)(he:e≠0)(hd:d≠0):n / d*(a / e+p / n)=(a*n+p*e) / (d*e):=by grind
theorem aoQ(z d e t:Rat)(hd:d≠0)(he:e≠0)(ht:t≠0):z / (d*e) / (t / d)=z / (e*t):=by grind
theorem avV{v D:Int}{N B m DB:Nat}{A:List Pa}(h:Ar v D N B m A)(hD:Ab D DB)(hF:arF DB N B m=true){P:List Pt}{E:Int}{EB Q:Nat}{us:List Int}{fx fy:Int→Int}(hE1:1≤E)(hE:Ab E EB)(hP:Ps P E Q us fx fy)(hA:∀a∈A,a.node∈us)(hF2:acF N B m EB Q=true) :
  GZ (nN v A) P=true∧∃zx zy:Int,(Fq (XH (nN v A) P).x zx (E*SA D A)∧Ab zx (m*(Q*N+B*EB)))∧(Fq (XH (nN v A) P).y zy (E*SA D A)∧Ab zy (m*(Q*N+B*EB)))∧(XH (nN v A) P).x.v=pX P A∧(XH (nN v A) P).y.v=pY P A:=by
 have hpl:(nN v A).ps.length=A.length:=aX ..;have ht:=h.t;have gx:=adt h hD hF hE1 hE hF2 (dR:=(·.dx)) (pR:=(·.x)) (dn:=xN D) (f:=fx) (G:=JO (nN v A) P) (fun a ha=>⟨(h.am a ha).x,(h.am a ha).p.1⟩) (fun a ha=>hP.x _ (hA a ha)) rfl (fun k hk=>by
  show mG _ (acT ((nN v A).ps.getD k default) (P.getD ((nN v A).ps.getD k default).node.toNat default).x ((nN v A).ps.getD k default).dx)=_;rw [BN hk];rfl) A.length (aJ _)
 have gy:=adt h hD hF hE1 hE hF2 (dR:=(·.dy)) (pR:=(·.y)) (dn:=yN D) (f:=fy) (G:=TJ (nN v A) P) (fun a ha=>⟨(h.am a ha).y,(h.am a ha).p.2⟩) (fun a ha=>hP.y _ (hA a ha)) rfl (fun k hk=>by
  show mG _ (acT ((nN v A).ps.getD k default) (P.getD ((nN v A).ps.getD k default).node.toNat default).y ((nN v A).ps.getD k default).dy)=_;rw [BN hk];rfl) A.length (aJ _)
 have bx:=Hw (f:=fun a=>fx a.node*wN D a+xN D a*E) (N:=Q*N+B*EB) (m:=m) (A:=A) (fun a ha=>vC (jY (hP.x _ (hA a ha)).2 (h.am a ha).n.2) (jY (h.am a ha).p.1 hE)) h.len.2 A.length;have by':=Hw (f:=fun a=>fy a.node*wN D a+yN D a*E) (N:=Q*N+B*EB) (m:=m) (A:=A) (fun a ha=>vC (jY (hP.y _ (hA a ha)).2 (h.am a ha).n.2) (jY (h.am a ha).p.2 hE)) h.len.2 A.length;have hg:acG (nN v A) P.length=true:=aa0 fun k hk=>by
  rw [hpl]at hk;rw [BN hk];exact(hP.n _ (hA _ (getD_mem (l:=A) hk))).2
 have ho:GZ (nN v A) P=true:=by
  unfold GZ;rw [aks h hD hF,hg,hpl,gx.ok,gy.ok];rfl
 have eV:XH (nN v A) P=⟨JO (nN v A) P A.length,TJ (nN v A) P A.length⟩:=by unfold XH;rw [if_pos ho,hpl]
 rw [bM]at gx gy bx by';refine⟨ho,_,_,⟨by rw [eV];exact gx,bx⟩,⟨by rw [eV];exact gy,by'⟩,?_,?_⟩
 ·rw [eV,gx.v];have e1:sm sW A=(SA D A:Rat) / (D:Rat):=LX fun a ha=>(h.am a ha).w.v;have e2:sm (fun a=>sW a*qX P a) A=(LV (fun a=>fx a.node*wN D a+xN D a*E) A:Rat) / ((D*E:Int):Rat):=LX fun a ha=>by
   have j:=h.am a ha;have q:=hP.x _ (hA a ha);unfold sW qX;rw [j.w.v,j.x.v,q.1.v,aoP _ _ _ _ _ (lJ j.n.1) (lJ hE1) (lJ h.d)];simp only [Rat.intCast_mul,Rat.intCast_add]
  unfold pX;rw [e1,e2];simp only [Rat.intCast_mul];rw [aoQ _ _ _ _ (lJ h.d) (lJ hE1) (lJ ht.1)]
 rw [eV,gy.v];have e1:sm sW A=(SA D A:Rat) / (D:Rat):=LX fun a ha=>(h.am a ha).w.v;have e2:sm (fun a=>sW a*qY P a) A=(LV (fun a=>fy a.node*wN D a+yN D a*E) A:Rat) / ((D*E:Int):Rat):=LX fun a ha=>by
  have j:=h.am a ha;have q:=hP.y _ (hA a ha);unfold sW qY;rw [j.w.v,j.y.v,q.1.v,aoP _ _ _ _ _ (lJ j.n.1) (lJ hE1) (lJ h.d)];simp only [Rat.intCast_mul,Rat.intCast_add]
 unfold pY;rw [e1,e2];simp only [Rat.intCast_mul];rw [aoQ _ _ _ _ (lJ h.d) (lJ hE1) (lJ ht.1)]
theorem arK{S:List Lk}{v:Int}(h:Kw S v=true):TN S v=nN v (nS S v):=by
 have e:=(Wx h).1;unfold Kw at h;rw [aG]at h;rw [e,(aa3 h.1).1]
theorem OJ(S:List Lk)(o:List Int)(k:Nat):(cN S o k).length=k:=by unfold cN;simp
theorem avW{S:List Lk}{o:List Int}{n j:Nat}(h:j<n):(cN S o n).getD j default=TN (cS S o j) (o.getD j 0):=by
 unfold cN;rw [aj,bI,dS h];rfl
theorem abp{S:List Lk}{o:List Int}(h:Dr S o){j:Nat}(hj:j<o.length):(cN S o o.length).getD j default=nN (o.getD j 0) (cA S o j):=by
 rw [avW hj];exact arK ((BU h _ (aJ _)).2 j hj).b
theorem aoR:∀i,i<5→arF (tD i) (tN i) (tB i) (5-i)=true:=by decide +kernel
theorem LY{o:List Int}{k:Nat}{x:Int}:x∈o.drop k↔∃j,k≤j∧j<o.length∧o.getD j 0=x:=by
 constructor
 ·intro h;obtain⟨i,hi,rfl⟩:=List.mem_iff_getElem.1 h;have:i<o.length-k:=by simpa using hi
  refine⟨k+i,by omega,by omega,?_⟩;rw [List.getElem_drop,aj,au (by omega)];rfl
 rintro⟨j,h1,h2,rfl⟩;refine List.mem_iff_getElem.2 ⟨j-k,by simp;omega,?_⟩;rw [List.getElem_drop,aj,au h2];have:k+(j-k)=j:=by omega
 simp only [this];rfl
theorem XQ{o:List Int}(h:o.Nodup){i j:Nat}(hij:i<j)(hj:j<o.length):o.getD j 0≠o.getD i 0:=by
 have:=fU.1 h i j (by omega) hj hij;rw [aj,au hj,aj,au (by omega)];exact fun e=>this e.symm
theorem akF{S:List Lk}{o:List Int}(h:Dr S o):Hq (cN S o o.length)=true:=by
 refine aeh fun i hi=>?_;rw [OJ]at hi;have hs:=(BU h o.length (aJ _)).2 i hi;have hd:=(BU h i (by omega)).1.d;have hl:=h.len;have hF:=aoR (5-o.length+i) (by omega);rw [show 5-(5-o.length+i)=o.length-i by omega]at hF;refine(Xx (abp h hi)).2 ⟨aks hs.ar hd.2 hF,fun k hk=>?_,fun j hij hj=>?_⟩
 ·have hpl:(nN (o.getD i 0) (cA S o i)).ps.length=(cA S o i).length:=aX ..;rw [hpl]at hk;rw [BN hk,OJ];rcases hs.nd _ (getD_mem (l:=cA S o i) hk)with e|e
  ·exact .inl e
  obtain⟨j,h1,h2,h3⟩:=LY.1 e;exact .inr ⟨j,by omega,h2,by rw [abp h h2];exact h3⟩
 rw [OJ]at hj;rw [abp h hj];exact XQ h.o.1 hij hj
def pE:Nat→Nat
 |0=>1
 |k+1=>pE k*((k+1)*tN (4-k))
def pQ:Nat→Nat
 |0=>0
 |k+1=>(k+1)*(pQ k*tN (4-k)+tB (4-k)*pE k)
theorem avX:∀k,k<5→acF (tN (4-k)) (tB (4-k)) (k+1) (pE k) (pQ k)=true:=by decide +kernel
structure Pk (S:List Lk) (o:List Int) (k:Nat) (P:List Pt):Prop where
 ps:∃(E:Int) (fx fy:Int→Int),1≤E∧Ab E (pE k)∧Ps P E (pQ k) (0::o.drop (o.length-k)) fx fy
 dq:∀j,o.length-k≤j→j<o.length→dsq P (o.getD j 0) (cA S o j)=0
theorem Ps.get{P:List Pt}{E:Int}{Q:Nat}{us:List Int}{fx fy:Int→Int}(h:Ps P E Q us fx fy){v:Int}{p:Pt}{T zx zy:Int}{TB Q':Nat}(hv:0≤v∧v<P.length)(hvu:v∉us)(hT:1≤T)(hTB:Ab T TB)(hx:Fq p.x zx (E*T)∧Ab zx Q')(hy:Fq p.y zy (E*T)∧Ab zy Q')(hQ:Q*TB≤Q') :
  Ps (P.set v.toNat p) (E*T) Q' (v::us) (fun u=>if u=v then zx else fx u*T) (fun u=>if u=v then zy else fy u*T):=by
 have g0:(P.set v.toNat p).getD v.toNat default=p:=by
  rw [aj,List.getElem?_set_self (by omega)];rfl
 have g1:∀u∈us,(P.set v.toNat p).getD u.toNat default=P.getD u.toNat default:=fun u hu=>by
  have:=h.n u hu;have hne:u≠v:=fun e=>hvu (e▸hu);rw [aj,aj,List.getElem?_set_ne (by omega)]
 refine⟨fun u hu=>?_,fun u hu=>?_,fun u hu=>?_⟩
 ·rcases aH.1 hu with rfl|hu
  ·rw [if_pos rfl,g0];exact hx
  have hne:u≠v:=fun e=>hvu (e▸hu);obtain⟨k1,k2⟩:=h.x u hu;rw [if_neg hne,g1 u hu];exact⟨k1.to (pz k1.n hT) (by grind),(jY k2 hTB).mono hQ⟩
 ·rcases aH.1 hu with rfl|hu
  ·rw [if_pos rfl,g0];exact hy
  have hne:u≠v:=fun e=>hvu (e▸hu);obtain⟨k1,k2⟩:=h.y u hu;rw [if_neg hne,g1 u hu];exact⟨k1.to (pz k1.n hT) (by grind),(jY k2 hTB).mono hQ⟩
 rw [bC];rcases aH.1 hu with rfl|hu
 ·exact hv
 exact h.n u hu
theorem anU{P Q:List Pt}{A:List Pa}(h:∀a∈A,P.getD a.node.toNat default=Q.getD a.node.toNat default):pX P A=pX Q A∧pY P A=pY Q A:=by
 unfold pX pY;constructor
 ·congr 1;exact Vu fun a ha=>by unfold qX;rw [h a ha]
 congr 1;exact Vu fun a ha=>by unfold qY;rw [h a ha]
theorem arL{P Q:List Pt}{A:List Pa}{v:Int}(hv:P.getD v.toNat default=Q.getD v.toNat default)(h:∀a∈A,P.getD a.node.toNat default=Q.getD a.node.toNat default):dsq P v A=dsq Q v A:=by
 unfold dsq;rw [hv,(anU h).1,(anU h).2]
theorem aAa{S:List Lk}{o:List Int}(h:Dr S o){N:List Cd}(hN:N=cN S o o.length):Pk S o 0 (FV N 0):=by
 refine⟨⟨1,fun _=>0,fun _=>0,by decide,aJ 1,?_⟩,fun j h1 h2=>by omega⟩;rw [Nat.sub_zero,gJ];have hg:(FV N 0).getD 0 default=⟨ku 0,ku 0⟩:=by
  unfold FV svP;rw [aj,List.getElem?_set_self (by simp)];rfl
 have e0:∀u:Int,u∈[(0:Int)]→u.toNat=0:=fun u hu=>by rw [aV.1 hu];rfl
 refine⟨fun u hu=>?_,fun u hu=>?_,fun u hu=>?_⟩
 ·rw [e0 u hu,hg];exact⟨abh,aJ _⟩
 ·rw [e0 u hu,hg];exact⟨abh,aJ _⟩
 rw [aV.1 hu,MX];omega
theorem aAb{S:List Lk}{o:List Int}(h:Dr S o){N:List Cd}(hN:N=cN S o o.length){k:Nat}(hk:k<o.length)(hp:Pk S o k (FV N k)):GZ (svC N k) (FV N k)=true∧Pk S o (k+1) (FV N (k+1)):=by
 obtain⟨E,fx,fy,hE1,hE,hps⟩:=hp.ps;have hl:=h.len;have hj:o.length-1-k<o.length:=by omega
 have hs:=(BU h o.length (aJ _)).2 _ hj;have hd:=(BU h (o.length-1-k) (by omega)).1.d;have hC:svC N k=nN (o.getD (o.length-1-k) 0) (cA S o (o.length-1-k)):=by
  unfold svC;rw [hN,OJ];exact abp h hj
 have ei:5-o.length+(o.length-1-k)=4-k:=by omega
 have em:o.length-(o.length-1-k)=k+1:=by omega
 have har:=hs.ar;have hF:=aoR (4-k) (by omega);rw [show 5-(4-k)=k+1 by omega]at hF;have hF2:=avX k (by omega);have hdb:=hd.2;rw [ei]at har hdb;rw [em]at har;have hnd:=hs.nd;have hvr:(o.getD (o.length-1-k) 0)∉(0:Int)::o.drop (o.length-k):=fun hm=>by
  have hv:=har.v;rcases aH.1 hm with e|e
  ·omega
  obtain⟨j,h1,h2,h3⟩:=LY.1 e;exact XQ h.o.1 (i:=o.length-1-k) (j:=j) (by omega) h2 h3
 have hdr:o.drop (o.length-(k+1))=o.getD (o.length-1-k) 0::o.drop (o.length-k):=by
  have:=abm (o:=o) (k:=o.length-1-k) hj;rw [show o.length-1-k+1=o.length-k by omega]at this;rw [show o.length-(k+1)=o.length-1-k by omega];exact this
 rw [show o.length-1-k+1=o.length-k by omega]at hnd;have hA:∀a∈cA S o (o.length-1-k),a.node∈(0:Int)::o.drop (o.length-k):=fun a ha=>by
  rcases hnd a ha with e|e
  ·rw [e];simp
  exact dK _ e
 obtain⟨ho,zx,zy,hx,hy,vx,vy⟩:=avV har hdb hF hE1 hE hps hA hF2;have ht:=har.t;have hvl:(o.getD (o.length-1-k) 0).toNat<(FV N k).length:=by
  rw [MX];have:=ade (l:=N) N.length (o.length-1-k) (by rw [hN,OJ];exact hj);have e:(N.getD (o.length-1-k) default).node=o.getD (o.length-1-k) 0:=by rw [hN,abp h hj];rfl
  rw [e]at this;omega
 refine⟨by rw [hC];exact ho,?_⟩;have hsv:FV N (k+1)=(FV N k).set (o.getD (o.length-1-k) 0).toNat (XH (nN (o.getD (o.length-1-k) 0) (cA S o (o.length-1-k))) (FV N k)):=by
  show (FV N k).set (svC N k).node.toNat (XH (svC N k) (FV N k))=_;rw [hC];rfl
 have hg0:(FV N (k+1)).getD (o.getD (o.length-1-k) 0).toNat default=XH (nN (o.getD (o.length-1-k) 0) (cA S o (o.length-1-k))) (FV N k):=by
  rw [hsv,aj,List.getElem?_set_self hvl];rfl
 have hg1:∀u∈(0:Int)::o.drop (o.length-k),(FV N (k+1)).getD u.toNat default=(FV N k).getD u.toNat default:=fun u hu=>by
  have:=hps.n u hu;have hv:=har.v;have hne:u≠o.getD (o.length-1-k) 0:=fun e=>hvr (e▸hu);rw [hsv,aj (l:=List.set _ _ _),List.getElem?_set_ne (by omega),aj (l:=FV N k)]
 have hv:=har.v;have hb:pQ k*((k+1)*tN (4-k))≤(k+1)*(pQ k*tN (4-k)+tB (4-k)*pE k):=by
  rw [iL,Nat.mul_left_comm];omega
 have anV:=hps.get (v:=o.getD (o.length-1-k) 0) ⟨by omega,by omega⟩ hvr ht.1 ht.2 hx hy hb;rw [←hsv]at anV;refine⟨⟨E*SA (cD S o (o.length-1-k)) (cA S o (o.length-1-k)),_,_,pz hE1 ht.1,jY hE ht.2,anV.perm fun u hu=>?_⟩,fun j h1 h2=>?_⟩
 ·rw [hdr]at hu;simp only [aH]at hu ⊢;rcases hu with e|e|e
  ·exact .inr (.inl e)
  ·exact .inl e
  exact .inr (.inr e)
 by_cases e:j=o.length-1-k
 ·subst e;unfold dsq;rw [hg0,vx,vy,(anU fun a ha=>hg1 _ (hA a ha)).1,(anU fun a ha=>hg1 _ (hA a ha)).2]
  grind
 rw [←hp.dq j (by omega) h2];have hj2:=(BU h o.length (aJ _)).2 j h2;refine arL (hg1 _ (dK _ (LY.2 ⟨j,by omega,h2,rfl⟩))) fun a ha=>hg1 _ ?_;rcases hj2.nd a ha with e2|e2
 ·rw [e2];simp
 obtain⟨i,h3,h4,h5⟩:=LY.1 e2;exact dK _ (LY.2 ⟨i,by omega,h4,h5⟩)
theorem pk_all{S:List Lk}{o:List Int}(h:Dr S o){N:List Cd}(hN:N=cN S o o.length):∀k,k≤o.length→Pk S o k (FV N k)∧∀j,j<k→GZ (svC N j) (FV N j)=true
 |0,_=>⟨aAa h hN,fun j hj=>absurd hj (gG _)⟩
 |
  k+1,hk=>by
  obtain⟨h1,h2⟩:=pk_all h hN k (by omega);obtain⟨h3,h4⟩:=aAb h hN (by omega) h1;refine⟨h4,fun j hj=>?_⟩;by_cases e:j=k
  ·subst e;exact h3
  exact h2 j (by omega)
theorem arM{S:List Lk}{o:List Int}(h:Dr S o):svG (cN S o o.length)=true∧Pk S o o.length (svV (cN S o o.length)):=by
 obtain⟨h1,h2⟩:=pk_all h rfl o.length (aJ _);have hg:svG (cN S o o.length)=true:=aeV (akF h) fun k hk=>h2 k (by rw [OJ]at hk;exact hk);refine⟨hg,?_⟩;rw [Qe hg,OJ];exact h1
theorem arN(n:Nat)(l:List Pa):xZ (n+3) (Nj l):=by
 simp only [xZ];intro r hr c hc;obtain⟨x,_,rfl⟩:=bG.1 hr
 revert c
 simp only [eH];exact⟨YK _ _ _,Ee _ _,uP _ _,uP _ _,Ee _ _,uP _ _,uP _ _,Ee _ _,uP _ _,uP _ _,by simp⟩
theorem avY(n:Nat)(x:Cd):xZ (n+4) (Xj x):=by
 refine ai7 ?_;simp only [eH];exact⟨YK _ _ _,Ee _ _,uP _ _,uP _ _,arN _ _,by simp⟩
theorem Za{σ:Store}:Fin σ (.nJ [.jF,.agg [.bool false,.jF,.jF],.bool false]) (.nJ [O8 [],kC R0,.bool false]) :=
 ⟨.nJ [O8 [],kC R0,.bool false],[],anK,Ea (nP (o1:=[]) (by simp [lC]) (nP (o1:=[]) acE (nI nC))),.nil⟩
theorem Rk{T:Tb}(h:yM T){S:List Lk}{o:List Int}(hw:IQ Lk.wf S)(hz:Qn Lk.sz S≤1048576)(ho:o.length≤1048576):PO T 270 [oP S,ints o] (.nJ [O8 (eaN S o),kC (eaE S o),.bool (abd S o)]):=by
 have ci:=acO h.Vy (l:=S) (o:=o) hw ho
 cases hb:ND S o
 ·rw [hb]at ci;have hg:WB S o=none:=by unfold WB;rw [hb];rfl
  obtain⟨e1,e2,e3⟩:=LU hg;rw [e1,e2,e3];refine lI nR h.hT ?_;simp only [rQ,Lz,St.enter,ak,aC,aQ];refine ew ?_;refine jl ci ?_;refine ew ?_;exact Za
 rw [hb]at ci;have hok:=akb hb;have hol:=ae2 hb;refine lI (fun x d=>(x == 39&&d == 21)||(x == 131&&d == 38)||(x == 183&&d == 49)) h.hT ?_;simp only [rQ,Lz,St.enter,ak,aC,aQ];refine ew ?_;refine jl ci ?_;refine ew ?_;refine og (qI h.kJ (n:=0)) (by (refine ew ?_;try with_reducible exact True.intro)) ?_;intro r q1 o1 G;obtain⟨_,rfl,Xz⟩:=G.ow.kP;obtain⟨x1,x2,rfl⟩:=Xz.rat
 have E:Ep [some ⟨3,[[.bool false,.jF,.jF]]⟩] [] [] [] [(0,⟨3,[[.bool false,.jF,.jF]]⟩)]:=⟨Lm,by simp [iZ]⟩;have E2:=E.got (s1:=[some ⟨3,[[.bool false,.jF,.jF]]⟩]++[none,none]) (fun q hq=>by first|exact kY hq|(simp only [bT];exact kY hq)) (by simp) Xz G.nd G.fresh G.old;have F0:=E.free (s1:=[some ⟨3,[[.bool false,.jF,.jF]]⟩]++[none,none]) (p:=2) G.fresh (by simp) (by simp);have hq:3≤q1.length:=by simpa using G.len
 clear E G;have E:Ep q1 [.bool (ku 0).neg,x1,x2] [.bool (ku 0).neg,ints (ku 0).mag,ints (ku 0).den] _ [(0,⟨3,[[.bool false,.jF,.jF]]⟩)]:=E2;clear E2
 replace E:=E.Ey (p:=2) (ob:=⟨3,[[.bool (ku 0).neg,x1,x2]]⟩) (L':=[(0,⟨3,[[.bool false,.jF,.jF]]⟩),(2,⟨3,[[.bool (ku 0).neg,x1,x2]]⟩)]) F0 (by omega) (by simp)
 have LF:=ah (E.leaf 1 rfl rfl) (E.leaf 2 rfl rfl);refine IX @LF @jO @kG @List.set_set.{0} ?_;clear LF;refine jX (fun x d=>(x == 39&&d == 21)||(x == 131&&d == 38)||(x == 183&&d == 49)) (α:=Nat×Store×List Lk×List Cd×R×V×List (List V)×V×V×List Nat) (fun q=>⟨lS [oP q.2.2.1,.any,.any,.any,.any,.ptr 0 0 0,.any,q.2.2.2.2.2.1,.ptr 2 0 0,.any,.any,.any,.any,.any,.any,.any,.any,.any,.any,.any,.any,.any,ints o,iv (o.length:Nat),iv (q.1:Nat)],q.2.1,0,0,[],[]⟩) (fun q=>((q.1≤o.length∧Sz S o q.1=some (q.2.2.1,q.2.2.2.1,q.2.2.2.2.1)∧q.2.2.2.2.1.ok=true)∧q.2.2.2.2.2.2.1.length=q.1∧∀r∈q.2.2.2.2.2.2.1,r.length=5)∧∃M,LAt 5 q.2.2.2.2.2.1 q.2.2.2.2.2.2.1 M∧Ep q.2.1 ([.bool q.2.2.2.2.1.neg,q.2.2.2.2.2.2.2.1,q.2.2.2.2.2.2.2.2.1]++q.2.2.2.2.2.2.1.flatten) ([.bool q.2.2.2.2.1.neg,ints q.2.2.2.2.1.mag,ints q.2.2.2.2.1.den]++(q.2.2.2.1.map Cd.cells).flatten) q.2.2.2.2.2.2.2.2.2 ([(0,⟨3,[[.bool false,.jF,.jF]]⟩),(2,⟨3,[[.bool q.2.2.2.2.1.neg,q.2.2.2.2.2.2.2.1,q.2.2.2.2.2.2.2.2.1]]⟩)]++M)) (fun q=>o.length-q.1) rfl (0,(q1.set 2 (some ⟨3,[[.bool (ku 0).neg,x1,x2]]⟩)),S,[],ku 0,.jF,[],x1,x2,[]++o1) ?_ ?_ ?_
 ·exact⟨⟨⟨fH _,rfl,show (ku 0).ok=true by decide +kernel⟩,rfl,fun r hr=>by cases hr⟩,[],.inl ⟨rfl,rfl,rfl⟩,by simpa using E⟩
 ·(refine jS ?_;exact zV)
 clear E;rintro⟨k,s,L,N,e,pv,A,x1,x2,os⟩ ⟨⟨⟨hk,hf,he⟩,hAl,hA5⟩,M,hLA,E⟩;dsimp only at hk hf he hAl hA5 hLA E;obtain⟨⟨i1,i2,i3⟩,i4,i5,i6⟩:=Y6 hok hw hz hf;dsimp only at i1 i2 i3 i4 i5 i6;have L0:=E.at0 (p:=0) (ob:=⟨3,[[.bool false,.jF,.jF]]⟩) (by simp);have L1:=E.at0 (p:=2) (ob:=⟨3,[[.bool e.neg,x1,x2]]⟩) (by simp);have LFx:=ah (E.leaf 1 rfl rfl) (E.leaf 2 rfl rfl);by_cases hc:(k:Int)<(o.length:Nat)
 ·have hkl:k<o.length:=by omega
  have hs:Sz S o (k+1)=if Kw L (o.getD k 0)=true then some (TP L (o.getD k 0),N++[TN L (o.getD k 0)],mG e (rnE L (o.getD k 0)))else none:=by simp only [Sz,hf]
  have hbad:Sz S o (k+1)=none→WB S o=none:=fun h=>abf h (by omega);have hbd2:∀p,Sz S o (k+1)=some p→p.2.2.ok=false→WB S o=none:=fun p h h2=>adk h h2 (by omega);obtain⟨v,hv⟩:∃v,o.getD k 0=v:=⟨_,rfl⟩;rw [hv]at hs;have ca:=(Wy h.Qi (S:=L) (v:=v) i1 i2).WL (by
   intro p hp;simp only [rnT,aH,bP,or_false]at hp;rcases hp with rfl|rfl|rfl|rfl
   ·exact avY _ _
   ·exact ai9 _ _
   ·exact ai8 _ _
   exact Ee _ _)
  simp only [rnT,bU,iO]at ca;have hen:=arq L v;have hgd:=@akc L v;have hNl:N.length≤10:=by omega
  generalize TP L v=S' at *;generalize TN L v=c at *;generalize rnE L v=e' at *;generalize Kw L v=b at *;refine Fj @hc @hkl @hv ?_;refine jl ca ?_;have hp2:¬(s.length+1=s.length):=by omega
  refine NC @L0 @L1 @LFx @jO @kG ?_;obtain⟨S1,hS1⟩:∃S1:Store,(((s++[some (⟨5,[[.int .i64 0,.bool false,.jF,.jF,.jF]]⟩:Obj)]++[none]).set (s.length+1) (some ⟨3,[[.bool false,.jF,.jF]]⟩)).set s.length (some ⟨5,[c.cells]⟩)).set (s.length+1) (some ⟨3,[e'.cells]⟩)=S1:=⟨_,rfl⟩;have h1:∀o,o<s.length→iZ S1 o=iZ s o:=fun o ho=>by
   rw [←hS1,jM (by omega),jM (by omega),jM (by omega),bT,kY ho]
  have hl1:S1.length=s.length+2:=by rw [←hS1];simp
  have hcd:iZ S1 s.length=some ⟨5,[c.cells]⟩:=by rw [←hS1,jM (by omega),kF (by simp)]
  rw [hS1];clear hS1;have E1:=E.fr h1;have R:=ah (E1.res1 1 rfl rfl (jG _ _)) (E1.res1 2 rfl rfl (jG _ _));refine og (zW h.kE i4 hen) (by (refine Fj @R @jO @kG ?_;try with_reducible exact True.intro)) ?_;intro r q2 o2 G;have gl:s.length+2≤q2.length:=by have:=G.len;omega
  obtain⟨_,rfl,hQ⟩:=G.ow.kP;obtain⟨y1,y2,rfl⟩:=hQ.rat
  have F1:2∉os:=(E.l (2,⟨3,[[.bool e.neg,x1,x2]]⟩) (by simp)).2;obtain⟨os2,E2,aAc⟩:=Ep.ajE (a:=[.bool e.neg,x1,x2]) (b:=A.flatten) (ta:=[.bool e.neg,ints e.mag,ints e.den]) (tb:=(N.map Cd.cells).flatten) E1 rfl (s1:=S1) (fun q hq=>rfl) (aJ _) hQ G.nd G.fresh G.old;have F2:2∉os2:=fun hm=>by
   rcases aAc _ hm with h|h
   ·exact F1 h
   have:=L1.2;omega
  have hM:∀q∈M,q.1≠0∧q.1≠2:=fun q hq=>by
   rcases hLA with ⟨_,_,rfl⟩|⟨p,rfl,rfl⟩
   ·cases hq
   have L3:=E.at0 (p:=p) (ob:=⟨5,A⟩) (by simp);rw [aV.1 hq];refine⟨fun e=>?_,fun e=>?_⟩
   ·have e:p=0:=e;have:=L3.1;rw [e,L0.1]at this;cases this
   have e:p=2:=e;have:=L3.1;rw [e,L1.1]at this;cases this
  have hbd2:=fun (hs:Sz S o (k+1)=some (S',N++[c],mG e e'))=>hbd2 (S',N++[c],mG e e') hs;dsimp only at hbd2;have aqT:=uM e e';generalize mG e e'=e2 at *;have LF:=ah (E2.leaf 1 rfl rfl) (E2.leaf 2 rfl rfl);have M0:=E2.at0 (p:=0) (ob:=⟨3,[[.bool false,.jF,.jF]]⟩) (by simp);have M1:=E2.at0 (p:=2) (ob:=⟨3,[[.bool e.neg,x1,x2]]⟩) (by simp);refine NC @LF @M0 @M1 @jO @kG ?_;have E3:=E2.Ey (p:=2) (ob:=⟨3,[[.bool e2.neg,y1,y2]]⟩) (L':=[(0,⟨3,[[.bool false,.jF,.jF]]⟩),(2,⟨3,[[.bool e2.neg,y1,y2]]⟩)]++M) F2 M1.2 (fun q hq=>by
   simp only [bK,dI,aH]at hq;rcases hq with rfl|rfl|hq
   ·exact .inl ⟨by decide,by simp⟩
   ·exact .inr rfl
   exact .inl ⟨(hM q hq).2,by simp [hq]⟩)
  have hcd2:iZ q2 s.length=some ⟨5,[c.cells]⟩:=(G.old _ (by omega)).trans hcd;have av1:iZ (q2.set 2 (some ⟨3,[[.bool e2.neg,y1,y2]]⟩)) s.length=some ⟨5,[c.cells]⟩:=(jM (by have:=L1.2;omega)).trans hcd2;have aDa:(q2.set 2 (some (⟨3,[[.bool e2.neg,y1,y2]]⟩:Obj))).length=q2.length:=bC;generalize hq3:q2.set 2 (some ⟨3,[[.bool e2.neg,y1,y2]]⟩)=q3 at *;have N0:=E3.at0 (p:=0) (ob:=⟨3,[[.bool false,.jF,.jF]]⟩) (by simp);have N1:=E3.at0 (p:=2) (ob:=⟨3,[[.bool e2.neg,y1,y2]]⟩) (by simp);have R3:=ah (E3.res1 1 rfl rfl (jG _ _)) (E3.res1 2 rfl rfl (jG _ _));have hsl:=L1.2;clear E E1 E2 hcd hcd2 G hQ
  cases b
  ·obtain⟨e1,e2,e3⟩:=LU (hbad (by rw [hs];rfl));rw [e1,e2,e3];refine NC @N0 @N1 @LF @jO @kG ?_;exact Za
  have cg:=D9 h.jQ aqT;have hs:Sz S o (k+1)=some (S',N++[c],e2):=hs;have O:=hgd rfl;refine CV @N0 @N1 @LF @R3 @jO @kG ?_;refine jl cg ?_
  cases hb2:e2.ok
  ·obtain⟨e1,e2,e3⟩:=LU (hbd2 hs hb2);rw [e1,e2,e3];refine NC @N0 @N1 @LF @jO @kG ?_;exact Za
  refine CV @N0 @N1 @LF @av1 @jO @kG ?_;have e4:∀σ:Store,resolve σ FD (Xj c)=some (Xj c):=fun σ=>zf (Xk [c] _ (by simp));refine og (OH h.JW (c:=c) O.ne ⟨by have:=GV O.cn.1;omega,fun a ha=>by have h1:=O.cn.2 a ha;have:=GV h1.1;have:=GV h1.2.1;have:=GV h1.2.2;unfold Pa.sz;omega⟩ (by have:=O.len;omega)) (by (refine IX @e4 @av1 @jO @kG ?_;try with_reducible exact True.intro)) ?_;intro r q4 o4 G;obtain⟨_,rfl,hQ⟩:=G.ow.kP;obtain⟨z2,z3,z4,rfl⟩:=hQ.cd;have lz:=hQ.leaf rfl;simp only [dU,iP,aG,iI]at lz;have hq5:∀o,o<q3.length→iZ (q3++[none,none]) o=iZ q3 o:=fun o ho=>kY ho;have E4:=E3.got (s1:=q3++[none,none]) hq5 (by simp) hQ G.nd (by simpa using G.fresh) (by simpa using G.old);have gl4:q3.length+2≤q4.length:=by have:=G.len;simpa using this
  have fr4:∀o∈o4,q3.length+2≤o:=fun o ho=>by have:=G.fresh o ho;simpa using this
  have P0:=E4.at0 (p:=0) (ob:=⟨3,[[.bool false,.jF,.jF]]⟩) (by simp);have P1:=E4.at0 (p:=2) (ob:=⟨3,[[.bool e2.neg,y1,y2]]⟩) (by simp);rcases hLA with ⟨rfl,rfl,rfl⟩|⟨p,rfl,rfl⟩
  ·refine CV @P0 @P1 @lz @gl4 @jO @kG ?_;refine⟨by omega,(k+1,?s1,S',N++[c],e2,.kQ (q3.length+1) 0 1,[]++[[iv c.node,.bool c.total.neg,z2,z3,z4]],y1,y2,os2++o4),?m1,⟨⟨⟨?a1,hs,hb2⟩,?b1,?c1⟩,[(q3.length+1,⟨5,[]++[[iv c.node,.bool c.total.neg,z2,z3,z4]]⟩)],.inr ⟨q3.length+1,?d1,rfl⟩,?f1⟩,?e1⟩
   case e1=>dsimp only;(refine jS ?_;exact zV)
   case m1=>dsimp only;omega
   case a1=>dsimp only;omega
   case b1=>dsimp only;simp at hAl ⊢;omega
   case c1 =>
    intro r hr;rcases aK.1 hr with hr|hr
    ·exact hA5 r hr
    rw [aV.1 hr];rfl
   case d1=>dsimp only;simp
   case f1 =>
    dsimp only;refine Ep.adg (E4.to ?_ ?_) ?_ ?_
    ·intro o ho;have a1:o<q3.length∨q3.length+2≤o:=by
      rcases aK.1 ho with ho|ho
      ·exact .inl (E3.Wu o ho)
      exact .inr (fr4 o ho)
     exact Ja
    ·intro q hq;simp only [aH,bP,or_false]at hq;rcases hq with rfl|rfl|rfl
     ·refine .inl ⟨by simp,?_⟩;show iZ _ 0=iZ q4 0;exact Ja
     ·refine .inl ⟨by simp,?_⟩;show iZ _ 2=iZ q4 2;exact Ja
     refine .inr ⟨?_,fun hm=>?_⟩
     ·show iZ _ (q3.length+1)=_;simp (disch:=first|omega|(simp only [aO,bC,ak,aC];omega)) only [Py];rfl
     rcases aK.1 hm with hm|hm
     ·have:=E3.Wu _ hm;omega
     have:=fr4 _ hm;omega
    ·simp
    simp
  have P3:=E4.at0 (p:=p) (ob:=⟨5,A⟩) (by simp);have hpq:=(E3.at0 (p:=p) (ob:=⟨5,A⟩) (by simp)).2;have hpn:=(E4.l (p,⟨5,A⟩) (by simp)).2;refine ew8 @P0 @P1 @lz @gl4 @P3 @hpq @jO @kG ?_;refine⟨by omega,(k+1,?s2,S',N++[c],e2,.kQ (q3.length+1) 0 (A.length+1),A++[[iv c.node,.bool c.total.neg,z2,z3,z4]],y1,y2,os2++o4),?m2,⟨⟨⟨?a2,hs,hb2⟩,?b2,?c2⟩,[(q3.length+1,⟨5,A++[[iv c.node,.bool c.total.neg,z2,z3,z4]]⟩)],.inr ⟨q3.length+1,?d2,rfl⟩,?f2⟩,?e2⟩
  case e2=>dsimp only;(refine jS ?_;exact zV)
  case m2=>dsimp only;omega
  case a2=>dsimp only;omega
  case b2=>dsimp only;simp;omega
  case c2 =>
   intro r hr;rcases aK.1 hr with hr|hr
   ·exact hA5 r hr
   rw [aV.1 hr];rfl
  case d2=>dsimp only;simp
  case f2 =>
   dsimp only;refine Ep.adg (E4.to ?_ ?_) ?_ ?_
   ·intro o ho;have a1:o<q3.length∨q3.length+2≤o:=by
     rcases aK.1 ho with ho|ho
     ·exact .inl (E3.Wu o ho)
     exact .inr (fr4 o ho)
    have a2:o≠p:=fun e=>hpn (e▸ho);exact Ja
   ·intro q hq;simp only [aH,bP,or_false]at hq;rcases hq with rfl|rfl|rfl
    ·refine .inl ⟨by simp,?_⟩;have:=(hM (p,⟨5,A⟩) (by simp)).1;dsimp only at this;show iZ _ 0=iZ q4 0;exact Ja
    ·refine .inl ⟨by simp,?_⟩;have:=(hM (p,⟨5,A⟩) (by simp)).2;dsimp only at this;show iZ _ 2=iZ q4 2;exact Ja
    refine .inr ⟨?_,fun hm=>?_⟩
    ·show iZ _ (q3.length+1)=_;exact Ja
    rcases aK.1 hm with hm|hm
    ·have:=E3.Wu _ hm;omega
    have:=fr4 _ hm;omega
   ·simp
   simp
 have hie:k=o.length:=by omega
 have hg:WB S o=some (L,N,e):=by unfold WB;rw [if_pos hb,←hie,hf];exact if_pos he
 obtain⟨e1,e2,e3⟩:=Qj hg;rw [e1,e2,e3];have n0:=(E.l (0,⟨3,[[.bool false,.jF,.jF]]⟩) (by simp)).2;rcases hLA with ⟨rfl,rfl,rfl⟩|⟨p,rfl,rfl⟩
 ·have hN0:N=[]:=aY (by simp at hAl;omega);subst hN0;refine CV @hc @L0 @L1 @LFx @jO @kG ?_;refine⟨Bd (L':=3) (by have:=L1.2;omega) (by unfold vH;rfl),?_⟩;have W:=(E.c.set (o:=0) (x:=some ⟨3,[[.bool e.neg,x1,x2]]⟩) n0);have W1:mJ (s.set 0 (some ⟨3,[[.bool e.neg,x1,x2]]⟩)) [.bool e.neg,x1,x2] e.cells os:=by simpa using W.ow
  refine⟨.nJ [O8 [],.agg [.bool e.neg,x1,x2],.bool true],_,?_,Ea (nP (o1:=[]) (by simp [lC]) (nP (nY W1) (nI nC))),by simpa using W.nd⟩;have h1:=jP (.agg [.bool e.neg,x1,x2]);simp only [lU,uJ]at h1 ⊢;exact⟨_,rfl,_,_,rfl,.inl ⟨rfl,.inl rfl⟩,_,_,rfl,h1,_,_,rfl,rfl,rfl⟩
 have L3:=E.at0 (p:=p) (ob:=⟨5,A⟩) (by simp);have hp0:p≠0:=fun e=>by have:=L3.1;rw [e,L0.1]at this;cases this
 refine CV @hc @L0 @L1 @LFx @jO @kG ?_;refine⟨Bd (L':=3) (by have:=L1.2;omega) (by unfold vH;rfl),?_⟩;have Es:=E.Ey (p:=0) (ob:=⟨3,[[.bool e.neg,x1,x2]]⟩) (L':=[(p,⟨5,A⟩)]) n0 L0.2 (fun q hq=>.inl (by rw [aV.1 hq];exact⟨hp0,by simp⟩));have hA':A.length=(N.map Cd.cells).length:=by rw [aX];omega
 have ht5:∀r∈N.map Cd.cells,r.length=5:=fun r hr=>by obtain⟨x,_,rfl⟩:=bG.1 hr;rfl
 have hfl:A.flatten.length=(N.map Cd.cells).flatten.length:=by
  have e1:∀(X:List (List V)),(∀r∈X,r.length=5)→X.flatten.length=X.length*5:=fun X=>by
   induction X with
   |nil=>intro _;rfl
   |cons r X ih=>intro h;rw [dG,aO,ih fun r hr=>h r (by simp [hr]),h r (by simp),ak];omega
  rw [e1 A hA5,e1 _ ht5,hA']
 obtain⟨os1,E2,_⟩:=(Ep.adg (cs':=[.bool e.neg,x1,x2]++(A.flatten++[])) (ts':=[.bool e.neg,ints e.mag,ints e.den]++((N.map Cd.cells).flatten++[])) Es (by simp) (by simp)).swap rfl hfl;obtain⟨os2,E3⟩:=E2.close (p:=p) (n:=5) (k:=5) (by simp) hA5 ht5 hA';have W:mJ _ ([V.kQ p 0 A.length]++([.bool e.neg,x1,x2]++[])) ([O8 N]++(e.cells++[])) os2:=E3.c.ow;obtain⟨a1,a2,p1,p2,ea,rfl,w1,w2⟩:=oq W;obtain⟨rfl,rfl⟩:=eu ea (by exact w1.len.symm);rw [aP,aP]at w2;have W9:=lH w1 (lH (aed (nY w2)) (nI (b:=true) nC));refine vU (Ea W9) ?_;simpa using E3.c.nd
def slX(n:Nat):V:=if n=0 then .jF else .kQ 2 0 n
theorem afc:slX 0=.jF:=rfl
theorem afd(n:Nat):slX (n+1)=.kQ 2 0 (n+1):=rfl
theorem XR{W:L8}{σ:Store}{q n:Nat}{L:List Int}(h:iZ σ q=some ⟨1,jR L⟩)(hq:∀(k s0 l0:Nat),W[k]? ≠ some (some (q,s0,l0)))(hn:n=L.length):KC W σ (ints L) (.kQ q 0 n):=by
 subst hn;refine rM ?_ fun p hp k s0 l0=>?_
 ·have:=LG (n:=10) h (oz L);rw [CQ]at this;exact this
 have:=UR (Ll h) FD p hp;rw [aV.1 this];exact hq k s0 l0
def chJ(R last:List Int):Nat→List Int
 |0=>[]
 |j+1=>chJ R last j++if R.getD j 0∈last then []else [R.getD j 0]
theorem akG(R last:List Int):∀k,k≤R.length→chJ R last k=chI (R.take k) last
 |0,_=>by simp [chJ,chI]
 |
  k+1,h=>by
  have e:R.take (k+1)=R.take k++[R.getD k 0]:=by
   rw [iM,aj,au (by omega)];rfl
  unfold chJ;rw [akG R last k (by omega),e];unfold chI;rw [List.filter_append]
  congr 1
  generalize R.getD k 0=y;by_cases hx:y∈last
  ·rw [if_pos hx];simp [hx]
  rw [if_neg hx];simp [hx]
theorem Zb(R last:List Int):∀k,(chJ R last k).length≤k
 |0=>aJ _
 |
  k+1=>by
  have:=Zb R last k;unfold chJ;split<;>simp<;>omega
theorem aAd(last:List Int)(g0:Gd)(ns:List Int)(k:Nat):IC last g0 ns (k+1)=(abb (IC last g0 ns k).1 (WC (IC last g0 ns k).1 (IC last g0 ns k).2.1 last).toNat,woI (IC last g0 ns k).2.1 (WC (IC last g0 ns k).1 (IC last g0 ns k).2.1 last),(IC last g0 ns k).2.2++[WC (IC last g0 ns k).1 (IC last g0 ns k).2.1 last]):=rfl
theorem afe{a b:St}(h:Fg a b:=by
 (refine Fh [(0,_)] (by simp) (by intro p hp;simp only [aH,bP,or_false]at hp;rcases hp with rfl<;>refine⟨rfl,?_⟩<;>first|exact qR _|exact oz _|simp [l9,V.still]) rfl ?_)<;>(try (refine ew ?_;try with_reducible exact True.intro))<;>(repeat' (first|exact True.intro|omega|exact qM rfl (by simp)|refine⟨?_,?_⟩|exact of_eq_true (rJ _ _ _)|exact lK rfl (by simp;done)|exact lK rfl rfl|(refine lD rfl ?_ rfl;simp [jR];done)|(refine lD rfl ?_ rfl;simp [jR];omega)|(refine rM ?_ ?_;(focus ((refine ew ?_;try with_reducible exact True.intro);done));(intro q hq k s0 l0;simp;done))))):Fg a b:=h
theorem akH{a b:St}(h:Fg a b:=by
 (refine Fh [(0,_),(1,_)] (by simp) (by intro p hp;simp only [aH,bP,or_false]at hp;rcases hp with rfl|rfl<;>refine⟨rfl,?_⟩<;>first|exact qR _|exact oz _|simp [l9,V.still]) rfl ?_)<;>(try (refine ew ?_;try with_reducible exact True.intro))<;>(repeat' (first|exact True.intro|omega|exact qM rfl (by simp)|refine⟨?_,?_⟩|exact of_eq_true (rJ _ _ _)|exact lK rfl (by simp;done)|exact lK rfl rfl|(refine lD rfl ?_ rfl;simp [jR];done)|(refine lD rfl ?_ rfl;simp [jR];omega)|(refine rM ?_ ?_;(focus ((refine ew ?_;try with_reducible exact True.intro);done));(intro q hq k s0 l0;simp;done))))):Fg a b:=h
theorem akI{a b:St}(h:Fg a b:=by
 (refine Fh [(0,_),(2,_)] (by simp) (by intro p hp;simp only [aH,bP,or_false]at hp;rcases hp with rfl|rfl<;>refine⟨rfl,?_⟩<;>first|exact qR _|exact oz _|simp [l9,V.still]) rfl ?_)<;>(try (refine ew ?_;try with_reducible exact True.intro))<;>(repeat' (first|exact True.intro|omega|exact qM rfl (by simp)|refine⟨?_,?_⟩|exact of_eq_true (rJ _ _ _)|exact lK rfl (by simp;done)|exact lK rfl rfl|(refine lD rfl ?_ rfl;simp [jR];done)|(refine lD rfl ?_ rfl;simp [jR];omega)|(refine rM ?_ ?_;(focus ((refine ew ?_;try with_reducible exact True.intro);done));(intro q hq k s0 l0;simp;done))))):Fg a b:=h
theorem akJ{a b:St}(h:Fg a b:=by
 (refine Fh [(0,_),(3,_)] (by simp) (by intro p hp;simp only [aH,bP,or_false]at hp;rcases hp with rfl|rfl<;>refine⟨rfl,?_⟩<;>first|exact qR _|exact oz _|simp [l9,V.still]) rfl ?_)<;>(try (refine ew ?_;try with_reducible exact True.intro))<;>(repeat' (first|exact True.intro|omega|exact qM rfl (by simp)|refine⟨?_,?_⟩|exact of_eq_true (rJ _ _ _)|exact lK rfl (by simp;done)|exact lK rfl rfl|(refine lD rfl ?_ rfl;simp [jR];done)|(refine lD rfl ?_ rfl;simp [jR];omega)|(refine rM ?_ ?_;(focus ((refine ew ?_;try with_reducible exact True.intro);done));(intro q hq k s0 l0;simp;done))))):Fg a b:=h
theorem OL{T:Tb}(h:xA T){l:List Lk}{last:List Int}(hw:IQ Lk.wf l:=by exact qW)(ho:last.length≤1048576:=by exact qW):PO T 300 [oP l,ints last] (ints (VO l last)):=by
 have ci:=PL h.CZ hw;unfold VO
 cases hb:kN l
 ·rw [hb]at ci;rw [if_neg (by simp)];refine lI nR h.hT ?_;simp only [qm,Lz,St.enter,ak,aC,aQ];refine ew ?_;refine jl ci ?_;refine ew ?_;exact Jw
 rw [hb]at ci;rw [if_pos rfl];have hz:kU gz=List.replicate 100 (.bool false):=YF;simp only [List.replicate]at hz;have cg:=aj7 h.WA hw hb;have cn:=U4 h.Gx hw;rw [←PS hb]at cn;have hnl:=JE l;have hrg:=fun a=>@acM l a;have hmd:=fun k hk=>ae9 (last:=last) (F5 (JF l)) (TR hb l.length (aJ _)) k hk;generalize uz l=ns at cn hnl hrg hmd ⊢;generalize hg0:gOf l l.length=g0 at cg hmd ⊢;have t1:=Hr g0;have t2:=Hr gz;refine lI nR h.hT ?_;simp only [qm,Lz,St.enter,ak,aC,aQ];refine ew ?_;rw [←hz];clear hz;refine jl ci ?_;generalize hc:kU g0=c at t1 cg ⊢;generalize hd:kU gz=d at t2 ⊢;refine Aq @t1 @t2 ?_;refine jl cg ?_;refine Aq @t1 @t2 ?_;refine jl cn ?_;refine ew ?_;rw [←hc];clear t1 hc;refine jX (fun _ _=>false) (α:=Nat×List Int) (fun q=>⟨lS [.any,ints last,.any,.any,.any,.ptr 0 0 0,ints (IC last g0 ns q.1).2.1,slW q.2.length],some ⟨100,[kU (IC last g0 ns q.1).1]⟩::Zj 1 (jR q.2),0,0,[],[]⟩) (fun q=>q.1≤ns.length∧q.2=(IC last g0 ns q.1).2.2) (fun q=>ns.length-q.1) rfl (0,[]) ?_ ?_ ?_
 ·exact⟨by omega,rfl⟩
 ·dsimp only;rw [show IC last g0 ns 0=(g0,ns,[])from rfl];exact afe
 rintro⟨k,xs⟩ ⟨hk,hx0⟩;dsimp only at hk hx0;have hm:=hmd k hk;have hx:xs.length≤10:=by rw [hx0,hm.out];omega
 have es:=aAd last g0 ns k;rw [←hx0]at es;have hml:=hm.len;have hmo:=hm.out;have hms:=hm.sub;have hfin:k=ns.length→IC last g0 ns ns.length=IC last g0 ns k:=fun e=>by rw [e]
 generalize hS:IC last g0 ns k=S at es hml hms hmo hfin hx0 ⊢;obtain⟨G,R,X⟩:=S;dsimp only at es hml hms hmo hx0 ⊢;subst hx0;clear hm;by_cases hkc:k<ns.length
 ·have hR0:(R.length:Int)>0:=by omega
  have hRr:∀x∈R,1≤x∧x≤9:=fun x hx=>hrg x (hms x hx);have hRl:R.length≤10:=by omega
  have hRn:R≠[]:=fun e=>by rw [e]at hR0;simp at hR0
  have hbm:=abk (g:=G) (last:=last) hRn;have hcs:∀x∈ch2 R last,1≤x∧x≤9:=fun x hx=>hRr x (ae8 hx);have hC0:=akB (last:=last) hRn;have hbd:WC G R last=pk G (ch2 R last) ((ch2 R last).getD 0 0):=rfl;have av3:chI R last=chJ R last R.length:=by rw [akG R last _ (aJ _),bM]
  have hv:=hRr _ hbm;generalize hB:WC G R last=B at es hbm hbd hv;have cc:=avF h.Rj (g:=G) (v:=B) (by omega);have cw:=Y8 h.Qh (l:=R) (n:=B) (by omega);have cdg:=fun v (hv:0≤v∧v≤9)=>aj9 h.Nq (g:=G) (v:=v) hv;have t1:=Hr G;have t3:=Hr (abb G B.toNat);generalize hC:kU G=C at t1 cc cdg ⊢;generalize hE:kU (abb G B.toNat)=E at t3 cc
  (rcases xs with _|⟨x,xs⟩<;>simp only [aC,ak,XO,XP,nV,lY]at hx hmo es ⊢)
  ·refine y9 @hR0 ?_;rw [←hC];refine jX (fun _ _=>false) (α:=Nat×List Int) (fun q=>⟨lS [.any,ints last,.any,.any,.any,.ptr 0 0 0,ints R,.jF,slW q.2.length,.any,.any,.any,.any,.any,.any,.any,.any,.any,.any,.any,.any,.any,.any,.any,.any,.any,ints R,iv (R.length:Nat),iv (q.1:Nat)],[some ⟨100,[kU G]⟩]++Zj 1 (jR q.2),0,0,[],[]⟩) (fun q=>q.1≤R.length∧q.2=chJ R last q.1) (fun q=>R.length-q.1) rfl (0,[]) ?_ ?_ ?_
   ·exact⟨by omega,rfl⟩
   ·exact afe
   rintro⟨j,ys⟩ ⟨hj,hy0⟩;dsimp only at hj hy0;have hyl:ys.length≤10:=by rw [hy0];have:=Zb R last j;omega
   have ej:chJ R last (j+1)=chJ R last j++if R.getD j 0∈last then []else [R.getD j 0]:=rfl
   rw [←hy0]at ej;by_cases hjc:(j:Int)<(R.length:Nat)
   ·have hjl:j<R.length:=by omega
    generalize hvv:R.getD j 0=v at ej;have ch:=LD h.uy (l:=last) (n:=v) (by omega);by_cases hvl:v∈last
    ·rw [decide_eq_true hvl]at ch;rw [if_pos hvl,aP]at ej
     (rcases ys with _|⟨y,ys⟩<;>simp only [aC,ak,XO,XP,nV,lY,aP,bK,dI]at hyl ⊢)
     ·refine Fj @hjc @mg @hvv ?_;refine jl ch ?_;refine ew ?_;refine⟨(j+1,[]),by dsimp only;omega,⟨by dsimp only;omega,ej.symm⟩,?_⟩;simp only [aC,XO]
      (refine jS ?_;exact zV)
     refine Fj @hjc @mg @hvv ?_;refine jl ch ?_;refine ew ?_;refine⟨(j+1,y::ys),by dsimp only;omega,⟨by dsimp only;omega,ej.symm⟩,?_⟩;simp only [ak,XP]
     (refine jS ?_;exact zV)
    rw [decide_eq_false hvl]at ch;rw [if_neg hvl]at ej
    (rcases ys with _|⟨y,ys⟩<;>simp only [aC,ak,XO,XP,nV,lY,aP,bK,dI]at hyl ⊢)
    ·refine Fj @hjc @mg @hvv ?_;refine jl ch ?_;refine ew ?_;exact⟨by omega,(j+1,[v]),by dsimp only;omega,⟨by dsimp only;omega,ej.symm⟩,by exact akI⟩
    refine Fj @hjc @mg @hvv ?_;refine jl ch ?_;refine ew ?_;refine⟨by omega,(j+1,(y::ys)++[v]),by dsimp only;omega,⟨by dsimp only;omega,ej.symm⟩,?_⟩;dsimp only;rw [sO,show Zj 1 (jR (y::ys++[v]))=[some ⟨1,jR (y::ys++[v])⟩]from rfl,show slW (y::ys++[v]).length=.kQ 1 0 (ys.length+1+1) by simp [slW]];simp only [bK,dI];exact akJ
   have hje:j=R.length:=by omega
   subst hje;rw [←av3]at hy0;have Zc:ch2 R last=if ys=[]then R else ys:=by rw [hy0];rfl
   rw [hC]
   (rcases ys with _|⟨y,ys⟩<;>simp only [aC,ak,XO,XP,nV,lY,aP,bK,dI]at hyl ⊢)
   ·rw [if_pos rfl]at Zc;rw [Zc]at hbd hcs hC0;have hR1:0<R.length:=by omega
    refine y9 @hjc ?_;refine jW (fun _=>?_) fun hh=>absurd (by simp) hh;refine ew ?_;rw [←hC];have hCl:R.length≤10:=by omega
    have hget:∀m,m<R.length→1≤R.getD m 0∧R.getD m 0≤9:=fun m hm=>hcs _ (by rw [aj,au hm];exact fD hm);have hdr:∀m,m<R.length→R.drop m=R.getD m 0::R.drop (m+1):=fun m hm=>by
     rw [bH hm,aj,au hm];rfl
    have h00:=hget 0 (by omega)
    skip
    refine jX (fun _ _=>false) (α:=Nat×Int) (fun q=>⟨lS [.any,ints last,.any,.any,.any,.ptr 0 0 0,ints R,.jF,.any,.any,.any,iv q.2,.any,.any,.any,.any,.any,.any,.any,.any,.any,.any,.any,.any,.any,.any,.any,.any,.any,.any,.any,.any,.any,.any,.any,.any,.any,.any,.any,.any,.any,.any,.any,.any,.any,.any,.any,.any,ints R,iv (R.length:Nat),iv (q.1:Nat)],[some ⟨100,[kU G]⟩],0,0,[],[]⟩) (fun q=>q.1≤R.length∧(1≤q.2∧q.2≤9)∧B=pk G (R.drop q.1) q.2) (fun q=>R.length-q.1) rfl (0,R.getD 0 0) ?_ ?_ ?_
    ·exact⟨by dsimp only;omega,h00,hbd⟩
    ·exact afe
    rw [hC];rintro⟨m,b⟩ ⟨hm,hb2,hpk⟩;dsimp only at hm hb2 hpk;have hget:=hget m;have hdr:=hdr m;refine ew ?_;refine jW (fun he=>?_) fun he=>?_<;>(refine y9 @he ?_;try with_reducible exact True.intro)
    ·have VE:m<R.length:=by first|omega|(simp only [ak];omega)
     have hv9:=hget VE;rw [hdr VE,akz]at hpk;generalize R.getD m 0=v at hv9 hpk ⊢;refine y9 @t1 ?_;refine jl (cdg v (by omega)) ?_;refine y9 @t1 ?_;refine jl (cdg b (by omega)) ?_;refine y9 @t1 ?_;refine jW (fun hf=>?_) fun hf=>?_<;>(refine y9 @hf ?_;try with_reducible exact True.intro)
     ·have hf':OO G v<OO G b:=by unfold OO;omega
      rw [if_pos hf']at hpk;exact⟨(m+1,v),by first|(dsimp only;omega)|(simp only [List.length_cons]at *;omega),⟨by first|(dsimp only;omega)|(simp only [List.length_cons]at *;omega),by dsimp only;omega,hpk⟩,by (refine jS ?_;exact zV)⟩
     have hf':¬OO G v<OO G b:=by unfold OO;omega
     rw [if_neg hf']at hpk;exact⟨(m+1,b),by first|(dsimp only;omega)|(simp only [List.length_cons]at *;omega),⟨by first|(dsimp only;omega)|(simp only [List.length_cons]at *;omega),by dsimp only;omega,hpk⟩,by (refine jS ?_;exact zV)⟩
    have hme:m=R.length:=by first|omega|(simp only [ak]at hm ⊢;omega)
    rw [hme,gJ]at hpk;have hpk:B=b:=hpk;subst hpk;refine Aq @t1 @t3 ?_;refine⟨by omega,?_⟩;refine jl cc ?_;refine Aq @t1 @t3 ?_;refine jl cw ?_;refine Aq @t1 @t3 ?_;refine⟨(k+1,([])++[B]),by dsimp only;omega,⟨by dsimp only;omega,by rw [es]⟩,?_⟩;dsimp only;rw [es,←hE];dsimp only;exact akI
   rw [if_neg (by simp)]at Zc;rw [Zc]at hbd hcs hC0
   skip
   refine y9 @hjc ?_;refine jW (fun hh=>absurd hh (by omega)) fun _=>?_;refine ew ?_;rw [←hC];have hCl:(y::ys).length≤10:=by simp only [ak];omega
   have hget:∀m,m<(y::ys).length→1≤(y::ys).getD m 0∧(y::ys).getD m 0≤9:=fun m hm=>hcs _ (by rw [aj,au hm];exact fD hm);have hdr:∀m,m<(y::ys).length→(y::ys).drop m=(y::ys).getD m 0::(y::ys).drop (m+1):=fun m hm=>by
    rw [bH hm,aj,au hm];rfl
   have h00:=hget 0 (by simp)
   skip
   refine jX (fun _ _=>false) (α:=Nat×Int) (fun q=>⟨lS [.any,ints last,.any,.any,.any,.ptr 0 0 0,ints R,.jF,.any,.any,.any,iv q.2,.any,.any,.any,.any,.any,.any,.any,.any,.any,.any,.any,.any,.any,.any,.any,.any,.any,.any,.any,.any,.any,.any,.any,.any,.any,.any,.any,.any,.any,.any,.any,.any,.any,.any,.any,.any,ints (y::ys),iv ((y::ys).length:Nat),iv (q.1:Nat)],[some ⟨100,[kU G]⟩],0,0,[],[]⟩) (fun q=>q.1≤(y::ys).length∧(1≤q.2∧q.2≤9)∧B=pk G ((y::ys).drop q.1) q.2) (fun q=>(y::ys).length-q.1) rfl (0,(y::ys).getD 0 0) ?_ ?_ ?_
   ·exact⟨by dsimp only;omega,h00,hbd⟩
   ·((refine Fh [(0,_)] (by simp) (by intro p hp;simp only [aH,bP,or_false]at hp;rcases hp with rfl<;>refine⟨rfl,?_⟩<;>first|exact qR _|exact oz _|simp [l9,V.still]) rfl ?_)<;>(try (refine ew ?_;try with_reducible exact True.intro))<;>(repeat' (first|exact True.intro|omega|exact qM rfl (by simp)|refine⟨?_,?_⟩|exact of_eq_true (rJ _ _ _)|exact lK rfl (by simp;done)|exact lK rfl rfl|(refine lD rfl ?_ rfl;simp [jR];done)|(refine lD rfl ?_ rfl;simp [jR];omega)|(refine rM ?_ ?_;(focus ((refine ew ?_;try with_reducible exact True.intro);done));(intro q hq k s0 l0;simp;done)))));exact XR rfl (by rintro(_|_|_) s0 l0 hh<;>simp at hh) rfl
   rw [hC];rintro⟨m,b⟩ ⟨hm,hb2,hpk⟩;dsimp only at hm hb2 hpk;have hget:=hget m;have hdr:=hdr m;refine ew ?_;refine jW (fun he=>?_) fun he=>?_<;>(refine y9 @he ?_;try with_reducible exact True.intro)
   ·have VE:m<(y::ys).length:=by first|omega|(simp only [ak];omega)
    have hv9:=hget VE;rw [hdr VE,akz]at hpk;generalize (y::ys).getD m 0=v at hv9 hpk ⊢;refine y9 @t1 ?_;refine jl (cdg v (by omega)) ?_;refine y9 @t1 ?_;refine jl (cdg b (by omega)) ?_;refine y9 @t1 ?_;refine jW (fun hf=>?_) fun hf=>?_<;>(refine y9 @hf ?_;try with_reducible exact True.intro)
    ·have hf':OO G v<OO G b:=by unfold OO;omega
     rw [if_pos hf']at hpk;exact⟨(m+1,v),by first|(dsimp only;omega)|(simp only [List.length_cons]at *;omega),⟨by first|(dsimp only;omega)|(simp only [List.length_cons]at *;omega),by dsimp only;omega,hpk⟩,by (refine jS ?_;exact zV)⟩
    have hf':¬OO G v<OO G b:=by unfold OO;omega
    rw [if_neg hf']at hpk;exact⟨(m+1,b),by first|(dsimp only;omega)|(simp only [List.length_cons]at *;omega),⟨by first|(dsimp only;omega)|(simp only [List.length_cons]at *;omega),by dsimp only;omega,hpk⟩,by (refine jS ?_;exact zV)⟩
   have hme:m=(y::ys).length:=by first|omega|(simp only [ak]at hm ⊢;omega)
   rw [hme,gJ]at hpk;have hpk:B=b:=hpk;subst hpk;refine Aq @t1 @t3 ?_;refine⟨by omega,?_⟩;refine jl cc ?_;refine Aq @t1 @t3 ?_;refine jl cw ?_;refine Aq @t1 @t3 ?_;refine⟨(k+1,([])++[B]),by dsimp only;omega,⟨by dsimp only;omega,by rw [es]⟩,?_⟩;dsimp only;rw [es,←hE];dsimp only;exact akI
  refine y9 @hR0 ?_;rw [←hC];refine jX (fun _ _=>false) (α:=Nat×List Int) (fun q=>⟨lS [.any,ints last,.any,.any,.any,.ptr 0 0 0,ints R,.kQ 1 0 (xs.length+1),slX q.2.length,.any,.any,.any,.any,.any,.any,.any,.any,.any,.any,.any,.any,.any,.any,.any,.any,.any,ints R,iv (R.length:Nat),iv (q.1:Nat)],[some ⟨100,[kU G]⟩,some ⟨1,jR (x::xs)⟩]++Zj 1 (jR q.2),0,0,[],[]⟩) (fun q=>q.1≤R.length∧q.2=chJ R last q.1) (fun q=>R.length-q.1) rfl (0,[]) ?_ ?_ ?_
  ·exact⟨by omega,rfl⟩
  ·exact akH
  rintro⟨j,ys⟩ ⟨hj,hy0⟩;dsimp only at hj hy0;have hyl:ys.length≤10:=by rw [hy0];have:=Zb R last j;omega
  have ej:chJ R last (j+1)=chJ R last j++if R.getD j 0∈last then []else [R.getD j 0]:=rfl
  rw [←hy0]at ej;by_cases hjc:(j:Int)<(R.length:Nat)
  ·have hjl:j<R.length:=by omega
   generalize hvv:R.getD j 0=v at ej;have ch:=LD h.uy (l:=last) (n:=v) (by omega);by_cases hvl:v∈last
   ·rw [decide_eq_true hvl]at ch;rw [if_pos hvl,aP]at ej
    (rcases ys with _|⟨y,ys⟩<;>simp only [aC,ak,afc,afd,nV,lY,aP,bK,dI]at hyl ⊢)
    ·refine Fj @hjc @mg @hvv ?_;refine jl ch ?_;refine ew ?_;refine⟨(j+1,[]),by dsimp only;omega,⟨by dsimp only;omega,ej.symm⟩,?_⟩;simp only [aC,afc]
     (refine jS ?_;exact zV)
    refine Fj @hjc @mg @hvv ?_;refine jl ch ?_;refine ew ?_;refine⟨(j+1,y::ys),by dsimp only;omega,⟨by dsimp only;omega,ej.symm⟩,?_⟩;simp only [ak,afd]
    (refine jS ?_;exact zV)
   rw [decide_eq_false hvl]at ch;rw [if_neg hvl]at ej
   (rcases ys with _|⟨y,ys⟩<;>simp only [aC,ak,afc,afd,nV,lY,aP,bK,dI]at hyl ⊢)
   ·refine Fj @hjc @mg @hvv ?_;refine jl ch ?_;refine ew ?_;exact⟨by omega,(j+1,[v]),by dsimp only;omega,⟨by dsimp only;omega,ej.symm⟩,by (refine Fh [(0,_),(1,_),(3,_)] (by simp) (by intro p hp;simp only [List.mem_cons,List.not_mem_nil,or_false]at hp;rcases hp with rfl|rfl|rfl<;>refine⟨rfl,?_⟩<;>first|exact qR _|exact oz _|simp [l9,V.still]) rfl ?_)<;>(try (refine ew ?_;try with_reducible exact True.intro))<;>(repeat' (first|exact True.intro|omega|exact qM rfl (by simp)|refine⟨?_,?_⟩|exact of_eq_true (rJ _ _ _)|exact lK rfl (by simp;done)|exact lK rfl rfl|(refine lD rfl ?_ rfl;simp [jR];done)|(refine lD rfl ?_ rfl;simp [jR];omega)|(refine rM ?_ ?_;(focus ((refine ew ?_;try with_reducible exact True.intro);done));(intro q hq k s0 l0;simp;done))))⟩
   refine Fj @hjc @mg @hvv ?_;refine jl ch ?_;refine ew ?_;refine⟨by omega,(j+1,(y::ys)++[v]),by dsimp only;omega,⟨by dsimp only;omega,ej.symm⟩,?_⟩;dsimp only;rw [sO,show Zj 1 (jR (y::ys++[v]))=[some ⟨1,jR (y::ys++[v])⟩]from rfl,show slX (y::ys++[v]).length=.kQ 2 0 (ys.length+1+1) by simp [slX]];simp only [bK,dI]
   (refine Fh [(0,_),(1,_),(4,_)] (by simp) (by intro p hp;simp only [aH,bP,or_false]at hp;rcases hp with rfl|rfl|rfl<;>refine⟨rfl,?_⟩<;>first|exact qR _|exact oz _|simp [l9,V.still]) rfl ?_)<;>(try (refine ew ?_;try with_reducible exact True.intro))<;>(repeat' (first|exact True.intro|omega|exact qM rfl (by simp)|refine⟨?_,?_⟩|exact of_eq_true (rJ _ _ _)|exact lK rfl (by simp;done)|exact lK rfl rfl|(refine lD rfl ?_ rfl;simp [jR];done)|(refine lD rfl ?_ rfl;simp [jR];omega)|(refine rM ?_ ?_;(focus ((refine ew ?_;try with_reducible exact True.intro);done));(intro q hq k s0 l0;simp;done))))
  have hje:j=R.length:=by omega
  subst hje;rw [←av3]at hy0;have Zc:ch2 R last=if ys=[]then R else ys:=by rw [hy0];rfl
  rw [hC]
  (rcases ys with _|⟨y,ys⟩<;>simp only [aC,ak,afc,afd,nV,lY,aP,bK,dI]at hyl ⊢)
  ·rw [if_pos rfl]at Zc;rw [Zc]at hbd hcs hC0;have hR1:0<R.length:=by omega
   refine y9 @hjc ?_;refine jW (fun _=>?_) fun hh=>absurd (by simp) hh;refine ew ?_;rw [←hC];have hCl:R.length≤10:=by omega
   have hget:∀m,m<R.length→1≤R.getD m 0∧R.getD m 0≤9:=fun m hm=>hcs _ (by rw [aj,au hm];exact fD hm);have hdr:∀m,m<R.length→R.drop m=R.getD m 0::R.drop (m+1):=fun m hm=>by
    rw [bH hm,aj,au hm];rfl
   have h00:=hget 0 (by omega)
   skip
   refine jX (fun _ _=>false) (α:=Nat×Int) (fun q=>⟨lS [.any,ints last,.any,.any,.any,.ptr 0 0 0,ints R,.kQ 1 0 (xs.length+1),.any,.any,.any,iv q.2,.any,.any,.any,.any,.any,.any,.any,.any,.any,.any,.any,.any,.any,.any,.any,.any,.any,.any,.any,.any,.any,.any,.any,.any,.any,.any,.any,.any,.any,.any,.any,.any,.any,.any,.any,.any,ints R,iv (R.length:Nat),iv (q.1:Nat)],[some ⟨100,[kU G]⟩,some ⟨1,jR (x::xs)⟩],0,0,[],[]⟩) (fun q=>q.1≤R.length∧(1≤q.2∧q.2≤9)∧B=pk G (R.drop q.1) q.2) (fun q=>R.length-q.1) rfl (0,R.getD 0 0) ?_ ?_ ?_
   ·exact⟨by dsimp only;omega,h00,hbd⟩
   ·exact akH
   rw [hC];rintro⟨m,b⟩ ⟨hm,hb2,hpk⟩;dsimp only at hm hb2 hpk;have hget:=hget m;have hdr:=hdr m;refine ew ?_;refine jW (fun he=>?_) fun he=>?_<;>(refine y9 @he ?_;try with_reducible exact True.intro)
   ·have VE:m<R.length:=by first|omega|(simp only [ak];omega)
    have hv9:=hget VE;rw [hdr VE,akz]at hpk;generalize R.getD m 0=v at hv9 hpk ⊢;refine y9 @t1 ?_;refine jl (cdg v (by omega)) ?_;refine y9 @t1 ?_;refine jl (cdg b (by omega)) ?_;refine y9 @t1 ?_;refine jW (fun hf=>?_) fun hf=>?_<;>(refine y9 @hf ?_;try with_reducible exact True.intro)
    ·have hf':OO G v<OO G b:=by unfold OO;omega
     rw [if_pos hf']at hpk;exact⟨(m+1,v),by first|(dsimp only;omega)|(simp only [List.length_cons]at *;omega),⟨by first|(dsimp only;omega)|(simp only [List.length_cons]at *;omega),by dsimp only;omega,hpk⟩,by (refine jS ?_;exact zV)⟩
    have hf':¬OO G v<OO G b:=by unfold OO;omega
    rw [if_neg hf']at hpk;exact⟨(m+1,b),by first|(dsimp only;omega)|(simp only [List.length_cons]at *;omega),⟨by first|(dsimp only;omega)|(simp only [List.length_cons]at *;omega),by dsimp only;omega,hpk⟩,by (refine jS ?_;exact zV)⟩
   have hme:m=R.length:=by first|omega|(simp only [ak]at hm ⊢;omega)
   rw [hme,gJ]at hpk;have hpk:B=b:=hpk;subst hpk;refine Aq @t1 @t3 ?_;refine⟨by omega,?_⟩;refine jl cc ?_;refine Aq @t1 @t3 ?_;refine jl cw ?_;refine Aq @t1 @t3 ?_;refine⟨(k+1,(x::xs)++[B]),by dsimp only;omega,⟨by dsimp only;omega,by rw [es]⟩,?_⟩;dsimp only;rw [es,←hE];rw [sO,show Zj 1 (jR (x::xs++[B]))=[some ⟨1,jR (x::xs++[B])⟩]from rfl,show slW (x::xs++[B]).length=.kQ 1 0 (xs.length+1+1) by simp [slW]];dsimp only;exact akJ
  rw [if_neg (by simp)]at Zc;rw [Zc]at hbd hcs hC0
  skip
  refine y9 @hjc ?_;refine jW (fun hh=>absurd hh (by omega)) fun _=>?_;refine ew ?_;rw [←hC];have hCl:(y::ys).length≤10:=by simp only [ak];omega
  have hget:∀m,m<(y::ys).length→1≤(y::ys).getD m 0∧(y::ys).getD m 0≤9:=fun m hm=>hcs _ (by rw [aj,au hm];exact fD hm);have hdr:∀m,m<(y::ys).length→(y::ys).drop m=(y::ys).getD m 0::(y::ys).drop (m+1):=fun m hm=>by
   rw [bH hm,aj,au hm];rfl
  have h00:=hget 0 (by simp)
  skip
  refine jX (fun _ _=>false) (α:=Nat×Int) (fun q=>⟨lS [.any,ints last,.any,.any,.any,.ptr 0 0 0,ints R,.kQ 1 0 (xs.length+1),.any,.any,.any,iv q.2,.any,.any,.any,.any,.any,.any,.any,.any,.any,.any,.any,.any,.any,.any,.any,.any,.any,.any,.any,.any,.any,.any,.any,.any,.any,.any,.any,.any,.any,.any,.any,.any,.any,.any,.any,.any,ints (y::ys),iv ((y::ys).length:Nat),iv (q.1:Nat)],[some ⟨100,[kU G]⟩,some ⟨1,jR (x::xs)⟩],0,0,[],[]⟩) (fun q=>q.1≤(y::ys).length∧(1≤q.2∧q.2≤9)∧B=pk G ((y::ys).drop q.1) q.2) (fun q=>(y::ys).length-q.1) rfl (0,(y::ys).getD 0 0) ?_ ?_ ?_
  ·exact⟨by dsimp only;omega,h00,hbd⟩
  ·((refine Fh [(0,_),(1,_)] (by simp) (by intro p hp;simp only [aH,bP,or_false]at hp;rcases hp with rfl|rfl<;>refine⟨rfl,?_⟩<;>first|exact qR _|exact oz _|simp [l9,V.still]) rfl ?_)<;>(try (refine ew ?_;try with_reducible exact True.intro))<;>(repeat' (first|exact True.intro|omega|exact qM rfl (by simp)|refine⟨?_,?_⟩|exact of_eq_true (rJ _ _ _)|exact lK rfl (by simp;done)|exact lK rfl rfl|(refine lD rfl ?_ rfl;simp [jR];done)|(refine lD rfl ?_ rfl;simp [jR];omega)|(refine rM ?_ ?_;(focus ((refine ew ?_;try with_reducible exact True.intro);done));(intro q hq k s0 l0;simp;done)))));exact XR rfl (by rintro(_|_|_) s0 l0 hh<;>simp at hh) rfl
  rw [hC];rintro⟨m,b⟩ ⟨hm,hb2,hpk⟩;dsimp only at hm hb2 hpk;have hget:=hget m;have hdr:=hdr m;refine ew ?_;refine jW (fun he=>?_) fun he=>?_<;>(refine y9 @he ?_;try with_reducible exact True.intro)
  ·have VE:m<(y::ys).length:=by first|omega|(simp only [ak];omega)
   have hv9:=hget VE;rw [hdr VE,akz]at hpk;generalize (y::ys).getD m 0=v at hv9 hpk ⊢;refine y9 @t1 ?_;refine jl (cdg v (by omega)) ?_;refine y9 @t1 ?_;refine jl (cdg b (by omega)) ?_;refine y9 @t1 ?_;refine jW (fun hf=>?_) fun hf=>?_<;>(refine y9 @hf ?_;try with_reducible exact True.intro)
   ·have hf':OO G v<OO G b:=by unfold OO;omega
    rw [if_pos hf']at hpk;exact⟨(m+1,v),by first|(dsimp only;omega)|(simp only [List.length_cons]at *;omega),⟨by first|(dsimp only;omega)|(simp only [List.length_cons]at *;omega),by dsimp only;omega,hpk⟩,by (refine jS ?_;exact zV)⟩
   have hf':¬OO G v<OO G b:=by unfold OO;omega
   rw [if_neg hf']at hpk;exact⟨(m+1,b),by first|(dsimp only;omega)|(simp only [List.length_cons]at *;omega),⟨by first|(dsimp only;omega)|(simp only [List.length_cons]at *;omega),by dsimp only;omega,hpk⟩,by (refine jS ?_;exact zV)⟩
  have hme:m=(y::ys).length:=by first|omega|(simp only [ak]at hm ⊢;omega)
  rw [hme,gJ]at hpk;have hpk:B=b:=hpk;subst hpk;refine Aq @t1 @t3 ?_;refine⟨by omega,?_⟩;refine jl cc ?_;refine Aq @t1 @t3 ?_;refine jl cw ?_;refine Aq @t1 @t3 ?_;refine⟨(k+1,(x::xs)++[B]),by dsimp only;omega,⟨by dsimp only;omega,by rw [es]⟩,?_⟩;dsimp only;rw [es,←hE];rw [sO,show Zj 1 (jR (x::xs++[B]))=[some ⟨1,jR (x::xs++[B])⟩]from rfl,show slW (x::xs++[B]).length=.kQ 1 0 (xs.length+1+1) by simp [slW]];dsimp only;exact akJ
 have hke:k=ns.length:=by omega
 rw [hfin hke];have hR0:¬((R.length:Int)>0):=by omega
 (rcases xs with _|⟨x,xs⟩<;>simp only [aC,ak,XO,XP,nV,lY]at hx ⊢)
 ·refine y9 @hR0 ?_;exact Jw
 refine y9 @hR0 ?_;exact UO (o:=1) (l:=x::xs) rfl
theorem get_at{A:List (List V)}{d:Nat}(h:d<A.length):A[d]? = some (A.getD d []):=by
 rw [aj,au h];rfl
theorem VF{A:List (List V)}{d:Nat}{r:List V}(h:d<A.length):(A.set d r).flatten=(A.take d).flatten++(r++(A.drop (d+1)).flatten):=by
 rw [List.set_eq_take_append_cons_drop,if_pos h,gZ,dG]
theorem aff{A:List (List V)}{d:Nat}(h:d<A.length):A.flatten=(A.take d).flatten++(A.getD d []++(A.drop (d+1)).flatten):=by
 rw [←VF h]
 congr 1
 have:A.getD d []=A[d]:=by rw [aj,au h];rfl
 rw [this,List.set_getElem_self]
theorem Rl{n:Nat}:∀{A:List (List V)},(∀r∈A,r.length=n)→A.flatten.length=A.length*n
 | [],_=>by simp
 |
  a::A,h=>by
  rw [dG,aO,Rl fun r hr=>h r (by simp [hr]),h a (by simp),ak,fZ,Nat.add_comm]
theorem anX{n:Nat}{A B:List (List V)}(ha:∀r∈A,r.length=n)(hb:∀r∈B,r.length=n)(h:A.length=B.length):A.flatten.length=B.flatten.length:=by
 rw [Rl ha,Rl hb,h]
theorem adu{row cs:List V}(h:row.length=cs.length):splice row 0 cs=cs:=by
 unfold splice;simp [h]
theorem Zd{T:Tb}(h:Fb T){l:List Cd}(hw:IQ Cd.wf l)(hps:∀c∈l,c.ps.length≤1048576)(hl:l.length≤1048576):PO T 272 [O8 l] (.nJ [O7 (svV l),.bool (svG l)]):=by
 have ci:=aiR h.YZ hw hl
 cases hn:Hq l
 ·rw [hn]at ci;rw [Y0 (Y1 hn),Y1 hn];refine lI nR h.hT ?_;simp only [wL,Lz,St.enter,ak,aC,aQ];refine ew ?_;refine jl ci ?_;refine ew ?_;exact(Jw (sz:=6)).QU
 rw [hn]at ci;refine lI (fun x d=>(x == 186&&d == 29)||(x == 176&&d == 44)) h.hT ?_;simp only [wL,Lz,St.enter,ak,aC,aQ];refine ew ?_;refine jl ci ?_;refine ew ?_;have e0:Zk l 0=0:=rfl;refine jX (fun x d=>(x == 186&&d == 29)||(x == 176&&d == 44)) (α:=Nat×Store) (fun q=>⟨lS [O8 l,.any,.any,.any,iv (Zk l q.1:Nat),.any,.any,.any,.any,.any,.any,.any,.any,.any,O8 l,iv (l.length:Nat),iv (q.1:Nat)],q.2,0,0,[],[]⟩) (fun q=>q.1≤l.length) (fun q=>l.length-q.1) rfl (0,[]) ?_ ?_ ?_
 ·exact fH _
 ·(refine jS ?_;exact zV)
 rintro⟨i,s⟩ hi;dsimp only at hi;by_cases hc:(i:Int)<(l.length:Nat)
 ·have hil:i<l.length:=by omega
  have hx:(l.map Cd.cells).getD i []=(l.getD i default).cells:=mg hil;have hno:=OG hn hil;have es:Zk l (i+1)=max (Zk l i) (l.getD i default).node.toNat:=rfl;obtain⟨d,hd⟩:∃d:Nat,(l.getD i default).node=(d:Nat):=⟨(l.getD i default).node.toNat,by omega⟩;have es2:(Zk l (i+1):Int)=max (Zk l i:Int) (d:Int):=by rw [es,hd];simp<;>omega
  refine Fj @hc @hx @hd ?_;refine⟨(i+1,?st),?c1,?c2,?c3⟩
  case c3=>dsimp only;(refine jS ?_;exact zV)
  case c1=>dsimp only;omega
  case c2=>dsimp only;omega
 have hie:i=l.length:=by omega
 subst hie;have hm9:=Y2 hn l.length (aJ _);have hA0:FV l 0=svP (Zk l l.length):=rfl;have hlen:=MX l;have hcn:=Y3 l;have av4:∀k,k<l.length→1≤(svC l k).node∧(svC l k).node.toNat≤Zk l l.length:=fun k hk=>ajQ hn hk;dsimp only at *;generalize Zk l l.length=m at *;have t1:((m:Int)+1).toNat=m+1:=by omega
 refine Aq @hc @t1 ?_;refine⟨⟨by omega,by omega,by omega⟩,?_⟩;generalize hp:s.length=p;have E:Ep (s++[some ⟨6,List.replicate (m+1) [.bool false,.jF,.jF,.bool false,.jF,.jF]⟩]) [] [] [] [(p,⟨6,List.replicate (m+1) [.bool false,.jF,.jF,.bool false,.jF,.jF]⟩)]:=⟨Lm,by subst hp;simp [zU]⟩;refine og (Qc h.Di) (by (refine ew ?_;try with_reducible exact True.intro)) ?_;intro r q1 o1 G;obtain⟨_,rfl,Xz⟩:=G.ow.kP;obtain⟨x1,x2,x3,x4,rfl⟩:=Xz.pt;have E2:=E.got (fun q hq=>rfl) (aJ _) Xz G.nd G.fresh G.old;clear E G;generalize []++o1=ow at E2;have E2:Ep q1 [.bool (ku 0).neg,x1,x2,.bool (ku 0).neg,x3,x4] (⟨ku 0,ku 0⟩:Pt).cells ow [(p,⟨6,List.replicate (m+1) [.bool false,.jF,.jF,.bool false,.jF,.jF]⟩)]:=E2;have Lp:=E2.at0 (p:=p) (ob:=⟨6,List.replicate (m+1) [.bool false,.jF,.jF,.bool false,.jF,.jF]⟩) (by simp);have np:=(E2.l _ (aV.2 rfl)).2;have LF:=ah (ah (E2.leaf 1 rfl rfl) (E2.leaf 2 rfl rfl)) (ah (E2.leaf 4 rfl rfl) (E2.leaf 5 rfl rfl));refine IX @t1 @Lp @LF @hp ?_;have hq:mJ (q1.set p (some ⟨6,[.bool (ku 0).neg,x1,x2,.bool (ku 0).neg,x3,x4]::List.replicate m ptz⟩)) [.bool (ku 0).neg,x1,x2,.bool (ku 0).neg,x3,x4] (⟨ku 0,ku 0⟩:Pt).cells ow:=(E2.c.set np).ow;have hpl:p<(q1.set p (some (⟨6,[.bool (ku 0).neg,x1,x2,.bool (ku 0).neg,x3,x4]::List.replicate m ptz⟩:Obj))).length:=by rw [bC];exact Lp.2
 have hpa:iZ (q1.set p (some (⟨6,[.bool (ku 0).neg,x1,x2,.bool (ku 0).neg,x3,x4]::List.replicate m ptz⟩:Obj))) p=some ⟨6,[.bool (ku 0).neg,x1,x2,.bool (ku 0).neg,x3,x4]::List.replicate m ptz⟩:=kF Lp.2;have nd:=E2.c.nd;clear E2 LF Lp;refine jX (fun x d=>(x == 186&&d == 29)||(x == 176&&d == 44)) (α:=Nat×Store×List (List V)×List Nat) (fun q=>⟨lS [O8 l,.any,.any,.any,.any,.any,.any,.kQ p 0 (m+1),iv ((l.length:Int)-1-(q.1:Nat))],q.2.1,0,0,[],[]⟩) (fun q=>(q.1≤l.length∧q.2.2.1.length=m+1∧(∀r∈q.2.2.1,r.length=6)∧∀j,j<q.1→GZ (svC l j) (FV l j)=true)∧Ep q.2.1 q.2.2.1.flatten ((FV l q.1).map Pt.cells).flatten q.2.2.2 [(p,⟨6,q.2.2.1⟩)]) (fun q=>l.length-q.1) rfl (0,Kv (q1.set p (some ⟨6,[.bool (ku 0).neg,x1,x2,.bool (ku 0).neg,x3,x4]::List.replicate m ptz⟩)) p ⟨6,[.bool (ku 0).neg,x1,x2,.bool (ku 0).neg,x3,x4]::List.replicate m (⟨R0,R0⟩:Pt).cells⟩ ow,[.bool (ku 0).neg,x1,x2,.bool (ku 0).neg,x3,x4]::List.replicate m (⟨R0,R0⟩:Pt).cells,ow) ?_ ?_ ?_
 ·refine⟨⟨fH _,by simp,?_,fun j hj=>absurd hj (gG _)⟩,by rw [hA0];exact ajU hq nd np hpl⟩;intro r hr;rcases aH.1 hr with rfl|hr
  ·rfl
  rw [(List.mem_replicate.1 hr).2];rfl
 ·dsimp only;refine ajT (p:=p) (n:=6) (A:=[.bool (ku 0).neg,x1,x2,.bool (ku 0).neg,x3,x4]::List.replicate m ptz) hpa (by simp) (Y4 hq) (fun i r r2 h1 h2=>ajS (adf hq fun o ho=>⟨ho,fun e=>np (by rw [←e];exact ho)⟩) i r r2 h1 h2) ?_;refine ew ?_
  (repeat' (first|exact True.intro|omega|refine⟨?_,?_⟩|exact lK rfl (by simp;done)|exact lK rfl rfl|(refine lD (n:=m+1) ?_ (aJ _) rfl;rw [GU hpl,if_pos rfl];simp;done)))
 clear hq hpl hpa nd np;rintro⟨k,t,A,os⟩ ⟨⟨hk,hAl,hAr,hok⟩,E⟩;dsimp only at hk hAl hAr hok E;have hTr:∀r∈(FV l k).map Pt.cells,r.length=6:=fun r hr=>by obtain⟨x,_,rfl⟩:=bG.1 hr;rfl
 have hTl:A.length=((FV l k).map Pt.cells).length:=by rw [aX,hlen];omega
 have E':Ep t (A.flatten++[]) (((FV l k).map Pt.cells).flatten++[]) os [(p,⟨6,A⟩)]:=by simpa only [aP]using E
 have L:=E.at0 (p:=p) (ob:=⟨6,A⟩) (by simp);have Rf:=E'.aeN (p:=p) (n:=6) (by simp) hAr hTr hTl FD (Yw _ _);by_cases hc2:(0:Int)≤(l.length:Int)-1-(k:Nat)
 ·have hkl:k<l.length:=by omega
  have ti:((l.length:Int)-1-(k:Nat)).toNat=l.length-1-k:=by omega
  have hx:(l.map Cd.cells).getD (l.length-1-k) []=(svC l k).cells:=mg (by omega);have hno:=av4 k hkl;have hln:=hlen k;have hps:(svC l k).ps.length≤1048576:=hps _ (getD_mem (by omega));have hcw:(svC l k).wf:=hw.at_ (by omega);have ca:=LM h.I7 (c:=svC l k) (at':=FV l k) hcw (ajP (hcn k) (by omega)) hps (by omega);have es:FV l (k+1)=(FV l k).set (svC l k).node.toNat (XH (svC l k) (FV l k)):=rfl;have hbad:=arj hkl;have aAf:GZ (svC l k) (FV l k)=true→∀j,j<k+1→GZ (svC l j) (FV l j)=true:=fun h j hj=>by
   by_cases e:j=k
   ·subst e;exact h
   exact hok j (by omega)
  generalize XH (svC l k) (FV l k)=qv at *;generalize GZ (svC l k) (FV l k)=b at *;generalize FV l k=P at *;generalize svC l k=c at *;obtain⟨d,hd⟩:∃d:Nat,c.node=(d:Nat):=⟨c.node.toNat,by omega⟩;have hdm:d<m+1:=by omega
  have aAg:(d:Int)<((m+1:Nat):Int):=by omega
  have Rf2:=(E'.snoc (x:=none)).aeN (p:=p) (n:=6) (by simp) hAr hTr hTl FD (Yw _ _);rw [hAl]at Rf Rf2;refine CV (ah hc2 ti) @hx @L @Rf @jO @kG ?_;refine og ca (by (refine y9 @Rf2 ?_;try with_reducible exact True.intro)) ?_;intro r q o G;obtain⟨v,rfl,H⟩:=G.QU;clear G;have G:=H;clear H;obtain⟨_,rfl,hQ⟩:=G.ow.kP;obtain⟨z1,z2,z3,z4,rfl⟩:=hQ.pt;have lz:=mJ.leaf hQ rfl;simp only [dU,iP,iI,aG]at lz;have gl:t.length+1≤q.length:=by simpa using G.len
  have K:iZ q p=some ⟨6,A⟩:=(G.old p (by have:=L.2;simp;omega)).trans ((jU L.2).trans L.1);have hbb:b=false∨b=true:=by cases b<;>simp
  rcases hbb with hbb|hbb
  ·rw [Y0 (hbad hbb),hbad hbb];refine CV @hbb @K @gl @lz @jO @kG ?_;exact(Jw (sz:=6)).QU
  have Kp:p<q.length:=by have:=L.2;omega
  have ne:t.length≠p:=by have:=L.2;omega
  obtain⟨six,aAh⟩:∃six,[V.bool qv.x.neg,z1,z2,.bool qv.y.neg,z3,z4]=six:=⟨_,rfl⟩;have hdA:d<A.length:=by omega
  have hdT:d<(P.map Pt.cells).length:=by rw [←hTl];exact hdA
  have hrow:=get_at hdA;have hrl:(A.getD d []).length=6:=hAr _ (aS hrow);have av5:splice (A.getD d []) 0 [V.bool qv.x.neg,z1,z2,.bool qv.y.neg,z3,z4]=[V.bool qv.x.neg,z1,z2,.bool qv.y.neg,z3,z4]:=adu (by rw [hrl];rfl);have htl:((P.map Pt.cells).getD d []).length=6:=hTr _ (aS (get_at hdT));have EU:=E;rw [aff hdA,aff hdT]at EU;obtain⟨row,hre⟩:∃row,A.getD d []=row:=⟨_,rfl⟩;rw [hre]at hrow hrl av5 EU;have hh6:[V.bool qv.x.neg,z1,z2,.bool qv.y.neg,z3,z4].length=6:=rfl;obtain⟨os',E9⟩:=Ep.upd (p:=p) (ob:=⟨6,A.set d [V.bool qv.x.neg,z1,z2,.bool qv.y.neg,z3,z4]⟩) (ob0:=⟨6,A⟩) (L':=[(p,⟨6,A.set d [V.bool qv.x.neg,z1,z2,.bool qv.y.neg,z3,z4]⟩)]) (s1:=t++[some ⟨6,[[V.bool qv.x.neg,z1,z2,.bool qv.y.neg,z3,z4]]⟩]) (σ2:=q.set t.length (some ⟨6,[[V.bool qv.x.neg,z1,z2,.bool qv.y.neg,z3,z4]]⟩)) EU (by simp)
   (anX (fun r hr=>hAr r (bZ hr)) (fun r hr=>hTr r (bZ hr)) (by simp only [fK];omega)) (by rw [hrl,htl]) (fun o ho=>jU ho) (by simp)
   (hQ.frame fun o ho=>by
    have:=G.fresh o ho;simp at this;rw [jM (by omega)]) G.nd (fun o ho=>by have:=G.fresh o ho;simpa using this) (fun o ho=>by
    by_cases e:o=t.length
    ·subst e;rw [kF (by omega),zU]
    have ho':o<t.length:=by simp at ho;omega
    rw [jM e,G.old o (by simp;omega),jU ho',jU ho'])
   (by intro x hx;exact .inr (aV.1 hx)) (by simp;omega)
  clear aAh EU;refine ew8 @hbb (ah K Kp) (ah gl lz) (ah hx ti) (ah hd aAg) (ah hrow (ah hrl av5)) @jO @kG ?_;refine⟨by unfold vH;rfl,?_⟩;refine⟨(k+1,?st9,A.set d [V.bool qv.x.neg,z1,z2,.bool qv.y.neg,z3,z4],os'),?c1,⟨⟨?c2,by simp [hAl],?c4,aAf hbb⟩,?c5⟩,?c3⟩
  case c3=>dsimp only;(refine jS ?_;exact zV)
  case c1=>dsimp only;omega
  case c2=>dsimp only;omega
  case c4 =>
   dsimp only;intro r hr;rcases fM hr with hr|rfl
   ·exact hAr r hr
   rfl
  case c5 =>
   dsimp only;have ed:c.node.toNat=d:=by omega
   have hdr:List.drop 6 row=[]:=dH (by omega);rw [es,ed,List.map_set,VF hdA,VF hdT,List.set_set,hdr];exact E9
 have hke:k=l.length:=by omega
 subst hke;have hG:=aeV hn hok;rw [Qe hG,hG];refine y9 @hc2 ?_;obtain⟨os1,E1⟩:=E'.close (p:=p) (n:=6) (by simp) hAr hTr hTl;obtain⟨v,vs,o1,o2,e,rfl,k1,k2⟩:=E1.c.ow.inv;simp only [List.cons.injEq]at e;obtain⟨rfl,rfl⟩:=e;obtain⟨_,rfl⟩:=k2.Ec;rw [hAl]at k1;have hf:Fin t (.kQ p 0 (m+1)) (O7 (FV l l.length)):=vU k1 (by have:=E1.c.nd;simpa using this);exact hf.QU
def zQ:Fn:=⟨1,50,[.tmp 2,.cell 3 3 true,.tmp 4],(.seq (rf 1 [oK 2 1 mN,oN 3 (.alloc vN),oK 4 1 mF]) (.seq (rf 1 [oK 13 1 (oV 0),oK 14 1 (cl 88 [13]),oK 12 1 (oV 14),oK 15 1 (ex 0 12),oK 16 1 (ex 1 12),oK 17 1 (ex 2 12),oN 6 (.alloc vN),oK 5 1 (oV 15),⟨none,none,1,.store 3 (.t 6) (.t 16),[]⟩,oK 7 1 (oV 17)]) (.seq (sr [oW 18 7,oN 19 (nt 18)] (cd 19 (sr [oN 20 (.build vN []),oN 2 mN,oS (.store 3 (.t 3) (.t 20)),oN 4 mF] .ret) .skip)) (.seq (rf 1 [oK 22 1 (oV 5),oK 23 1 (oV 5),oK 24 1 (.call 300 [(.t 23),(.c (.jF))]),oK 25 1 (cl 270 [22,24]),oK 21 1 (oV 25),oK 26 1 (ex 0 21),oK 27 1 (ex 1 21),oK 28 1 (ex 2 21),oN 9 (.alloc vN),oK 8 1 (oV 26),⟨none,none,1,.store 3 (.t 9) (.t 27),[]⟩,oK 7 1 (oV 28)]) (.seq (sr [oW 29 7,oN 30 (nt 29)] (cd 30 (sr [oN 31 (.build vN []),oN 2 mN,oS (.store 3 (.t 3) (.t 31)),oN 4 mF] .ret) .skip)) (sr [oW 33 8,oN 34 (cl 272 [33]),oW 32 34,oN 35 (ex 0 32),oN 36 (ex 1 32),oW 10 35,oW 7 36] (.seq (rf 1 [oK 37 1 (lT 3 6),oK 38 1 (lT 3 9),oK 39 1 (cl 131 [37,38]),oN 11 (.alloc vN),⟨none,none,1,.store 3 (.t 11) (.t 39),[]⟩]) (.seq (sr [oW 40 7,oN 41 (nt 40),oW 42 41,oG 42 false 43 (lT 3 11),oG 42 false 44 (cl 132 [43]),oG 42 false 45 (nt 44),oN 46 (.pick (.t 42) (.c (.bool true)) (.t 45))] (cd 46 (sr [oN 47 (.build vN []),oN 2 mN,oS (.store 3 (.t 3) (.t 47)),oN 4 mF] .ret) .skip)) (.seq (rt 0 [oW 48 10,oN 49 (lT 3 11),oA 2 0 (oV 48) [0,0],⟨none,none,0,.store 3 (.t 3) (.t 49),[1,2,0,1,2]⟩,oA 4 0 mT [3,0,1,2,3]]) .ret)))))))))⟩
structure Fe (T:Tb):Prop where
 hT:T 369=some zQ
 Rn:C9 T
 kE:lN T
 jQ:l7 T
 Nr:yM T
 SQ:Fb T
 KG:xA T
def esN(l:List Lk):List Cd:=eaN (uH l) (VO (uH l) [])
def esS(l:List Lk):R:=mG (MS l) (eaE (uH l) (VO (uH l) []))
noncomputable def WE(l:List Lk):Bool:=Aw l&&abd (uH l) (VO (uH l) [])&&svG (esN l)&&(esS l).ok
noncomputable def esV(l:List Lk):List Pt:=if WE l=true then svV (esN l)else []
noncomputable def esE(l:List Lk):R:=if WE l=true then esS l else R0
theorem aAj{l:List Lk}(h:WE l=false):esV l=[]∧esE l=R0:=by
 unfold esV esE;rw [h];exact⟨rfl,rfl⟩
theorem arP{l:List Lk}(h:WE l=true):esV l=svV (esN l)∧esE l=esS l:=by
 unfold esV esE;rw [h];exact⟨rfl,rfl⟩
theorem akK(l:List Lk):(esE l).cn:=by
 unfold esE;split
 ·exact uM _ _
 exact SI
theorem arQ(l:List Lk):(Qn Pt.sz (esV l)≤100000∧(esE l).sz≤1000)∧IQ Pt.wf (esV l)∧(esE l).wf:=by
 refine⟨⟨?_,GV (akK l)⟩,?_,rP (akK l)⟩<;>(unfold esV;split)
 ·exact(ajR _).1
 ·simp [Qn]
 ·exact(ajR _).2
 simp [IQ]
theorem adv{σ:Store}{cs ts:List V}{os:List Nat}(h:mJ σ cs ts os):∀(c:Nat) {v t:V},cs[c]? = some v→ts[c]? = some t→mP 11 t→resolve σ 11 v=some t:=by
 induction ts generalizing cs os with
 |nil=>intro c v t _ h2;cases c<;>cases h2
 |
  cons x ts ih =>
  intro c v t h1 h2 hd;obtain⟨w,ws,o1,o2,rfl,rfl,k1,k2⟩:=h.inv
  cases c with
  |zero=>cases h1;cases h2;exact Ii 11 k1 hd
  |succ c=>exact ih k2 c h1 h2 hd
theorem arR(S:List Lk)(o:List Int):(eaE S o).cn:=by
 cases hg:WB S o with
 |none=>rw [(LU hg).2.1];exact SI
 |
  some p =>
  rw [(Qj hg).2.1];unfold WB at hg;split at hg
  ·cases hf:Sz S o o.length with
   |none=>rw [hf]at hg;cases hg
   |
    some q =>
    rw [hf]at hg;dsimp only at hg;split at hg
    ·rename_i ho
     cases hg;exact tV ho
    cases hg
  cases hg
theorem anY:lU (.nJ [O7 [],kC R0,.bool false]) (.nJ [.jF,.agg [.bool false,.jF,.jF],.bool false]):=by
 simp only [lU,uJ];exact⟨_,rfl,_,_,rfl,.inl ⟨rfl,.inl rfl⟩,_,_,rfl,uX,_,_,rfl,rfl,rfl⟩
theorem TT{σ:Store}:Fin σ (.nJ [.jF,.agg [.bool false,.jF,.jF],.bool false]) (.nJ [O7 [],kC R0,.bool false]) :=
 ⟨.nJ [O7 [],kC R0,.bool false],[],anY,Ea (nP (o1:=[]) (by simp [lC]) (nP (o1:=[]) acE (nI nC))),.nil⟩
theorem arS{N:List Cd}(h:Qn Cd.sz N≤500000):∀c∈N,c.ps.length≤1048576:=fun c hc=>by
 have h1:=aaD (f:=Cd.sz) h hc;have h2:=Ut Pa.sz c.ps;unfold Cd.sz at h1;omega
theorem Ze{T:Tb}(h:Fe T){l:List Lk}(hw:IQ Lk.wf l)(hz:Qn Lk.sz l≤1048576):PO T 369 [oP l] (.nJ [O7 (esV l),kC (esE l),.bool (WE l)]):=by
 have hl:l.length≤1048576:=by have:=Ut Lk.sz l;omega
 have cj:=(Wv h.Rn (l:=l) hw hl).WL (UQ (amR _ _) (ML _ _) (sV _ _));have hcn:=JK (l:=l);have wj:=Ri hcn.1 hcn.2.2.1;have zj:=Rh hcn.1 hcn.2.2.1;have cm:=(OL h.KG (l:=uH l) (last:=[]) wj (by simp)).WL (jG _ _);have ml:=anP (uH l) [];have ce:=(Rk h.Nr (S:=uH l) (o:=VO (uH l) []) wj (by omega) (by omega)).WL (UQ (amT _ _) (ML _ _) (sV _ _));have er:=aru (VO (uH l) []) wj (by omega);have ecn:=arR (uH l) (VO (uH l) []);have nps:=arS er.1.1;have nl:(esN l).length≤1048576:=by have:=Ut Cd.sz (eaN (uH l) (VO (uH l) []));unfold esN;omega
 have cs:=Zd h.SQ (l:=esN l) er.2.1 nps nl;have ca:=zW h.kE hcn.2.1 ecn;have scn:=uM (MS l) (eaE (uH l) (VO (uH l) []));have hOk:WE l=(Aw l&&abd (uH l) (VO (uH l) [])&&svG (esN l)&&(esS l).ok):=rfl;have hF:=@aAj l;have hT:=@arP l;rw [show mG (MS l) (eaE (uH l) (VO (uH l) []))=esS l from rfl]at ca scn;rw [show eaN (uH l) (VO (uH l) [])=esN l from rfl]at ce;generalize WE l=ok at *;generalize esV l=vv at *;generalize esE l=ee at *;generalize esS l=es at *;generalize svG (esN l)=b3 at *;generalize svV (esN l)=sv at *;generalize abd (uH l) (VO (uH l) [])=b2 at *;generalize eaE (uH l) (VO (uH l) [])=ea at *;generalize esN l=N at *;generalize VO (uH l) []=md at *;generalize Aw l=b1 at *;generalize uH l=J at *;generalize MS l=je at *;subst hOk;refine lI (fun x d=>(x == 272&&d == 34)||(x == 131&&d == 39)) h.hT ?_;simp only [zQ,Lz,St.enter,ak,aC,aQ];refine ew ?_;refine jl cj ?_
 cases b1
 ·obtain⟨rfl,rfl⟩:=hF rfl;refine ew ?_;exact TT
 refine ew ?_;refine al7 cm ⟨_,_,rfl,jP _,_,_,rfl,of_eq_true (oC 1),rfl⟩ ?_;refine ew ?_;refine jl ce ?_
 cases b2
 ·obtain⟨rfl,rfl⟩:=hF rfl;refine ew ?_;exact TT
 refine ew ?_;refine og cs (by (refine ew ?_;try with_reducible exact True.intro)) ?_;intro r q1 o1 G;obtain⟨_,rfl,G1⟩:=G.ow.Yt;obtain⟨a,_,oa,ob,rfl,rfl,ha,hz1⟩:=G1.inv;obtain⟨_,rfl,hz2⟩:=hz1.uZ;obtain⟨rfl,rfl⟩:=hz2.Ec;have la:=ha.leaf rfl;have gl:=G.len;simp only [ak,aC]at gl;have P0:=(G.old 0 (by simp)).trans rfl;have P1:=(G.old 1 (by simp)).trans rfl;have P2:=(G.old 2 (by simp)).trans rfl;have fr1:∀o∈oa,3≤o:=fun o ho=>by have:=G.fresh o (by simp [ho]);simpa using this
 have nd1:oa.Nodup:=by have:=G.nd;simpa using this
 refine Fj @la @P1 @P2 ?_;refine og ca (by (refine Aq @P1 @P2 ?_;try with_reducible exact True.intro)) ?_;intro r2 q2 o2 G2;obtain⟨_,rfl,hQ⟩:=G2.ow.kP;obtain⟨y1,y2,rfl⟩:=hQ.rat
 have lq:=mJ.leaf hQ rfl;simp only [dU,iP,iI,aG]at lq;have gl2:=G2.len;have Q0:=(G2.old 0 (by simp)).trans ((jU (by omega)).trans P0);simp only [aO,ak,aC]at gl2;have fr2:∀o∈o2,q1.length+1≤o:=fun o ho=>by have:=G2.fresh o ho;simpa using this
 have E1:Ep q1 [a] [O7 sv] oa []:=⟨⟨by simpa using aed ha,nd1⟩,by simp⟩;have E2:=E1.got (s1:=q1++[none]) (fun o ho=>jU ho) (by simp) hQ G2.nd (by simpa using fr2) G2.old;have hn:∀o∈oa++o2,o≠q1.length:=fun o ho e=>by
  rcases aK.1 ho with ho|ho
  ·have:=E1.Wu o ho;omega
  have:=fr2 o ho;omega
 refine IX @lq @gl2 @la @List.set_set.{0} ?_;obtain⟨q3,hq3⟩:∃q3:Store,q2.set q1.length (some (⟨3,[[.bool es.neg,y1,y2]]⟩:Obj))=q3:=⟨_,rfl⟩;have C3:=E2.c.set (o:=q1.length) (x:=some ⟨3,[[.bool es.neg,y1,y2]]⟩) (fun hm=>hn _ hm rfl);have m0:iZ q3 0=some ⟨3,[[.bool false,.jF,.jF]]⟩:=by rw [←hq3,jM (by omega)];exact Q0
 have m1:iZ q3 q1.length=some ⟨3,[[.bool es.neg,y1,y2]]⟩:=by rw [←hq3];exact kF (by omega)
 rw [hq3]at C3;simp only [hq3];have n1:q1.length≠0:=by omega
 have n2:q1.length<q3.length:=kD m1;generalize q1.length=b at *
 cases b3
 ·obtain⟨rfl,rfl⟩:=hF rfl;refine Aq @m0 @m1 ?_;exact TT
 have cg:=D9 h.jQ scn;have R3:=ah (adv C3.ow 2 rfl rfl (jG _ _)) (adv C3.ow 3 rfl rfl (jG _ _));refine IX @m0 @m1 @lq @R3 ?_;refine jl cg ?_
 cases hb4:es.ok
 ·obtain⟨rfl,rfl⟩:=hF (by rw [hb4];rfl);refine Aq @m0 @m1 ?_;exact TT
 obtain⟨rfl,rfl⟩:=hT (by rw [hb4];rfl);refine IX @m0 @m1 @lq @la ?_;refine⟨by unfold vH;rfl,?_⟩;have C4:=C3.set (o:=0) (x:=some ⟨3,[[.bool ee.neg,y1,y2]]⟩) (fun hm=>by
  rcases aK.1 hm with hm|hm
  ·have:=fr1 _ hm;omega
  have:=fr2 _ hm;omega)
 obtain⟨v1,v2,p1,p2,e1,e2,w1,w2⟩:=oq (ts:=[O7 vv]) (ts':=ee.cells) C4.ow;have hv:v1.length=1:=w1.len;obtain⟨rfl,rfl⟩:=eu (s₁:=[a]) (t₁:=[.bool ee.neg,y1,y2]) e1 (by rw [hv];rfl);have W9:=lH w1 (lH (aed (nY w2)) (nI (b:=true) nC));refine vU (Ea W9) ?_;have:=C4.nd;rw [e2]at this;simpa using this
def WG(EB Q:Nat):Nat:=2*Q+20*EB
def teF(EB Q:Nat):Bool:=Ft (Q+Q) EB&&Ft (WG EB Q) EB&&Ft (WG EB Q*WG EB Q) (EB*EB)&&Ft (18*(WG EB Q*WG EB Q)) (EB*EB)&&Ft (7*(18*(WG EB Q*WG EB Q))) (EB*EB)
theorem adw{n:Int}{N:Nat}(h:Ab n N)(hN:N<1000000000 ^ 24):Fq (ku n) n 1:=by
 refine⟨?_,by decide⟩;have k:∀a:Rat,a / 1=a:=fun a=>by grind
 rw [Rat.intCast_one,k];exact ET (dZ h hN)
theorem av6{l:Lk}(hl:YO 9 l){P:List Pt}{E:Int}{EB Q:Nat}{us:List Int}{fx fy:Int→Int}(hE1:1≤E)(hE:Ab E EB)(hP:Ps P E Q us fx fy)(ha:l.a∈us)(hb:l.b∈us)(hF:teF EB Q=true) :
  ∃z:Int,Ab z (18*(WG EB Q*WG EB Q))∧Fq (Ij l (P.getD l.a.toNat default) (P.getD l.b.toNat default)) z (E*E):=by
 have ho:=Qa (by decide) hl;obtain⟨w,hw,ew⟩:=hl.w;obtain⟨d,hd,ed⟩:=hl.dx;obtain⟨c,hc,ec⟩:=hl.dy;unfold teF at hF;simp only [aG]at hF;obtain⟨⟨⟨⟨f1,f2⟩,f3⟩,f4⟩,f5⟩:=hF;have bw:Ab w 9:=by unfold Ab;omega
 have bd:Ab d 20:=by unfold Ab;omega
 have bc:Ab c 20:=by unfold Ab;omega
 have kw:=adw bw (by decide);have kd:=adw bd (by decide);have kc:=adw bc (by decide);rw [←ew]at kw;rw [←ed]at kd;rw [←ec]at kc;obtain⟨x1,x2⟩:=hP.x _ ha;obtain⟨x3,x4⟩:=hP.x _ hb;obtain⟨y1,y2⟩:=hP.y _ ha;obtain⟨y3,y4⟩:=hP.y _ hb;rw [ajl ho];have bx:Ab (fx l.b-fx l.a-d*E) (WG EB Q):=(BR (BR x4 x2) (jY bd hE)).mono (by unfold WG;omega);have by':Ab (fy l.b-fy l.a-c*E) (WG EB Q):=(BR (BR y4 y2) (jY bc hE)).mono (by unfold WG;omega);have sx:=(x3.sub x1 (p:=fx l.b-fx l.a) (n:=E) (by grind) hE1 (BR x4 x2) hE f1).sub kd (p:=fx l.b-fx l.a-d*E) (n:=E) (by grind) hE1 bx hE f2;have sy:=(y3.sub y1 (p:=fy l.b-fy l.a) (n:=E) (by grind) hE1 (BR y4 y2) hE f1).sub kc (p:=fy l.b-fy l.a-c*E) (n:=E) (by grind) hE1 by' hE f2;have hEE:=pz hE1 hE1;generalize fx l.b-fx l.a-d*E=X at *;generalize fy l.b-fy l.a-c*E=Y at *;have qx:=sx.mul sx (p:=X*X) (n:=E*E) (by grind) hEE (jY bx bx) (jY hE hE) f3;have qy:=sy.mul sy (p:=Y*Y) (n:=E*E) (by grind) hEE (jY by' by') (jY hE hE) f3;have bS:=vC (jY bx bx) (jY by' by');have sq:=qx.add qy (p:=X*X+Y*Y) (n:=E*E) (by grind) hEE bS (jY hE hE) (ae4 f4 (by omega) (aJ _));have bz:Ab (w*(X*X+Y*Y)) (18*(WG EB Q*WG EB Q)):=(jY bw bS).mono (by omega);exact⟨w*(X*X+Y*Y),bz,kw.mul sq (by grind) hEE bz (jY hE hE) f4⟩
theorem arU{l:Lk}{p q:Pt}(hl:nD l=true)(h:(Ij l p q).ok=true):(Ij l p q).v=enV l p q:=by
 rw [ajl hl]at h ⊢;obtain⟨o1,o2⟩:=GN h;obtain⟨o3,o4⟩:=EF (r:=mulR _ _) (s:=mulR _ _) o2;obtain⟨o5,_⟩:=GN o3;obtain⟨o6,_⟩:=GN o4;obtain⟨o7,o8⟩:=I4 o5;obtain⟨o9,oa⟩:=I4 o6;obtain⟨ob,oc⟩:=I4 o7;obtain⟨od,oe⟩:=I4 o9;have vx:=LJ (LJ (R.wK ob) (R.wK oc) o7) (R.wK o8) o5;have vy:=LJ (LJ (R.wK od) (R.wK oe) o9) (R.wK oa) o6;have vs:=JM (E8 vx vx o3) (E8 vy vy o4) o2;exact R.EG (E8 (R.wK o1) vs h)
theorem aoS{L:List Lk}{P:List Pt}(hL:∀x∈L,nD x=true):∀k,k≤L.length→(Sl L P k).ok=true→(Sl L P k).v=tot (Qg P) (L.take k)
 |0,_,_=>by rw [List.take_zero];exact R.EG (a:=((0:Int):Rat)) (ET (n:=0) (by decide))
 |
  k+1,hk,ho=>by
  obtain⟨o1,o2⟩:=EF (r:=Sl L P k) ho;have e:=R.EG (JM (R.wK o1) (R.wK o2) ho);have hm:=getD_mem (l:=L) (i:=k) (by omega);rw [ajA _ (by omega),←aoS hL k (by omega) o1];show (mG (Sl L P k) _).v=_;rw [e,arU (hL _ hm) o2];rfl
theorem aoT{L:List Lk}(hl:∀l∈L,YO 9 l)(hn:L.length≤7){P:List Pt}{E:Int}{EB Q:Nat}{us:List Int}{fx fy:Int→Int}(hE1:1≤E)(hE:Ab E EB)(hP:Ps P E Q us fx fy)(hu:∀l∈L,l.a∈us∧l.b∈us)(hF:teF EB Q=true) :
  Q8 L P=true∧(teV L P).q=some (tot (Qg P) L):=by
 have key:∀k,k≤L.length→∃z:Int,Ab z (k*(18*(WG EB Q*WG EB Q)))∧Fq (Sl L P k) z (E*E):=fun k=>by
  induction k with
  |zero=>intro _;exact⟨0,fH _,abh.to (pz hE1 hE1) (by simp)⟩
  |
   succ k ih =>
   intro hk;obtain⟨z,b1,k1⟩:=ih (by omega);have hm:=getD_mem (l:=L) (i:=k) (by omega);obtain⟨y,b2,k2⟩:=av6 (hl _ hm) hE1 hE hP (hu _ hm).1 (hu _ hm).2 hF;have b3:Ab (z+y) ((k+1)*(18*(WG EB Q*WG EB Q))):=by rw [fZ];exact vC b1 b2
   have f5:Ft (7*(18*(WG EB Q*WG EB Q))) (EB*EB)=true:=by
    unfold teF at hF;simp only [aG]at hF;exact hF.2
   exact⟨z+y,b3,k1.add k2 (by grind) (pz hE1 hE1) (b3.mono (dA _ (by omega))) (jY hE hE) f5⟩
 obtain⟨z,_,kz⟩:=key L.length (aJ _);have hg:teG L P.length=true:=by
  unfold teG;refine aT.2 fun x hx=>?_;have n1:=hP.n _ (hu x hx).1;have n2:=hP.n _ (hu x hx).2;unfold U9;rw [decide_eq_true n1.1,decide_eq_true n1.2,decide_eq_true n2.1,decide_eq_true n2.2];rfl
 have ho:Q8 L P=true:=by unfold Q8;rw [hg,kz.ok];rfl
 have e:teV L P=Sl L P L.length:=by unfold teV;rw [if_pos ho]
 refine⟨ho,?_⟩;have v:=aoS (P:=P) (fun x hx=>Qa (by decide) (hl x hx)) L.length (aJ _) kz.ok;rw [bM]at v;rw [e,R.wK kz.ok,v]
theorem anZ{x:Lk}(h:Jn 7 x):Cm 1 63 1260 x:=by
 obtain⟨n,p,q,h1,h2,h3,e1,e2,e3⟩:=h.ex;have k:∀a:Rat,a / 1=a:=fun a=>by grind
 exact⟨n,p,q,⟨h1.1,by unfold Ab;omega⟩,⟨by unfold Ab;omega,by unfold Ab;omega⟩,⟨by rw [Rat.intCast_one,k];exact e1,by decide⟩,⟨e2,h1.1⟩,⟨e3,h1.1⟩⟩
theorem Zf{n:Nat}{S:List Lk}(h:Qb n S):∀m:Nat,∀u:Int,0≤u→u≤n→u.toNat≤m→Cn S u
 |0,u,h0,_,hm=>by rw [show u=0 by omega];exact .z
 |
  m+1,u,h0,hn,hm=>by
  by_cases e:u=0
  ·rw [e];exact .z
  obtain⟨x,hx,h1,h2⟩:=h.base (u.toNat-1) (by omega);have:=h.ab x hx;exact .s hx (.inr ⟨rfl,by omega⟩) (Zf h m x.a (by omega) (by omega) (by omega))
theorem an0{n:Nat}{S:List Lk}(h:Qb n S)(last:List Int){o:List Int}(ho:o=VO S last):Dr S o∧1≤o.length∧ND S o=true:=by
 have hrn:=h.rn;have hO:ND S o=true:=by rw [ho];exact anQ h.ok
 have hp:=of_decide_eq_true hO;obtain⟨⟨_,hlen⟩,hin,hnd⟩:=aiS.1 hp;have hmem:∀u:Int,u∈uz S↔1≤u∧u<10∧∃k,k<S.length∧((S.getD k default).a=u∨(S.getD k default).b=u):=fun u=>by
  rw [PS h.ok,Oq,aaI];rfl
 have arV:∀u∈uz S,1≤u∧u≤(n:Int)+1:=fun u hu=>by
  obtain⟨h1,h2,k,hk,h3⟩:=(hmem u).1 hu;have:=h.ab _ (getD_mem hk);omega
 have hto:∀x∈S,(x.a=0∨x.a∈o)∧(x.b=0∨x.b∈o):=fun x hx=>by
  have hab:=h.ab x hx;obtain⟨k,hk⟩:=bD.1 hx;have hkl:=(aN.1 hk).1;have hg:S.getD k default=x:=by rw [aj,hk];rfl
  constructor
  ·by_cases e:x.a=0
   ·exact .inl e
   exact .inr (hp.2.2 _ ((hmem _).2 ⟨by omega,by omega,k,hkl,.inl (by rw [hg])⟩))
  exact .inr (hp.2.2 _ ((hmem _).2 ⟨by omega,by omega,k,hkl,.inr (by rw [hg])⟩))
 refine⟨⟨h.ok,fun x hx=>anZ (ajX h x hx),?_,hto,fun u hu=>?_,hnd,fun u hu=>?_⟩,by rw [hlen];exact adq h,hO⟩
 ·have:=Bo (a:=o) (b:=[1,2,3,4,5]) hnd fun u hu=>by
   have:=arV u (hin u hu);simp only [aH,bP,or_false];omega
  simpa using this
 ·have hr:=arV u (hin u hu);by_cases e:u≤n
  ·exact Zf h u.toNat u (by omega) e (aJ _)
  obtain⟨h1,h2,k,hk,h3⟩:=(hmem u).1 (hin u hu);have hx:=getD_mem (l:=S) hk;have:=h.ab _ hx;exact .s hx (.inr ⟨rfl,by omega⟩) (Zf h (S.getD k default).a.toNat _ (by omega) (by omega) (aJ _))
 have hr:=arV u (hin u hu);omega
theorem av7:∀k,k<6→teF (pE k) (pQ k)=true∧teF (pE k*3) (pQ k*3+10*pE k)=true∧Ft (pQ k*3+10*pE k) (pE k*3)=true:=by decide +kernel
theorem av8{P:List Pt}{S:List Lk}{o:List Int}:∀k,(∀j,j<k→dsq P (o.getD j 0) (cA S o j)=0)→cQ P S o k=0
 |0,_=>rfl
 |
  k+1,h=>by
  simp only [cQ];rw [av8 k fun j hj=>h j (by omega),h k (by omega),Rat.mul_zero,Rat.add_zero]
structure Least (L:List Lk) (at':List Pt) (e:R):Prop where
 te:Q8 L at'=true
 en:e=teV L at'
 eok:e.ok=true
 len:2≤at'.length∧at'.length≤10
 v:∃v:Nat,1≤v∧v<at'.length∧(at'.getD v default).x.ok=true
 mv:∀(v:Nat) (m d:Int) (r:R),(-10≤m∧m≤10)→(1≤d∧d≤3)→Fq r m d→(at'.getD v default).x.ok=true→v<at'.length →
  Q8 L (at'.set v ⟨mG (at'.getD v default).x r,(at'.getD v default).y⟩)=true∧e.v≤(teV L (at'.set v ⟨mG (at'.getD v default).x r,(at'.getD v default).y⟩)).v∧(teV L (at'.set v ⟨mG (at'.getD v default).x r,(at'.getD v default).y⟩)).ok=true
theorem agC{n:Nat}{L:List Lk}(h:Vg n L):WE L=true∧Least L (esV L) (esE L):=by
 have hrn:=h.rn;have hlen:=h.len;have hS:=avu h;obtain⟨hjo,_⟩:=Vj h;have hsm:∀l∈L,YO 9 l:=fun l hl=>(h.sm l hl).mono (by omega);have hL:∀x∈L,nD x=true:=fun x hx=>Qa (by decide) (hsm x hx);obtain⟨hD,ho1,hO⟩:=an0 hS [] rfl;generalize hoe:VO (uH L) []=o at *;have hl5:=hD.len;obtain⟨hCK,hCs⟩:=BU hD o.length (aJ _);have hb:∀j,j<o.length→Kw (cS (uH L) o j) (o.getD j 0)=true:=fun j hj=>(hCs j hj).b;have hf:=aoM o.length hb;have hq:=avU hD o.length (aJ _);have aAk:(cE (uH L) o o.length).ok=true:=by rw [uq,hq];simp
 have hG:WB (uH L) o=some (cS (uH L) o o.length,cN (uH L) o o.length,cE (uH L) o o.length):=by
  unfold WB;rw [if_pos hO,hf];exact if_pos aAk
 obtain⟨g1,g2,g3⟩:=Qj hG;obtain⟨hsv,hpk⟩:=arM hD;have eN:esN L=cN (uH L) o o.length:=by unfold esN;rw [hoe];exact g1
 have eS:esS L=mG (MS L) (cE (uH L) o o.length):=by unfold esS;rw [hoe,g2]
 have hen:∀P:List Pt,tot (Qg P) L=cV (uH L) o o.length+cQ P (uH L) o o.length+(MS L).v:=fun P=>by
  rw [←akf (P:=P) hjo,VD (P:=P) o.length hb,akE hCK];simp only [tot]
  grind
 obtain⟨E,fx,fy,hE1,hE,hps⟩:=hpk.ps;have hus:∀l∈L,l.a∈(0:Int)::o∧l.b∈(0:Int)::o:=fun l hl=>by
  obtain⟨x,hx,e1,e2⟩:=(TI hjo hL l.a l.b).2 ⟨l,hl,rfl,rfl⟩;have:=hD.nd x hx;rw [←e1,←e2];constructor
  ·rcases this.1 with e|e
   ·rw [e];simp
   exact dK _ e
  rcases this.2 with e|e
  ·rw [e];simp
  exact dK _ e
 rw [Nat.sub_self,bY]at hps;have hT:=av7 o.length (by omega);obtain⟨t1,t2⟩:=aoT hsm (by omega) hE1 hE hps hus hT.1;have hc0:cQ (svV (cN (uH L) o o.length)) (uH L) o o.length=0:=av8 _ fun j hj=>hpk.dq j (by omega) hj;have aAl:=(P9 hjo).2.2;have hsum:(esS L).q=some (tot (Qg (svV (cN (uH L) o o.length))) L):=by
  have e:(MS L).v+cV (uH L) o o.length=tot (Qg (svV (cN (uH L) o o.length))) L:=by
   rw [hen,hc0];grind
  rw [eS,Ig,R.wK aAl,hq];show norm _=_;rw [e];exact agq t2
 have arW:(esS L).ok=true:=by rw [uq,hsum];simp
 have hok:WE L=true:=by
  unfold WE;rw [hjo,hoe,g3,eN,hsv,arW];rfl
 obtain⟨v1,v2⟩:=arP hok;have eV:esV L=svV (cN (uH L) o o.length):=by rw [v1,eN]
 have eE:esE L=teV L (esV L):=by
  rw [v2,eV];refine R.ajp arW (by rw [uq,t2];simp) ?_;rw [R.EG hsum,R.EG t2]
 refine⟨hok,?_⟩;have hEv:(esE L).v=cV (uH L) o o.length+(MS L).v:=by rw [v2,R.EG hsum,hen,hc0];grind
 have hlenV:(esV L).length=Zk (cN (uH L) o o.length) (cN (uH L) o o.length).length+1:=by
  rw [eV,Qe hsv,MX]
 have aDh:=Y2 (akF hD) _ (aJ (cN (uH L) o o.length).length);rw [←eV]at hps t1;have h1:o.getD 0 0∈o:=abl (by omega);have h1n:=hps.n _ (dK _ h1);have h1r:=hD.o.2 _ h1;refine⟨t1,eE,by rw [v2];exact arW,⟨by omega,by omega⟩,⟨(o.getD 0 0).toNat,by omega,by omega,(hps.x _ (dK _ h1)).1.ok⟩,?_⟩;intro v m d r hm hd hr aDi hvl;rw [hEv];generalize esV L=P at *;have bm:Ab m 10:=by unfold Ab;omega
 have bd:Ab d 3:=by unfold Ab;omega
 have anV:Ps (P.set v ⟨mG (P.getD v default).x r,(P.getD v default).y⟩) (E*d) (pQ o.length*3+10*pE o.length) (0::o) (fun u=>if u.toNat=v then fx u*d+m*E else fx u*d) (fun u=>fy u*d):=by
  refine⟨fun u hu=>?_,fun u hu=>?_,fun u hu=>by rw [bC];exact hps.n u hu⟩
  ·obtain⟨k1,k2⟩:=hps.x u hu;by_cases e:u.toNat=v
   ·rw [if_pos e,e,aj,List.getElem?_set_self hvl];rw [e]at k1;have b:=vC (jY k2 bd) (jY bm hE);exact⟨k1.add hr (by grind) (pz hE1 hd.1) b (jY hE bd) hT.2.2,b⟩
   rw [if_neg e,aj (l:=List.set _ _ _),List.getElem?_set_ne (by omega),←aj];exact⟨k1.to (pz hE1 hd.1) (by grind),(jY k2 bd).mono (by omega)⟩
  obtain⟨k1,k2⟩:=hps.y u hu;by_cases e:u.toNat=v
  ·rw [e,aj,List.getElem?_set_self hvl];rw [e]at k1;exact⟨k1.to (pz hE1 hd.1) (by grind),(jY k2 bd).mono (by omega)⟩
  rw [aj (l:=List.set _ _ _),List.getElem?_set_ne (by omega),←aj];exact⟨k1.to (pz hE1 hd.1) (by grind),(jY k2 bd).mono (by omega)⟩
 obtain⟨s1,s2⟩:=aoT hsm (by omega) (pz hE1 hd.1) (jY hE bd) anV hus hT.2.1;refine⟨s1,?_,by rw [uq,s2];simp⟩;rw [R.EG s2,hen];have:=aoO (P:=P.set v ⟨mG (P.getD v default).x r,(P.getD v default).y⟩) (S:=uH L) (o:=o) o.length hb
 grind
def Eo:Fn:=⟨2,16,[.tmp 4],(.seq (rf 2 [oN 2 (.box (.t 0)),oK 3 1 (.box (.t 1)),oK 4 2 (.oO (cI 0))]) (.seq (sr [oN 5 (lT 3 2),oN 6 (cl 102 [5]),oN 7 (nt 6),oW 8 7,oG 8 false 9 (lT 3 3),oG 8 false 10 (cl 102 [9]),oG 8 false 11 (nt 10),oN 12 (.pick (.t 8) (.c (.bool true)) (.t 11))] (cd 12 (sr [oN 4 (.oO (cI 0))] .ret) .skip)) (sr [oN 13 (lT 3 2),oN 14 (lT 3 3),oN 15 (cl 371 [13,14]),oW 4 15] .ret)))⟩
structure Iz (T:Tb):Prop where
 hT:T 370=some Eo
 lM:sD T
 WH:DY T
def BX:Fn:=⟨1,93,[.tmp 2],(sr [oN 2 mF] (.seq (sr [oW 14 0,oN 15 (ln 14),oN 16 (bc .gtr 15 1048576)] (cd 16 (sr [oN 2 mT] .ret) .skip)) (sr [oW 17 0,oN 18 (cl 87 [17]),oW 3 18] (.seq (rf 1 [oK 20 1 (oV 3),oK 21 1 (cl 369 [20]),oK 19 1 (oV 21),oK 22 1 (ex 0 19),oK 23 1 (ex 1 19),oK 24 1 (ex 2 19),oN 5 (.alloc vN),oK 4 1 (oV 22),⟨none,none,1,.store 3 (.t 5) (.t 23),[]⟩,oK 6 1 (oV 24)]) (.seq (rf 1 [oK 26 1 (oV 3),oK 27 1 (oV 4),oK 28 1 (cl 177 [26,27]),oK 25 1 (oV 28),oK 29 1 (ex 0 25),oK 30 1 (ex 1 25),oN 7 (.alloc vN),⟨none,none,1,.store 3 (.t 7) (.t 29),[]⟩,oK 8 1 (oV 30)]) (.seq (sr [oW 31 6,oN 32 (nt 31),oW 33 32,oG 33 false 34 (oV 8),oG 33 false 35 (nt 34),oN 36 (.pick (.t 33) (.c (.bool true)) (.t 35)),oW 37 36,oG 37 false 38 (oV 4),oG 37 false 39 (ln 38),oG 37 false 40 (bc .lss 39 2),oN 41 (.pick (.t 37) (.c (.bool true)) (.t 40)),oW 42 41,oG 42 false 43 (lT 3 5),oG 42 false 44 (lT 3 7),oG 42 false 45 (cl 32 [43,44]),oG 42 false 46 (nt 45),oN 47 (.pick (.t 42) (.c (.bool true)) (.t 46))] (cd 47 (sr [oN 2 mF] .ret) .skip)) (.seq (rf 2 [oN 48 (.oI 6 zz6 0 []),oK 49 2 (oV 4),oK 50 1 (.app 6 112 (.t 48) (.t 49)),oK 9 2 (oV 50)]) (sr [oN 10 (.oO (cI 1))] (.seq (sr [oW 51 9,oN 52 (ln 51),oN 53 (.oO (cI 0))] (.block 0 (.loop (sr [oN 54 (bt .lss 53 52)] (.seq (cd 54 .skip (.exit 0)) (.seq (.block 1 (sr [oW 55 53,oW 11 55] (sr [oW 56 11,oN 57 (bc .gtr 56 0),oW 58 57,oG 58 true 59 (oV 9),oG 58 true 60 (oV 11),oG 58 true 61 (ix 6 59 60),oG 58 true 62 (fd 0 61),oG 58 true 63 (lT 3 62),oG 58 true 64 (cl 102 [63]),oN 65 (.pick (.t 58) (.t 64) (.c (.bool false)))] (cd 65 (rg [oW 66 11,oW 10 66]) .skip)))) (rg [oN 67 (bc .add 53 1),oW 53 67]))))))) (.seq (rt 0 [oW 68 9,oW 69 10,oW 70 9,oW 71 10,oA 72 0 (ix 6 70 71) [2,3],oA 73 0 (fd 0 72) [4],oA 74 0 (lT 3 73) [5],oW 75 0,oA 76 0 (.call 175 [(.t 75),(cI 3)]) [7],oA 77 0 (cl 178 [74,76]) [6,8,8],oA 78 0 (ix 6 68 69) [0,1,0,1,2,3,4,5,6,7,8,9],oA 79 0 (fd 0 78) [10,0,1,2,3,4,5,6,7,8,9],⟨none,none,0,.store 3 (.t 79) (.t 77),[11,9,9,0,1,2,3,4,5,6,7,8,9]⟩]) (.seq (rf 1 [oK 81 1 (oV 3),oK 82 1 (oV 9),oK 83 1 (cl 177 [81,82]),oK 80 1 (oV 83),oK 84 1 (ex 0 80),oK 85 1 (ex 1 80),oN 12 (.alloc vN),⟨none,none,1,.store 3 (.t 12) (.t 84),[]⟩,oK 13 1 (oV 85)]) (sr [oW 86 13,oW 87 86,oG 87 true 88 (lT 3 12),oG 87 true 89 (lT 3 5),oG 87 true 90 (cl 370 [88,89]),oG 87 true 91 (bc .geq 90 0),oN 92 (.pick (.t 87) (.t 91) (.c (.bool false))),oW 2 92] .ret))))))))))))⟩
structure LZ (T:Tb):Prop where
 hT:T 364=some BX
 EZ:zK T
 Ro:Dh T
 lM:sD T
 VG:GI T
 GX:Aa T
 Em:D8 T
 SS:Fe T
 WI:Iz T
theorem an1{r s:R}(hr:r.ok=true)(hs:s.ok=true)(h:s.v≤r.v):0≤amM r s:=by
 unfold amM;rw [R.wK hr,R.wK hs];show 0≤ab8 _ _;have h:=(Rat.le_iff _ _).1 h;unfold ab8;split
 ·omega
 split<;>omega
theorem agD{T:Tb}(h:Iz T){r s:R}(hr:r.ok=true)(hs:s.ok=true):PF T 370 [kC r,kC s] (iv (amM r s)):=by
 have o1:=zD h.lM (rP (tV hr));have o2:=zD h.lM (rP (tV hs));rw [hr]at o1;rw [hs]at o2;have c:=afW h.WH (tV hr) (tV hs);refine kR nR h.hT ?_;simp only [Eo,Lz];refine ev ?_;refine jl o1 ?_;refine ev ?_;refine jl o2 ?_;refine ev ?_;refine jl c ?_
 (refine ev ?_;try with_reducible exact True.intro)
theorem Zg{T:Tb}(h:LZ T)(x:List UInt8)(wx:x.length≤9223372036854775807):PF T 364 [bytesV x] (.bool true):=by
 refine jZ nR h.hT ?_;simp only [BX,Lz];refine ev ?_;refine jW (fun hb=>?_) fun hb=>?_
 ·refine ev ?_;exact jP _
 have hx:x.length≤1048576:=by omega
 obtain⟨n,L,hL,cm⟩:=aaS h.Ro hx;obtain⟨hok,hE⟩:=agC hL;have hrn:=hL.rn;have hlen:=hL.len;have cL:∀x∈L,x.w.cn∧x.dx.cn∧x.dy.cn:=fun x hx=>(aq2 (hL.sm x hx)).1;have hw:=Ri cL (by omega);have hz:Qn Lk.sz L≤1048576:=by have:=Rh cL (by omega);omega
 have hll:L.length≤1048576:=by omega
 have ce:=(Ze h.SS hw hz).WL (UQ (Yw _ _) (ML _ _) (sV _ _));rw [hok]at ce;have hres:=arQ L;have wP:=hres.2.1;have wE:=hres.2.2;have cnP:∀q∈esV L,q.x.cn∧q.y.cn:=fun q hq=>by
  rw [(arP hok).1]at hq;unfold svV at hq;split at hq
  ·exact Y3 _ _ q hq
  cases hq
 generalize esV L=P at *;generalize esE L=e at *;have hPl:=hE.len;have ct:=(Kt h.GX (l:=L) (at':=P) hw wP hll (by omega)).WL (aav (ML _ _) (sV _ _));rw [hE.te]at ct;have een:=hE.en;have cq:=Ls h.EZ (y:=e) (z:=teV L P) wE (by rw [←een];exact wE);rw [decide_eq_true een]at cq;clear hres;refine ev ?_;refine jl cm ?_;refine ev ?_;refine jl ce ?_;refine ev ?_;refine jl ct ?_;refine ev ?_;have h2:decide (((P.length:Nat):Int)<2)=false:=decide_eq_false (by omega);refine ev1 @h2 ?_;refine jl cq ?_;have hne:(P.map Pt.cells=[])=False:=eq_false fun e=>by
  have:=congrArg List.length e;simp at this;rw [this]at hPl;simp at hPl
 refine vM @h2 @hne ?_;refine⟨by omega,?_⟩;refine jX (fun _ _=>false) (α:=Nat×Nat) (fun q=>⟨lS [bytesV x,.any,.any,oP L,.any,.ptr 0 0 0,.any,.any,.any,.kQ 1 0 P.length,iv (q.2:Nat),.any,.any,.any,.any,.any,.any,.any,.any,.any,.any,.any,.any,.any,.any,.any,.any,.any,.any,.any,.any,.any,.any,.any,.any,.any,.any,.any,.any,.any,.any,.any,.any,.any,.any,.any,.any,.any,.any,.any,.any,.kQ 1 0 P.length,iv (P.length:Nat),iv (q.1:Nat)],[some ⟨3,[e.cells]⟩,some ⟨6,P.map Pt.cells⟩],0,0,[],[]⟩) (fun q=>(q.1≤P.length∧q.2<P.length)∧((∃j,1≤j∧j<q.1∧(P.getD j default).x.ok=true)→(P.getD q.2 default).x.ok=true)) (fun q=>P.length-q.1) rfl (0,1) ?_ ?_ ?_
 ·exact⟨⟨by omega,by omega⟩,fun ⟨j,h1,h2,_⟩=>by omega⟩
 ·(refine Fh [(0,_),(3,_)] (by simp) (by intro p hp;simp only [aH,bP,or_false]at hp;rcases hp with rfl|rfl<;>refine⟨rfl,?_⟩<;>first|exact oz _|simp [l9,V.still]) rfl ?_)<;>(try (refine ev ?_;try with_reducible exact True.intro))<;>(repeat' (first|exact True.intro|omega|exact qM rfl (by simp)|refine⟨?_,?_⟩|exact of_eq_true (rJ _ _ _)|exact lK rfl (by simp;done)|exact lK rfl rfl|(refine lD rfl ?_ rfl;simp [jR];done)|(refine lD rfl ?_ rfl;simp [jR];omega)|(refine rM ?_ ?_;(focus ((refine ev ?_;try with_reducible exact True.intro);done));(intro q hq k s0 l0;simp;done))))
 rintro⟨i,v⟩ ⟨⟨hi,hv⟩,hcnd⟩;dsimp only at hi hv hcnd;by_cases hc:(i:Int)<(P.length:Nat)
 ·have hil:i<P.length:=by omega
  have hrow:(P.map Pt.cells)[i]? = some (P.getD i default).cells:=by rw [bI,aj,au hil];rfl
  have hmem:=getD_mem (l:=P) hil;have cok:=zD h.lM (rP (cnP _ hmem).1);by_cases h0:i=0
  ·have hg:decide ((0:Int)<(i:Int))=false:=decide_eq_false (by omega);refine vM @hc @hg ?_;refine⟨(i+1,v),?m1,⟨⟨?a1,?b1⟩,?c1⟩,?e1⟩
   case e1=>dsimp only;exact aiN
   case m1=>dsimp only;omega
   case a1=>dsimp only;omega
   case b1=>dsimp only;omega
   case c1=>dsimp only;exact fun ⟨j,h1,h2,_⟩=>by omega
  have hg:(0:Int)<(i:Int):=by omega
  refine Gp @hc @hg @hrow ?_;refine jl cok ?_
  cases hk:(P.getD i default).x.ok
  ·refine vM @hc @hg ?_;refine⟨(i+1,v),?m2,⟨⟨?a2,?b2⟩,?c2⟩,?e2⟩
   case e2=>dsimp only;exact aiN
   case m2=>dsimp only;omega
   case a2=>dsimp only;omega
   case b2=>dsimp only;omega
   case c2 =>
    dsimp only;rintro⟨j,h1,h2,h3⟩;by_cases e:j=i
    ·subst e;rw [hk]at h3;cases h3
    exact hcnd ⟨j,h1,by omega,h3⟩
  refine vM @hc @hg ?_;refine⟨(i+1,i),?m3,⟨⟨?a3,?b3⟩,?c3⟩,?e3⟩
  case e3=>dsimp only;exact aiN
  case m3=>dsimp only;omega
  case a3=>dsimp only;omega
  case b3=>dsimp only;omega
  case c3=>dsimp only;exact fun _=>hk
 have hok':(P.getD v default).x.ok=true:=by
  obtain⟨j,h1,h2,h3⟩:=hE.v;exact hcnd ⟨j,h1,by omega,h3⟩
 have hrow:(P.map Pt.cells)[v]? = some (P.getD v default).cells:=by rw [bI,aj,au hv];rfl
 obtain⟨m,d,hm,hd,cr⟩:=agj h.VG (n:=3) (by omega) hx;have hmem:=getD_mem (l:=P) hv;have ca:=QN h.Em (r:=(P.getD v default).x) (s:=KF m d) (rP (cnP _ hmem).1) (rP (anr hm hd));have hmv:=hE.mv v m d (KF m d) hm hd ⟨by rw [(ajk hm hd).q,Rat.divInt_eq_div],hd.1⟩ hok' hv;refine vM @hc @hrow ?_;refine jl cr ?_;refine vM @hc @hrow ?_;refine jl ca ?_;obtain⟨m1,m2,m3⟩:=hmv;have hP2:(P.set v ⟨mG (P.getD v default).x (KF m d),(P.getD v default).y⟩).length=P.length:=bC;have hset:(P.map Pt.cells).set v (Pt.cells ⟨mG (P.getD v default).x (KF m d),(P.getD v default).y⟩)=(P.set v ⟨mG (P.getD v default).x (KF m d),(P.getD v default).y⟩).map Pt.cells:=by rw [List.map_set]
 have wP2:IQ Pt.wf (P.set v ⟨mG (P.getD v default).x (KF m d),(P.getD v default).y⟩):=⟨by rw [hP2];omega,fun q hq=>by
  rcases fM hq with hq|rfl
  ·exact wP.2 q hq
  exact⟨rP (uM _ _),rP (cnP _ hmem).2⟩⟩
 have Xm:=(Kt h.GX (l:=L) (at':=P.set v ⟨mG (P.getD v default).x (KF m d),(P.getD v default).y⟩) hw wP2 hll (by omega)).WL (aav (ML _ _) (sV _ _));rw [m1]at Xm;simp only [Pt.cells,R.cells,bK,dI]at hset;have cc:=agD h.WI (r:=teV L (P.set v ⟨mG (P.getD v default).x (KF m d),(P.getD v default).y⟩)) (s:=e) m3 hE.eok;have hge:=an1 m3 hE.eok m2;generalize P.set v ⟨mG (P.getD v default).x (KF m d),(P.getD v default).y⟩=P2 at *;generalize mG (P.getD v default).x (KF m d)=nx' at *;have rS:∀σ:Store,QH σ 0 P.length (some ⟨6,P2.map Pt.cells⟩)=some (O7 P2):=fun σ=>by
  have:=Hf (σ:=σ) (s:=0) (l:=P2.length) (n:=6) (ahP P2) (by simp);rw [bY,bg (by simp),hP2]at this;exact this
 refine ev4 @hc @hrow @hset @rS ?_;refine⟨by unfold vH;rfl,?_⟩;refine jl Xm ?_;refine ev4 @hc @hrow @hset @rS ?_;refine jl cc ?_;refine ev5 @hc @hrow @hset @rS @hge ?_;exact jP _
def akL(P:Program)(fid:Nat)(o:abD):Prop :=
 ∀args σ r σ',o.sem args σ r σ'→∀w M D (vals:Array Value),oL w D (XS M D) args vals.toList→rU w D M σ→Calls P fid vals w (Post M D w σ.length r σ')
def Fits(P:Program)(ν:Nat→Option Nat)(T:Tb):Prop :=
 ∀fid f F,ν fid=some f→T f=some F→(∃fn,P.funcs[fid]? = some fn∧abO P ν fn=some F)∨∃o,F.body=.lib o∧akL P fid o
theorem arX{T:Tb}{j:Job}{x:Out}(h:Run T j x):∀o st,j≠.code (.lib o) st:=by
 induction h with
 |gc ρ hn hρ h ih=>intro o st e;cases e;exact ih o _ rfl
 |forget he ho hk h ih=>intro o st e;cases e;exact ih o _ rfl
 |re W h h' ih=>intro o st e;cases e;exact ih o _ rfl
 |_=>intro o st e;cases e
theorem an2{P:Program}{ν:Nat→Option Nat}{nt:Nat}{o:abD}:∀c:Code,Qv P ν nt c≠some (.lib o):=by
 intro c h;unfold Qv at h
 cases c<;>simp at h
 all_goals (try (split at h<;>simp at h))
theorem akM{P:Program}{ν:Nat→Option Nat}{fn:Func}{F:Fn}{o:abD}(h:abO P ν fn=some F)(hb:F.body=.lib o):False:=by
 unfold abO at h;split at h<;>first|(cases h;done)|skip
 split at h<;>first|(cases h;done)|skip
 rename_i b rs' hb' av9;split at h<;>first|(cases h;done)|skip
 simp only [aB]at h;subst h;simp only []at hb;subst hb;exact an2 _ hb'
section
variable {P : Program} {ν : Nat → Option Nat} {T : Tb}
theorem abq{m:Nat}{x:oM}{l:List oM}(h:Zh m (x::l)=true):Zh m l=true∧∀y∈l,y.i.makes=true→y.k≠x.k∧y.k<m:=by
 have hm:∀(l:List oM),Zh m l=true→∀y∈l,y.i.makes=true→y.k<m:=by
  intro l
  induction l with
  |nil=>intro _ y hy;cases hy
  |
   cons z l ih =>
   intro h y hy hmk;simp only [Zh,aG]at h;rcases aH.1 hy with rfl|hy
   ·have:=h.1;rw [if_pos hmk]at this;simp only [aG,decide_eq_true_eq]at this;exact this.1
   exact ih h.2 y hy hmk
 simp only [Zh,aG]at h;refine⟨h.2,fun y hy hmk=>⟨?_,hm l h.2 y hy hmk⟩⟩;by_cases hx:x.i.makes=true
 ·have:=h.1;rw [if_pos hx]at this;simp only [aG,decide_eq_true_eq,aT]at this;have:=this.2 y hy;simpa [hmk]using this
 have:=h.1;rw [if_neg hx]at this;simp only [beq_iff_eq]at this;have:=hm l h.2 y hy hmk;omega
theorem adx{m:Nat}:∀(l:List oM),Zh m l=true→∀x∈l,x.i.makes=true→x.k<m
 | [],_,y,hy,_=>by cases hy
 |
  z::l,h,y,hy,hmk=>by
  simp only [Zh,aG]at h;rcases aH.1 hy with rfl|hy
  ·have:=h.1;rw [if_pos hmk]at this;simp only [aG,decide_eq_true_eq]at this;exact this.1
  exact adx l h.2 y hy hmk
theorem akN{m:Nat}:∀(l:List oM),Zh m l=true→∀(i j:Nat) (x y:oM),l[i]? = some x→l[j]? = some y→i≠j→x.i.makes=true→x.k≠y.k
 | [],_,i,j,x,y,hx,_,_,_=>by simp at hx
 |
  z::l,h,i,j,x,y,hx,hy,hij,hmk=>by
  obtain⟨k1,k2⟩:=abq h
  cases i with
  |
   zero =>
   simp at hx;subst hx
   cases j with
   |zero=>exact absurd rfl hij
   |
    succ j =>
    have hy':y∈l:=aS (by simpa using hy);by_cases hmy:y.i.makes=true
    ·exact fun e=>(k2 y hy' hmy).1 e.symm
    -- one that makes none has the number m
    have hm:∀(l:List oM),Zh m l=true→∀y∈l,y.i.makes≠true→y.k=m:=by
     intro l
     induction l with
     |nil=>intro _ y hy;cases hy
     |
      cons z l ih =>
      intro h y hy hn;simp only [Zh,aG]at h;rcases aH.1 hy with rfl|hy
      ·have:=h.1;rw [if_neg hn]at this;simpa using this
      exact ih h.2 y hy hn
    have:=hm l k1 y hy' hmy;have h3:=adx _ h z (by simp) hmk;omega
  |
   succ i =>
   have hx':x∈l:=aS (by simpa using hx)
   cases j with
   |
    zero =>
    simp at hy;subst hy;exact(k2 x hx' hmk).1
   |succ j=>exact akN l k1 i j x y (by simpa using hx) (by simpa using hy) (by omega) hmk
theorem ady{o:oM}{l:List oM}{st st1 st2:St}(h1:ZA P ν o st st1)(h2:ahd P ν l st1 st2):ahd P ν (o::l) st st2:=by
 obtain⟨a1,a2,a3,a4⟩:=h1;obtain⟨b1,b2,b3,b4⟩:=h2;refine⟨b1.trans a1,b2.trans a2,bV a3 b3,?_⟩;intro ops dr nt m k rest htr hk M w0 D0 D a w hs hid Q hQ
 cases rest with
 |nil=>simp [JY]at htr
 |
  cons r rest =>
  simp only [JY]at htr;split at htr<;>first|(cases htr;done)|skip
  rename_i x hx;split at htr<;>first|(cases htr;done)|skip
  rename_i l' hl';simp only [aB,List.cons.injEq]at htr;obtain⟨rfl,rfl⟩:=htr;obtain⟨k1,k2⟩:=abq hk;have key:=a4 ops dr nt m k r hx M w0 D0 D a w hs (hid x (by simp)) (wpList P ops Q rest) Q (fun D' a' w' hs' hun=>by
   refine b4 ops dr nt m _ rest hl' k1 M w0 D0 D' a' w' hs' (fun y hy hmk=>?_) Q hQ;rw [a1];obtain⟨e1,e2⟩:=hid y (by simp [hy]) hmk;exact⟨aU e1 a3,hun _ (Nat.le_add_right _ _) e1 e2 (fun h=>(k2 y hy hmk).1 (by omega))⟩)
  unfold wpList;split
  ·rename_i hw;rw [if_pos hw]at key;exact .inl key
  rename_i hw;rw [if_neg hw]at key;exact key
theorem Et{nt:Nat}{cc:Code}{c:C}(h:Qv P ν nt cc=some c):match c with
  |.skip=>cc=.skip
  |.reg d m l=>∃id ops,cc=.region id ops d∧JY P ν ops d nt m 0 ops.toList=some l
  |.seq x y=>∃a b,cc=.seq a b∧Qv P ν nt a=some x∧Qv P ν nt b=some y
  |.cond s x y=>∃o a b,cc=.cond o a b∧IE o=some s∧Qv P ν nt a=some x∧Qv P ν nt b=some y
  |.block id x=>∃a,cc=.block id a∧Qv P ν nt a=some x
  |.loop x=>∃a,cc=.loop a∧Qv P ν nt a=some x
  |.exit id=>cc=.exit id
  |.ret=>cc=.ret
  |.lib _=>False:=by
 cases cc with
 |skip=>simp only [Qv,aB]at h;subst h;rfl
 |
  region id ops d =>
  simp only [Qv,aI]at h;obtain⟨l,h1,rfl⟩:=h;exact⟨id,ops,rfl,h1⟩
 |
  seq a b =>
  simp only [Qv]at h;split at h<;>first|(cases h;done)|skip
  rename_i x y h1 h2;simp only [aB]at h;subst h;exact⟨a,b,rfl,h1,h2⟩
 |
  cond o a b =>
  simp only [Qv]at h;split at h<;>first|(cases h;done)|skip
  rename_i s x y h1 h2 h3;simp only [aB]at h;subst h;exact⟨o,a,b,rfl,h1,h2,h3⟩
 |
  block id a =>
  simp only [Qv,aI]at h;obtain⟨x,h1,rfl⟩:=h;exact⟨a,rfl,h1⟩
 |
  loop a =>
  simp only [Qv,aI]at h;obtain⟨x,h1,rfl⟩:=h;exact⟨a,rfl,h1⟩
 |exit id=>simp only [Qv,aB]at h;subst h;rfl
 |ret=>simp only [Qv,aB]at h;subst h;rfl
 |_=>simp [Qv]at h
theorem afg{c:C}{e:Ex}{st st':St}(hk:st'.keep=st.keep)(h:X4 P ν c e st st'):abP P ν (.loop c) e st st':=by
 refine⟨hk,?_⟩;intro nt cc htr M w0 D0 D a w hs Q hQ;obtain⟨cb,rfl,hb⟩:=Et htr;intro b k cs;obtain⟨x,a',w',q,harr⟩:=h nt cb hb M w0 D0 D a w hs Q hQ b k cs;exact⟨x,a',w',q,.of_steps (.one step_loop) harr⟩
theorem an3{e:Ex}(h:e≠.normal):Zw e≠.normal:=by cases e<;>simp [Zw]at h ⊢
theorem an4{next:Act→World→Prop}{Q:Exit→Act→World→Prop}{e:Ex}(h:e≠.normal){a:Act}{w:World}(hq:Q (Zw e) a w):Exit.then next Q (Zw e) a w:=by
 cases e<;>first|(simp at h;done)|exact hq
def Rq(tmps:Array Value):ResultVar→Sem Value
 |.tmp t=>pure (tmps.getD t undef)
 |.cell q t=>do loadVar t (←asAddr (tmps.getD q undef))
theorem adz(fn:Func)(tmps:Array Value):results fn tmps=(do let vs ←fn.results.mapM (Rq tmps);pure (if h:vs.size=1 then vs[0]else .tuple vs)):=rfl
theorem akO(hT:Fits P ν T){f:Nat}{args:List V}{σ:Store}{F:Fn}{o:abD}{r:V}{σ':Store}(hf:T f=some F)(hb:F.body=.lib o)(h:o.sem args σ r σ'):NR P ν f args σ r σ':=by
 intro fid arY w M D vals hv hS;rcases hT fid f F arY hf with ⟨fn,hfn,htr⟩|⟨o',e,hO⟩
 ·exact(akM htr hb).elim
 rw [hb]at e
 cases e
 exact hO args σ r σ' h w M D vals hv hS
theorem an5(hT:Fits P ν T){f:Nat}{args:List V}{σ:Store}{F:Fn}{e:Ex}{st':St}{rs:List V}(hf:T f=some F)(hl:args.length=F.nargs)(hnl:∀o,F.body≠.lib o)
  (ih:abP P ν F.body e (St.enter args σ) st') (he:e=.normal∨e=.ret) (hr:F.res.mapM (Kz.get st')=some rs):NR P ν f args σ (sZ rs) st'.objs:=by
 intro fid arY w M D vals hv hS;rcases hT fid f F arY hf with ⟨fn,hfn,htr⟩|⟨o,e,_⟩
 case inr=>exact(hnl o e).elim
 unfold abO at htr;split at htr<;>first|(cases htr;done)|skip
 rename_i body hbody;split at htr<;>first|(cases htr;done)|skip
 rename_i b rs' hb av9;split at htr<;>first|(cases htr;done)|skip
 rename_i hle;simp only [aB]at htr;subst htr;have hvl:vals.size=args.length:=by simpa using (pI _ _ hv).symm
 refine calls_of_wp hfn hbody ?_;have hs0:SR fn.ntmps M w D (St.enter args σ) D { tmps:=vals++Array.replicate (fn.ntmps-vals.size) undef,defers:=[] } w:=by
  refine⟨?_,?_,rfl,hS,Gr.refl _ _,fun o d h=>.inl ⟨o,d,h,rfl⟩,fun o _=>sK.refl _⟩
  ·intro t;simp only [St.enter];by_cases ht:t<args.length
   ·obtain⟨y,h1,h2⟩:=Dk _ _ hv t args[t] (by simp [ht]);have e1:lS args t=args[t]:=by simp [lS,ht]
    rw [e1];have e2:(vals++Array.replicate (fn.ntmps-vals.size) undef).getD t undef=y:=by
     rw [dh,Array.getElem?_append_left (by omega)];rw [←fF,h1];rfl
    rw [e2];exact h2
   have e1:lS args t=.any:=by simp [lS,List.getD,aW (Nat.le_of_not_lt ht)]
   rw [e1];simp only [rd]
  simp only [Array.size_append,Array.size_replicate];simp only []at hl;omega
 refine ih.2 fn.ntmps body hb M w D D _ w hs0 _ ?_;intro D' a' w' hs';have hres:∃v,(results fn a'.tmps).run P w'=.ok v w'∧rd w' D' (XS M D') (sZ rs) v:=by
  have hlist:∀(vars:List ResultVar) (rl:List Kz) (vl:List V),vars.mapM (adM P)=some rl→rl.mapM (Kz.get st')=some vl →
    ∃ys:List Value,(vars.mapM (Rq a'.tmps)).run P w'=.ok ys w'∧oL w' D' (XS M D') vl ys:=by
   intro vars
   induction vars with
   |nil=>intro rl vl h1 h2;simp at h1;subst h1;simp at h2;subst h2;exact⟨[],by simp,by simp [oL]⟩
   |
    cons x vars ihv =>
    intro rl vl h1 h2;simp only [bF,iF,fG,dL,aB]at h1;obtain⟨r,hr1,rl',hr2,rfl⟩:=h1;simp only [bF,iF,fG,dL,aB]at h2;obtain⟨z,hz1,vl',hz2,rfl⟩:=h2;obtain⟨ys,k1,k2⟩:=ihv rl' vl' hr2 hz2
    cases x with
    |
     tmp t =>
     simp only [adM,aB]at hr1;subst hr1;simp only [Kz.get,aB]at hz1;subst hz1;refine⟨a'.tmps.getD t undef::ys,?_,by simp only [oL];exact⟨_,_,rfl,hs'.env t,k2⟩⟩;have hg:(Rq a'.tmps (.tmp t)).run P w'=.ok (a'.tmps.getD t undef) w':=rfl;simp only [bF,Sem.run_bind,Sem.run_pure,Result.andThen_ok,k1,hg]
    |
     cell q t =>
     simp only [adM,aI]at hr1;obtain⟨⟨n,g⟩,hg,rfl⟩:=hr1;simp only [Kz.get]at hz1;split at hz1<;>first|(cases hz1;done)|skip
     rename_i row off hrow;obtain⟨u,j1,j2⟩:=OV hs'.store hg hrow (hs'.env q) hz1;obtain⟨bl,oo,awc,_⟩:=Zu hs'.store hrow (hs'.env q);refine⟨u::ys,?_,by simp only [oL];exact⟨_,_,rfl,j2,k2⟩⟩;have j1':(loadVar t ⟨bl,oo+off,none⟩).run P w'=.ok u w':=by
      rw [awc]at j1;simpa [Instr.loadAt,Instr.sureAddr]using j1
     have hg:(Rq a'.tmps (.cell q t)).run P w'=.ok u w':=by
      simp only [Rq,awc,asAddr,Sem.run_bind,Sem.run_pure,Result.andThen_ok,j1']
     simp only [bF,Sem.run_bind,Sem.run_pure,Result.andThen_ok,k1,hg]
  obtain⟨ys,k1,k2⟩:=hlist fn.results.toList rs' rs av9 hr;refine⟨if h:ys.toArray.size=1 then ys.toArray[0]else .tuple ys.toArray,?_,?_⟩
  ·have:(fn.results.mapM (Rq a'.tmps)).run P w'=.ok ys.toArray w':=by
    rw [←gU (xs:=fn.results),List.mapM_toArray,Sem.run_map,k1];rfl
   rw [adz];simp only [Sem.run_bind,this,Result.andThen_ok,Sem.run_pure]
  have hlen:=pI _ _ k2;have gen:∀(rs:List V) (ys:List Value),oL w' D' (XS M D') rs ys→rs.length=ys.length→rd w' D' (XS M D') (sZ rs) (if h:ys.toArray.size=1 then ys.toArray[0]else .tuple ys.toArray):=by
   intro rs ys h hl
   cases rs with
   |
    nil =>
    cases ys with
    |nil=>simp only [sZ];rw [dif_neg (by simp)];simp only [rd];exact⟨_,rfl,h⟩
    |cons y ys=>simp at hl
   |
    cons x xs =>
    cases ys with
    |nil=>simp at hl
    |
     cons y ys =>
     cases xs with
     |
      nil =>
      cases ys with
      |
       nil =>
       simp only [oL]at h;obtain⟨y',ys',h0,h1,h2⟩:=h
       cases h0
       simpa [sZ]using h1
      |cons y' ys=>simp at hl
     |
      cons x' xs =>
      cases ys with
      |nil=>simp at hl
      |
       cons y' ys =>
       simp only [sZ];rw [dif_neg (by simp)];simp only [rd];exact⟨_,rfl,h⟩
  exact gen rs ys k2 hlen
 obtain⟨v,hv1,hv2⟩:=hres;have hfin:bodyPost P fn (Post M D w σ.length (sZ rs) st'.objs) .ret a' w' :=
  ⟨hs'.df,v,hv1,v,D',rfl,hv2,hs'.store,hs'.gr,hs'.fr,fun o ho=>hs'.kp o (by rw [ih.1];exact ho)⟩
 rcases he with rfl|rfl<;>exact hfin
theorem Rt{ops:Array Oper}{dr:Bool}{nt m:Nat}:∀{k:Nat} {rest:List Oper} {l:List oM},JY P ν ops dr nt m k rest=some l →
  l.length=rest.length∧∀(i:Nat) (x:oM),l[i]? = some x→∃o k',rest[i]? = some o∧abN P ν ops dr nt m k' o=some x
 |k,[],l,h=>by simp only [JY,aB]at h;subst h;simp
 |
  k,o::rest,l,h=>by
  simp only [JY]at h;split at h<;>first|(cases h;done)|skip
  rename_i x hx;split at h<;>first|(cases h;done)|skip
  rename_i l' hl';simp only [aB]at h;subst h;obtain⟨e1,e2⟩:=Rt hl';refine⟨by simp [e1],fun i y hi=>?_⟩
  cases i with
  |zero=>simp at hi;subst hi;exact⟨o,k,rfl,hx⟩
  |succ i=>simpa using e2 i y (by simpa using hi)
theorem abr{ops:Array Oper}{nt m k:Nat}{o:Oper}{x:oM}(h:abN P ν ops true nt m k o=some x):x.aft=adL o:=by
 unfold abN at h;split at h<;>first|(cases h;done)|skip
 split at h<;>first|(cases h;done)|skip
 simp only [aB]at h;subst h;rfl
theorem XT{ops:Array Oper}{nt m:Nat}{l:List oM}(h:JY P ν ops true nt m 0 ops.toList=some l){done:List Nat}{listed:Array Bool}(hs:listed.size=ops.size)
  (hl:∀i,listed.getD i false=true↔i∈done) {i:Nat}:i∈Region.ready .any ops listed↔xg l done i=true:=by
 obtain⟨e1,e2⟩:=Rt h;rw [mem_ready];have hlt:∀{i:Nat},i<ops.size→(listed.getD i true=false↔i∉done):=by
  intro i hi;have:listed.getD i true=listed.getD i false:=by
   rw [dh,dh,Array.getElem?_eq_getElem (by omega)];rfl
  rw [this];constructor
  ·intro h1 h2;rw [(hl i).2 h2]at h1;cases h1
  intro h1
  cases hb:listed.getD i false with
  |false=>rfl
  |true=>exact absurd ((hl i).1 hb) h1
 constructor
 ·rintro⟨h1,o,ho,h2⟩;have hi:=(iK.1 ho).1;have hil:i<l.length:=by rw [e1];simpa using hi
  obtain⟨o',k',ho',hx⟩:=e2 i l[i] (by simp [hil]);have:o'=o:=by rw [fF]at ho';rw [ho]at ho';exact(Option.some.inj ho').symm
  subst this;unfold xg;rw [au hil];simp only [aG,fO,aT];refine⟨?_,?_⟩
  ·have:=(hlt hi).1 h1;simpa using this
  intro e he;rw [abr hx]at he;simp only [adL,bG,dO]at he;obtain⟨ed,⟨h3,h4⟩,rfl⟩:=he;have:=h2 ed (by simpa using h3) h4;simpa using (hl _).1 this
 intro hr;unfold xg at hr;split at hr<;>first|(cases hr;done)|skip
 rename_i x hx;simp only [aG,fO,aT]at hr;obtain⟨o,k',ho,htr⟩:=e2 i x hx;have ho':ops[i]? = some o:=by rwa [fF]at ho
 have hi:=(iK.1 ho').1;refine⟨(hlt hi).2 (by simpa using hr.1),o,ho',?_⟩;intro e he hb;refine(hl _).2 ?_;have:=hr.2 e.on (by rw [abr htr];simp only [adL,bG,dO];exact⟨e,⟨by simpa using he,hb⟩,rfl⟩);simpa using this
theorem sound(hm:P.follows .mixedOrders=true)(hT:Fits P ν T){j:Job}{o:Out}(h:Run T j o):Sound P ν j o:=by
 induction h with
 |
  skip st =>
  refine⟨⟨rfl,?_⟩,fun x h=>by cases h⟩;intro nt cc htr M w0 D0 D a w hs Q hQ;have hc:cc=.skip:=Et htr;subst hc;exact Go.wp_skip (hQ D a w hs)
 |
  @reg m l st st' hk h ih =>
  obtain⟨_,i1,i2,i3,i4⟩:=ih;refine⟨⟨i2,?_⟩,fun x h=>by cases h⟩;intro nt cc htr M w0 D0 D a w hs Q hQ;obtain⟨id,ops,rfl,hops⟩:=Et htr;refine wp_region_list ?_;refine i4 ops false nt m 0 ops.toList hops hk M w0 D0 D a w ⟨hs.env,hs.tm,hs.df,hs.mem m,hs.gr,hs.fr,hs.kp⟩ (fun x hx hmk=>?_) Q (fun D' a' w' h=>hQ D' a' w' h);have hkm:x.k<m:=by
   have:∀(l:List oM),Zh m l=true→∀x∈l,x.i.makes=true→x.k<m:=by
    intro l
    induction l with
    |nil=>intro _ y hy;cases hy
    |
     cons z l ih =>
     intro h y hy hmk;simp only [Zh,aG]at h;rcases aH.1 hy with rfl|hy
     ·have:=h.1;rw [if_pos hmk]at this;simp only [aG,decide_eq_true_eq]at this;exact this.1
     exact ih h.2 y hy hmk
   exact this l hk x hx hmk
  simp only [aO,List.length_replicate];exact⟨by omega,hs.store.far _ (by omega)⟩
 |
  @aoW m l st st' hk h ih =>
  obtain⟨_,i1,i2,i3,i4⟩:=ih;refine⟨⟨i2,?_⟩,fun x h=>by cases h⟩;intro nt cc htr M w0 D0 D a w hs Q hQ;obtain⟨id,ops,rfl,hops⟩:=Et htr;refine wp_region_any hm ?_;have hsd:SR nt M w0 D0 st D a { w with drawn:=w.drawn+1 }:=by
   have hE:Ext w D (XS M D) { w with drawn:=w.drawn+1 } D (XS M D):=⟨aJ _,fun _ _ _=>rfl,fun _ _ h=>h,fun _=>sK.refl _⟩;refine⟨fun t=>ni _ _ hE (hs.env t),hs.tm,hs.df,?_,⟨hs.gr.size,hs.gr.os,hs.gr.tape,hs.gr.output,hs.gr.block⟩,hs.fr,hs.kp⟩;refine⟨fun o d ho=>?_,hs.store.alive,hs.store.inj,hs.store.far,hs.store.mlt⟩;obtain⟨ob,c,e,g1,g2,g3,g4,g5,g6,g7,g8,g9,g10,g11⟩:=hs.store.live o d ho;refine⟨ob,c,e,g1,g2,g3,g4,g5,g6,g7,g8,g9,g10,fun i x hi=>?_⟩;obtain⟨k0,y,k1,k2⟩:=g11 i x hi;exact⟨k0,y,k1,ni _ _ hE k2⟩
  refine i4 ops nt m hops hk M w0 D0 D a _ ⟨hsd.env,hsd.tm,hsd.df,hsd.mem m,hsd.gr,hsd.fr,hsd.kp⟩ (fun i x hx _ hmk=>?_) Q (fun D' a' w' h=>hQ D' a' w' h) _ _ (by simp) (fun i=>?_) ?_
  ·have hkm:x.k<m:=adx l hk x (aS hx) hmk;simp only [aO,List.length_replicate];exact⟨by omega,hsd.store.far _ (by omega)⟩
  ·simp only [dh,Array.getElem?_replicate];split<;>simp
  simp
 |
  @atF l done st h =>
  refine⟨rfl,rfl,rfl,aJ _,?_⟩;intro ops nt m htr hk M w0 D0 D a w hs hid Q hQ fuel listed h1 h2 h3;refine wpAny_done ?_ (hQ D a w hs) fuel
  apply List.eq_nil_iff_forall_not_mem.2
  intro i hi;rw [XT htr h1 h2,h i]at hi
  cases hi
 |
  @atG l done st st' i0 h0 f h h' ih ih' =>
  obtain⟨_,b1,b2,b3,_⟩:=ih' i0 h0;obtain⟨x0,hx0⟩:∃x0,l[i0]? = some x0:=by
   unfold xg at h0;split at h0<;>first|(cases h0;done)|skip
   exact⟨_,by assumption⟩
  obtain⟨_,a1,a2,a3,_⟩:=ih i0 x0 hx0 h0;refine⟨rfl,b1.trans a1,b2.trans a2,bV a3 b3,?_⟩;intro ops nt m htr hk M w0 D0 D a w hs hid Q hQ fuel listed h1 h2 h3;have adA:∀i,i∈Region.ready .any ops listed↔xg l done i=true:=fun i=>XT htr h1 h2;have hpos:fuel≠0:=by
   rintro rfl;have hi:=(adA i0).2 h0;have:=(mem_ready.1 hi).1;obtain⟨_,o,ho,_⟩:=mem_ready.1 hi;have hlt:=(iK.1 ho).1;have hmem:false∈listed.toList:=by
    have:listed[i0]'(by omega)=false:=by
     rw [dh,Array.getElem?_eq_getElem (by omega)]at this;simpa using this
    rw [←this];simp
   have:=List.count_pos_iff.2 hmem;omega
  obtain⟨fuel,rfl⟩:=Nat.exists_eq_succ_of_ne_zero hpos;refine⟨fun hnil=>?_,fun i hi=>?_⟩
  ·have:=(adA i0).2 h0;rw [hnil]at this;cases this
  have hr:=(adA i).1 hi;obtain⟨e1,e2⟩:=Rt htr;obtain⟨_,o,ho,_⟩:=mem_ready.1 hi;have hlt:=(iK.1 ho).1;have hil:i<l.length:=by rw [e1];simpa using hlt
  obtain⟨o',k',ho',hx⟩:=e2 i l[i] (by simp [hil]);have:o'=o:=by rw [fF]at ho';rw [ho]at ho';exact(Option.some.inj ho').symm
  subst this;have hli:l[i]? = some l[i]:=by simp [hil]
  have hnd:i∉done:=by
   unfold xg at hr;rw [hli]at hr;simp only [aG,fO]at hr;simpa using hr.1
  obtain⟨_,c1,c2,c3,c4⟩:=ih i l[i] hli hr;obtain⟨_,d1,d2,d3,d4⟩:=ih' i hr;have key:=c4 ops true nt m k' o' hx M w0 D0 D a w hs (fun hmk=>hid i l[i] hli hnd hmk) (wpAny P .any ops Q fuel (listed.setIfInBounds i true)) Q (fun D' a' w' hs' hun=>by
   refine d4 ops nt m htr hk M w0 D0 D' a' w' hs' (fun j y hy hj hmk=>?_) Q hQ fuel _ (by simpa using h1) (fun j=>?_) ?_
   ·simp only [aH,not_or]at hj;rw [c1];obtain⟨g1,g2⟩:=hid j y hy hj.2 hmk;refine⟨aU g1 c3,hun _ (Nat.le_add_right _ _) g1 g2 ?_⟩;intro he;have hne:=akN l hk j i y l[i] hy hli hj.1 hmk;omega
   ·rw [dh,Array.getElem?_setIfInBounds];by_cases hij:i=j
    ·subst hij;simp [h1,hlt]
    rw [if_neg hij,←dh,h2 j];simp only [aH];constructor
    ·exact .inr
    rintro(h|h)
    ·exact absurd h.symm hij
    exact h
   have hfi:listed[i]'(by omega)=false:=by
    have:=(mem_ready.1 hi).1;rw [dh,Array.getElem?_eq_getElem (by omega)]at this;simpa using this
   rw [Array.toList_setIfInBounds,List.count_set (by simpa using (by omega:i<listed.size))];have h4:listed.toList[i]'(by simpa using (by omega:i<listed.size))=false:=by simpa using hfi
   have h5:0<listed.toList.count false:=List.count_pos_iff.2 (by rw [←h4];exact fD _);simp only [h4,beq_self_eq_true,if_true];have:(true == false)=false:=rfl;simp only [this,bn,if_false];omega)
  unfold wpOp;simp only [ho];split
  ·rename_i hw;rw [if_pos hw]at key;exact .inl key
  rename_i hw;rw [if_neg hw]at key;exact key
 |
  @atH a b st st1 o h h' ih ih' =>
  cases o with
  |fn r σ=>trivial
  |code e st2 =>
  obtain⟨⟨i1,i2⟩,_⟩:=ih;obtain⟨⟨j1,j2⟩,_⟩:=ih';refine⟨⟨j1.trans i1,?_⟩,fun x h=>by cases h⟩;intro nt cc htr M w0 D0 D a w hs Q hQ;obtain⟨ca,cb,rfl,ha,hb⟩:=Et htr;refine Go.wp_seq (i2 nt ca ha M w0 D0 D a w hs _ fun D' a' w' hs'=>?_);exact j2 nt cb hb M w0 D0 D' a' w' hs' Q hQ
 |
  @aoX a b st e st1 he h ih =>
  obtain⟨⟨i1,i2⟩,_⟩:=ih;refine⟨⟨i1,?_⟩,fun x h=>by cases h⟩;intro nt cc htr M w0 D0 D a w hs Q hQ;obtain⟨ca,cb,rfl,ha,hb⟩:=Et htr;exact Go.wp_seq (i2 nt ca ha M w0 D0 D a w hs _ fun D' a' w' hs'=>an4 he (hQ D' a' w' hs'))
 |
  @cond x a b st t o hx h ih =>
  cases o with
  |fn r σ=>trivial
  |code e st2 =>
  obtain⟨⟨i1,i2⟩,_⟩:=ih;refine⟨⟨i1,?_⟩,fun x h=>by cases h⟩;intro nt cc htr M w0 D0 D a w hs Q hQ;obtain⟨oc,ca,cb,rfl,h1,ha,hb⟩:=Et htr;have hv:=ny hs.env h1;rw [hx]at hv;simp only [rd]at hv;refine Go.wp_cond hv (i2 nt _ ?_ M w0 D0 D _ w hs Q hQ)
  cases t
  ·exact hb
  exact ha
 |
  @block id c st e st1 h ih =>
  obtain⟨⟨i1,i2⟩,_⟩:=ih;refine⟨⟨i1,?_⟩,fun x h=>by cases h⟩;intro nt cc htr M w0 D0 D a w hs Q hQ;obtain⟨ca,rfl,ha⟩:=Et htr;refine Go.wp_block (i2 nt ca ha M w0 D0 D a w hs _ fun D' a' w' hs'=>?_);have:=hQ D' a' w' hs'
  cases e with
  |normal=>exact this
  |ret=>exact this
  |
   exit id' =>
   simp only [Zw,Zo,Exit.inBlock]at this ⊢;by_cases hid:id'=id
   ·simp only [hid,if_true]at this ⊢;exact this
   simp only [hid,if_false]at this ⊢;exact this
 |
  @aoa c st st1 o h h' ih ih' =>
  cases o with
  |fn r σ=>trivial
  |code e st2 =>
  obtain⟨⟨i1,i2⟩,_⟩:=ih;obtain⟨⟨j1,_⟩,j2⟩:=ih';have key:X4 P ν c e st st2:=by
   intro nt cc htr M w0 D0 D a w hs Q hQ b k cs;obtain⟨x,a1,w1,⟨D1,hx,hs1⟩,harr⟩:=i2 nt cc htr M w0 D0 D a w hs (fun x a' w'=>∃D',x=.normal∧SR nt M w0 D0 st1 D' a' w') (fun D' a' w' h=>⟨D',rfl,h⟩) b (.inLoop cc::k) cs;subst hx;obtain⟨x2,a2,w2,q2,awd⟩:=j2 c rfl nt cc htr M w0 D0 D1 a1 w1 hs1 Q hQ b k cs;exact⟨x2,a2,w2,q2,.of_steps (Steps.trans harr (.one step_inLoop)) awd⟩
  exact⟨afg (j1.trans i1) key,fun x hx=>by cases hx;exact key⟩
 |
  @agU c st e st1 he h ih =>
  obtain⟨⟨i1,i2⟩,_⟩:=ih;have key:X4 P ν c e st st1:=by
   intro nt cc htr M w0 D0 D a w hs Q hQ b k cs;obtain⟨x,a1,w1,⟨D1,hx,hs1⟩,harr⟩:=i2 nt cc htr M w0 D0 D a w hs (fun x a' w'=>∃D',x=Zw e∧SR nt M w0 D0 st1 D' a' w') (fun D' a' w' h=>⟨D',rfl,h⟩) b (.inLoop cc::k) cs;subst hx;exact⟨_,a1,w1,hQ D1 a1 w1 hs1,.pass (x:=.inLoop cc) rfl (fun _ _=>.inl (an3 he)) harr⟩
  exact⟨afg i1 key,fun x hx=>by cases hx;exact key⟩
 |
  exit id st =>
  refine⟨⟨rfl,?_⟩,fun x h=>by cases h⟩;intro nt cc htr M w0 D0 D a w hs Q hQ;have hc:cc=.exit id:=Et htr;subst hc;exact Go.wp_exit (hQ D a w hs)
 |
  ret st =>
  refine⟨⟨rfl,?_⟩,fun x h=>by cases h⟩;intro nt cc htr M w0 D0 D a w hs Q hQ;have hc:cc=.ret:=Et htr;subst hc;exact Go.wp_ret (hQ D a w hs)
 |
  @gc c st o ρ hn hρ h ih =>
  cases o with
  |fn r σ=>trivial
  |code e st2 =>
  obtain⟨⟨i1,i2⟩,i3⟩:=ih;refine⟨⟨i1,?_⟩,?_⟩
  ·intro nt cc htr M w0 D0 D a w hs Q hQ;exact i2 nt cc htr M w0 D0 _ a w (hs.gc hn hρ) Q hQ
  intro x hx nt cc htr M w0 D0 D a w hs Q hQ;exact i3 x hx nt cc htr M w0 D0 _ a w (hs.gc hn hρ) Q hQ
 |
  nil st =>
  refine⟨rfl,rfl,rfl,aJ _,?_⟩;intro ops dr nt m k rest htr hk M w0 D0 D a w hs hid Q hQ
  cases rest with
  |nil=>exact hQ D a w hs
  |
   cons r rest =>
   simp only [JY]at htr;split at htr<;>first|(cases htr;done)|skip
   split at htr<;>first|(cases htr;done)|skip
 |
  @cons o l st st1 out h h' ih ih' =>
  cases out with
  |fn r σ=>trivial
  |code e st2=>exact⟨ih'.1,ady ih.2 ih'.2⟩
 |off hg he=>exact⟨rfl,ahf hg he⟩
 |op hg h=>exact⟨rfl,ali hg h⟩
 |Zp hg hi ha h hR ih=>exact⟨rfl,abQ hg hi ha ih hR⟩
 |agV ρ hn hρ hg hi h ih=>exact⟨rfl,abR hn hρ hg hi ih⟩
 |agW hg hi ha h hR ih=>exact⟨rfl,acy hg hi ha ih hR⟩
 |agX hg hi h hl hb ih=>exact⟨rfl,acz hg hi ih hl hb⟩
 | @fn f args σ F e st' rs hf hl h he hr ih=>exact an5 hT hf hl (fun o e=>arX h o (St.enter args σ) (by rw [e])) ih.1 he hr
 |lib hf hb h=>exact akO hT hf hb h
 |WL h hr ih=>exact ahi hr ih
 |gcF ρ hn hρ h ih=>exact ahh hn hρ ih
 |
  @forget c st st2 o he ho hk h' ih =>
  cases o with
  |fn r σ=>trivial
  |code e st3 =>
  obtain⟨⟨i1,i2⟩,i3⟩:=ih;refine⟨⟨i1.trans hk,?_⟩,?_⟩
  ·intro nt cc htr M w0 D0 D a w hs Q hQ;exact i2 nt cc htr M w0 D0 _ a w (hs.forget he ho hk) Q hQ
  intro x hx nt cc htr M w0 D0 D a w hs Q hQ;exact i3 x hx nt cc htr M w0 D0 _ a w (hs.forget he ho hk) Q hQ
 |
  @re c st st2 o W h h' ih =>
  cases o with
  |fn r σ=>trivial
  |code e st3 =>
  obtain⟨⟨i1,i2⟩,i3⟩:=ih;refine⟨⟨i1.trans h.keep,?_⟩,?_⟩
  ·intro nt cc htr M w0 D0 D a w hs Q hQ;exact i2 nt cc htr M w0 D0 _ a w (hs.re h) Q hQ
  intro x hx nt cc htr M w0 D0 D a w hs Q hQ;exact i3 x hx nt cc htr M w0 D0 _ a w (hs.re h) Q hQ
 |reF W ha h hs hr ih=>exact aiu ha hs hr ih
 |abG ha h hr ih=>exact afX ha hr ih
end
end Go.Ml
end
section
namespace Go.Ml
open Go.ChangeShapes Go.WideShapes Go.ChangeAt Go.RowKit
def Ru:List (Nat×Nat×Fn)→Nat→Option Nat
 | [],_=>none
 |x::l,i=>if x.1=i then some x.2.1 else Ru l i
def VH:List (Nat×Nat×Fn)→Tb
 | [],_=>none
 |x::l,k=>if x.2.1=k then some x.2.2 else VH l k
theorem abt:∀{l:List (Nat×Nat×Fn)} {i k:Nat},Ru l i=some k→∃x∈l,x.1=i∧x.2.1=k
 | [],_,_,h=>by simp [Ru]at h
 |
  x::l,i,k,h=>by
  simp only [Ru]at h;split at h
  ·rename_i e;exact⟨x,by simp,e,by simpa using h⟩
  obtain⟨y,hy,e⟩:=abt h;exact⟨y,by simp [hy],e⟩
theorem abu:∀{l:List (Nat×Nat×Fn)} {k:Nat} {F:Fn},VH l k=some F→∃x∈l,x.2.1=k∧x.2.2=F
 | [],_,_,h=>by simp [VH]at h
 |
  x::l,i,k,h=>by
  simp only [VH]at h;split at h
  ·rename_i e;exact⟨x,by simp,e,by simpa using h⟩
  obtain⟨y,hy,e⟩:=abu h;exact⟨y,by simp [hy],e⟩
theorem Ky{α β:Type}{f:α→β}:∀{l:List α},(l.map f).Nodup→∀{x y},x∈l→y∈l→f x=f y→x=y
 | [],_,_,_,h,_,_=>by cases h
 |
  a::l,hn,x,y,hx,hy,e=>by
  simp only [bU,gI]at hn;rcases aH.1 hx with rfl|hx'<;>rcases aH.1 hy with rfl|hy'
  ·rfl
  ·exact absurd (e▸ig hy') hn.1
  ·exact absurd (e▸ig hx') hn.1
  exact Ky hn.2 hx' hy' e
theorem an6{P:Program}{l:List (Nat×Nat×Fn)}(hnd:(l.map (·.2.1)).Nodup)(h:∀x∈l,(∃fn,P.funcs[x.1]? = some fn∧abO P (Ru l) fn=some x.2.2)∨∃o,x.2.2.body=.lib o∧akL P x.1 o):Fits P (Ru l) (VH l):=by
 intro fid f F h1 h2;obtain⟨x,hx,e1,e2⟩:=abt h1;obtain⟨y,hy,e3,e4⟩:=abu h2;have:x=y:=Ky hnd hx hy (e2.trans e3.symm);subst this;rw [←e1,←e4];exact h x hx
theorem akP{P:Program}{l:List (Nat×Nat×Fn)}(hm:P.follows .mixedOrders=true)(hT:Fits P (Ru l) (VH l)){f fid:Nat}{args:List V}{r:V}(h:PF (VH l) f args r)(hf:Ru l fid=some f)
  {w:World} {vals:Array Value} (hr:oL w DM.none (fun _=>False) args vals.toList) :
  Calls P fid vals w fun e w'=>(∃v D X,e=.returned v∧rd w' D X r v)∧Below w.heap.size w w':=by
 have hs:=sound hm hT h;have hX:XS (fun _=>False) DM.none=fun _=>False:=by
  funext b;simp [XS,DM.none]
 refine(hs fid hf w (fun _=>False) DM.none vals (by rw [hX];exact hr) ⟨?_,?_,?_,?_,?_⟩).mono fun e w' hp=>?_
 ·intro o d h;cases h
 ·intro o ob h;simp [iZ]at h
 ·intro o o' d d' h;cases h
 ·intro o _;rfl
 ·intro b h;exact h.elim
 obtain⟨v,D',e1,e2,e3,e4,_⟩:=hp;refine⟨⟨v,D',_,e1,e2⟩,⟨e4.os,e4.tape,e4.output,e4.size,fun k hk=>e4.block k hk ?_⟩⟩;rintro⟨o,d,h,_⟩;cases h
theorem adB{P:Program}{l:List (Nat×Nat×Fn)}(hm:P.follows .mixedOrders=true)(hT:Fits P (Ru l) (VH l)){f fid:Nat}{args:List V}(h:PF (VH l) f args (.bool true))(hf:Ru l fid=some f)
  {w:World} {vals:Array Value} (hr:oL w DM.none (fun _=>False) args vals.toList) :
  Calls P fid vals w fun e w'=>e=.returned (.bool true)∧Below w.heap.size w w' :=
 (akP hm hT h hf hr).mono fun e w' hp=>by
  obtain⟨⟨v,D,X,rfl,e2⟩,hb⟩:=hp;have:v=.bool true:=by simpa [rd]using e2
  exact⟨by rw [this],hb⟩
end Go.Ml
end
section
namespace Go.Ml
open Go.ChangeShapes Go.WideShapes Go.ChangeAt Go.RowKit
inductive Lf where
 |int (k:IntKind)
 |bool
 |str
 |sl (row:List Lf)
mutual
def Mt:Lf→V→Prop
 |.int k,v=>∃n,v=.int k n∧(Lit.int k n).wf=true
 |.bool,v=>∃b,v=.bool b
 |.str,v=>∃s,v=.str s∧s.length≤maxLen
 |.sl row,v=>∃rows:List (List V),v=.sl row.length rows∧rows.length≤maxLen∧∀r∈rows,OQ row r
def OQ:List Lf→List V→Prop
 | [],vs=>vs=[]
 |l::ls,vs=>∃v vs',vs=v::vs'∧Mt l v∧OQ ls vs'
end
def akQ(P:Program)(sh:TypeId→Option (List Lf)):List Field→Nat→Option (List Lf)
 | [],_=>some []
 |
  f::fs,off=>match sh f.type,akQ P sh fs (off+P.cellsOf f.type)with
  |some r,some rs=>if f.offset=off∧r.length=P.cellsOf f.type then some (r++rs)else none
  |_,_=>none
def shapeOf(P:Program):Nat→TypeId→Option (List Lf)
 |0,_=>none
 |
  n+1,t=>match P.underlying t with
  |some (.int k)=>some [.int k]
  |some .bool=>some [.bool]
  |some .string=>some [.str]
  |
   some (.slice e)=>match shapeOf P n e with
   |some r=>if r.length=P.cellsOf e∧0<r.length then some [.sl r]else none
   |none=>none
  |
   some (.struct fs)=>match akQ P (shapeOf P n) fs.toList 0 with
   |some r=>if r.length=P.cellsOf t then some r else none
   |none=>none
  |_=>none
theorem adC{l1 l2:List Lf}{v1 v2:List V}(h1:OQ l1 v1)(h2:OQ l2 v2):OQ (l1++l2) (v1++v2):=by
 induction l1 generalizing v1 with
 |nil=>simp only [OQ]at h1;subst h1;simpa using h2
 |
  cons l l1 ih =>
  simp only [OQ]at h1;obtain⟨v,vs,rfl,a,b⟩:=h1;simp only [bK,OQ];exact⟨v,vs++v2,rfl,a,ih b⟩
theorem afh{l:List Lf}{v:List V}(h:OQ l v):v.length=l.length:=by
 induction l generalizing v with
 |nil=>simp only [OQ]at h;subst h;rfl
 |
  cons x l ih =>
  simp only [OQ]at h;obtain⟨v,vs,rfl,a,b⟩:=h;simp [ih b]
theorem an7:∀{l:Lf} {v:V},Mt l v→v.leaf=true:=by
 intro l v h
 cases l<;>simp only [Mt]at h
 ·obtain⟨n,rfl,_⟩:=h;rfl
 ·obtain⟨b,rfl⟩:=h;rfl
 ·obtain⟨s,rfl,_⟩:=h;rfl
 obtain⟨rows,rfl,_⟩:=h;rfl
theorem akR{l:List Lf}{v:List V}(h:OQ l v):∀x∈v,x.leaf=true:=by
 induction l generalizing v with
 |nil=>simp only [OQ]at h;subst h;intro x hx;cases hx
 |
  cons y l ih =>
  simp only [OQ]at h;obtain⟨v,vs,rfl,a,b⟩:=h;intro x hx;rcases aH.1 hx with rfl|hx
  ·exact an7 a
  exact ih b x hx
theorem XU{w:World}{D:DM}{X:Nat→Prop}{b sz:Nat}:∀(off:Nat) (rows:List (List V)),
  (∀i r,rows[i]? = some r→r.length=sz∧nO w D X b (off+i*sz) r)→qh w D X b sz off rows
 |_,[],_=>by simp [qh]
 |
  off,r::rows,h=>by
  simp only [qh];have h0:=h 0 r rfl;refine⟨h0.1,by simpa using h0.2,XU (off+sz) rows fun i r' hi=>?_⟩;have:=h (i+1) r' (by simpa using hi)
  rwa [show off+(i+1)*sz=off+sz+i*sz by rw [fZ];omega]at this
theorem L6{w:World}{D:DM}{X:Nat→Prop}{b:Nat}:∀(off:Nat) (vs:List V) (cs:List Value),oL w D X vs cs→(∀x∈vs,x.leaf=true) →
  (∀i,i<cs.length→w.cell? ⟨b,off+i,none⟩=cs[i]?)→nO w D X b off vs
 |_,[],_,_,_,_=>by simp [nO]
 |
  off,v::vs,cs,h,hl,hc=>by
  simp only [oL]at h;obtain⟨y,ys,rfl,h1,h2⟩:=h;simp only [nO];refine⟨hl v (by simp),⟨y,by simpa using hc 0 (by simp),h1⟩,L6 (off+1) vs ys h2 (fun x hx=>hl x (by simp [hx])) fun i hi=>?_⟩;have:=hc (i+1) (by simpa using hi);rw [show off+1+i=off+(i+1) by omega,this];simp
section
variable {H : Type} {enc : TypeId × Value → H} {P : Program} {w : World}
theorem VI:∀(n:Nat) {t:TypeId} {L:List Lf} {fuel:Nat} {cs:List Value} {x:DataW H×List MemPlace},shapeOf P n t=some L →
  DataW.trod enc P w 0 (fun _=>true) true fuel t cs=some x→∃vs,OQ L vs∧oL w DM.none (fun _=>False) vs cs
 |0,t,L,fuel,cs,x,h,_=>by simp [shapeOf]at h
 |
  n+1,t,L,fuel,cs,x,h,hx=>by
  cases fuel with
  |zero=>simp [DataW.trod]at hx
  |succ fuel =>
  simp only [shapeOf]at h;split at h
  ·rename_i k hu;simp only [aB]at h;subst h;obtain⟨m,rfl,_,hw⟩:=DataW.trod_int hu hx;exact⟨[.int k m],by simp [OQ,Mt,hw],by simp [oL,rd]⟩
  ·rename_i hu;simp only [aB]at h;subst h;rw [DataW.trod_step]at hx;unfold DataW.trodStep at hx;rw [hu]at hx;split at hx<;>simp_all;rename_i b;exact⟨[.bool b],by simp [OQ,Mt],by simp [oL,rd]⟩
  ·rename_i hu;simp only [aB]at h;subst h;rw [DataW.trod_step]at hx;unfold DataW.trodStep at hx;rw [hu]at hx;split at hx<;>simp_all;rename_i s;exact⟨[.str s.data.toList],by simp [OQ,Mt];exact hx.1,by simp [oL,rd]⟩
  ·rename_i e hu;split at h<;>first|(cases h;done)|skip
   rename_i r hr;split at h<;>first|(cases h;done)|skip
   rename_i hsz;simp only [aB]at h;subst h;rcases DataW.trod_slice hu hx with ⟨rfl,_⟩|⟨a,len,cap,elems,rest,m,_,rfl,_,hb,hl,hm,hlen,hel,_,_⟩
   ·exact⟨[.sl r.length []],by simp [OQ,Mt],by simp only [oL,rd];exact⟨_,[],rfl,⟨none,0,rfl,aJ _,.inl (by trivial)⟩,rfl⟩⟩
   have aAn:∀i,i<len→∃cs',w.cells? 0 (a.add (i*P.cellsOf e)) (P.cellsOf e)=some cs'∧∃vs,OQ r vs∧oL w DM.none (fun _=>False) vs cs':=by
    intro i hi;have h1:=hel i hi;have h2:elems[i]? = some (elems[i]'(by omega)):=au (by omega);rw [h2,dL]at h1;obtain⟨cs',k1,k2⟩:=h1;exact⟨cs',k1,VI n hr k2⟩
   have hch:∀i,∃p:List Value×List V,i<len→w.cells? 0 (a.add (i*P.cellsOf e)) (P.cellsOf e)=some p.1∧OQ r p.2∧oL w DM.none (fun _=>False) p.2 p.1:=by
    intro i;by_cases hi:i<len
    ·obtain⟨cs',k1,vs,k2,k3⟩:=aAn i hi;exact⟨(cs',vs),fun _=>⟨k1,k2,k3⟩⟩
    exact⟨([],[]),fun h=>absurd h hi⟩
   obtain⟨f,hf⟩:=Classical.axiomOfChoice hch;have hrow:∀i vs,((List.range len).map fun i=>(f i).2)[i]? = some vs→i<len∧vs=(f i).2:=by
    intro i vs hi;rw [bI,aI]at hi;obtain⟨j,h1,h2⟩:=hi;obtain⟨h3,h4⟩:=aN.1 h1;rw [List.getElem_range]at h4;subst h4;exact⟨by simpa using h3,h2.symm⟩
   refine⟨[.sl r.length ((List.range len).map fun i=>(f i).2)],?_,?_⟩
   ·simp only [OQ,Mt];refine⟨_,[],rfl,⟨_,rfl,by simp;exact bV hl hm,fun rr hrr=>?_⟩,rfl⟩;obtain⟨i,hi⟩:=bD.1 hrr;obtain⟨h1,rfl⟩:=hrow i rr hi;exact(hf i h1).2.1
   simp only [oL,rd];refine⟨_,[],rfl,⟨some a,cap,by simp,by simpa using hl,?_⟩,rfl⟩;by_cases h0:len=0
   ·left;subst h0;rfl
   right;obtain⟨b,off,spot⟩:=a;have hspot:spot=none:=by
    obtain⟨_,_,hc⟩:=World.cells?_some (hf 0 (by omega)).1;have hlen0:=(World.cells?_some (hf 0 (by omega)).1).2.1;have hc0:=hc 0 (by omega);have hlt0:0<(f 0).1.length:=by omega
    rw [au hlt0]at hc0;simpa [Addr.add]using World.cell?_spot hc0
   subst hspot;have hb':b<w.heap.size:=by
    have:=World.cells?_block (hf 0 (by omega)).1 (by omega);simpa [Addr.add]using this
   refine⟨b,off,rfl,hb',fun h=>h,XU _ _ fun i rr hi=>?_⟩;obtain⟨h1,rfl⟩:=hrow i rr hi;obtain⟨g1,g2,g3⟩:=hf i h1;obtain⟨_,hl2,hc⟩:=World.cells?_some g1;refine⟨afh g2,L6 _ _ _ g3 (akR g2) fun j hj=>?_⟩;have:=hc j (by omega);rw [←this,hsz.1]
   congr 1
   simp only [addr_add]
  ·rename_i fs hu;split at h<;>first|(cases h;done)|skip
   rename_i r hr;split at h<;>first|(cases h;done)|skip
   rename_i hsz;simp only [aB]at h;subst h;rw [DataW.trod_step]at hx;unfold DataW.trodStep at hx;rw [hu]at hx;simp only []at hx;split at hx<;>first|(cases hx;done)|skip
   rename_i hlen;rw [aI]at hx;obtain⟨xs,hxs,_⟩:=hx;have key:∀(fl:List Field) (off:Nat) (r:List Lf) (xs:List (DataW H×List MemPlace)),akQ P (shapeOf P n) fl off=some r →
     (fl.mapM fun f=>DataW.trod enc P w 0 (fun _=>true) true fuel f.type ((cs.drop f.offset).take (P.cellsOf f.type)))=some xs →
     ∃vs,OQ r vs∧oL w DM.none (fun _=>False) vs ((cs.drop off).take r.length):=by
    intro fl
    induction fl with
    |
     nil =>
     intro off r xs h _;simp only [akQ,aB]at h;subst h;exact⟨[],by simp [OQ],by simp [oL]⟩
    |
     cons f fl ih =>
     intro off r xs h hm;simp only [akQ]at h;split at h<;>first|(cases h;done)|skip
     rename_i r1 rs h1 h2;split at h<;>first|(cases h;done)|skip
     rename_i hc;simp only [aB]at h;subst h;simp only [bF,iF,fG,dL,aB]at hm;obtain⟨y,hy,ys,hys,rfl⟩:=hm;obtain⟨v1,a1,a2⟩:=VI n h1 hy;obtain⟨v2,b1,b2⟩:=ih _ rs ys h2 hys;refine⟨v1++v2,adC a1 b1,?_⟩;have e:(cs.drop off).take (r1++rs).length=(cs.drop off).take r1.length++(cs.drop (off+P.cellsOf f.type)).take rs.length:=by
      rw [aO,List.take_add,List.drop_drop,hc.2]
     rw [e];rw [hc.1,←hc.2]at a2;exact Cj _ _ _ _ a2 b2
   obtain⟨vs,a1,a2⟩:=key fs.toList 0 r xs hr hxs;refine⟨vs,a1,?_⟩;rw [bY,bg (by omega)]at a2;exact a2
  cases h
theorem akS(n:Nat){t:TypeId}{L:List Lf}{v:Value}{d:DataW H}{ps:List MemPlace}(hs:shapeOf P n t=some L)(h:DataW.Trod enc P w 0 (fun _=>true) true t v d ps) :
  ∃vs,OQ L vs∧oL w DM.none (fun _=>False) vs v.cells.toList:=by
 obtain⟨fuel,hf⟩:=h;exact VI n hs hf
end
end Go.Ml
namespace Go.Ml
open Go.ChangeShapes Go.WideShapes Go.ChangeAt Go.RowKit
def akT(g:Bool)(vs:List V):V:=if g=true then .agg vs else vs.headD .any
def adD:List (Bool×List Lf)→List V→Prop
 | [],vs=>vs=[]
 |s::ss,vs=>∃cs rest,vs=akT s.1 cs::rest∧OQ s.2 cs∧adD ss rest
def aoU(P:Program)(t:TypeId)(s:Bool×List Lf):Bool :=
 match P.underlying t with
 |some (.struct _)=>s.1
 |some (.int _)|some .bool|some .string|some (.slice _)=>!s.1
 |_=>false
def VJ(P:Program):List TypeId→List (Bool×List Lf)→Prop
 | [],ss=>ss=[]
 |t::ts,ss=>∃s rest,ss=s::rest∧shapeOf P 20 t=some s.2∧aoU P t s=true∧VJ P ts rest
theorem afi{H:Type}{enc:TypeId×Value→H}{P:Program}{w:World}{r:Reach}{b:Nat}:∀{ts:List TypeId} {ss:List (Bool×List Lf)} {vs:List Value} {ds:List (DataW H)} {ps:List MemPlace},
  VJ P ts ss→(∀(j:Nat) t v,ts[j]? = some t→vs[j]? = some v→Value.okWide P w r b t v)→DataW.TrodAll enc P w 0 (fun _=>true) true ts vs ds ps →
  ∃Vs,adD ss Vs∧oL w DM.none (fun _=>False) Vs vs
 | [],ss,[],ds,ps,h,_,_=>by simp only [VJ]at h;subst h;exact⟨[],rfl,by simp [oL]⟩
 | [],_,_::_,ds,ps,_,_,ht=>by cases ds<;>exact ht.elim
 |_::_,_,[],ds,ps,_,_,ht=>by cases ds<;>exact ht.elim
 |t::ts,ss,v::vs,[],ps,_,_,ht=>ht.elim
 |
  t::ts,ss,v::vs,d::ds,ps,h,hw,ht=>by
  simp only [VJ]at h;obtain⟨s,rest,rfl,h1,h2,h3⟩:=h;obtain⟨p,q,k1,k2,_⟩:=ht;obtain⟨Vs,a1,a2⟩:=afi h3 (fun j t' v' hj hv=>hw (j+1) t' v' (by simpa using hj) (by simpa using hv)) k2;obtain⟨cs,c1,c2⟩:=akS 20 h1 k1;have hok:=hw 0 t v rfl rfl;refine⟨akT s.1 cs::Vs,⟨cs,Vs,rfl,c1,a1⟩,?_⟩;simp only [oL];refine⟨v,vs,rfl,?_,a2⟩;unfold aoU at h2;have one:(∀cs',v≠.agg cs')→s.1=false→s.2.length=1→rd w DM.none (fun _=>False) (akT s.1 cs) v:=by
   intro hv hs hl;have hvc:v.cells.toList=[v]:=by cases v<;>first|rfl|(exact absurd rfl (hv _))
   rw [hvc]at c2;have:=afh c1;rw [hl]at this
   cases cs with
   |nil=>simp at this
   |
    cons x xs =>
    simp only [oL]at c2;obtain⟨y,ys,e,e2,_⟩:=c2;simp only [List.cons.injEq]at e;rw [hs];simp only [akT,bn,if_false,List.headD_cons];rw [e.1];exact e2
  unfold shapeOf at h1;split at h2
  ·rename_i fs hu;rw [h2];simp only [Value.okWide,hu]at hok;obtain⟨cs',rfl,_⟩:=hok;simp only [akT,if_true,rd];exact⟨cs',rfl,c2⟩
  ·rename_i k hu;rw [hu]at h1;simp only [aB]at h1;obtain⟨n,rfl⟩:=okWide_int hu hok;exact one (by intro cs' e;cases e) (by simpa using h2) (by rw [←h1];rfl)
  ·rename_i hu;rw [hu]at h1;simp only [aB]at h1;obtain⟨n,rfl⟩:=okWide_bool hu hok;exact one (by intro cs' e;cases e) (by simpa using h2) (by rw [←h1];rfl)
  ·rename_i hu;rw [hu]at h1;simp only [aB]at h1;obtain⟨n,rfl⟩:=okWide_string hu hok;exact one (by intro cs' e;cases e) (by simpa using h2) (by rw [←h1];rfl)
  ·rename_i e hu;rw [hu]at h1;simp only []at h1;obtain⟨a0,l0,c0,rfl⟩:=okWide_slice hu hok;refine one (by intro cs' e;cases e) (by simpa using h2) ?_;split at h1<;>first|(cases h1;done)|skip
   split at h1<;>first|(cases h1;done)|skip
   simp only [aB]at h1;rw [←h1];rfl
  cases h2
theorem NI{H:Type}{enc:TypeId×Value→H}{P:Program}(hl:laidOutB P=true){W W':World}(hb:Below W.heap.size W W'):∀{ts:List TypeId} {vs:List Value} {ds:List (DataW H)} {ps:List MemPlace},
  (ts.all fun t=>P.readableRec t&&decide (t<P.types.size))=true→DataW.TrodAll enc P W 0 (fun _=>true) true ts vs ds ps→(∀x∈ps,x.block<W.heap.size) →
  DataW.TrodAll enc P W' 0 (fun b=>decide (b<W.heap.size)) true ts vs ds ps
 | [],[],[],ps,_,h,_=>h
 | [],_::_,ds,ps,_,ht,_=>by cases ds<;>exact ht.elim
 | [],[],_::_,ps,_,ht,_=>ht.elim
 |_::_,[],ds,ps,_,ht,_=>by cases ds<;>exact ht.elim
 |t::ts,v::vs,[],ps,_,ht,_=>ht.elim
 |
  t::ts,v::vs,d::ds,ps,h,ht,hlt=>by
  simp only [dU,aG,decide_eq_true_eq]at h;obtain⟨p,q,k1,k2,rfl⟩:=ht;exact⟨p,q,Below.trod hl h.1.1 h.1.2 k1 hb fun x hx=>hlt x (by simp [hx]),NI hl hb (by simpa using h.2) k2 fun x hx=>hlt x (by simp [hx]),rfl⟩
end Go.Ml
end
section
namespace Go.Ml
theorem akU{α:Type}{row:List Lf}{f:α→List V}{W:α→Prop}(h:∀r,OQ row r→∃x,r=f x∧W x){v:V}(hv:Mt (.sl row) v):∃l:List α,v=.sl row.length (l.map f)∧IQ W l:=by
 simp only [Mt]at hv;obtain⟨rows,rfl,hl,hr⟩:=hv;have key:∀rows:List (List V),(∀r∈rows,OQ row r)→∃l:List α,rows=l.map f∧∀x∈l,W x:=by
  intro rows
  induction rows with
  |nil=>intro _;exact⟨[],rfl,by simp⟩
  |
   cons r rows ih =>
   intro hr;obtain⟨x,rfl,hx⟩:=h r (hr r (by simp));obtain⟨l,rfl,hl⟩:=ih fun r hr'=>hr r (by simp [hr']);exact⟨x::l,rfl,by simpa using ⟨hx,hl⟩⟩
 obtain⟨l,rfl,hw⟩:=key rows hr;exact⟨l,rfl,by simpa [maxLen]using hl,hw⟩
theorem afj{l:Lf}{r:List V}(h:OQ [l] r):∃v,r=[v]∧Mt l v:=by
 simp only [OQ]at h;obtain⟨v,vs,rfl,h1,rfl⟩:=h;exact⟨v,rfl,h1⟩
theorem agE{v:V}(h:Mt (.sl [.int .u8]) v):∃l:List UInt8,v=.sl 1 (l.map fun b=>[.int .u8 b.toNat])∧l.length≤9223372036854775807:=by
 obtain⟨l,rfl,hl⟩:=akU (f:=fun b:UInt8=>[V.int .u8 b.toNat]) (W:=fun _=>True) (fun r hr=>by
  obtain⟨v,rfl,g⟩:=afj hr;simp only [Mt]at g;obtain⟨n,rfl,hn⟩:=g;simp only [Lit.wf,aG,decide_eq_true_eq]at hn;have h1:IntKind.u8.min=0:=by decide
  have h2:IntKind.u8.max=255:=by decide
  rw [h1,h2]at hn;refine⟨UInt8.ofNat n.toNat,?_,trivial⟩;have e:(((UInt8.ofNat n.toNat).toNat:Nat):Int)=n:=by
   rw [UInt8.toNat_ofNat',Nat.mod_eq_of_lt (by omega)];omega
  rw [e]) h
 exact⟨l,rfl,hl.1⟩
def akV{α:Type}(P:α→Prop):List α→Prop
 | []=>True
 |x::l=>P x∧akV P l
theorem akV.mem{α:Type}{P:α→Prop}:∀{l:List α},akV P l→∀x∈l,P x
 | [],_,x,hx=>by cases hx
 |
  y::l,h,x,hx=>by
  rcases aH.1 hx with rfl|hx
  ·exact h.1
  exact akV.mem h.2 x hx
end Go.Ml
namespace Go.Ml
theorem abv{H:Type}{enc:TypeId×Value→H}{P:Program}{w:World}{b:Nat}{sp:Nat→Bool}{hd:Bool}:∀{ts:List TypeId} {vs:List Value} {ds:List (DataW H)} {ps:List MemPlace},
  DataW.TrodAll enc P w b sp hd ts vs ds ps→ds.length=ts.length
 | [],[],[],_,_=>rfl
 | [],[],_::_,_,h=>h.elim
 | [],_::_,ds,_,h=>by cases ds<;>exact h.elim
 |_::_,[],ds,_,h=>by cases ds<;>exact h.elim
 |_::_,_::_,[],_,h=>h.elim
 |
  t::ts,v::vs,d::ds,ps,h=>by
  obtain⟨p,q,_,h2,_⟩:=h;simp [abv h2]
end Go.Ml
end
