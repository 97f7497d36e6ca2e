/- Contracts of functions. -/
import Derived.Test.YtbccjdlcbhknoabGreatPart5
set_option linter.unusedSimpArgs false
set_option linter.unusedVariables false
set_option maxRecDepth 100000
set_option maxHeartbeats 16000000
section
namespace Go.Ml
theorem MO{σ:Store}{r:V}{L:List Int}{os:List Nat}(h:lM σ r (ints L) os):lenOf σ r=some L.length:=by
 rcases h.wX with ⟨rfl,rfl,_⟩|⟨q,rfl,hob,_⟩
 ·rfl
 simp [lenOf,hob]
theorem TM{T:Tb}(h:yX T){l:List Lk}{last:List Int}(hw:Bg Lk.wf l:=by exact lX)(hl:l.length≤1048576:=by exact lX)(ho:last.length≤1048576:=by exact lX):PO T 299 [kY l,ints last] (ints (TT l last)):=by
 have ci:=vO h.lZ hw;unfold TT
 cases hb:lH l
 ·rw [hb]at ci;rw [if_neg (by simp)];refine kW (fun x d=>x == 314||x == 321||x == 315) h.hT ?_;simp only [qZ,Lz,St.enter,aj,au,aN];refine ew ?_;refine jy ci ?_;refine ew ?_;exact CZ
 rw [hb]at ci;rw [if_pos rfl];have rn:=anW h.aaG hw hb;have cn:=WW h.Lc hw hl;have hnl:=GH l;have hrg:=fun a=>@Zi l a;have hmd:=fun k hk=>ai7 (last:=last) (Kv (OY l)) (Yb hb l.length (aP _)) k hk;generalize wZ l=ns at cn hnl hrg hmd ⊢;generalize hg0:gOf l l.length=g0 at rn hmd ⊢;refine kW (fun x d=>x == 314||x == 321||x == 315) h.hT ?_;simp only [qZ,Lz,St.enter,aj,au,aN];refine ew ?_;refine jy ci ?_;refine ew ?_;refine Rj rn (by (refine ew ?_;try with_reducible exact True.intro)) (by (refine ew ?_;try with_reducible exact True.intro)) ?_;have hG:=@am8 [none] g0;rw [show lD (mV ([none]:Store).length) (.ptr 0 0 0)=.ptr 1 0 0 from rfl];rw [show ([none]:Store).length=1 from rfl]at hG;generalize zo [none] (UN g0)=s1 at hG ⊢;refine ew ?_;refine jy cn ?_;refine ew ?_;refine kG (fun x d=>x == 314||x == 321||x == 315) (α:=Nat×Store×Nat×List Int) (fun q=>⟨kX [.any,ints last,.any,.any,.any,slP q.2.2.1 q.2.2.2.length,.ptr 1 0 0,ints ns],q.2.1,0,0,[],[]⟩) (fun q=>q.1≤ns.length∧oM q.2.1 1 (LP last g0 ns q.1).1∧q.2.2.2=(LP last g0 ns q.1).2.2∧13≤q.2.2.1∧(q.2.2.2≠[]→jH q.2.1 q.2.2.1=some ⟨1,kF q.2.2.2⟩)) (fun q=>ns.length-q.1) rfl (0,s1,13,[]) ?_ ?_ ?_
 ·exact⟨by omega,hG,rfl,by dsimp only;omega,fun h=>absurd rfl h⟩
 ·dsimp only;rw [show slP 13 ([]:List Int).length=.jL from rfl]
  (refine jW ?_;exact qw)
 clear hG;rintro⟨k,s,p,xs⟩ ⟨hk,hG,hx0,hp,hob⟩;dsimp only at hk hG hx0 hp hob;have hm:=hmd k hk;have hxl:xs.length=k:=by rw [hx0,hm.out]
 have hx:xs.length≤10:=by omega
 have es:=ayL last g0 ns k;rw [←hx0]at es;have hml:=hm.len;have hms:=hm.sub;have hmr:=hm.rest;have hmg:=hm.gok;have hfin:k=ns.length→LP last g0 ns ns.length=LP last g0 ns k:=fun e=>by rw [e]
 generalize hS:LP last g0 ns k=S at es hml hms hmr hmg hfin hx0 hG;obtain⟨G,R,X⟩:=S;dsimp only at es hml hms hmr hmg hx0 hG;subst hx0;clear hm;by_cases hkc:k<ns.length
 ·have ahM:(xs.length:Int)<(ns.length:Nat):=by omega
  have hRr:∀x∈R,1≤x∧x≤9:=fun x hx=>hrg x (hms x hx);have hRn:R≠[]:=fun e=>by rw [e]at hml;simp at hml;omega
  have hbm:=ZQ (g:=G) (last:=last) hRn;have hsp:=aq6 (g:=G) (last:=last) (out:=xs) hmr hRn fun x hx=>by have:=hRr x hx;omega
  have hv:=hRr _ hbm;generalize hB:Va G R last=B at es hbm hsp hv;have re:=auQ h.Ru hmg (v:=B) (by omega);have pn:=fun v (hv:0≤v∧v≤9)=>ZN h.LH (g:=G) (v:=v) hv;have hln:=fun v=>Ya G v 10;have hlt:=hG.lt
  (rcases xs with _|⟨x,xs⟩<;>simp only [au,aj,ase,asf]at hx ahM hxl ⊢)
  ·clear hob
   skip
   refine qj @ahM ?_;refine kG (fun x d=>x == 314||x == 321||x == 315) (α:=Nat×Store×Int) (fun q=>⟨kX [.any,ints last,.any,.any,.any,.jL,.ptr 1 0 0,ints ns,iv q.2.2,.any,.any,.any,.any,.any,.any,.any,.any,.any,.any,.any,.any,.any,.any,.any,.any,ints ns,iv (ns.length:Nat),iv (q.1:Nat)],q.2.1,0,0,[],[]⟩) (fun q=>q.1≤ns.length∧oM q.2.1 1 G∧q.2.2=spk G last ([]:List Int) ns q.1∧True∧(-1≤q.2.2∧q.2.2≤9)) (fun q=>ns.length-q.1) rfl (0,s,-1) ?_ ?_ ?_
   ·exact⟨by omega,hG,rfl,trivial,by dsimp only;omega⟩
   ·(refine jW ?_;exact qw)
   clear hG hlt ;rintro⟨j,s,b⟩ ⟨hj,hG,hbk,_,hb9⟩;dsimp only at hj hG hbk hb9;have hlt:=hG.lt
   skip
   by_cases hjc:(j:Int)<(ns.length:Nat)
   ·have hjl:j<ns.length:=by omega
    have Xt:spk G last ([]:List Int) ns (j+1)=if ns.getD j 0∈([]:List Int)then spk G last ([]:List Int) ns j else LY G last (spk G last ([]:List Int) ns j) (ns.getD j 0):=rfl
    rw [←hbk]at Xt;have hv9:=hrg (ns.getD j 0) (by rw [ak,aB hjl];exact dP hjl);generalize hvv:ns.getD j 0=v at Xt hv9;have cho:=Jg h.rW (l:=([]:List Int)) (n:=v) (by simp);have chv:=Jg h.rW (l:=last) (n:=v) (by omega);have chb:=Jg h.rW (l:=last) (n:=b) (by omega);by_cases hvo:v∈([]:List Int)
    ·rw [decide_eq_true hvo]at cho;rw [if_pos hvo]at Xt;refine vW @hjc @mg @hvv ?_;refine Uh cho (by simp only [uG];exact⟨_,_,rfl,of_eq_true (mX 1),_,_,rfl,kE _,rfl⟩) ?_;refine ew ?_;exact⟨(j+1,s,b),by dsimp only;omega,⟨by dsimp only;omega,hG,Xt.symm,hb9⟩,by (refine jW ?_;exact qw)⟩
    rw [decide_eq_false hvo]at cho;rw [if_neg hvo]at Xt;by_cases hbn:b<0
    ·have e0:LY G last b v=v:=by unfold LY;rw [if_pos (.inl hbn)]
     refine vW @hjc @mg @hvv ?_;refine Uh cho (by simp only [uG];exact⟨_,_,rfl,of_eq_true (mX 1),_,_,rfl,kE _,rfl⟩) ?_;refine ew ?_;refine jy chv ?_;refine qj @hbn ?_;exact⟨(j+1,s,v),by dsimp only;omega,⟨by dsimp only;omega,hG,by rw [Xt,e0],by dsimp only;omega⟩,by (refine jW ?_;exact qw)⟩
    have elb:Ce last b=decide (b∈last):=rfl;have elv:Ce last v=decide (v∈last):=rfl;generalize decide (b∈last)=lb at chb elb;generalize decide (v∈last)=lv at chv elv;refine vW @hjc @mg @hvv ?_;refine Uh cho (by simp only [uG];exact⟨_,_,rfl,of_eq_true (mX 1),_,_,rfl,kE _,rfl⟩) ?_;refine ew ?_;refine jy chv ?_;refine qj @hbn ?_;refine jy chb ?_
    cases lb
    ·refine ew ?_;refine jy chb ?_
     cases lv
     ·refine ew ?_;have gr:=Fq hG;refine kU (pn v (by omega)) (by (refine qj @gr ?_;try with_reducible exact True.intro)) ?_;intro r1 s2 os1 G1;have hG2:oM s2 1 G:=hG.frame fun q h1 h2=>G1.old q (by omega)
      skip
      have ln1:=MO G1.ow;rw [←O8]at ln1;have gl1:=G1.len;clear gr;refine qj @ln1 ?_;have gr:=Fq hG2;refine kU (pn b (by omega)) (by (refine qj @gr ?_;try with_reducible exact True.intro)) ?_;intro r2 s3 os2 G2;have hG3:oM s3 1 G:=hG2.frame fun q h1 h2=>G2.old q (by omega)
      skip
      have ln2:=MO G2.ow;rw [←O8]at ln2;clear gr;refine qj @ln2 ?_;refine kD (fun hf=>?_) fun hf=>?_<;>(refine qj @hf ?_;try with_reducible exact True.intro)
      ·have hf':Dq G v<Dq G b:=by unfold Dq;omega
       have e0:LY G last b v=v:=by unfold LY;rw [if_pos (.inr (.inr ⟨elv.trans elb.symm,hf'⟩))]
       exact⟨(j+1,s3,v),by dsimp only;omega,⟨by dsimp only;omega,hG3,by rw [Xt,e0],by dsimp only;omega⟩,by (refine jW ?_;exact qw)⟩
      have hf':¬Dq G v<Dq G b:=by unfold Dq;omega
      have e0:LY G last b v=b:=by unfold LY;rw [if_neg (by rintro(h|h|h);exact hbn h;rw [elb,elv]at h;have h1:=h.1;have h2:=h.2;simp at h1 h2;exact hf' h.2)]
      exact⟨(j+1,s3,b),by dsimp only;omega,⟨by dsimp only;omega,hG3,by rw [Xt,e0],by dsimp only;omega⟩,by (refine jW ?_;exact qw)⟩
     have e0:LY G last b v=b:=by unfold LY;rw [if_neg (by rintro(h|h|h);exact hbn h;rw [elb]at h;cases h.1;rw [elb,elv]at h;cases h.1)]
     refine ew ?_;exact⟨(j+1,s,b),by dsimp only;omega,⟨by dsimp only;omega,hG,by rw [Xt,e0],by dsimp only;omega⟩,by (refine jW ?_;exact qw)⟩
    cases lv
    ·have e0:LY G last b v=v:=by unfold LY;rw [if_pos (.inr (.inl ⟨elb,elv⟩))]
     refine ew ?_;exact⟨(j+1,s,v),by dsimp only;omega,⟨by dsimp only;omega,hG,by rw [Xt,e0],by dsimp only;omega⟩,by (refine jW ?_;exact qw)⟩
    refine ew ?_;refine jy chb ?_;refine ew ?_;have gr:=Fq hG;refine kU (pn v (by omega)) (by (refine qj @gr ?_;try with_reducible exact True.intro)) ?_;intro r1 s2 os1 G1;have hG2:oM s2 1 G:=hG.frame fun q h1 h2=>G1.old q (by omega)
    skip
    have ln1:=MO G1.ow;rw [←O8]at ln1;have gl1:=G1.len;clear gr;refine qj @ln1 ?_;have gr:=Fq hG2;refine kU (pn b (by omega)) (by (refine qj @gr ?_;try with_reducible exact True.intro)) ?_;intro r2 s3 os2 G2;have hG3:oM s3 1 G:=hG2.frame fun q h1 h2=>G2.old q (by omega)
    skip
    have ln2:=MO G2.ow;rw [←O8]at ln2;clear gr;refine qj @ln2 ?_;refine kD (fun hf=>?_) fun hf=>?_<;>(refine qj @hf ?_;try with_reducible exact True.intro)
    ·have hf':Dq G v<Dq G b:=by unfold Dq;omega
     have e0:LY G last b v=v:=by unfold LY;rw [if_pos (.inr (.inr ⟨elv.trans elb.symm,hf'⟩))]
     exact⟨(j+1,s3,v),by dsimp only;omega,⟨by dsimp only;omega,hG3,by rw [Xt,e0],by dsimp only;omega⟩,by (refine jW ?_;exact qw)⟩
    have hf':¬Dq G v<Dq G b:=by unfold Dq;omega
    have e0:LY G last b v=b:=by unfold LY;rw [if_neg (by rintro(h|h|h);exact hbn h;rw [elb,elv]at h;have h1:=h.1;have h2:=h.2;simp at h1 h2;exact hf' h.2)]
    exact⟨(j+1,s3,b),by dsimp only;omega,⟨by dsimp only;omega,hG3,by rw [Xt,e0],by dsimp only;omega⟩,by (refine jW ?_;exact qw)⟩
   have hje:j=ns.length:=by omega
   subst hje;rw [hsp]at hbk;subst hbk;refine qj @hjc ?_;refine abr hG re rfl ?_;intro s4 hG4 hold hlen
   skip
   refine ew ?_;refine⟨by omega,?_⟩;obtain⟨s5,hs5⟩:∃s5:Store,(s4++[some (⟨1,[[V.int .i64 b]]⟩:Obj)]++[none]).set (s4.length+1) (some (⟨1,[[V.int .i64 b]]⟩:Obj))=s5:=⟨_,rfl⟩;have hlt4:=hG4.lt;have hG5:oM s5 1 (Xp G b.toNat):=hG4.frame fun q h1 h2=>by
    rw [←hs5,jV (by omega),bJ,lQ (by first|omega|(simp;omega))]
    skip
   have auS:jH s5 (s4.length+1)=some ⟨1,kF (([]:List Int)++[b])⟩:=by
    rw [←hs5,kT (by simp)];rfl
   rw [hs5];refine⟨(k+1,s5,s4.length+1,([]:List Int)++[b]),by dsimp only;omega,⟨by dsimp only;omega,by dsimp only;rw [es];exact hG5,by dsimp only;rw [es],by dsimp only;omega,fun _=>auS⟩,?_⟩;dsimp only;rw [show slP (s4.length+1) (([]:List Int)++[b]).length=.kP (s4.length+1) 0 (1) by simp [slP]]
   (refine jW ?_;exact qw)
  have hob:=hob (by simp);have hpl:=kK hob;refine uh @ahM @hob ?_;refine kG (fun x d=>x == 314||x == 321||x == 315) (α:=Nat×Store×Int) (fun q=>⟨kX [.any,ints last,.any,.any,.any,.kP p 0 (xs.length+1),.ptr 1 0 0,ints ns,iv q.2.2,.any,.any,.any,.any,.any,.any,.any,.any,.any,.any,.any,.any,.any,.any,.any,.any,ints ns,iv (ns.length:Nat),iv (q.1:Nat)],q.2.1,0,0,[],[]⟩) (fun q=>q.1≤ns.length∧oM q.2.1 1 G∧q.2.2=spk G last (x::xs) ns q.1∧jH q.2.1 p=some ⟨1,kF (x::xs)⟩∧(-1≤q.2.2∧q.2.2≤9)) (fun q=>ns.length-q.1) rfl (0,s,-1) ?_ ?_ ?_
  ·exact⟨by omega,hG,rfl,hob,by dsimp only;omega⟩
  ·(refine jW ?_;exact qw)
  clear hG hlt hob hpl;rintro⟨j,s,b⟩ ⟨hj,hG,hbk,hob,hb9⟩;dsimp only at hj hG hbk hb9 hob;have hlt:=hG.lt;have hpl:=kK hob;by_cases hjc:(j:Int)<(ns.length:Nat)
  ·have hjl:j<ns.length:=by omega
   have Xt:spk G last (x::xs) ns (j+1)=if ns.getD j 0∈(x::xs)then spk G last (x::xs) ns j else LY G last (spk G last (x::xs) ns j) (ns.getD j 0):=rfl
   rw [←hbk]at Xt;have hv9:=hrg (ns.getD j 0) (by rw [ak,aB hjl];exact dP hjl);generalize hvv:ns.getD j 0=v at Xt hv9;have cho:=Jg h.rW (l:=(x::xs)) (n:=v) (by simp only [aj];omega);have chv:=Jg h.rW (l:=last) (n:=v) (by omega);have chb:=Jg h.rW (l:=last) (n:=b) (by omega);by_cases hvo:v∈(x::xs)
   ·rw [decide_eq_true hvo]at cho;rw [if_pos hvo]at Xt;refine DF @hjc @mg @hvv @hob ?_;refine jy cho ?_;refine ew ?_;exact⟨(j+1,s,b),by dsimp only;omega,⟨by dsimp only;omega,hG,Xt.symm,hob,hb9⟩,by (refine jW ?_;exact qw)⟩
   rw [decide_eq_false hvo]at cho;rw [if_neg hvo]at Xt;by_cases hbn:b<0
   ·have e0:LY G last b v=v:=by unfold LY;rw [if_pos (.inl hbn)]
    refine DF @hjc @mg @hvv @hob ?_;refine jy cho ?_;refine ew ?_;refine jy chv ?_;refine qj @hbn ?_;exact⟨(j+1,s,v),by dsimp only;omega,⟨by dsimp only;omega,hG,by rw [Xt,e0],hob,by dsimp only;omega⟩,by (refine jW ?_;exact qw)⟩
   have elb:Ce last b=decide (b∈last):=rfl;have elv:Ce last v=decide (v∈last):=rfl;generalize decide (b∈last)=lb at chb elb;generalize decide (v∈last)=lv at chv elv;refine DF @hjc @mg @hvv @hob ?_;refine jy cho ?_;refine ew ?_;refine jy chv ?_;refine qj @hbn ?_;refine jy chb ?_
   cases lb
   ·refine ew ?_;refine jy chb ?_
    cases lv
    ·refine ew ?_;have gr:=Fq hG;refine kU (pn v (by omega)) (by (refine qj @gr ?_;try with_reducible exact True.intro)) ?_;intro r1 s2 os1 G1;have hG2:oM s2 1 G:=hG.frame fun q h1 h2=>G1.old q (by omega);have adi:jH s2 p=some ⟨1,kF (x::xs)⟩:=(G1.old p hpl).trans hob;have ln1:=MO G1.ow;rw [←O8]at ln1;have gl1:=G1.len;clear gr;refine qj @ln1 ?_;have gr:=Fq hG2;refine kU (pn b (by omega)) (by (refine qj @gr ?_;try with_reducible exact True.intro)) ?_;intro r2 s3 os2 G2;have hG3:oM s3 1 G:=hG2.frame fun q h1 h2=>G2.old q (by omega);have aob:jH s3 p=some ⟨1,kF (x::xs)⟩:=(G2.old p (by omega)).trans adi;have ln2:=MO G2.ow;rw [←O8]at ln2;clear gr;refine qj @ln2 ?_;refine kD (fun hf=>?_) fun hf=>?_<;>(refine qj @hf ?_;try with_reducible exact True.intro)
     ·have hf':Dq G v<Dq G b:=by unfold Dq;omega
      have e0:LY G last b v=v:=by unfold LY;rw [if_pos (.inr (.inr ⟨elv.trans elb.symm,hf'⟩))]
      exact⟨(j+1,s3,v),by dsimp only;omega,⟨by dsimp only;omega,hG3,by rw [Xt,e0],aob,by dsimp only;omega⟩,by (refine jW ?_;exact qw)⟩
     have hf':¬Dq G v<Dq G b:=by unfold Dq;omega
     have e0:LY G last b v=b:=by unfold LY;rw [if_neg (by rintro(h|h|h);exact hbn h;rw [elb,elv]at h;have h1:=h.1;have h2:=h.2;simp at h1 h2;exact hf' h.2)]
     exact⟨(j+1,s3,b),by dsimp only;omega,⟨by dsimp only;omega,hG3,by rw [Xt,e0],aob,by dsimp only;omega⟩,by (refine jW ?_;exact qw)⟩
    have e0:LY G last b v=b:=by unfold LY;rw [if_neg (by rintro(h|h|h);exact hbn h;rw [elb]at h;cases h.1;rw [elb,elv]at h;cases h.1)]
    refine ew ?_;exact⟨(j+1,s,b),by dsimp only;omega,⟨by dsimp only;omega,hG,by rw [Xt,e0],hob,by dsimp only;omega⟩,by (refine jW ?_;exact qw)⟩
   cases lv
   ·have e0:LY G last b v=v:=by unfold LY;rw [if_pos (.inr (.inl ⟨elb,elv⟩))]
    refine ew ?_;exact⟨(j+1,s,v),by dsimp only;omega,⟨by dsimp only;omega,hG,by rw [Xt,e0],hob,by dsimp only;omega⟩,by (refine jW ?_;exact qw)⟩
   refine ew ?_;refine jy chb ?_;refine ew ?_;have gr:=Fq hG;refine kU (pn v (by omega)) (by (refine qj @gr ?_;try with_reducible exact True.intro)) ?_;intro r1 s2 os1 G1;have hG2:oM s2 1 G:=hG.frame fun q h1 h2=>G1.old q (by omega);have adi:jH s2 p=some ⟨1,kF (x::xs)⟩:=(G1.old p hpl).trans hob;have ln1:=MO G1.ow;rw [←O8]at ln1;have gl1:=G1.len;clear gr;refine qj @ln1 ?_;have gr:=Fq hG2;refine kU (pn b (by omega)) (by (refine qj @gr ?_;try with_reducible exact True.intro)) ?_;intro r2 s3 os2 G2;have hG3:oM s3 1 G:=hG2.frame fun q h1 h2=>G2.old q (by omega);have aob:jH s3 p=some ⟨1,kF (x::xs)⟩:=(G2.old p (by omega)).trans adi;have ln2:=MO G2.ow;rw [←O8]at ln2;clear gr;refine qj @ln2 ?_;refine kD (fun hf=>?_) fun hf=>?_<;>(refine qj @hf ?_;try with_reducible exact True.intro)
   ·have hf':Dq G v<Dq G b:=by unfold Dq;omega
    have e0:LY G last b v=v:=by unfold LY;rw [if_pos (.inr (.inr ⟨elv.trans elb.symm,hf'⟩))]
    exact⟨(j+1,s3,v),by dsimp only;omega,⟨by dsimp only;omega,hG3,by rw [Xt,e0],aob,by dsimp only;omega⟩,by (refine jW ?_;exact qw)⟩
   have hf':¬Dq G v<Dq G b:=by unfold Dq;omega
   have e0:LY G last b v=b:=by unfold LY;rw [if_neg (by rintro(h|h|h);exact hbn h;rw [elb,elv]at h;have h1:=h.1;have h2:=h.2;simp at h1 h2;exact hf' h.2)]
   exact⟨(j+1,s3,b),by dsimp only;omega,⟨by dsimp only;omega,hG3,by rw [Xt,e0],aob,by dsimp only;omega⟩,by (refine jW ?_;exact qw)⟩
  have hje:j=ns.length:=by omega
  subst hje;rw [hsp]at hbk;subst hbk;refine uh @hjc @hob ?_;refine abr hG re rfl ?_;intro s4 hG4 hold hlen;have aDM:jH s4 p=some ⟨1,kF (x::xs)⟩:=(hold p (.inr (by omega)) hpl).trans hob;refine qj @aDM ?_;refine⟨by omega,?_⟩;obtain⟨s5,hs5⟩:∃s5:Store,((s4.set p none)++[some (⟨1,[[V.int .i64 b]]⟩:Obj)]++[none]).set (s4.length+1) (some (⟨1,kF (x::xs)++[[V.int .i64 b]]⟩:Obj))=s5:=⟨_,rfl⟩;have hlt4:=hG4.lt;have hG5:oM s5 1 (Xp G b.toNat):=hG4.frame fun q h1 h2=>by
   rw [←hs5,jV (by omega),bJ,lQ (by first|omega|(simp;omega))];rw [jV (by omega)]
  have auS:jH s5 (s4.length+1)=some ⟨1,kF ((x::xs)++[b])⟩:=by
   rw [←hs5,kT (by simp)] ;rw [sO]
  rw [hs5];refine⟨(k+1,s5,s4.length+1,(x::xs)++[b]),by dsimp only;omega,⟨by dsimp only;omega,by dsimp only;rw [es];exact hG5,by dsimp only;rw [es],by dsimp only;omega,fun _=>auS⟩,?_⟩;dsimp only;rw [show slP (s4.length+1) ((x::xs)++[b]).length=.kP (s4.length+1) 0 (xs.length+1+1) by simp [slP]]
  (refine jW ?_;exact qw)
 have hke:k=ns.length:=by omega
 rw [hfin hke];have ahM:¬(xs.length:Int)<(ns.length:Nat):=by omega
 (rcases xs with _|⟨x,xs⟩<;>simp only [au,aj,ase,asf]at hx ahM hxl ⊢)
 ·refine qj @ahM ?_;exact CZ
 have hob:=hob (by simp);refine uh @ahM @hob ?_;exact N8 hob
theorem get_at{A:List (List V)}{d:Nat}(h:d<A.length):A[d]? = some (A.getD d []):=by
 rw [ak,aB h];rfl
theorem QI{A:List (List V)}{d:Nat}{r:List V}(h:d<A.length):(A.set d r).flatten=(A.take d).flatten++(r++(A.drop (d+1)).flatten):=by
 rw [iI,if_pos h,iq,dI]
theorem Yc{A:List (List V)}{d:Nat}(h:d<A.length):A.flatten=(A.take d).flatten++(A.getD d []++(A.drop (d+1)).flatten):=by
 rw [←QI h]
 congr 1
 have:A.getD d []=A[d]:=by rw [ak,aB h];rfl
 rw [this,List.set_getElem_self]
theorem Wx{n:Nat}:∀{A:List (List V)},(∀r∈A,r.length=n)→A.flatten.length=A.length*n
 | [],_=>by simp
 |
  a::A,h=>by
  rw [dI,aJ,Wx fun r hr=>h r (by simp [hr]),h a (by simp),aj,gQ,Nat.add_comm]
theorem aje{n:Nat}{A B:List (List V)}(ha:∀r∈A,r.length=n)(hb:∀r∈B,r.length=n)(h:A.length=B.length):A.flatten.length=B.flatten.length:=by
 rw [Wx ha,Wx hb,h]
theorem ZR{row cs:List V}(h:row.length=cs.length):splice row 0 cs=cs:=by
 unfold splice;simp [h]
theorem aoc{T:Tb}(h:Nz T){x y:Nat}:PF T 396 [iv (x:Nat),iv (y:Nat)] (iv ((max x y:Nat):Int)):=by
 refine kQ nR h.hT ?_;simp only [I7,Lz];refine ev ?_;by_cases hc:(y:Int)<(x:Nat)
 ·have e:((max x y:Nat):Int)=x:=by omega
  (refine qW @hc @e ?_;try with_reducible exact True.intro)
 have e:((max x y:Nat):Int)=y:=by omega
 (refine qW @hc @e ?_;try with_reducible exact True.intro)
theorem adq{T:Tb}(h:JG T){l:List Cd}(hw:Bg Cd.wf l)(hps:∀c∈l,c.ps.length≤1048576)(hl:l.length≤1048576):PO T 384 [Dx l] (.nK [D5 (svV l),.bool (svG l)]):=by
 have ci:=amY h.acZ hw hl
 cases hn:JL l
 ·rw [hn]at ci;rw [U1 (U2 hn),U2 hn];refine kW nR h.hT ?_;simp only [yu,Lz,St.enter,aj,au,aN];refine ew ?_;refine jy ci ?_;refine ew ?_;exact(CZ (sz:=6)).PW
 rw [hn]at ci;refine kW (fun x d=>(x == 36&&d == 29)||(x == 36&&d == 30)||(x == 366&&d == 46)) h.hT ?_;simp only [yu,Lz,St.enter,aj,au,aN];refine ew ?_;refine jy ci ?_;refine ew ?_;have e0:Wj l 0=0:=rfl;refine kG (fun x d=>(x == 36&&d == 29)||(x == 36&&d == 30)||(x == 366&&d == 46)) (α:=Nat×Store) (fun q=>⟨kX [Dx l,.any,.any,.any,iv (Wj l q.1:Nat),.any,.any,.any,.any,.any,.any,.any,.any,.any,Dx l,iv (l.length:Nat),iv (q.1:Nat)],q.2,0,0,[],[]⟩) (fun q=>q.1≤l.length) (fun q=>l.length-q.1) rfl (0,[]) ?_ ?_ ?_
 ·exact dY _
 ·(refine jW ?_;exact qw)
 rintro⟨i,s⟩ hi;dsimp only at hi;by_cases hc:(i:Int)<(l.length:Nat)
 ·have hil:i<l.length:=by omega
  have hx:(l.map Cd.cells).getD i []=(l.getD i default).cells:=mg hil;have hno:=O5 hn hil;have es:Wj l (i+1)=max (Wj l i) (l.getD i default).node.toNat:=rfl;obtain⟨d,hd⟩:∃d:Nat,(l.getD i default).node=(d:Nat):=⟨(l.getD i default).node.toNat,by omega⟩;have cm:=aoc h.aaz (x:=Wj l i) (y:=d);have es2:((max (Wj l i) d:Nat):Int)=(Wj l (i+1):Nat):=by rw [es,hd];simp
  rw [es2]at cm;refine vW @hc @hx @hd ?_;refine jy cm ?_;refine ew ?_;refine⟨(i+1,?st),?c1,?c2,?c3⟩
  case c3=>dsimp only;(refine jW ?_;exact qw)
  case c1=>dsimp only;omega
  case c2=>dsimp only;omega
 have hie:i=l.length:=by omega
 subst hie;have hm9:=ac1 hn l.length (aP _);have hA0:LM l 0=svP (Wj l l.length):=rfl;have hlen:=X6 l;have hcn:=ac2 l;have aod:∀k,k<l.length→1≤(svC l k).node∧(svC l k).node.toNat≤Wj l l.length:=fun k hk=>afv hn hk;dsimp only at *;generalize Wj l l.length=m at *;have t1:((m:Int)+1).toNat=m+1:=by omega
 refine uh @hc @t1 ?_;refine⟨⟨by omega,by omega,by omega⟩,?_⟩;generalize hp:s.length=p;have E:Ep (s++[some ⟨6,List.replicate (m+1) [.bool false,.jL,.jL,.bool false,.jL,.jL]⟩]) [] [] [] [(p,⟨6,List.replicate (m+1) [.bool false,.jL,.jL,.bool false,.jL,.jL]⟩)]:=⟨Np,by subst hp;simp [tu]⟩;refine kU (FC h.kZ (n:=0)) (by (refine ew ?_;try with_reducible exact True.intro)) ?_;intro r q0 o1 G;obtain⟨_,rfl,Zk⟩:=G.ow.kV;obtain⟨x1,x2,rfl⟩:=Zk.rat
 have E1:=E.got (fun q hq=>rfl) (aP _) Zk G.nd G.fresh G.old;clear E G;refine ew ?_;refine kU (FC h.kZ (n:=0)) (by (refine ew ?_;try with_reducible exact True.intro)) ?_;intro r q1 o2 G;obtain⟨_,rfl,hQ2⟩:=G.ow.kV;obtain⟨x3,x4,rfl⟩:=hQ2.rat
 have E2:=E1.got (fun q hq=>rfl) (aP _) hQ2 G.nd G.fresh G.old;clear E1 G;generalize ([]++o1)++o2=ow at E2;have E2:Ep q1 [.bool (kR 0).neg,x1,x2,.bool (kR 0).neg,x3,x4] (⟨kR 0,kR 0⟩:Pt).cells ow [(p,⟨6,List.replicate (m+1) [.bool false,.jL,.jL,.bool false,.jL,.jL]⟩)]:=E2;have Lp:=E2.at0 (p:=p) (ob:=⟨6,List.replicate (m+1) [.bool false,.jL,.jL,.bool false,.jL,.jL]⟩) (by simp);have np:=(E2.l _ (aT.2 rfl)).2;have LF:=ah (ah (E2.leaf 1 rfl rfl) (E2.leaf 2 rfl rfl)) (ah (E2.leaf 4 rfl rfl) (E2.leaf 5 rfl rfl));refine DF @t1 @Lp @LF @hp ?_;have hq:nI (q1.set p (some ⟨6,[.bool (kR 0).neg,x1,x2,.bool (kR 0).neg,x3,x4]::List.replicate m ptz⟩)) [.bool (kR 0).neg,x1,x2,.bool (kR 0).neg,x3,x4] (⟨kR 0,kR 0⟩:Pt).cells ow:=(E2.c.set np).ow;have hpl:p<(q1.set p (some (⟨6,[.bool (kR 0).neg,x1,x2,.bool (kR 0).neg,x3,x4]::List.replicate m ptz⟩:Obj))).length:=by rw [aW];exact Lp.2
 have hpa:jH (q1.set p (some (⟨6,[.bool (kR 0).neg,x1,x2,.bool (kR 0).neg,x3,x4]::List.replicate m ptz⟩:Obj))) p=some ⟨6,[.bool (kR 0).neg,x1,x2,.bool (kR 0).neg,x3,x4]::List.replicate m ptz⟩:=kT Lp.2;have nd:=E2.c.nd;clear E2 LF Lp;refine kG (fun x d=>(x == 36&&d == 29)||(x == 36&&d == 30)||(x == 366&&d == 46)) (α:=Nat×Store×List (List V)×List Nat) (fun q=>⟨kX [Dx l,.any,.any,.any,.any,.any,.any,.kP p 0 (m+1),iv ((l.length:Int)-1-(q.1:Nat))],q.2.1,0,0,[],[]⟩) (fun q=>(q.1≤l.length∧q.2.2.1.length=m+1∧(∀r∈q.2.2.1,r.length=6)∧∀j,j<q.1→FB (svC l j) (LM l j)=true)∧Ep q.2.1 q.2.2.1.flatten ((LM l q.1).map Pt.cells).flatten q.2.2.2 [(p,⟨6,q.2.2.1⟩)]) (fun q=>l.length-q.1) rfl (0,BZ (q1.set p (some ⟨6,[.bool (kR 0).neg,x1,x2,.bool (kR 0).neg,x3,x4]::List.replicate m ptz⟩)) p ⟨6,[.bool (kR 0).neg,x1,x2,.bool (kR 0).neg,x3,x4]::List.replicate m (⟨R0,R0⟩:Pt).cells⟩ ow,[.bool (kR 0).neg,x1,x2,.bool (kR 0).neg,x3,x4]::List.replicate m (⟨R0,R0⟩:Pt).cells,ow) ?_ ?_ ?_
 ·refine⟨⟨dY _,by simp,?_,fun j hj=>absurd hj (iG _)⟩,by rw [hA0];exact afx hq nd np hpl⟩;intro r hr;rcases aH.1 hr with rfl|hr
  ·rfl
  rw [(List.mem_replicate.1 hr).2];rfl
 ·dsimp only;refine ZB (p:=p) (n:=6) (A:=[.bool (kR 0).neg,x1,x2,.bool (kR 0).neg,x3,x4]::List.replicate m ptz) hpa (by simp) (U3 hq) (fun i r r2 h1 h2=>afw (ZE hq fun o ho=>⟨ho,fun e=>np (by rw [←e];exact ho)⟩) i r r2 h1 h2) ?_;refine ew ?_
  (repeat' (first|exact True.intro|omega|refine⟨?_,?_⟩|exact lY rfl (by simp;done)|exact lY rfl rfl|(refine mW (n:=m+1) ?_ (aP _) rfl;rw [Cc hpl,if_pos rfl];simp;done)))
 clear hq hpl hpa nd np;rintro⟨k,t,A,os⟩ ⟨⟨hk,hAl,hAr,hok⟩,E⟩;dsimp only at hk hAl hAr hok E;have hTr:∀r∈(LM l k).map Pt.cells,r.length=6:=fun r hr=>by obtain⟨x,_,rfl⟩:=bM.1 hr;rfl
 have hTl:A.length=((LM l k).map Pt.cells).length:=by rw [aV,hlen];omega
 have E':Ep t (A.flatten++[]) (((LM l k).map Pt.cells).flatten++[]) os [(p,⟨6,A⟩)]:=by simpa only [aQ]using E
 have L:=E.at0 (p:=p) (ob:=⟨6,A⟩) (by simp);have Rf:=E'.X3 (p:=p) (n:=6) (by simp) hAr hTr hTl FD (wF _ _);by_cases hc2:(0:Int)≤(l.length:Int)-1-(k:Nat)
 ·have hkl:k<l.length:=by omega
  have ti:((l.length:Int)-1-(k:Nat)).toNat=l.length-1-k:=by omega
  have hx:(l.map Cd.cells).getD (l.length-1-k) []=(svC l k).cells:=mg (by omega);have hno:=aod k hkl;have hln:=hlen k;have hps:(svC l k).ps.length≤1048576:=hps _ (getD_mem (by omega));have hcw:(svC l k).wf:=hw.at_ (by omega);have ca:=QF h.Oj (c:=svC l k) (at':=LM l k) hcw (ahC (hcn k) (by omega)) hps (by omega);have es:LM l (k+1)=(LM l k).set (svC l k).node.toNat (acV (svC l k) (LM l k)):=rfl;have hbad:=anB hkl;have auT:FB (svC l k) (LM l k)=true→∀j,j<k+1→FB (svC l j) (LM l j)=true:=fun h j hj=>by
   by_cases e:j=k
   ·subst e;exact h
   exact hok j (by omega)
  generalize acV (svC l k) (LM l k)=qv at *;generalize FB (svC l k) (LM l k)=b at *;generalize LM l k=P at *;generalize svC l k=c at *;obtain⟨d,hd⟩:∃d:Nat,c.node=(d:Nat):=⟨c.node.toNat,by omega⟩;have hdm:d<m+1:=by omega
  have auU:(d:Int)<((m+1:Nat):Int):=by omega
  have Rf2:=(E'.snoc (x:=none)).X3 (p:=p) (n:=6) (by simp) hAr hTr hTl FD (wF _ _);rw [hAl]at Rf Rf2;refine zK (ah hc2 ti) @hx @L @Rf @jT @kM ?_;refine kU ca (by (refine qj @Rf2 ?_;try with_reducible exact True.intro)) ?_;intro r q o G;obtain⟨v,rfl,H⟩:=G.PW;clear G;have G:=H;clear H;obtain⟨_,rfl,hQ⟩:=G.ow.kV;obtain⟨z1,z2,z3,z4,rfl⟩:=hQ.pt;have lz:=nI.leaf hQ rfl;simp only [dh,fB,dK,aG]at lz;have gl:t.length+1≤q.length:=by simpa using G.len
  have K:jH q p=some ⟨6,A⟩:=(G.old p (by have:=L.2;simp;omega)).trans ((kJ L.2).trans L.1);have hbb:b=false∨b=true:=by cases b<;>simp
  rcases hbb with hbb|hbb
  ·rw [U1 (hbad hbb),hbad hbb];refine zK @hbb @K @gl @lz @jT @kM ?_;exact(CZ (sz:=6)).PW
  have Kp:p<q.length:=by have:=L.2;omega
  have ne:t.length≠p:=by have:=L.2;omega
  obtain⟨six,auV⟩:∃six,[V.bool qv.x.neg,z1,z2,.bool qv.y.neg,z3,z4]=six:=⟨_,rfl⟩;have hdA:d<A.length:=by omega
  have hdT:d<(P.map Pt.cells).length:=by rw [←hTl];exact hdA
  have hrow:=get_at hdA;have hrl:(A.getD d []).length=6:=hAr _ (aS hrow);have aoe:splice (A.getD d []) 0 [V.bool qv.x.neg,z1,z2,.bool qv.y.neg,z3,z4]=[V.bool qv.x.neg,z1,z2,.bool qv.y.neg,z3,z4]:=ZR (by rw [hrl];rfl);have htl:((P.map Pt.cells).getD d []).length=6:=hTr _ (aS (get_at hdT));have EU:=E;rw [Yc hdA,Yc hdT]at EU;obtain⟨row,hre⟩:∃row,A.getD d []=row:=⟨_,rfl⟩;rw [hre]at hrow hrl aoe EU;have hh6:[V.bool qv.x.neg,z1,z2,.bool qv.y.neg,z3,z4].length=6:=rfl;obtain⟨os',E9⟩:=Ep.upd (p:=p) (ob:=⟨6,A.set d [V.bool qv.x.neg,z1,z2,.bool qv.y.neg,z3,z4]⟩) (ob0:=⟨6,A⟩) (L':=[(p,⟨6,A.set d [V.bool qv.x.neg,z1,z2,.bool qv.y.neg,z3,z4]⟩)]) (s1:=t++[some ⟨6,[[V.bool qv.x.neg,z1,z2,.bool qv.y.neg,z3,z4]]⟩]) (σ2:=q.set t.length (some ⟨6,[[V.bool qv.x.neg,z1,z2,.bool qv.y.neg,z3,z4]]⟩)) EU (by simp)
   (aje (fun r hr=>hAr r (cO hr)) (fun r hr=>hTr r (cO hr)) (by simp only [dS];omega)) (by rw [hrl,htl]) (fun o ho=>kJ ho) (by simp)
   (hQ.frame fun o ho=>by
    have:=G.fresh o ho;simp at this;rw [jV (by omega)]) G.nd (fun o ho=>by have:=G.fresh o ho;simpa using this) (fun o ho=>by
    by_cases e:o=t.length
    ·subst e;rw [kT (by omega),tu]
    have ho':o<t.length:=by simp at ho;omega
    rw [jV e,G.old o (by simp;omega),kJ ho',kJ ho'])
   (by intro x hx;exact .inr (aT.1 hx)) (by simp;omega)
  clear auV EU;refine ew8 @hbb (ah K Kp) (ah gl lz) (ah hx ti) (ah hd auU) (ah hrow (ah hrl aoe)) @jT @kM ?_;refine⟨by unfold pz;rfl,?_⟩;refine⟨(k+1,?st9,A.set d [V.bool qv.x.neg,z1,z2,.bool qv.y.neg,z3,z4],os'),?c1,⟨⟨?c2,by simp [hAl],?c4,auT hbb⟩,?c5⟩,?c3⟩
  case c3=>dsimp only;(refine jW ?_;exact qw)
  case c1=>dsimp only;omega
  case c2=>dsimp only;omega
  case c4 =>
   dsimp only;intro r hr;rcases fP hr with hr|rfl
   ·exact hAr r hr
   rfl
  case c5 =>
   dsimp only;have ed:c.node.toNat=d:=by omega
   have hdr:List.drop 6 row=[]:=dB (by omega);rw [es,ed,kC,QI hdA,QI hdT,List.set_set,hdr];exact E9
 have hke:k=l.length:=by omega
 subst hke;have hG:=aiV hn hok;rw [Zz hG,hG];refine qj @hc2 ?_;obtain⟨os1,E1⟩:=E'.close (p:=p) (n:=6) (by simp) hAr hTr hTl;obtain⟨v,vs,o1,o2,e,rfl,k1,k2⟩:=E1.c.ow.inv;simp only [List.cons.injEq]at e;obtain⟨rfl,rfl⟩:=e;obtain⟨_,rfl⟩:=k2.C9;rw [hAl]at k1;have hf:Fin t (.kP p 0 (m+1)) (D5 (LM l l.length)):=rE k1 (by have:=E1.c.nd;simpa using this);exact hf.PW
theorem adr{T:Tb}(h:JH T){l:List Cd}(hw:Bg Cd.wf l)(hps:∀c∈l,c.ps.length≤1048576)(hl:l.length≤1048576):PO T 272 [Dx l] (.nK [D5 (svV l),.bool (svG l)]):=by
 have ci:=amW h.ac0 hw hl
 cases hn:JL l
 ·rw [hn]at ci;rw [U1 (U2 hn),U2 hn];refine kW nR h.hT ?_;simp only [yw,Lz,St.enter,aj,au,aN];refine ew ?_;refine jy ci ?_;refine ew ?_;exact(CZ (sz:=6)).PW
 rw [hn]at ci;refine kW (fun x d=>(x == 186&&d == 29)||(x == 176&&d == 44)) h.hT ?_;simp only [yw,Lz,St.enter,aj,au,aN];refine ew ?_;refine jy ci ?_;refine ew ?_;have e0:Wj l 0=0:=rfl;refine kG (fun x d=>(x == 186&&d == 29)||(x == 176&&d == 44)) (α:=Nat×Store) (fun q=>⟨kX [Dx l,.any,.any,.any,iv (Wj l q.1:Nat),.any,.any,.any,.any,.any,.any,.any,.any,.any,Dx l,iv (l.length:Nat),iv (q.1:Nat)],q.2,0,0,[],[]⟩) (fun q=>q.1≤l.length) (fun q=>l.length-q.1) rfl (0,[]) ?_ ?_ ?_
 ·exact dY _
 ·(refine jW ?_;exact qw)
 rintro⟨i,s⟩ hi;dsimp only at hi;by_cases hc:(i:Int)<(l.length:Nat)
 ·have hil:i<l.length:=by omega
  have hx:(l.map Cd.cells).getD i []=(l.getD i default).cells:=mg hil;have hno:=O5 hn hil;have es:Wj l (i+1)=max (Wj l i) (l.getD i default).node.toNat:=rfl;obtain⟨d,hd⟩:∃d:Nat,(l.getD i default).node=(d:Nat):=⟨(l.getD i default).node.toNat,by omega⟩;have es2:(Wj l (i+1):Int)=max (Wj l i:Int) (d:Int):=by rw [es,hd];simp<;>omega
  refine vW @hc @hx @hd ?_;refine⟨(i+1,?st),?c1,?c2,?c3⟩
  case c3=>dsimp only;(refine jW ?_;exact qw)
  case c1=>dsimp only;omega
  case c2=>dsimp only;omega
 have hie:i=l.length:=by omega
 subst hie;have hm9:=ac1 hn l.length (aP _);have hA0:LM l 0=svP (Wj l l.length):=rfl;have hlen:=X6 l;have hcn:=ac2 l;have aod:∀k,k<l.length→1≤(svC l k).node∧(svC l k).node.toNat≤Wj l l.length:=fun k hk=>afv hn hk;dsimp only at *;generalize Wj l l.length=m at *;have t1:((m:Int)+1).toNat=m+1:=by omega
 refine uh @hc @t1 ?_;refine⟨⟨by omega,by omega,by omega⟩,?_⟩;generalize hp:s.length=p;have E:Ep (s++[some ⟨6,List.replicate (m+1) [.bool false,.jL,.jL,.bool false,.jL,.jL]⟩]) [] [] [] [(p,⟨6,List.replicate (m+1) [.bool false,.jL,.jL,.bool false,.jL,.jL]⟩)]:=⟨Np,by subst hp;simp [tu]⟩;refine kU (UZ h.GR) (by (refine ew ?_;try with_reducible exact True.intro)) ?_;intro r q1 o1 G;obtain⟨_,rfl,Zk⟩:=G.ow.kV;obtain⟨x1,x2,x3,x4,rfl⟩:=Zk.pt;have E2:=E.got (fun q hq=>rfl) (aP _) Zk G.nd G.fresh G.old;clear E G;generalize []++o1=ow at E2;have E2:Ep q1 [.bool (kR 0).neg,x1,x2,.bool (kR 0).neg,x3,x4] (⟨kR 0,kR 0⟩:Pt).cells ow [(p,⟨6,List.replicate (m+1) [.bool false,.jL,.jL,.bool false,.jL,.jL]⟩)]:=E2;have Lp:=E2.at0 (p:=p) (ob:=⟨6,List.replicate (m+1) [.bool false,.jL,.jL,.bool false,.jL,.jL]⟩) (by simp);have np:=(E2.l _ (aT.2 rfl)).2;have LF:=ah (ah (E2.leaf 1 rfl rfl) (E2.leaf 2 rfl rfl)) (ah (E2.leaf 4 rfl rfl) (E2.leaf 5 rfl rfl));refine DF @t1 @Lp @LF @hp ?_;have hq:nI (q1.set p (some ⟨6,[.bool (kR 0).neg,x1,x2,.bool (kR 0).neg,x3,x4]::List.replicate m ptz⟩)) [.bool (kR 0).neg,x1,x2,.bool (kR 0).neg,x3,x4] (⟨kR 0,kR 0⟩:Pt).cells ow:=(E2.c.set np).ow;have hpl:p<(q1.set p (some (⟨6,[.bool (kR 0).neg,x1,x2,.bool (kR 0).neg,x3,x4]::List.replicate m ptz⟩:Obj))).length:=by rw [aW];exact Lp.2
 have hpa:jH (q1.set p (some (⟨6,[.bool (kR 0).neg,x1,x2,.bool (kR 0).neg,x3,x4]::List.replicate m ptz⟩:Obj))) p=some ⟨6,[.bool (kR 0).neg,x1,x2,.bool (kR 0).neg,x3,x4]::List.replicate m ptz⟩:=kT Lp.2;have nd:=E2.c.nd;clear E2 LF Lp;refine kG (fun x d=>(x == 186&&d == 29)||(x == 176&&d == 44)) (α:=Nat×Store×List (List V)×List Nat) (fun q=>⟨kX [Dx l,.any,.any,.any,.any,.any,.any,.kP p 0 (m+1),iv ((l.length:Int)-1-(q.1:Nat))],q.2.1,0,0,[],[]⟩) (fun q=>(q.1≤l.length∧q.2.2.1.length=m+1∧(∀r∈q.2.2.1,r.length=6)∧∀j,j<q.1→FB (svC l j) (LM l j)=true)∧Ep q.2.1 q.2.2.1.flatten ((LM l q.1).map Pt.cells).flatten q.2.2.2 [(p,⟨6,q.2.2.1⟩)]) (fun q=>l.length-q.1) rfl (0,BZ (q1.set p (some ⟨6,[.bool (kR 0).neg,x1,x2,.bool (kR 0).neg,x3,x4]::List.replicate m ptz⟩)) p ⟨6,[.bool (kR 0).neg,x1,x2,.bool (kR 0).neg,x3,x4]::List.replicate m (⟨R0,R0⟩:Pt).cells⟩ ow,[.bool (kR 0).neg,x1,x2,.bool (kR 0).neg,x3,x4]::List.replicate m (⟨R0,R0⟩:Pt).cells,ow) ?_ ?_ ?_
 ·refine⟨⟨dY _,by simp,?_,fun j hj=>absurd hj (iG _)⟩,by rw [hA0];exact afx hq nd np hpl⟩;intro r hr;rcases aH.1 hr with rfl|hr
  ·rfl
  rw [(List.mem_replicate.1 hr).2];rfl
 ·dsimp only;refine ZB (p:=p) (n:=6) (A:=[.bool (kR 0).neg,x1,x2,.bool (kR 0).neg,x3,x4]::List.replicate m ptz) hpa (by simp) (U3 hq) (fun i r r2 h1 h2=>afw (ZE hq fun o ho=>⟨ho,fun e=>np (by rw [←e];exact ho)⟩) i r r2 h1 h2) ?_;refine ew ?_
  (repeat' (first|exact True.intro|omega|refine⟨?_,?_⟩|exact lY rfl (by simp;done)|exact lY rfl rfl|(refine mW (n:=m+1) ?_ (aP _) rfl;rw [Cc hpl,if_pos rfl];simp;done)))
 clear hq hpl hpa nd np;rintro⟨k,t,A,os⟩ ⟨⟨hk,hAl,hAr,hok⟩,E⟩;dsimp only at hk hAl hAr hok E;have hTr:∀r∈(LM l k).map Pt.cells,r.length=6:=fun r hr=>by obtain⟨x,_,rfl⟩:=bM.1 hr;rfl
 have hTl:A.length=((LM l k).map Pt.cells).length:=by rw [aV,hlen];omega
 have E':Ep t (A.flatten++[]) (((LM l k).map Pt.cells).flatten++[]) os [(p,⟨6,A⟩)]:=by simpa only [aQ]using E
 have L:=E.at0 (p:=p) (ob:=⟨6,A⟩) (by simp);have Rf:=E'.X3 (p:=p) (n:=6) (by simp) hAr hTr hTl FD (wF _ _);by_cases hc2:(0:Int)≤(l.length:Int)-1-(k:Nat)
 ·have hkl:k<l.length:=by omega
  have ti:((l.length:Int)-1-(k:Nat)).toNat=l.length-1-k:=by omega
  have hx:(l.map Cd.cells).getD (l.length-1-k) []=(svC l k).cells:=mg (by omega);have hno:=aod k hkl;have hln:=hlen k;have hps:(svC l k).ps.length≤1048576:=hps _ (getD_mem (by omega));have hcw:(svC l k).wf:=hw.at_ (by omega);have ca:=QD h.Ol (c:=svC l k) (at':=LM l k) hcw (ahC (hcn k) (by omega)) hps (by omega);have es:LM l (k+1)=(LM l k).set (svC l k).node.toNat (acV (svC l k) (LM l k)):=rfl;have hbad:=anB hkl;have auT:FB (svC l k) (LM l k)=true→∀j,j<k+1→FB (svC l j) (LM l j)=true:=fun h j hj=>by
   by_cases e:j=k
   ·subst e;exact h
   exact hok j (by omega)
  generalize acV (svC l k) (LM l k)=qv at *;generalize FB (svC l k) (LM l k)=b at *;generalize LM l k=P at *;generalize svC l k=c at *;obtain⟨d,hd⟩:∃d:Nat,c.node=(d:Nat):=⟨c.node.toNat,by omega⟩;have hdm:d<m+1:=by omega
  have auU:(d:Int)<((m+1:Nat):Int):=by omega
  have Rf2:=(E'.snoc (x:=none)).X3 (p:=p) (n:=6) (by simp) hAr hTr hTl FD (wF _ _);rw [hAl]at Rf Rf2;refine zK (ah hc2 ti) @hx @L @Rf @jT @kM ?_;refine kU ca (by (refine qj @Rf2 ?_;try with_reducible exact True.intro)) ?_;intro r q o G;obtain⟨v,rfl,H⟩:=G.PW;clear G;have G:=H;clear H;obtain⟨_,rfl,hQ⟩:=G.ow.kV;obtain⟨z1,z2,z3,z4,rfl⟩:=hQ.pt;have lz:=nI.leaf hQ rfl;simp only [dh,fB,dK,aG]at lz;have gl:t.length+1≤q.length:=by simpa using G.len
  have K:jH q p=some ⟨6,A⟩:=(G.old p (by have:=L.2;simp;omega)).trans ((kJ L.2).trans L.1);have hbb:b=false∨b=true:=by cases b<;>simp
  rcases hbb with hbb|hbb
  ·rw [U1 (hbad hbb),hbad hbb];refine zK @hbb @K @gl @lz @jT @kM ?_;exact(CZ (sz:=6)).PW
  have Kp:p<q.length:=by have:=L.2;omega
  have ne:t.length≠p:=by have:=L.2;omega
  obtain⟨six,auV⟩:∃six,[V.bool qv.x.neg,z1,z2,.bool qv.y.neg,z3,z4]=six:=⟨_,rfl⟩;have hdA:d<A.length:=by omega
  have hdT:d<(P.map Pt.cells).length:=by rw [←hTl];exact hdA
  have hrow:=get_at hdA;have hrl:(A.getD d []).length=6:=hAr _ (aS hrow);have aoe:splice (A.getD d []) 0 [V.bool qv.x.neg,z1,z2,.bool qv.y.neg,z3,z4]=[V.bool qv.x.neg,z1,z2,.bool qv.y.neg,z3,z4]:=ZR (by rw [hrl];rfl);have htl:((P.map Pt.cells).getD d []).length=6:=hTr _ (aS (get_at hdT));have EU:=E;rw [Yc hdA,Yc hdT]at EU;obtain⟨row,hre⟩:∃row,A.getD d []=row:=⟨_,rfl⟩;rw [hre]at hrow hrl aoe EU;have hh6:[V.bool qv.x.neg,z1,z2,.bool qv.y.neg,z3,z4].length=6:=rfl;obtain⟨os',E9⟩:=Ep.upd (p:=p) (ob:=⟨6,A.set d [V.bool qv.x.neg,z1,z2,.bool qv.y.neg,z3,z4]⟩) (ob0:=⟨6,A⟩) (L':=[(p,⟨6,A.set d [V.bool qv.x.neg,z1,z2,.bool qv.y.neg,z3,z4]⟩)]) (s1:=t++[some ⟨6,[[V.bool qv.x.neg,z1,z2,.bool qv.y.neg,z3,z4]]⟩]) (σ2:=q.set t.length (some ⟨6,[[V.bool qv.x.neg,z1,z2,.bool qv.y.neg,z3,z4]]⟩)) EU (by simp)
   (aje (fun r hr=>hAr r (cO hr)) (fun r hr=>hTr r (cO hr)) (by simp only [dS];omega)) (by rw [hrl,htl]) (fun o ho=>kJ ho) (by simp)
   (hQ.frame fun o ho=>by
    have:=G.fresh o ho;simp at this;rw [jV (by omega)]) G.nd (fun o ho=>by have:=G.fresh o ho;simpa using this) (fun o ho=>by
    by_cases e:o=t.length
    ·subst e;rw [kT (by omega),tu]
    have ho':o<t.length:=by simp at ho;omega
    rw [jV e,G.old o (by simp;omega),kJ ho',kJ ho'])
   (by intro x hx;exact .inr (aT.1 hx)) (by simp;omega)
  clear auV EU;refine ew8 @hbb (ah K Kp) (ah gl lz) (ah hx ti) (ah hd auU) (ah hrow (ah hrl aoe)) @jT @kM ?_;refine⟨by unfold pz;rfl,?_⟩;refine⟨(k+1,?st9,A.set d [V.bool qv.x.neg,z1,z2,.bool qv.y.neg,z3,z4],os'),?c1,⟨⟨?c2,by simp [hAl],?c4,auT hbb⟩,?c5⟩,?c3⟩
  case c3=>dsimp only;(refine jW ?_;exact qw)
  case c1=>dsimp only;omega
  case c2=>dsimp only;omega
  case c4 =>
   dsimp only;intro r hr;rcases fP hr with hr|rfl
   ·exact hAr r hr
   rfl
  case c5 =>
   dsimp only;have ed:c.node.toNat=d:=by omega
   have hdr:List.drop 6 row=[]:=dB (by omega);rw [es,ed,kC,QI hdA,QI hdT,List.set_set,hdr];exact E9
 have hke:k=l.length:=by omega
 subst hke;have hG:=aiV hn hok;rw [Zz hG,hG];refine qj @hc2 ?_;obtain⟨os1,E1⟩:=E'.close (p:=p) (n:=6) (by simp) hAr hTr hTl;obtain⟨v,vs,o1,o2,e,rfl,k1,k2⟩:=E1.c.ow.inv;simp only [List.cons.injEq]at e;obtain⟨rfl,rfl⟩:=e;obtain⟨_,rfl⟩:=k2.C9;rw [hAl]at k1;have hf:Fin t (.kP p 0 (m+1)) (D5 (LM l l.length)):=rE k1 (by have:=E1.c.nd;simpa using this);exact hf.PW
def Dt:Fn:=⟨1,54,[.tmp 2,.cell 3 3 true,.tmp 4],(.seq (rf 1 [oK 2 1 mN,oN 3 (.alloc qL),oK 4 1 mF]) (.seq (rf 1 [oK 15 1 (oV 0),oK 16 1 (cl 179 [15]),oK 14 1 (oV 16),oK 17 1 (ex 0 14),oK 18 1 (ex 1 14),oK 19 1 (ex 2 14),oN 6 (.alloc qL),oK 5 1 (oV 17),⟨none,none,1,.store 3 (.t 6) (.t 18),[]⟩,oK 7 1 (oV 19)]) (.seq (rf 1 [oK 21 1 (oV 5),oK 22 1 (oV 5),oK 23 1 (.call 299 [(.t 22),(.c (.jL))]),oK 24 1 (cl 393 [21,23]),oK 20 1 (oV 24),oK 25 1 (ex 0 20),oK 26 1 (ex 1 20),oK 27 1 (ex 2 20),oN 9 (.alloc qL),oK 8 1 (oV 25),⟨none,none,1,.store 3 (.t 9) (.t 26),[]⟩,oK 10 1 (oV 27)]) (sr [oW 29 8,oN 30 (cl 384 [29]),oW 28 30,oN 31 (ex 0 28),oN 32 (ex 1 28),oW 11 31,oW 12 32] (.seq (rf 1 [oK 33 1 (lT 3 6),oK 34 1 (lT 3 9),oK 35 1 (cl 189 [33,34]),oN 13 (.alloc qL),⟨none,none,1,.store 3 (.t 13) (.t 35),[]⟩]) (.seq (sr [oW 36 7,oN 37 (nt 36),oW 38 37,oG 38 false 39 (oV 10),oG 38 false 40 (nt 39),oN 41 (.pick (.t 38) (.c (.bool true)) (.t 40)),oW 42 41,oG 42 false 43 (oV 12),oG 42 false 44 (nt 43),oN 45 (.pick (.t 42) (.c (.bool true)) (.t 44)),oW 46 45,oG 46 false 47 (lT 3 13),oG 46 false 48 (cl 100 [47]),oG 46 false 49 (nt 48),oN 50 (.pick (.t 46) (.c (.bool true)) (.t 49))] (cd 50 (sr [oN 51 (.build qL []),oN 2 mN,oS (.store 3 (.t 3) (.t 51)),oN 4 mF] .ret) .skip)) (.seq (rt 0 [oW 52 11,oN 53 (lT 3 13),oA 2 0 (oV 52) [0,0],⟨none,none,0,.store 3 (.t 3) (.t 53),[1,2,0,1,2]⟩,oA 4 0 mT [3,0,1,2,3]]) .ret)))))))⟩
structure JI (T:Tb):Prop where
 hT:T 395=some Dt
 kS:oz T
 GV:Aw T
 lJ:pY T
 PZ:yX T
 Xu:JG T
 Rw:Ba T
def Du:Fn:=⟨1,50,[.tmp 2,.cell 3 3 true,.tmp 4],(.seq (rf 1 [oK 2 1 mN,oN 3 (.alloc qL),oK 4 1 mF]) (.seq (rf 1 [oK 13 1 (oV 0),oK 14 1 (cl 88 [13]),oK 12 1 (oV 14),oK 15 1 (ex 0 12),oK 16 1 (ex 1 12),oK 17 1 (ex 2 12),oN 6 (.alloc qL),oK 5 1 (oV 15),⟨none,none,1,.store 3 (.t 6) (.t 16),[]⟩,oK 7 1 (oV 17)]) (.seq (sr [oW 18 7,oN 19 (nt 18)] (cd 19 (sr [oN 20 (.build qL []),oN 2 mN,oS (.store 3 (.t 3) (.t 20)),oN 4 mF] .ret) .skip)) (.seq (rf 1 [oK 22 1 (oV 5),oK 23 1 (oV 5),oK 24 1 (.call 300 [(.t 23),(.c (.jL))]),oK 25 1 (cl 270 [22,24]),oK 21 1 (oV 25),oK 26 1 (ex 0 21),oK 27 1 (ex 1 21),oK 28 1 (ex 2 21),oN 9 (.alloc qL),oK 8 1 (oV 26),⟨none,none,1,.store 3 (.t 9) (.t 27),[]⟩,oK 7 1 (oV 28)]) (.seq (sr [oW 29 7,oN 30 (nt 29)] (cd 30 (sr [oN 31 (.build qL []),oN 2 mN,oS (.store 3 (.t 3) (.t 31)),oN 4 mF] .ret) .skip)) (sr [oW 33 8,oN 34 (cl 272 [33]),oW 32 34,oN 35 (ex 0 32),oN 36 (ex 1 32),oW 10 35,oW 7 36] (.seq (rf 1 [oK 37 1 (lT 3 6),oK 38 1 (lT 3 9),oK 39 1 (cl 131 [37,38]),oN 11 (.alloc qL),⟨none,none,1,.store 3 (.t 11) (.t 39),[]⟩]) (.seq (sr [oW 40 7,oN 41 (nt 40),oW 42 41,oG 42 false 43 (lT 3 11),oG 42 false 44 (cl 132 [43]),oG 42 false 45 (nt 44),oN 46 (.pick (.t 42) (.c (.bool true)) (.t 45))] (cd 46 (sr [oN 47 (.build qL []),oN 2 mN,oS (.store 3 (.t 3) (.t 47)),oN 4 mF] .ret) .skip)) (.seq (rt 0 [oW 48 10,oN 49 (lT 3 11),oA 2 0 (oV 48) [0,0],⟨none,none,0,.store 3 (.t 3) (.t 49),[1,2,0,1,2]⟩,oA 4 0 mT [3,0,1,2,3]]) .ret)))))))))⟩
structure JJ (T:Tb):Prop where
 hT:T 369=some Du
 Wy:GK T
 lC:nJ T
 kL:oJ T
 Rx:Bc T
 Xv:JH T
 P5:yV T
def esN(l:List Lk):List Cd:=eaN (zn l) (TT (zn l) [])
def esS(l:List Lk):R:=pI (V8 l) (eaE (zn l) (TT (zn l) []))
noncomputable def aaI(l:List Lk):Bool:=GN l&&ZM (zn l) (TT (zn l) [])&&svG (esN l)&&(esS l).ok
noncomputable def QJ(l:List Lk):List Pt:=if aaI l=true then svV (esN l)else []
noncomputable def esE(l:List Lk):R:=if aaI l=true then esS l else R0
theorem ayP{l:List Lk}(h:aaI l=false):QJ l=[]∧esE l=R0:=by
 unfold QJ esE;rw [h];exact⟨rfl,rfl⟩
theorem ayQ{l:List Lk}(h:aaI l=true):QJ l=svV (esN l)∧esE l=esS l:=by
 unfold QJ esE;rw [h];exact⟨rfl,rfl⟩
theorem aog(l:List Lk):(esE l).cn:=by
 unfold esE;split
 ·exact vK _ _
 exact YT
theorem auX(l:List Lk):(Dy Pt.sz (QJ l)≤100000∧(esE l).sz≤1000)∧Bg Pt.wf (QJ l)∧(esE l).wf:=by
 refine⟨⟨?_,LD (aog l)⟩,?_,mP (aog l)⟩<;>(unfold QJ;split)
 ·exact(anD _).1
 ·simp [Dy]
 ·exact(anD _).2
 simp [Bg]
theorem aoh{σ:Store}{cs ts:List V}{os:List Nat}(h:nI σ cs ts os):∀(c:Nat) {v t:V},cs[c]? = some v→ts[c]? = some t→nZ 11 t→resolve σ 11 v=some t:=by
 induction ts generalizing cs os with
 |nil=>intro c v t _ h2;cases c<;>cases h2
 |
  cons x ts ih =>
  intro c v t h1 h2 hd;obtain⟨w,ws,o1,o2,rfl,rfl,k1,k2⟩:=h.inv
  cases c with
  |zero=>cases h1;cases h2;exact OL 11 k1 hd
  |succ c=>exact ih k2 c h1 h2 hd
theorem auY(S:List Lk)(o:List Int):(eaE S o).cn:=by
 cases hg:X7 S o with
 |none=>rw [(Jj hg).2.1];exact YT
 |
  some p =>
  rw [(U9 hg).2.1];unfold X7 at hg;split at hg
  ·cases hf:U8 S o o.length with
   |none=>rw [hf]at hg;cases hg
   |
    some q =>
    rw [hf]at hg;dsimp only at hg;split at hg
    ·rename_i ho
     cases hg;exact zH ho
    cases hg
  cases hg
theorem Vd:lW (.nK [D5 [],kN R0,.bool false]) (.nK [.jL,.agg [.bool false,.jL,.jL],.bool false]):=by
 simp only [lW,uG];exact⟨_,rfl,_,_,rfl,.inl ⟨rfl,.inl rfl⟩,_,_,rfl,qN,_,_,rfl,rfl,rfl⟩
theorem Yd{σ:Store}:Fin σ (.nK [.jL,.agg [.bool false,.jL,.jL],.bool false]) (.nK [D5 [],kN R0,.bool false]) :=
 ⟨.nK [D5 [],kN R0,.bool false],[],Vd,IE (oC (o1:=[]) (by simp [lM]) (oC (o1:=[]) agY (nS nM))),.nil⟩
theorem aoi{N:List Cd}(h:Dy Cd.sz N≤500000):∀c∈N,c.ps.length≤1048576:=fun c hc=>by
 have h1:=KY (f:=Cd.sz) h hc;have h2:=vY Pa.sz c.ps;unfold Cd.sz at h1;omega
theorem afD{T:Tb}(h:JI T){l:List Lk}(hw:Bg Lk.wf l)(hz:Dy Lk.sz l≤1048576):PF T 395 [kY l] (.nK [D5 (QJ l),kN (esE l),.bool (aaI l)]):=by
 have cj:=UW h.GV (l:=l) hw hz;have hcn:=V9 (l:=l);have wj:=Wh hcn.1 hcn.2.2.1;have zj:=Tz hcn.1 hcn.2.2.1;have cm:=(TM h.PZ (l:=zn l) (last:=[]) wj (by omega) (by simp)).frz (jS _ _);have ml:=ai8 (zn l) [];have ce:=Xq h.Rw (S:=zn l) (o:=TT (zn l) []) wj (by omega) (by omega);have er:=anV (TT (zn l) []) wj (by omega);have nps:=aoi er.1.1;have nl:(esN l).length≤1048576:=by have:=vY Cd.sz (eaN (zn l) (TT (zn l) []));unfold esN;omega
 have cs:=(adq h.Xu (l:=esN l) er.2.1 nps nl).frz (amD (wF _ _) (uQ _ _));have ca:=vw h.lJ (r:=V8 l) (s:=eaE (zn l) (TT (zn l) [])) (mP hcn.2.1) er.2.2;have co:=pG h.kS (r:=esS l) (mP (vK _ _));have hOk:aaI l=(GN l&&ZM (zn l) (TT (zn l) [])&&svG (esN l)&&(esS l).ok):=rfl;have hF:=@ayP l;have hT:=@ayQ l;rw [show pI (V8 l) (eaE (zn l) (TT (zn l) []))=esS l from rfl]at ca;rw [show eaN (zn l) (TT (zn l) [])=esN l from rfl]at ce;generalize (esS l).ok=b4 at *;generalize aaI l=ok at *;generalize QJ l=vv at *;generalize esE l=ee at *;generalize esS l=es at *;generalize svG (esN l)=b3 at *;generalize svV (esN l)=sv at *;generalize ZM (zn l) (TT (zn l) [])=b2 at *;generalize eaE (zn l) (TT (zn l) [])=ea at *;generalize esN l=N at *;generalize TT (zn l) []=md at *;generalize GN l=b1 at *;generalize zn l=J at *;generalize V8 l=je at *;refine kH nR h.hT ?_;simp only [Dt,Lz];refine ev ?_;refine jy cj ?_;refine ev ?_;refine ab1 cm ⟨_,_,rfl,kE _,_,_,rfl,of_eq_true (mX 1),rfl⟩ ?_;refine ev ?_;refine jy ce ?_;refine ev ?_;refine jy cs ?_;refine ev ?_;refine jy ca ?_;refine ev ?_;subst hOk
 cases b1
 ·obtain⟨rfl,rfl⟩:=hF rfl;refine ev ?_;exact Vd
 cases b2
 ·obtain⟨rfl,rfl⟩:=hF rfl;refine ev ?_;exact Vd
 cases b3
 ·obtain⟨rfl,rfl⟩:=hF rfl;refine ev ?_;exact Vd
 refine ev ?_;refine jy co ?_
 cases b4
 ·obtain⟨rfl,rfl⟩:=hF rfl;refine ev ?_;exact Vd
 obtain⟨rfl,rfl⟩:=hT rfl;refine ev ?_;refine⟨by unfold pz;decide +kernel,?_⟩;rw [Zr];exact kE _
theorem adt{T:Tb}(h:JJ T){l:List Lk}(hw:Bg Lk.wf l)(hz:Dy Lk.sz l≤1048576):PO T 369 [kY l] (.nK [D5 (QJ l),kN (esE l),.bool (aaI l)]):=by
 have hl:l.length≤1048576:=by have:=vY Lk.sz l;omega
 have cj:=(aaB h.Wy (l:=l) hw hl).frz (Y3 (Ak _ _) (acv _ _) (uQ _ _));have hcn:=V9 (l:=l);have wj:=Wh hcn.1 hcn.2.2.1;have zj:=Tz hcn.1 hcn.2.2.1;have cm:=(TL h.P5 (l:=zn l) (last:=[]) wj (by simp)).frz (jS _ _);have ml:=ai8 (zn l) [];have ce:=(Wv h.Rx (S:=zn l) (o:=TT (zn l) []) wj (by omega) (by omega)).frz (Y3 (aqm _ _) (acv _ _) (uQ _ _));have er:=anV (TT (zn l) []) wj (by omega);have ecn:=auY (zn l) (TT (zn l) []);have nps:=aoi er.1.1;have nl:(esN l).length≤1048576:=by have:=vY Cd.sz (eaN (zn l) (TT (zn l) []));unfold esN;omega
 have cs:=adr h.Xv (l:=esN l) er.2.1 nps nl;have ca:=Gv h.lC hcn.2.1 ecn;have scn:=vK (V8 l) (eaE (zn l) (TT (zn l) []));have hOk:aaI l=(GN l&&ZM (zn l) (TT (zn l) [])&&svG (esN l)&&(esS l).ok):=rfl;have hF:=@ayP l;have hT:=@ayQ l;rw [show pI (V8 l) (eaE (zn l) (TT (zn l) []))=esS l from rfl]at ca scn;rw [show eaN (zn l) (TT (zn l) [])=esN l from rfl]at ce;generalize aaI l=ok at *;generalize QJ l=vv at *;generalize esE l=ee at *;generalize esS l=es at *;generalize svG (esN l)=b3 at *;generalize svV (esN l)=sv at *;generalize ZM (zn l) (TT (zn l) [])=b2 at *;generalize eaE (zn l) (TT (zn l) [])=ea at *;generalize esN l=N at *;generalize TT (zn l) []=md at *;generalize GN l=b1 at *;generalize zn l=J at *;generalize V8 l=je at *;subst hOk;refine kW (fun x d=>(x == 272&&d == 34)||(x == 131&&d == 39)) h.hT ?_;simp only [Du,Lz,St.enter,aj,au,aN];refine ew ?_;refine jy cj ?_
 cases b1
 ·obtain⟨rfl,rfl⟩:=hF rfl;refine ew ?_;exact Yd
 refine ew ?_;refine ab1 cm ⟨_,_,rfl,kE _,_,_,rfl,of_eq_true (mX 1),rfl⟩ ?_;refine ew ?_;refine jy ce ?_
 cases b2
 ·obtain⟨rfl,rfl⟩:=hF rfl;refine ew ?_;exact Yd
 refine ew ?_;refine kU cs (by (refine ew ?_;try with_reducible exact True.intro)) ?_;intro r q1 o1 G;obtain⟨_,rfl,G1⟩:=G.ow.XK;obtain⟨a,_,oa,ob,rfl,rfl,ha,hz1⟩:=G1.inv;obtain⟨_,rfl,hz2⟩:=hz1.vP;obtain⟨rfl,rfl⟩:=hz2.C9;have la:=ha.leaf rfl;have gl:=G.len;simp only [aj,au]at gl;have P0:=(G.old 0 (by simp)).trans rfl;have P1:=(G.old 1 (by simp)).trans rfl;have P2:=(G.old 2 (by simp)).trans rfl;have fr1:∀o∈oa,3≤o:=fun o ho=>by have:=G.fresh o (by simp [ho]);simpa using this
 have nd1:oa.Nodup:=by have:=G.nd;simpa using this
 refine vW @la @P1 @P2 ?_;refine kU ca (by (refine uh @P1 @P2 ?_;try with_reducible exact True.intro)) ?_;intro r2 q2 o2 G2;obtain⟨_,rfl,hQ⟩:=G2.ow.kV;obtain⟨y1,y2,rfl⟩:=hQ.rat
 have lq:=nI.leaf hQ rfl;simp only [dh,fB,dK,aG]at lq;have gl2:=G2.len;have Q0:=(G2.old 0 (by simp)).trans ((kJ (by omega)).trans P0);simp only [aJ,aj,au]at gl2;have fr2:∀o∈o2,q1.length+1≤o:=fun o ho=>by have:=G2.fresh o ho;simpa using this
 have E1:Ep q1 [a] [D5 sv] oa []:=⟨⟨by simpa using abj ha,nd1⟩,by simp⟩;have E2:=E1.got (s1:=q1++[none]) (fun o ho=>kJ ho) (by simp) hQ G2.nd (by simpa using fr2) G2.old;have hn:∀o∈oa++o2,o≠q1.length:=fun o ho e=>by
  rcases aO.1 ho with ho|ho
  ·have:=E1.aax o ho;omega
  have:=fr2 o ho;omega
 refine DF @lq @gl2 @la @List.set_set.{0} ?_;obtain⟨q3,hq3⟩:∃q3:Store,q2.set q1.length (some (⟨3,[[.bool es.neg,y1,y2]]⟩:Obj))=q3:=⟨_,rfl⟩;have C3:=E2.c.set (o:=q1.length) (x:=some ⟨3,[[.bool es.neg,y1,y2]]⟩) (fun hm=>hn _ hm rfl);have m0:jH q3 0=some ⟨3,[[.bool false,.jL,.jL]]⟩:=by rw [←hq3,jV (by omega)];exact Q0
 have m1:jH q3 q1.length=some ⟨3,[[.bool es.neg,y1,y2]]⟩:=by rw [←hq3];exact kT (by omega)
 rw [hq3]at C3;simp only [hq3];have n1:q1.length≠0:=by omega
 have n2:q1.length<q3.length:=kK m1;generalize q1.length=b at *
 cases b3
 ·obtain⟨rfl,rfl⟩:=hF rfl;refine uh @m0 @m1 ?_;exact Yd
 have cg:=J3 h.kL scn;have R3:=ah (aoh C3.ow 2 rfl rfl (jS _ _)) (aoh C3.ow 3 rfl rfl (jS _ _));refine DF @m0 @m1 @lq @R3 ?_;refine jy cg ?_
 cases hb4:es.ok
 ·obtain⟨rfl,rfl⟩:=hF (by rw [hb4];rfl);refine uh @m0 @m1 ?_;exact Yd
 obtain⟨rfl,rfl⟩:=hT (by rw [hb4];rfl);refine DF @m0 @m1 @lq @la ?_;refine⟨by unfold pz;rfl,?_⟩;have C4:=C3.set (o:=0) (x:=some ⟨3,[[.bool ee.neg,y1,y2]]⟩) (fun hm=>by
  rcases aO.1 hm with hm|hm
  ·have:=fr1 _ hm;omega
  have:=fr2 _ hm;omega)
 obtain⟨v1,v2,p1,p2,e1,e2,w1,w2⟩:=pq (ts:=[D5 vv]) (ts':=ee.cells) C4.ow;have hv:v1.length=1:=w1.len;obtain⟨rfl,rfl⟩:=dZ (s₁:=[a]) (t₁:=[.bool ee.neg,y1,y2]) e1 (by rw [hv];rfl);have W9:=mD w1 (mD (abj (nN w2)) (nS (b:=true) nM));refine rE (IE W9) ?_;have:=C4.nd;rw [e2]at this;simpa using this
def zh:Fn:=⟨2,81,[.tmp 4],(sr [oN 4 (.mM (cI 0))] (.seq (sr [oN 5 (.mM (cI 0))] (.block 0 (.loop (.seq (sr [oW 6 5,oW 7 0,oN 8 (ln 7),oN 9 (bt .lss 6 8)] (cd 9 .skip (.exit 0))) (.seq (.block 1 (.seq (sr [oW 12 0,oW 13 5,oN 14 (ix 6 12 13),oN 15 (fd 0 14),oN 16 (fd 0 15),oN 17 (fd 0 16),oN 18 (lF 1 17),oW 19 1,oN 20 (bc .rem 19 3),oN 21 (bc .eql 20 0),oN 22 (.beq true (.t 18) (.t 21))] (cd 22 (sr [oN 4 (.mM (cI (-1)))] .ret) .skip)) (sr [oW 23 1,oN 24 (bc .add 23 1),oW 1 24] (sr [oW 25 0,oW 26 5,oN 27 (ix 6 25 26),oN 28 (fd 0 27),oN 29 (fd 0 28),oN 30 (fd 1 29),oN 31 (lF 1 30),oW 32 1,oN 33 (cl 59 [31,32]),oW 1 33] (.seq (sr [oW 34 1,oN 35 (bc .lss 34 0)] (cd 35 (sr [oN 4 (.mM (cI (-1)))] .ret) .skip)) (sr [oW 36 0,oW 37 5,oN 38 (ix 6 36 37),oN 39 (fd 0 38),oN 40 (fd 2 39),oN 41 (lF 1 40),oW 42 1,oN 43 (cl 59 [41,42]),oW 1 43] (.seq (sr [oW 44 1,oN 45 (bc .lss 44 0)] (cd 45 (sr [oN 4 (.mM (cI (-1)))] .ret) .skip)) (.seq (sr [oW 46 0,oW 47 5,oN 48 (ix 6 46 47),oN 49 (fd 3 48),oN 50 (fd 0 49),oN 51 (fd 0 50),oN 52 (lF 1 51),oW 53 1,oN 54 (bc .rem 53 3),oN 55 (bc .eql 54 0),oN 56 (.beq true (.t 52) (.t 55))] (cd 56 (sr [oN 4 (.mM (cI (-1)))] .ret) .skip)) (sr [oW 57 1,oN 58 (bc .add 57 1),oW 1 58] (sr [oW 59 0,oW 60 5,oN 61 (ix 6 59 60),oN 62 (fd 3 61),oN 63 (fd 0 62),oN 64 (fd 1 63),oN 65 (lF 1 64),oW 66 1,oN 67 (cl 59 [65,66]),oW 1 67] (.seq (sr [oW 68 1,oN 69 (bc .lss 68 0)] (cd 69 (sr [oN 4 (.mM (cI (-1)))] .ret) .skip)) (sr [oW 70 0,oW 71 5,oN 72 (ix 6 70 71),oN 73 (fd 3 72),oN 74 (fd 2 73),oN 75 (lF 1 74),oW 76 1,oN 77 (cl 59 [75,76]),oW 1 77] (sr [oW 78 1,oN 79 (bc .lss 78 0)] (cd 79 (sr [oN 4 (.mM (cI (-1)))] .ret) .skip)))))))))))))) (rg [oW 10 5,oN 11 (bc .add 10 1),oW 5 11])))))) (sr [oW 80 1,oW 4 80] .ret)))⟩
structure FT (T:Tb):Prop where
 hT:T 386=some zh
 qP:yj T
def zi:Fn:=⟨2,12,[.tmp 4],(.seq (rf 1 [oN 2 (.box (.t 0)),oK 4 1 (.mM (cI 0))]) (sr [oN 5 (fd 1 2),oN 6 (lF 1 5),oW 7 1,oN 8 (cl 59 [6,7]),oW 1 8] (.seq (sr [oW 9 1,oN 10 (bc .lss 9 0)] (cd 10 (sr [oN 4 (.mM (cI (-1)))] .ret) .skip)) (sr [oW 11 1,oW 4 11] .ret))))⟩
structure FU (T:Tb):Prop where
 hT:T 58=some zi
 qP:yj T
def FV:Fn:=⟨2,18,[.tmp 4],(.seq (rf 1 [oN 2 (.box (.t 0)),oK 4 1 (.mM (cI 0))]) (sr [oN 5 (fd 0 2),oN 6 (lT 2 5),oW 7 1,oN 8 (cl 58 [6,7]),oW 1 8] (.seq (sr [oW 9 1,oN 10 (bc .lss 9 0)] (cd 10 (sr [oN 4 (.mM (cI (-1)))] .ret) .skip)) (sr [oN 11 (fd 2 2),oN 12 (lF 1 11),oW 13 1,oN 14 (cl 59 [12,13]),oW 1 14] (.seq (sr [oW 15 1,oN 16 (bc .lss 15 0)] (cd 16 (sr [oN 4 (.mM (cI (-1)))] .ret) .skip)) (sr [oW 17 1,oW 4 17] .ret))))))⟩
structure LJ (T:Tb):Prop where
 hT:T 42=some FV
 Ve:FU T
 qP:yj T
theorem Vf{T:Tb}(h:FT T){l:List Pt}{k:Int}(hl:Dy Pt.sz l≤1000000000:=by exact lX)(hk:0≤k∧k+EC Pt.ct l l.length≤1000000000000:=by exact lX) :
  PF T 386 [D5 (TR Pt.mk3 Pt.ct k l),iv k] (iv (k+EC Pt.ct l l.length)):=by
 have hll:l.length≤1000000000:=by unfold Dy at hl;omega
 have hml:=OO Pt.mk3 Pt.ct k l;refine kQ nR h.hT ?_;simp only [zh,Lz];refine ev ?_;refine kG (fun _ _=>false) (α:=Nat) (fun i=>⟨kX [D5 (TR Pt.mk3 Pt.ct k l),iv (k+EC Pt.ct l i),.any,.any,.any,iv (i:Nat)],[],0,0,[],[]⟩) (fun i=>i≤l.length) (fun i=>l.length-i) rfl 0 ?_ ?_ ?_
 ·omega
 ·(refine jW ?_)<;>(try (refine ev1 @aeK ?_;try with_reducible exact True.intro))<;>(repeat' (first|refine⟨?_,?_⟩|exact vH (by omega)|exact xH (by simp)|exact vI _))
 intro i hi;refine ev1 @hml ?_;refine kD (fun hc=>?_) fun hc=>?_
 ·have hil:i<l.length:=by omega
  have hrow:=(mg (f:=Pt.cells) (show i<(TR Pt.mk3 Pt.ct k l).length by omega)).trans (congrArg Pt.cells (agQ Pt.mk3 Pt.ct k l i hil));obtain⟨x,hx⟩:∃x,l.getD i default=x:=⟨_,rfl⟩;have hcn:=amB Pt.ct l hil;have hcl:=acs Pt.ct l (i:=i+1) hil;have hxs:Pt.sz x≤1000000000:=by
   have:=agP Pt.sz hil;rw [hx]at this;omega
  rw [hx]at hcn hrow;rw [hcn]at hcl;have hct:Pt.ct x=1+x.x.mag.length+x.x.den.length+1+x.y.mag.length+x.y.den.length:=rfl;obtain⟨kk,hkk⟩:∃kk,k+(EC Pt.ct l i:Int)=kk:=⟨_,rfl⟩;rw [hkk]at hrow;have hrow:(List.map Pt.cells (TR Pt.mk3 Pt.ct k l)).getD i []=[.bool (decide ((kk).tmod 3=0)),ints (cnt x.x.mag.length (kk+1)),ints (cnt x.x.den.length (kk+1+x.x.mag.length)),.bool (decide ((kk+1+x.x.mag.length+x.x.den.length).tmod 3=0)),ints (cnt x.y.mag.length (kk+1+x.x.mag.length+x.x.den.length+1)),ints (cnt x.y.den.length (kk+1+x.x.mag.length+x.x.den.length+1+x.y.mag.length))]:=hrow;simp only [Pt.sz,R.sz]at hxs;refine ev4 @hc @hrow @hkk @hml ?_;refine jy (Gu h.qP (n:=x.x.mag.length) (k:=kk+1) (by omega) (by omega)) ?_;refine qW @hrow @hml ?_;refine kD (fun hc=>absurd hc (by omega)) fun _=>?_;refine qW @hrow @hml ?_;refine jy (Gu h.qP (n:=x.x.den.length) (k:=kk+1+x.x.mag.length) (by omega) (by omega)) ?_;refine qW @hrow @hml ?_;refine kD (fun hc=>absurd hc (by omega)) fun _=>?_;refine qW @hrow @hml ?_;refine jy (Gu h.qP (n:=x.y.mag.length) (k:=kk+1+x.x.mag.length+x.x.den.length+1) (by omega) (by omega)) ?_;refine qW @hrow @hml ?_;refine kD (fun hc=>absurd hc (by omega)) fun _=>?_;refine qW @hrow @hml ?_;refine jy (Gu h.qP (n:=x.y.den.length) (k:=kk+1+x.x.mag.length+x.x.den.length+1+x.y.mag.length) (by omega) (by omega)) ?_;refine qW @hrow @hml ?_;refine kD (fun hc=>absurd hc (by omega)) fun _=>?_;refine qW @hrow @hml ?_;exact⟨i+1,by omega,by omega,by (refine jW ?_;exact zX)⟩
 have:i=l.length:=by omega
 subst this
 (refine ev1 @hc ?_;try with_reducible exact True.intro)
theorem adu{T:Tb}(h:FU T){x:Bi}{k:Int}(hl:x.mag.length≤1000000000:=by exact lX)(hk:0≤k∧k+Bi.vV x≤1000000000000:=by exact lX) :
  PF T 58 [Oo (Bi.mk2 k x),iv k] (iv (k+Bi.vV x)):=by
 have hk':=hk;simp only [Bi.vV]at hk';refine kQ nR h.hT ?_;simp only [zi,Lz];refine ev ?_;refine jy (Gu h.qP (n:=x.mag.length) (k:=k) (by first|omega|(simp only [Bi.vV,R.vV,Bi.vV];omega)) (by first|omega|(simp only [Bi.vV,R.vV,Bi.vV];omega))) ?_;refine ev ?_;refine kD (fun hc=>absurd hc (by first|omega|(simp only [Bi.vV];omega))) fun _=>?_;refine ev ?_;exact ivc (by first|rfl|(simp only [Bi.vV];omega))
theorem abH{T:Tb}(h:LJ T){x:R}{k:Int}(hl:x.sz≤1000000000:=by exact lX)(hk:0≤k∧k+R.vV x≤1000000000000:=by exact lX) :
  PF T 42 [kN (R.mk2 k x),iv k] (iv (k+R.vV x)):=by
 have hl':=hl;simp only [R.sz]at hl';have hk':=hk;simp only [R.vV,Bi.vV]at hk';refine kQ nR h.hT ?_;simp only [FV,Lz];refine ev ?_;refine jy (adu h.Ve (x:=x.num) (k:=k) (by first|omega|(simp only [R.sz,R.vV,Bi.vV];omega)) (by first|omega|(simp only [R.sz,R.vV,Bi.vV];omega))) ?_;refine ev ?_;refine kD (fun hc=>absurd hc (by first|omega|(simp only [R.vV,Bi.vV];omega))) fun _=>?_;refine ev ?_;refine jy (Gu h.qP (n:=x.den.length) (k:=k+Bi.vV x.num) (by first|omega|(simp only [R.sz,R.vV,Bi.vV];omega)) (by first|omega|(simp only [R.sz,R.vV,Bi.vV];omega))) ?_;refine ev ?_;refine kD (fun hc=>absurd hc (by first|omega|(simp only [R.vV,Bi.vV];omega))) fun _=>?_;refine ev ?_;exact ivc (by first|rfl|(simp only [R.vV,Bi.vV];omega))
theorem aoj{α:Type}{c f:α→Nat}{K:Nat}(h:∀x,c x≤K*(1+f x))(l:List α):EC c l l.length≤K*Dy f l:=by
 unfold EC Dy;rw [bQ]
 induction l with
 |nil=>simp
 |
  cons x l ih =>
  rw [bC,jU,bC,jU,aj];have:=h x;rw [show l.length+1+(f x+(l.map f).sum)=(1+f x)+(l.length+(l.map f).sum) by omega,iQ];omega
theorem ayR(x:Pt):Pt.ct x≤5*(1+x.sz):=by unfold Pt.ct Pt.sz R.sz;omega
theorem ayS(x:Lk):Lk.ct x≤5*(1+x.sz):=by unfold Lk.ct Lk.sz R.sz;omega
theorem akK(l:List Pt):EC Pt.ct l l.length≤5*Dy Pt.sz l:=aoj ayR l
theorem aok(l:List Lk):EC Lk.ct l l.length≤5*Dy Lk.sz l:=aoj ayS l
theorem auZ(x:R):x.vV≤x.sz:=by unfold R.vV Bi.vV R.sz;exact aP _
def uo:Fn:=⟨1,133,[.tmp 2],(sr [oN 2 mF] (sr [oN 3 (.mM (cI 1048576))] (sr [oW 17 0,oW 18 3,oN 19 (cl 19 [17,18]),oW 3 19] (.seq (sr [oW 20 3,oN 21 (bc .lss 20 0)] (cd 21 (sr [oN 2 mT] .ret) .skip)) (.seq (rf 1 [oK 23 1 (oV 0),oK 24 1 (cl 21 [23]),oK 25 1 (cl 395 [24]),oK 22 1 (oV 25),oK 26 1 (ex 0 22),oK 27 1 (ex 1 22),oK 28 1 (ex 2 22),oN 5 (.alloc qL),oK 4 1 (oV 26),⟨none,none,1,.store 3 (.t 5) (.t 27),[]⟩,oK 6 1 (oV 28)]) (sr [oW 29 0,oN 30 (cl 21 [29]),oW 7 30] (.seq (rf 1 [oK 32 1 (oV 7),oK 33 1 (cl 369 [32]),oK 31 1 (oV 33),oK 34 1 (ex 0 31),oK 35 1 (ex 1 31),oK 36 1 (ex 2 31),oN 9 (.alloc qL),oK 8 1 (oV 34),⟨none,none,1,.store 3 (.t 9) (.t 35),[]⟩,oK 10 1 (oV 36)]) (.seq (sr [oW 37 8,oW 38 4,oN 39 (cl 13 [37,38]),oN 40 (nt 39),oW 41 40,oG 41 false 42 (lT 3 9),oG 41 false 43 (lT 3 5),oG 41 false 44 (cl 40 [42,43]),oG 41 false 45 (nt 44),oN 46 (.pick (.t 41) (.c (.bool true)) (.t 45)),oW 47 46,oG 47 false 48 (oV 10),oG 47 false 49 (oV 6),oG 47 false 50 (.beq true (.t 48) (.t 49)),oN 51 (.pick (.t 47) (.c (.bool true)) (.t 50))] (cd 51 (sr [oN 2 mF] .ret) .skip)) (.seq (sr [oW 52 7,oW 53 0,oN 54 (cl 21 [53]),oN 55 (cl 23 [52,54]),oN 56 (nt 55)] (cd 56 (sr [oN 2 mF] .ret) .skip)) (sr [oN 11 (.mM (cI 1))] (sr [oW 57 7,oW 58 11,oN 59 (cl 118 [57,58]),oW 11 59] (.seq (sr [oW 60 11,oN 61 (bc .lss 60 0),oW 62 61,oG 62 false 63 (oV 8),oG 62 false 64 (oV 4),oG 62 false 65 (cl 13 [63,64]),oG 62 false 66 (nt 65),oN 67 (.pick (.t 62) (.c (.bool true)) (.t 66)),oW 68 67,oG 68 false 69 (lT 3 9),oG 68 false 70 (lT 3 5),oG 68 false 71 (cl 40 [69,70]),oG 68 false 72 (nt 71),oN 73 (.pick (.t 68) (.c (.bool true)) (.t 72)),oW 74 73,oG 74 false 75 (oV 10),oG 74 false 76 (oV 6),oG 74 false 77 (.beq true (.t 75) (.t 76)),oN 78 (.pick (.t 74) (.c (.bool true)) (.t 77))] (cd 78 (sr [oN 2 mF] .ret) .skip)) (sr [oN 12 (.mM (cI 1))] (sr [oW 79 8,oW 80 12,oN 81 (cl 334 [79,80]),oW 12 81] (sr [oN 82 (lT 3 9),oW 83 12,oN 84 (cl 41 [82,83]),oW 12 84] (sr [oN 13 (.mM (cI 1))] (sr [oW 85 8,oW 86 13,oN 87 (cl 386 [85,86]),oW 13 87] (.seq (sr [oW 88 13,oN 89 (bc .lss 88 0)] (cd 89 (sr [oN 2 mF] .ret) .skip)) (sr [oN 90 (lT 3 9),oW 91 13,oN 92 (cl 42 [90,91]),oW 13 92] (.seq (sr [oW 93 13,oN 94 (bc .lss 93 0)] (cd 94 (sr [oN 2 mF] .ret) .skip)) (.seq (sr [oW 95 13,oW 96 12,oN 97 (bt .neq 95 96)] (cd 97 (sr [oN 2 mF] .ret) .skip)) (.seq (rf 1 [oK 99 1 (oV 0),oK 100 1 (cl 21 [99]),oK 101 1 (cl 369 [100]),oK 98 1 (oV 101),oK 102 1 (ex 0 98),oK 103 1 (ex 1 98),oK 104 1 (ex 2 98),oN 15 (.alloc qL),oK 14 1 (oV 102),⟨none,none,1,.store 3 (.t 15) (.t 103),[]⟩,oK 16 1 (oV 104)]) (.seq (sr [oW 105 14,oW 106 4,oN 107 (cl 13 [105,106]),oN 108 (nt 107),oW 109 108,oG 109 false 110 (lT 3 15),oG 109 false 111 (lT 3 5),oG 109 false 112 (cl 40 [110,111]),oG 109 false 113 (nt 112),oN 114 (.pick (.t 109) (.c (.bool true)) (.t 113)),oW 115 114,oG 115 false 116 (oV 16),oG 115 false 117 (oV 6),oG 115 false 118 (.beq true (.t 116) (.t 117)),oN 119 (.pick (.t 115) (.c (.bool true)) (.t 118))] (cd 119 (sr [oN 2 mF] .ret) .skip)) (sr [oN 13 (.mM (cI 1))] (sr [oW 120 8,oW 121 13,oN 122 (cl 386 [120,121]),oW 13 122] (.seq (sr [oW 123 13,oN 124 (bc .lss 123 0)] (cd 124 (sr [oN 2 mF] .ret) .skip)) (sr [oN 125 (lT 3 9),oW 126 13,oN 127 (cl 42 [125,126]),oW 13 127] (.seq (sr [oW 128 13,oN 129 (bc .lss 128 0)] (cd 129 (sr [oN 2 mF] .ret) .skip)) (.seq (sr [oW 130 13,oW 131 12,oN 132 (bt .neq 130 131)] (cd 132 (sr [oN 2 mF] .ret) .skip)) (sr [oN 2 mT] .ret))))))))))))))))))))))))))))))⟩
structure FW (T:Tb):Prop where
 hT:T 383=some uo
 JK:JB T
 ZT:KU T
 FX:EM T
 ZU:KW T
 rV:EH T
 ZV:KX T
 QK:LJ T
 WA:Gw T
 Vg:EO T
 Xw:JJ T
 MQ:FT T
 Xx:JI T
theorem QL{T:Tb}(h:FW T)(a:List Lk)(wa:(Bg Lk.wf) a):PF T 383 [kY a] (.bool true):=by
 refine PO.frz ?_ (uQ 11 _);refine kW (fun x d=>(x == 21&&d == 30)||(x == 369&&d == 33)||(x == 118&&d == 59)||(x == 334&&d == 81)||(x == 41&&d == 84)) h.hT ?_;simp only [uo,Lz,St.enter,aj,au,aN];refine ew ?_;refine jy (ake h.ZT (l:=a) wa ⟨by omega,by omega⟩) ?_;refine ew ?_;have ka:=@YC (1048576) (Dy Lk.sz a);refine kD (fun hba=>?_) fun hba=>?_
 ·refine ew ?_;exact aeN
 have sa:=aia hba;refine ew ?_;have za:Dy Lk.sz a≤1048576:=by omega
 have hcn:=auX a;have zr:=hcn.1;have wr:=hcn.2.1;have we:=hcn.2.2;have:=aok a;have:=akK (QJ a);have:=auZ (esE a);have PI:=adt h.Xw wa za;refine jy (VW h.FX (l:=a) za) ?_;refine ew ?_;refine jy (afD h.Xx wa za) ?_;refine ew ?_;refine kU (ag1 h.FX (l:=a) za) (by (refine ew ?_;try with_reducible exact True.intro)) ?_;intro x0 q1 o1 G;have hO:=G.ow;have gn:=G.nd;have gf:=G.fresh;have go:=G.old;have gl:=G.len;clear G;have E:Ep ([some ⟨3,[[.bool (esE a).neg,ints (esE a).mag,ints (esE a).den]]⟩]:Store) [] [] [] [(0,⟨3,[[.bool (esE a).neg,ints (esE a).mag,ints (esE a).den]]⟩)]:=⟨Np,by simp [jH]⟩;have E2:=E.got (s1:=([some ⟨3,[[.bool (esE a).neg,ints (esE a).mag,ints (esE a).den]]⟩]:Store)) (fun _ _=>rfl) (by simp) (abj hO) (by first|exact gn|simpa using gn) (by first|exact gf|simpa using gf) (by first|exact go|simpa using go);have hq:([some ⟨3,[[.bool (esE a).neg,ints (esE a).mag,ints (esE a).den]]⟩]:Store).length+0≤q1.length:=by first|exact gl|simpa using gl
 clear E gn gf go gl;have E:Ep q1 [x0] [kY a] _ [(0,⟨3,[[.bool (esE a).neg,ints (esE a).mag,ints (esE a).den]]⟩)]:=E2;clear E2;have Rf:=ah (E.res 0 rfl rfl (Ak _ _)) (fun x=>(E.snoc (x:=x)).res 0 rfl rfl (Ak _ _));have LF:=E.leaf 0 rfl rfl;have LO:=E.at0 (p:=0) (ob:=⟨3,[[.bool (esE a).neg,ints (esE a).mag,ints (esE a).den]]⟩) (by simp);refine Df @Rf @LF @LO @jT @kM ?_;refine kU (PI) (by (refine Df @Rf @LF @LO @jT @kM ?_;try with_reducible exact True.intro)) ?_;intro r q2 o2 G;have hO:=G.ow;have gn:=G.nd;have gf:=G.fresh;have go:=G.old;have gl:=G.len;clear G;obtain⟨_,rfl,hO0⟩:=hO.XK;obtain⟨g0,_,aDP,aG9,rfl,rfl,ayT,ayU⟩:=hO0.inv;obtain⟨_,_,aDQ,aHa,rfl,rfl,ayV,ayW⟩:=ayU.inv;obtain⟨_,rfl,asg⟩:=ayV.kV;obtain⟨TN,TP,rfl⟩:=asg.rat
 obtain⟨_,rfl,ayX⟩:=ayW.vP;obtain⟨rfl,rfl⟩:=ayX.C9;simp only [aQ,dL]at gn gf;have E2:=E.got (s1:=q1++[none]) ((fun q hq=>by first|exact lQ hq|(simp only [bJ];exact lQ hq))) (by simp) (mD (abj ayT) (asg)) (by first|exact gn|simpa using gn) (by first|exact gf|simpa using gf) (by first|exact go|simpa using go);have F0:=E.free (os2:=aDP++(aDQ)) (s1:=q1++[none]) (p:=q1.length) (by first|exact gf|simpa using gf) (by simp) (by simp);have hq:q1.length+1≤q2.length:=by first|exact gl|simpa using gl
 try simp only [aj,au,aN,Nat.reduceAdd]at hq
 have hl0:q1.length<q2.length:=by omega
 have:0≠q1.length:=by have:=E.lt (0,⟨3,[[.bool (esE a).neg,ints (esE a).mag,ints (esE a).den]]⟩) (by simp);omega
 clear E gn gf go gl;have E:Ep q2 [x0,g0,.bool (esE a).neg,TN,TP] [kY a,D5 (QJ a),.bool (esE a).neg,ints (esE a).mag,ints (esE a).den] _ [(0,⟨3,[[.bool (esE a).neg,ints (esE a).mag,ints (esE a).den]]⟩)]:=E2;clear E2
 replace E:=E.EF (p:=q1.length) (ob:=⟨3,[[.bool (esE a).neg,TN,TP]]⟩) (L':=[(0,⟨3,[[.bool (esE a).neg,ints (esE a).mag,ints (esE a).den]]⟩),(q1.length,⟨3,[[.bool (esE a).neg,TN,TP]]⟩)]) F0 (by first|omega|(simp;omega)) (by simp;(try omega))
 replace Rf:=ah (E.res 0 rfl rfl (Ak _ _)) (ah (fun x=>(E.snoc (x:=x)).res 0 rfl rfl (Ak _ _)) (ah (E.res 1 rfl rfl (wF _ _)) (ah (fun x=>(E.snoc (x:=x)).res 1 rfl rfl (wF _ _)) (ah (E.res1 3 rfl rfl (jS _ _)) (ah (fun x=>(E.snoc (x:=x)).res1 3 rfl rfl (jS _ _)) (ah (E.res1 4 rfl rfl (jS _ _)) (fun x=>(E.snoc (x:=x)).res1 4 rfl rfl (jS _ _))))))))
 replace LF:=ah (E.leaf 0 rfl rfl) (ah (E.leaf 1 rfl rfl) (ah (E.leaf 3 rfl rfl) (E.leaf 4 rfl rfl)))
 replace LO:=ah (E.at0 (p:=0) (ob:=⟨3,[[.bool (esE a).neg,ints (esE a).mag,ints (esE a).den]]⟩) (by simp)) (E.at0 (p:=q1.length) (ob:=⟨3,[[.bool (esE a).neg,TN,TP]]⟩) (by simp))
 refine zK @Rf @LF @LO @jT @kM @List.set_set.{0} ?_;obtain⟨s2,hs⟩:∃s,(q2.set (q1.length) (some ⟨3,[[.bool (esE a).neg,TN,TP]]⟩))=s:=⟨_,rfl⟩;have hls:q2.length=s2.length:=by rw [←hs];simp
 simp only [hs]at *;clear hs;simp only [hls]at *;clear hls;obtain⟨ahO,hpn⟩:∃p,q1.length=p:=⟨_,rfl⟩;simp only [hpn]at *;clear hpn;clear Rf LF LO;have Rf:=ah (E.res 0 rfl rfl (Ak _ _)) (ah (fun x=>(E.snoc (x:=x)).res 0 rfl rfl (Ak _ _)) (ah (E.res 1 rfl rfl (wF _ _)) (ah (fun x=>(E.snoc (x:=x)).res 1 rfl rfl (wF _ _)) (ah (E.res1 3 rfl rfl (jS _ _)) (ah (fun x=>(E.snoc (x:=x)).res1 3 rfl rfl (jS _ _)) (ah (E.res1 4 rfl rfl (jS _ _)) (fun x=>(E.snoc (x:=x)).res1 4 rfl rfl (jS _ _))))))));have LF:=ah (E.leaf 0 rfl rfl) (ah (E.leaf 1 rfl rfl) (ah (E.leaf 3 rfl rfl) (E.leaf 4 rfl rfl)));have LO:=ah (E.at0 (p:=0) (ob:=⟨3,[[.bool (esE a).neg,ints (esE a).mag,ints (esE a).den]]⟩) (by simp)) (E.at0 (p:=ahO) (ob:=⟨3,[[.bool (esE a).neg,TN,TP]]⟩) (by simp));refine jy (Tf h.JK (a:=(QJ a)) (b:=(QJ a)) wr wr) ?_;refine Df @Rf @LF @LO @jT @kM ?_;refine jy (MJ h.rV (y:=(esE a)) (z:=(esE a)) we we) ?_;refine Df @Rf @LF @LO @jT @kM ?_;refine jy (VW h.FX (l:=a) za) ?_;refine Df @Rf @LF @LO @jT @kM ?_;refine jy (akf h.ZU (a:=a) (b:=a) wa wa) ?_;refine Df @Rf @LF @LO @jT @kM ?_;have hk0:¬((1+EC Lk.ct a a.length:Int)<0):=by omega
 obtain⟨s3,hr,E2,hl⟩:=E.call 0 (acB h.WA (l:=a) (k:=1) (by first|omega|(constructor<;>omega)) (by first|omega|(constructor<;>omega))) rfl rfl;refine uj hr rfl hl (by simp) ?_;clear hr hl E Rf LF LO;have E:Ep s3 [x0,g0,.bool (esE a).neg,TN,TP] [kY (TR Lk.mk3 Lk.ct 1 a),D5 (QJ a),.bool (esE a).neg,ints (esE a).mag,ints (esE a).den] _ [(0,⟨3,[[.bool (esE a).neg,ints (esE a).mag,ints (esE a).den]]⟩),(ahO,⟨3,[[.bool (esE a).neg,TN,TP]]⟩)]:=E2;clear E2;have Rf:=ah (E.res 0 rfl rfl (Ak _ _)) (ah (fun x=>(E.snoc (x:=x)).res 0 rfl rfl (Ak _ _)) (ah (E.res 1 rfl rfl (wF _ _)) (ah (fun x=>(E.snoc (x:=x)).res 1 rfl rfl (wF _ _)) (ah (E.res1 3 rfl rfl (jS _ _)) (ah (fun x=>(E.snoc (x:=x)).res1 3 rfl rfl (jS _ _)) (ah (E.res1 4 rfl rfl (jS _ _)) (fun x=>(E.snoc (x:=x)).res1 4 rfl rfl (jS _ _))))))));have LF:=ah (E.leaf 0 rfl rfl) (ah (E.leaf 1 rfl rfl) (ah (E.leaf 3 rfl rfl) (E.leaf 4 rfl rfl)));have LO:=ah (E.at0 (p:=0) (ob:=⟨3,[[.bool (esE a).neg,ints (esE a).mag,ints (esE a).den]]⟩) (by simp)) (E.at0 (p:=ahO) (ob:=⟨3,[[.bool (esE a).neg,TN,TP]]⟩) (by simp));refine zK @Rf @LF @LO @jT @kM @hk0 ?_;refine jy (Tf h.JK (a:=(QJ a)) (b:=(QJ a)) wr wr) ?_;refine zK @Rf @LF @LO @jT @kM @hk0 ?_;refine jy (MJ h.rV (y:=(esE a)) (z:=(esE a)) we we) ?_;refine zK @Rf @LF @LO @jT @kM @hk0 ?_;obtain⟨s4,hr,E2,hl⟩:=E.call 1 (aar h.Vg (l:=(QJ a)) (k:=1) (by first|omega|(constructor<;>omega)) (by first|omega|(constructor<;>omega))) rfl rfl;refine uj hr rfl hl (by simp) ?_
 clear hr hl E Rf LF LO;have E:Ep s4 [x0,g0,.bool (esE a).neg,TN,TP] [kY (TR Lk.mk3 Lk.ct 1 a),D5 (TR Pt.mk3 Pt.ct 1 (QJ a)),.bool (esE a).neg,ints (esE a).mag,ints (esE a).den] _ [(0,⟨3,[[.bool (esE a).neg,ints (esE a).mag,ints (esE a).den]]⟩),(ahO,⟨3,[[.bool (esE a).neg,TN,TP]]⟩)]:=E2;clear E2;have Rf:=ah (E.res 0 rfl rfl (Ak _ _)) (ah (fun x=>(E.snoc (x:=x)).res 0 rfl rfl (Ak _ _)) (ah (E.res 1 rfl rfl (wF _ _)) (ah (fun x=>(E.snoc (x:=x)).res 1 rfl rfl (wF _ _)) (ah (E.res1 3 rfl rfl (jS _ _)) (ah (fun x=>(E.snoc (x:=x)).res1 3 rfl rfl (jS _ _)) (ah (E.res1 4 rfl rfl (jS _ _)) (fun x=>(E.snoc (x:=x)).res1 4 rfl rfl (jS _ _))))))));have LF:=ah (E.leaf 0 rfl rfl) (ah (E.leaf 1 rfl rfl) (ah (E.leaf 3 rfl rfl) (E.leaf 4 rfl rfl)));have LO:=ah (E.at0 (p:=0) (ob:=⟨3,[[.bool (esE a).neg,ints (esE a).mag,ints (esE a).den]]⟩) (by simp)) (E.at0 (p:=ahO) (ob:=⟨3,[[.bool (esE a).neg,TN,TP]]⟩) (by simp));refine Df @Rf @LF @LO @jT @kM ?_;obtain⟨s5,hr,E2,hl⟩:=E.part 2 3 (ag0 h.ZV (x:=(esE a)) (k:=1+EC Pt.ct (QJ a) (QJ a).length) (by first|omega|(constructor<;>omega)) (by first|omega|(constructor<;>omega))) rfl rfl (by simp);refine uj hr rfl hl (by simp) ?_;clear hr hl E Rf LF LO
 have E:Ep s5 [x0,g0,.bool (esE a).neg,TN,TP] [kY (TR Lk.mk3 Lk.ct 1 a),D5 (TR Pt.mk3 Pt.ct 1 (QJ a)),.bool (esE a).neg,ints (R.mk2 (1+EC Pt.ct (QJ a) (QJ a).length) (esE a)).mag,ints (R.mk2 (1+EC Pt.ct (QJ a) (QJ a).length) (esE a)).den] _ [(0,⟨3,[[.bool (esE a).neg,ints (esE a).mag,ints (esE a).den]]⟩),(ahO,⟨3,[[.bool (esE a).neg,TN,TP]]⟩)]:=E2;clear E2;have Rf:=ah (E.res 0 rfl rfl (Ak _ _)) (ah (fun x=>(E.snoc (x:=x)).res 0 rfl rfl (Ak _ _)) (ah (E.res 1 rfl rfl (wF _ _)) (ah (fun x=>(E.snoc (x:=x)).res 1 rfl rfl (wF _ _)) (ah (E.res1 3 rfl rfl (jS _ _)) (ah (fun x=>(E.snoc (x:=x)).res1 3 rfl rfl (jS _ _)) (ah (E.res1 4 rfl rfl (jS _ _)) (fun x=>(E.snoc (x:=x)).res1 4 rfl rfl (jS _ _))))))));have LF:=ah (E.leaf 0 rfl rfl) (ah (E.leaf 1 rfl rfl) (ah (E.leaf 3 rfl rfl) (E.leaf 4 rfl rfl)));have LO:=ah (E.at0 (p:=0) (ob:=⟨3,[[.bool (esE a).neg,ints (esE a).mag,ints (esE a).den]]⟩) (by simp)) (E.at0 (p:=ahO) (ob:=⟨3,[[.bool (esE a).neg,TN,TP]]⟩) (by simp));refine Df @Rf @LF @LO @jT @kM ?_;refine jy (Vf h.MQ (l:=(QJ a)) (k:=1) (by first|omega|(constructor<;>omega)) (by first|omega|(constructor<;>omega))) ?_;refine Df @Rf @LF @LO @jT @kM ?_;refine kD (fun hc=>absurd hc (by first|omega|(constructor<;>omega))) fun _=>?_;refine Df @Rf @LF @LO @jT @kM ?_;refine jy (abH h.QK (x:=(esE a)) (k:=1+EC Pt.ct (QJ a) (QJ a).length) (by first|omega|(constructor<;>omega)) (by first|omega|(constructor<;>omega))) ?_;refine Df @Rf @LF @LO @jT @kM ?_
 refine kD (fun hc=>absurd hc (by first|omega|(constructor<;>omega))) fun _=>?_;refine Df @Rf @LF @LO @jT @kM ?_;refine jy (VW h.FX (l:=a) za) ?_;refine Df @Rf @LF @LO @jT @kM ?_;refine jy (PI.frz (by exact Y3 (wF _ _) (acv _ _) (uQ _ _))) ?_;refine Df @Rf @LF @LO @jT @kM ?_;refine jy (Tf h.JK (a:=(QJ a)) (b:=(QJ a)) wr wr) ?_;refine Df @Rf @LF @LO @jT @kM ?_;refine jy (MJ h.rV (y:=(esE a)) (z:=(esE a)) we we) ?_;refine Df @Rf @LF @LO @jT @kM ?_;refine jy (Vf h.MQ (l:=(QJ a)) (k:=1) (by first|omega|(constructor<;>omega)) (by first|omega|(constructor<;>omega))) ?_;refine Df @Rf @LF @LO @jT @kM ?_;refine kD (fun hc=>absurd hc (by first|omega|(constructor<;>omega))) fun _=>?_;refine Df @Rf @LF @LO @jT @kM ?_;refine jy (abH h.QK (x:=(esE a)) (k:=1+EC Pt.ct (QJ a) (QJ a).length) (by first|omega|(constructor<;>omega)) (by first|omega|(constructor<;>omega))) ?_;refine Df @Rf @LF @LO @jT @kM ?_;refine kD (fun hc=>absurd hc (by first|omega|(constructor<;>omega))) fun _=>?_;refine Df @Rf @LF @LO @jT @kM ?_;exact aeN
def aol(P:Program)(fid:Nat)(o:afT):Prop :=
 ∀args σ r σ',o.sem args σ r σ'→∀w M D (vals:Array Value),pV w D (XS M D) args vals.toList→tY w D M σ→Calls P fid vals w (Post M D w σ.length r σ')
def Fits(P:Program)(ν:Nat→Option Nat)(T:Tb):Prop :=
 ∀fid f F,ν fid=some f→T f=some F→(∃fn,P.funcs[fid]? = some fn∧af6 P ν fn=some F)∨∃o,F.body=.lib o∧aol P fid o
theorem au0{T:Tb}{j:Job}{x:Out}(h:Run T j x):∀o st,j≠.code (.lib o) st:=by
 induction h with
 |gc ρ hn hρ h ih=>intro o st e;cases e;exact ih o _ rfl
 |forget he ho hk h ih=>intro o st e;cases e;exact ih o _ rfl
 |re W h h' ih=>intro o st e;cases e;exact ih o _ rfl
 |_=>intro o st e;cases e
theorem ara{P:Program}{ν:Nat→Option Nat}{nt:Nat}{o:afT}:∀c:Code,Vq P ν nt c≠some (.lib o):=by
 intro c h;unfold Vq at h
 cases c<;>simp at h
 all_goals (try (split at h<;>simp at h))
theorem aom{P:Program}{ν:Nat→Option Nat}{fn:Func}{F:Fn}{o:afT}(h:af6 P ν fn=some F)(hb:F.body=.lib o):False:=by
 unfold af6 at h;split at h<;>first|(cases h;done)|skip
 split at h<;>first|(cases h;done)|skip
 rename_i b rs' hb' ayY;split at h<;>first|(cases h;done)|skip
 simp only [aC]at h;subst h;simp only []at hb;subst hb;exact ara _ hb'
section
variable {P : Program} {ν : Nat → Option Nat} {T : Tb}
theorem afE{m:Nat}{x:qh}{l:List qh}(h:okK m (x::l)=true):okK m l=true∧∀y∈l,y.i.makes=true→y.k≠x.k∧y.k<m:=by
 have hm:∀(l:List qh),okK m l=true→∀y∈l,y.i.makes=true→y.k<m:=by
  intro l
  induction l with
  |nil=>intro _ y hy;cases hy
  |
   cons z l ih =>
   intro h y hy hmk;simp only [okK,aG]at h;rcases aH.1 hy with rfl|hy
   ·have:=h.1;rw [if_pos hmk]at this;simp only [aG,decide_eq_true_eq]at this;exact this.1
   exact ih h.2 y hy hmk
 simp only [okK,aG]at h;refine⟨h.2,fun y hy hmk=>⟨?_,hm l h.2 y hy hmk⟩⟩;by_cases hx:x.i.makes=true
 ·have:=h.1;rw [if_pos hx]at this;simp only [aG,decide_eq_true_eq,aZ]at this;have:=this.2 y hy;simpa [hmk]using this
 have:=h.1;rw [if_neg hx]at this;simp only [beq_iff_eq]at this;have:=hm l h.2 y hy hmk;omega
theorem ahP{m:Nat}:∀(l:List qh),okK m l=true→∀x∈l,x.i.makes=true→x.k<m
 | [],_,y,hy,_=>by cases hy
 |
  z::l,h,y,hy,hmk=>by
  simp only [okK,aG]at h;rcases aH.1 hy with rfl|hy
  ·have:=h.1;rw [if_pos hmk]at this;simp only [aG,decide_eq_true_eq]at this;exact this.1
  exact ahP l h.2 y hy hmk
theorem aon{m:Nat}:∀(l:List qh),okK m l=true→∀(i j:Nat) (x y:qh),l[i]? = some x→l[j]? = some y→i≠j→x.i.makes=true→x.k≠y.k
 | [],_,i,j,x,y,hx,_,_,_=>by simp at hx
 |
  z::l,h,i,j,x,y,hx,hy,hij,hmk=>by
  obtain⟨k1,k2⟩:=afE h
  cases i with
  |
   zero =>
   simp at hx;subst hx
   cases j with
   |zero=>exact absurd rfl hij
   |
    succ j =>
    have hy':y∈l:=aS (by simpa using hy);by_cases hmy:y.i.makes=true
    ·exact fun e=>(k2 y hy' hmy).1 e.symm
    -- one that makes none has the number m
    have hm:∀(l:List qh),okK m l=true→∀y∈l,y.i.makes≠true→y.k=m:=by
     intro l
     induction l with
     |nil=>intro _ y hy;cases hy
     |
      cons z l ih =>
      intro h y hy hn;simp only [okK,aG]at h;rcases aH.1 hy with rfl|hy
      ·have:=h.1;rw [if_neg hn]at this;simpa using this
      exact ih h.2 y hy hn
    have:=hm l k1 y hy' hmy;have h3:=ahP _ h z (by simp) hmk;omega
  |
   succ i =>
   have hx':x∈l:=aS (by simpa using hx)
   cases j with
   |
    zero =>
    simp at hy;subst hy;exact(k2 x hx' hmk).1
   |succ j=>exact aon l k1 i j x y (by simpa using hx) (by simpa using hy) (by omega) hmk
theorem ahQ{o:qh}{l:List qh}{st st1 st2:St}(h1:adW P ν o st st1)(h2:alf P ν l st1 st2):alf P ν (o::l) st st2:=by
 obtain⟨a1,a2,a3,a4⟩:=h1;obtain⟨b1,b2,b3,b4⟩:=h2;refine⟨b1.trans a1,b2.trans a2,cZ a3 b3,?_⟩;intro ops dr nt m k rest htr hk M w0 D0 D a w hs hid Q hQ
 cases rest with
 |nil=>simp [Pg]at htr
 |
  cons r rest =>
  simp only [Pg]at htr;split at htr<;>first|(cases htr;done)|skip
  rename_i x hx;split at htr<;>first|(cases htr;done)|skip
  rename_i l' hl';simp only [aC,List.cons.injEq]at htr;obtain⟨rfl,rfl⟩:=htr;obtain⟨k1,k2⟩:=afE hk;have key:=a4 ops dr nt m k r hx M w0 D0 D a w hs (hid x (by simp)) (wpList P ops Q rest) Q (fun D' a' w' hs' hun=>by
   refine b4 ops dr nt m _ rest hl' k1 M w0 D0 D' a' w' hs' (fun y hy hmk=>?_) Q hQ;rw [a1];obtain⟨e1,e2⟩:=hid y (by simp [hy]) hmk;exact⟨aU e1 a3,hun _ (Nat.le_add_right _ _) e1 e2 (fun h=>(k2 y hy hmk).1 (by omega))⟩)
  unfold wpList;split
  ·rename_i hw;rw [if_pos hw]at key;exact .inl key
  rename_i hw;rw [if_neg hw]at key;exact key
theorem Jc{nt:Nat}{cc:Code}{c:C}(h:Vq P ν nt cc=some c):match c with
  |.skip=>cc=.skip
  |.reg d m l=>∃id ops,cc=.region id ops d∧Pg P ν ops d nt m 0 ops.toList=some l
  |.seq x y=>∃a b,cc=.seq a b∧Vq P ν nt a=some x∧Vq P ν nt b=some y
  |.cond s x y=>∃o a b,cc=.cond o a b∧NI o=some s∧Vq P ν nt a=some x∧Vq P ν nt b=some y
  |.block id x=>∃a,cc=.block id a∧Vq P ν nt a=some x
  |.loop x=>∃a,cc=.loop a∧Vq P ν nt a=some x
  |.exit id=>cc=.exit id
  |.ret=>cc=.ret
  |.lib _=>False:=by
 cases cc with
 |skip=>simp only [Vq,aC]at h;subst h;rfl
 |
  region id ops d =>
  simp only [Vq,aI]at h;obtain⟨l,h1,rfl⟩:=h;exact⟨id,ops,rfl,h1⟩
 |
  seq a b =>
  simp only [Vq]at h;split at h<;>first|(cases h;done)|skip
  rename_i x y h1 h2;simp only [aC]at h;subst h;exact⟨a,b,rfl,h1,h2⟩
 |
  cond o a b =>
  simp only [Vq]at h;split at h<;>first|(cases h;done)|skip
  rename_i s x y h1 h2 h3;simp only [aC]at h;subst h;exact⟨o,a,b,rfl,h1,h2,h3⟩
 |
  block id a =>
  simp only [Vq,aI]at h;obtain⟨x,h1,rfl⟩:=h;exact⟨a,rfl,h1⟩
 |
  loop a =>
  simp only [Vq,aI]at h;obtain⟨x,h1,rfl⟩:=h;exact⟨a,rfl,h1⟩
 |exit id=>simp only [Vq,aC]at h;subst h;rfl
 |ret=>simp only [Vq,aC]at h;subst h;rfl
 |_=>simp [Vq]at h
theorem ajf{c:C}{e:Ex}{st st':St}(hk:st'.keep=st.keep)(h:abQ P ν c e st st'):af7 P ν (.loop c) e st st':=by
 refine⟨hk,?_⟩;intro nt cc htr M w0 D0 D a w hs Q hQ;obtain⟨cb,rfl,hb⟩:=Jc htr;intro b k cs;obtain⟨x,a',w',q,harr⟩:=h nt cb hb M w0 D0 D a w hs Q hQ b k cs;exact⟨x,a',w',q,.of_steps (.one step_loop) harr⟩
theorem arb{e:Ex}(h:e≠.normal):adP e≠.normal:=by cases e<;>simp [adP]at h ⊢
theorem ard{next:Act→World→Prop}{Q:Exit→Act→World→Prop}{e:Ex}(h:e≠.normal){a:Act}{w:World}(hq:Q (adP e) a w):Exit.then next Q (adP e) a w:=by
 cases e<;>first|(simp at h;done)|exact hq
def WB(tmps:Array Value):ResultVar→Sem Value
 |.tmp t=>pure (tmps.getD t undef)
 |.cell q t=>do loadVar t (←asAddr (tmps.getD q undef))
theorem ahR(fn:Func)(tmps:Array Value):results fn tmps=(do let vs ←fn.results.mapM (WB tmps);pure (if h:vs.size=1 then vs[0]else .tuple vs)):=rfl
theorem aoo(hT:Fits P ν T){f:Nat}{args:List V}{σ:Store}{F:Fn}{o:afT}{r:V}{σ':Store}(hf:T f=some F)(hb:F.body=.lib o)(h:o.sem args σ r σ'):Sl P ν f args σ r σ':=by
 intro fid au1 w M D vals hv hS;rcases hT fid f F au1 hf with ⟨fn,hfn,htr⟩|⟨o',e,hO⟩
 ·exact(aom htr hb).elim
 rw [hb]at e
 cases e
 exact hO args σ r σ' h w M D vals hv hS
theorem arf(hT:Fits P ν T){f:Nat}{args:List V}{σ:Store}{F:Fn}{e:Ex}{st':St}{rs:List V}(hf:T f=some F)(hl:args.length=F.nargs)(hnl:∀o,F.body≠.lib o)
  (ih:af7 P ν F.body e (St.enter args σ) st') (he:e=.normal∨e=.ret) (hr:F.res.mapM (PL.get st')=some rs):Sl P ν f args σ (tX rs) st'.objs:=by
 intro fid au1 w M D vals hv hS;rcases hT fid f F au1 hf with ⟨fn,hfn,htr⟩|⟨o,e,_⟩
 case inr=>exact(hnl o e).elim
 unfold af6 at htr;split at htr<;>first|(cases htr;done)|skip
 rename_i body hbody;split at htr<;>first|(cases htr;done)|skip
 rename_i b rs' hb ayY;split at htr<;>first|(cases htr;done)|skip
 rename_i hle;simp only [aC]at htr;subst htr;have hvl:vals.size=args.length:=by simpa using (qE _ _ hv).symm
 refine calls_of_wp hfn hbody ?_;have hs0:SR fn.ntmps M w D (St.enter args σ) D { tmps:=vals++Array.replicate (fn.ntmps-vals.size) undef,defers:=[] } w:=by
  refine⟨?_,?_,rfl,hS,Gr.refl _ _,fun o d h=>.inl ⟨o,d,h,rfl⟩,fun o _=>uH.refl _⟩
  ·intro t;simp only [St.enter];by_cases ht:t<args.length
   ·obtain⟨y,h1,h2⟩:=GY _ _ hv t args[t] (by simp [ht]);have e1:kX args t=args[t]:=by simp [kX,ht]
    rw [e1];have e2:(vals++Array.replicate (fn.ntmps-vals.size) undef).getD t undef=y:=by
     rw [dF,Array.getElem?_append_left (by omega)];rw [←fJ,h1];rfl
    rw [e2];exact h2
   have e1:kX args t=.any:=by simp [kX,List.getD,bn (Nat.le_of_not_lt ht)]
   rw [e1];simp only [rd]
  simp only [Array.size_append,Array.size_replicate];simp only []at hl;omega
 refine ih.2 fn.ntmps body hb M w D D _ w hs0 _ ?_;intro D' a' w' hs';have hres:∃v,(results fn a'.tmps).run P w'=.ok v w'∧rd w' D' (XS M D') (tX rs) v:=by
  have hlist:∀(vars:List ResultVar) (rl:List PL) (vl:List V),vars.mapM (ah3 P)=some rl→rl.mapM (PL.get st')=some vl →
    ∃ys:List Value,(vars.mapM (WB a'.tmps)).run P w'=.ok ys w'∧pV w' D' (XS M D') vl ys:=by
   intro vars
   induction vars with
   |nil=>intro rl vl h1 h2;simp at h1;subst h1;simp at h2;subst h2;exact⟨[],by simp,by simp [pV]⟩
   |
    cons x vars ihv =>
    intro rl vl h1 h2;simp only [bD,iF,fM,dQ,aC]at h1;obtain⟨r,hr1,rl',hr2,rfl⟩:=h1;simp only [bD,iF,fM,dQ,aC]at h2;obtain⟨z,hz1,vl',hz2,rfl⟩:=h2;obtain⟨ys,k1,k2⟩:=ihv rl' vl' hr2 hz2
    cases x with
    |
     tmp t =>
     simp only [ah3,aC]at hr1;subst hr1;simp only [PL.get,aC]at hz1;subst hz1;refine⟨a'.tmps.getD t undef::ys,?_,by simp only [pV];exact⟨_,_,rfl,hs'.env t,k2⟩⟩;have hg:(WB a'.tmps (.tmp t)).run P w'=.ok (a'.tmps.getD t undef) w':=rfl;simp only [bD,Sem.run_bind,Sem.run_pure,Result.andThen_ok,k1,hg]
    |
     cell q t =>
     simp only [ah3,aI]at hr1;obtain⟨⟨n,g⟩,hg,rfl⟩:=hr1;simp only [PL.get]at hz1;split at hz1<;>first|(cases hz1;done)|skip
     rename_i row off hrow;obtain⟨u,j1,j2⟩:=TW hs'.store hg hrow (hs'.env q) hz1;obtain⟨bl,oo,ayZ,_⟩:=adM hs'.store hrow (hs'.env q);refine⟨u::ys,?_,by simp only [pV];exact⟨_,_,rfl,j2,k2⟩⟩;have j1':(loadVar t ⟨bl,oo+off,none⟩).run P w'=.ok u w':=by
      rw [ayZ]at j1;simpa [Instr.loadAt,Instr.sureAddr]using j1
     have hg:(WB a'.tmps (.cell q t)).run P w'=.ok u w':=by
      simp only [WB,ayZ,asAddr,Sem.run_bind,Sem.run_pure,Result.andThen_ok,j1']
     simp only [bD,Sem.run_bind,Sem.run_pure,Result.andThen_ok,k1,hg]
  obtain⟨ys,k1,k2⟩:=hlist fn.results.toList rs' rs ayY hr;refine⟨if h:ys.toArray.size=1 then ys.toArray[0]else .tuple ys.toArray,?_,?_⟩
  ·have:(fn.results.mapM (WB a'.tmps)).run P w'=.ok ys.toArray w':=by
    rw [←gJ (xs:=fn.results),List.mapM_toArray,Sem.run_map,k1];rfl
   rw [ahR];simp only [Sem.run_bind,this,Result.andThen_ok,Sem.run_pure]
  have hlen:=qE _ _ k2;have gen:∀(rs:List V) (ys:List Value),pV w' D' (XS M D') rs ys→rs.length=ys.length→rd w' D' (XS M D') (tX rs) (if h:ys.toArray.size=1 then ys.toArray[0]else .tuple ys.toArray):=by
   intro rs ys h hl
   cases rs with
   |
    nil =>
    cases ys with
    |nil=>simp only [tX];rw [dif_neg (by simp)];simp only [rd];exact⟨_,rfl,h⟩
    |cons y ys=>simp at hl
   |
    cons x xs =>
    cases ys with
    |nil=>simp at hl
    |
     cons y ys =>
     cases xs with
     |
      nil =>
      cases ys with
      |
       nil =>
       simp only [pV]at h;obtain⟨y',ys',h0,h1,h2⟩:=h
       cases h0
       simpa [tX]using h1
      |cons y' ys=>simp at hl
     |
      cons x' xs =>
      cases ys with
      |nil=>simp at hl
      |
       cons y' ys =>
       simp only [tX];rw [dif_neg (by simp)];simp only [rd];exact⟨_,rfl,h⟩
  exact gen rs ys k2 hlen
 obtain⟨v,hv1,hv2⟩:=hres;have hfin:bodyPost P fn (Post M D w σ.length (tX rs) st'.objs) .ret a' w' :=
  ⟨hs'.df,v,hv1,v,D',rfl,hv2,hs'.store,hs'.gr,hs'.fr,fun o ho=>hs'.kp o (by rw [ih.1];exact ho)⟩
 rcases he with rfl|rfl<;>exact hfin
theorem WC{ops:Array Oper}{dr:Bool}{nt m:Nat}:∀{k:Nat} {rest:List Oper} {l:List qh},Pg P ν ops dr nt m k rest=some l →
  l.length=rest.length∧∀(i:Nat) (x:qh),l[i]? = some x→∃o k',rest[i]? = some o∧af5 P ν ops dr nt m k' o=some x
 |k,[],l,h=>by simp only [Pg,aC]at h;subst h;simp
 |
  k,o::rest,l,h=>by
  simp only [Pg]at h;split at h<;>first|(cases h;done)|skip
  rename_i x hx;split at h<;>first|(cases h;done)|skip
  rename_i l' hl';simp only [aC]at h;subst h;obtain⟨e1,e2⟩:=WC hl';refine⟨by simp [e1],fun i y hi=>?_⟩
  cases i with
  |zero=>simp at hi;subst hi;exact⟨o,k,rfl,hx⟩
  |succ i=>simpa using e2 i y (by simpa using hi)
theorem afF{ops:Array Oper}{nt m k:Nat}{o:Oper}{x:qh}(h:af5 P ν ops true nt m k o=some x):x.aft=ah2 o:=by
 unfold af5 at h;split at h<;>first|(cases h;done)|skip
 split at h<;>first|(cases h;done)|skip
 simp only [aC]at h;subst h;rfl
theorem abI{ops:Array Oper}{nt m:Nat}{l:List qh}(h:Pg P ν ops true nt m 0 ops.toList=some l){done:List Nat}{listed:Array Bool}(hs:listed.size=ops.size)
  (hl:∀i,listed.getD i false=true↔i∈done) {i:Nat}:i∈Region.ready .any ops listed↔yN l done i=true:=by
 obtain⟨e1,e2⟩:=WC h;rw [mem_ready];have hlt:∀{i:Nat},i<ops.size→(listed.getD i true=false↔i∉done):=by
  intro i hi;have:listed.getD i true=listed.getD i false:=by
   rw [dF,dF,Array.getElem?_eq_getElem (by omega)];rfl
  rw [this];constructor
  ·intro h1 h2;rw [(hl i).2 h2]at h1;cases h1
  intro h1
  cases hb:listed.getD i false with
  |false=>rfl
  |true=>exact absurd ((hl i).1 hb) h1
 constructor
 ·rintro⟨h1,o,ho,h2⟩;have hi:=(iM.1 ho).1;have hil:i<l.length:=by rw [e1];simpa using hi
  obtain⟨o',k',ho',hx⟩:=e2 i l[i] (by simp [hil]);have:o'=o:=by rw [fJ]at ho';rw [ho]at ho';exact(Option.some.inj ho').symm
  subst this;unfold yN;rw [aB hil];simp only [aG,fQ,aZ];refine⟨?_,?_⟩
  ·have:=(hlt hi).1 h1;simpa using this
  intro e he;rw [afF hx]at he;simp only [ah2,bM,iT]at he;obtain⟨ed,⟨h3,h4⟩,rfl⟩:=he;have:=h2 ed (by simpa using h3) h4;simpa using (hl _).1 this
 intro hr;unfold yN at hr;split at hr<;>first|(cases hr;done)|skip
 rename_i x hx;simp only [aG,fQ,aZ]at hr;obtain⟨o,k',ho,htr⟩:=e2 i x hx;have ho':ops[i]? = some o:=by rwa [fJ]at ho
 have hi:=(iM.1 ho').1;refine⟨(hlt hi).2 (by simpa using hr.1),o,ho',?_⟩;intro e he hb;refine(hl _).2 ?_;have:=hr.2 e.on (by rw [afF htr];simp only [ah2,bM,iT];exact⟨e,⟨by simpa using he,hb⟩,rfl⟩);simpa using this
theorem sound(hm:P.follows .mixedOrders=true)(hT:Fits P ν T){j:Job}{o:Out}(h:Run T j o):Sound P ν j o:=by
 induction h with
 |
  skip st =>
  refine⟨⟨rfl,?_⟩,fun x h=>by cases h⟩;intro nt cc htr M w0 D0 D a w hs Q hQ;have hc:cc=.skip:=Jc htr;subst hc;exact Go.wp_skip (hQ D a w hs)
 |
  @reg m l st st' hk h ih =>
  obtain⟨_,i1,i2,i3,i4⟩:=ih;refine⟨⟨i2,?_⟩,fun x h=>by cases h⟩;intro nt cc htr M w0 D0 D a w hs Q hQ;obtain⟨id,ops,rfl,hops⟩:=Jc htr;refine wp_region_list ?_;refine i4 ops false nt m 0 ops.toList hops hk M w0 D0 D a w ⟨hs.env,hs.tm,hs.df,hs.mem m,hs.gr,hs.fr,hs.kp⟩ (fun x hx hmk=>?_) Q (fun D' a' w' h=>hQ D' a' w' h);have hkm:x.k<m:=by
   have:∀(l:List qh),okK m l=true→∀x∈l,x.i.makes=true→x.k<m:=by
    intro l
    induction l with
    |nil=>intro _ y hy;cases hy
    |
     cons z l ih =>
     intro h y hy hmk;simp only [okK,aG]at h;rcases aH.1 hy with rfl|hy
     ·have:=h.1;rw [if_pos hmk]at this;simp only [aG,decide_eq_true_eq]at this;exact this.1
     exact ih h.2 y hy hmk
   exact this l hk x hx hmk
  simp only [aJ,List.length_replicate];exact⟨by omega,hs.store.far _ (by omega)⟩
 |
  @asj m l st st' hk h ih =>
  obtain⟨_,i1,i2,i3,i4⟩:=ih;refine⟨⟨i2,?_⟩,fun x h=>by cases h⟩;intro nt cc htr M w0 D0 D a w hs Q hQ;obtain⟨id,ops,rfl,hops⟩:=Jc htr;refine wp_region_any hm ?_;have hsd:SR nt M w0 D0 st D a { w with drawn:=w.drawn+1 }:=by
   have hE:Ext w D (XS M D) { w with drawn:=w.drawn+1 } D (XS M D):=⟨aP _,fun _ _ _=>rfl,fun _ _ h=>h,fun _=>uH.refl _⟩;refine⟨fun t=>oq _ _ hE (hs.env t),hs.tm,hs.df,?_,⟨hs.gr.size,hs.gr.os,hs.gr.tape,hs.gr.output,hs.gr.block⟩,hs.fr,hs.kp⟩;refine⟨fun o d ho=>?_,hs.store.alive,hs.store.inj,hs.store.far,hs.store.mlt⟩;obtain⟨ob,c,e,g1,g2,g3,g4,g5,g6,g7,g8,g9,g10,g11⟩:=hs.store.live o d ho;refine⟨ob,c,e,g1,g2,g3,g4,g5,g6,g7,g8,g9,g10,fun i x hi=>?_⟩;obtain⟨k0,y,k1,k2⟩:=g11 i x hi;exact⟨k0,y,k1,oq _ _ hE k2⟩
  refine i4 ops nt m hops hk M w0 D0 D a _ ⟨hsd.env,hsd.tm,hsd.df,hsd.mem m,hsd.gr,hsd.fr,hsd.kp⟩ (fun i x hx _ hmk=>?_) Q (fun D' a' w' h=>hQ D' a' w' h) _ _ (by simp) (fun i=>?_) ?_
  ·have hkm:x.k<m:=ahP l hk x (aS hx) hmk;simp only [aJ,List.length_replicate];exact⟨by omega,hsd.store.far _ (by omega)⟩
  ·simp only [dF,Array.getElem?_replicate];split<;>simp
  simp
 |
  @awJ l done st h =>
  refine⟨rfl,rfl,rfl,aP _,?_⟩;intro ops nt m htr hk M w0 D0 D a w hs hid Q hQ fuel listed h1 h2 h3;refine wpAny_done ?_ (hQ D a w hs) fuel
  apply List.eq_nil_iff_forall_not_mem.2
  intro i hi;rw [abI htr h1 h2,h i]at hi
  cases hi
 |
  @awK l done st st' i0 h0 f h h' ih ih' =>
  obtain⟨_,b1,b2,b3,_⟩:=ih' i0 h0;obtain⟨x0,hx0⟩:∃x0,l[i0]? = some x0:=by
   unfold yN at h0;split at h0<;>first|(cases h0;done)|skip
   exact⟨_,by assumption⟩
  obtain⟨_,a1,a2,a3,_⟩:=ih i0 x0 hx0 h0;refine⟨rfl,b1.trans a1,b2.trans a2,cZ a3 b3,?_⟩;intro ops nt m htr hk M w0 D0 D a w hs hid Q hQ fuel listed h1 h2 h3;have ahS:∀i,i∈Region.ready .any ops listed↔yN l done i=true:=fun i=>abI htr h1 h2;have hpos:fuel≠0:=by
   rintro rfl;have hi:=(ahS i0).2 h0;have:=(mem_ready.1 hi).1;obtain⟨_,o,ho,_⟩:=mem_ready.1 hi;have hlt:=(iM.1 ho).1;have hmem:false∈listed.toList:=by
    have:listed[i0]'(by omega)=false:=by
     rw [dF,Array.getElem?_eq_getElem (by omega)]at this;simpa using this
    rw [←this];simp
   have:=List.count_pos_iff.2 hmem;omega
  obtain⟨fuel,rfl⟩:=Nat.exists_eq_succ_of_ne_zero hpos;refine⟨fun hnil=>?_,fun i hi=>?_⟩
  ·have:=(ahS i0).2 h0;rw [hnil]at this;cases this
  have hr:=(ahS i).1 hi;obtain⟨e1,e2⟩:=WC htr;obtain⟨_,o,ho,_⟩:=mem_ready.1 hi;have hlt:=(iM.1 ho).1;have hil:i<l.length:=by rw [e1];simpa using hlt
  obtain⟨o',k',ho',hx⟩:=e2 i l[i] (by simp [hil]);have:o'=o:=by rw [fJ]at ho';rw [ho]at ho';exact(Option.some.inj ho').symm
  subst this;have hli:l[i]? = some l[i]:=by simp [hil]
  have hnd:i∉done:=by
   unfold yN at hr;rw [hli]at hr;simp only [aG,fQ]at hr;simpa using hr.1
  obtain⟨_,c1,c2,c3,c4⟩:=ih i l[i] hli hr;obtain⟨_,d1,d2,d3,d4⟩:=ih' i hr;have key:=c4 ops true nt m k' o' hx M w0 D0 D a w hs (fun hmk=>hid i l[i] hli hnd hmk) (wpAny P .any ops Q fuel (listed.setIfInBounds i true)) Q (fun D' a' w' hs' hun=>by
   refine d4 ops nt m htr hk M w0 D0 D' a' w' hs' (fun j y hy hj hmk=>?_) Q hQ fuel _ (by simpa using h1) (fun j=>?_) ?_
   ·simp only [aH,not_or]at hj;rw [c1];obtain⟨g1,g2⟩:=hid j y hy hj.2 hmk;refine⟨aU g1 c3,hun _ (Nat.le_add_right _ _) g1 g2 ?_⟩;intro he;have hne:=aon l hk j i y l[i] hy hli hj.1 hmk;omega
   ·rw [dF,Array.getElem?_setIfInBounds];by_cases hij:i=j
    ·subst hij;simp [h1,hlt]
    rw [if_neg hij,←dF,h2 j];simp only [aH];constructor
    ·exact .inr
    rintro(h|h)
    ·exact absurd h.symm hij
    exact h
   have hfi:listed[i]'(by omega)=false:=by
    have:=(mem_ready.1 hi).1;rw [dF,Array.getElem?_eq_getElem (by omega)]at this;simpa using this
   rw [Array.toList_setIfInBounds,List.count_set (by simpa using (by omega:i<listed.size))];have h4:listed.toList[i]'(by simpa using (by omega:i<listed.size))=false:=by simpa using hfi
   have h5:0<listed.toList.count false:=List.count_pos_iff.2 (by rw [←h4];exact dP _);simp only [h4,beq_self_eq_true,if_true];have:(true == false)=false:=rfl;simp only [this,aX,if_false];omega)
  unfold wpOp;simp only [ho];split
  ·rename_i hw;rw [if_pos hw]at key;exact .inl key
  rename_i hw;rw [if_neg hw]at key;exact key
 |
  @awL a b st st1 o h h' ih ih' =>
  cases o with
  |fn r σ=>trivial
  |code e st2 =>
  obtain⟨⟨i1,i2⟩,_⟩:=ih;obtain⟨⟨j1,j2⟩,_⟩:=ih';refine⟨⟨j1.trans i1,?_⟩,fun x h=>by cases h⟩;intro nt cc htr M w0 D0 D a w hs Q hQ;obtain⟨ca,cb,rfl,ha,hb⟩:=Jc htr;refine Go.wp_seq (i2 nt ca ha M w0 D0 D a w hs _ fun D' a' w' hs'=>?_);exact j2 nt cb hb M w0 D0 D' a' w' hs' Q hQ
 |
  @asl a b st e st1 he h ih =>
  obtain⟨⟨i1,i2⟩,_⟩:=ih;refine⟨⟨i1,?_⟩,fun x h=>by cases h⟩;intro nt cc htr M w0 D0 D a w hs Q hQ;obtain⟨ca,cb,rfl,ha,hb⟩:=Jc htr;exact Go.wp_seq (i2 nt ca ha M w0 D0 D a w hs _ fun D' a' w' hs'=>ard he (hQ D' a' w' hs'))
 |
  @cond x a b st t o hx h ih =>
  cases o with
  |fn r σ=>trivial
  |code e st2 =>
  obtain⟨⟨i1,i2⟩,_⟩:=ih;refine⟨⟨i1,?_⟩,fun x h=>by cases h⟩;intro nt cc htr M w0 D0 D a w hs Q hQ;obtain⟨oc,ca,cb,rfl,h1,ha,hb⟩:=Jc htr;have hv:=ou hs.env h1;rw [hx]at hv;simp only [rd]at hv;refine Go.wp_cond hv (i2 nt _ ?_ M w0 D0 D _ w hs Q hQ)
  cases t
  ·exact hb
  exact ha
 |
  @block id c st e st1 h ih =>
  obtain⟨⟨i1,i2⟩,_⟩:=ih;refine⟨⟨i1,?_⟩,fun x h=>by cases h⟩;intro nt cc htr M w0 D0 D a w hs Q hQ;obtain⟨ca,rfl,ha⟩:=Jc htr;refine Go.wp_block (i2 nt ca ha M w0 D0 D a w hs _ fun D' a' w' hs'=>?_);have:=hQ D' a' w' hs'
  cases e with
  |normal=>exact this
  |ret=>exact this
  |
   exit id' =>
   simp only [adP,adG,Exit.inBlock]at this ⊢;by_cases hid:id'=id
   ·simp only [hid,if_true]at this ⊢;exact this
   simp only [hid,if_false]at this ⊢;exact this
 |
  @akW c st st1 o h h' ih ih' =>
  cases o with
  |fn r σ=>trivial
  |code e st2 =>
  obtain⟨⟨i1,i2⟩,_⟩:=ih;obtain⟨⟨j1,_⟩,j2⟩:=ih';have key:abQ P ν c e st st2:=by
   intro nt cc htr M w0 D0 D a w hs Q hQ b k cs;obtain⟨x,a1,w1,⟨D1,hx,hs1⟩,harr⟩:=i2 nt cc htr M w0 D0 D a w hs (fun x a' w'=>∃D',x=.normal∧SR nt M w0 D0 st1 D' a' w') (fun D' a' w' h=>⟨D',rfl,h⟩) b (.inLoop cc::k) cs;subst hx;obtain⟨x2,a2,w2,q2,ay0⟩:=j2 c rfl nt cc htr M w0 D0 D1 a1 w1 hs1 Q hQ b k cs;exact⟨x2,a2,w2,q2,.of_steps (Steps.trans harr (.one step_inLoop)) ay0⟩
  exact⟨ajf (j1.trans i1) key,fun x hx=>by cases hx;exact key⟩
 |
  @adH c st e st1 he h ih =>
  obtain⟨⟨i1,i2⟩,_⟩:=ih;have key:abQ P ν c e st st1:=by
   intro nt cc htr M w0 D0 D a w hs Q hQ b k cs;obtain⟨x,a1,w1,⟨D1,hx,hs1⟩,harr⟩:=i2 nt cc htr M w0 D0 D a w hs (fun x a' w'=>∃D',x=adP e∧SR nt M w0 D0 st1 D' a' w') (fun D' a' w' h=>⟨D',rfl,h⟩) b (.inLoop cc::k) cs;subst hx;exact⟨_,a1,w1,hQ D1 a1 w1 hs1,.pass (x:=.inLoop cc) rfl (fun _ _=>.inl (arb he)) harr⟩
  exact⟨ajf i1 key,fun x hx=>by cases hx;exact key⟩
 |
  exit id st =>
  refine⟨⟨rfl,?_⟩,fun x h=>by cases h⟩;intro nt cc htr M w0 D0 D a w hs Q hQ;have hc:cc=.exit id:=Jc htr;subst hc;exact Go.wp_exit (hQ D a w hs)
 |
  ret st =>
  refine⟨⟨rfl,?_⟩,fun x h=>by cases h⟩;intro nt cc htr M w0 D0 D a w hs Q hQ;have hc:cc=.ret:=Jc htr;subst hc;exact Go.wp_ret (hQ D a w hs)
 |
  @gc c st o ρ hn hρ h ih =>
  cases o with
  |fn r σ=>trivial
  |code e st2 =>
  obtain⟨⟨i1,i2⟩,i3⟩:=ih;refine⟨⟨i1,?_⟩,?_⟩
  ·intro nt cc htr M w0 D0 D a w hs Q hQ;exact i2 nt cc htr M w0 D0 _ a w (hs.gc hn hρ) Q hQ
  intro x hx nt cc htr M w0 D0 D a w hs Q hQ;exact i3 x hx nt cc htr M w0 D0 _ a w (hs.gc hn hρ) Q hQ
 |
  nil st =>
  refine⟨rfl,rfl,rfl,aP _,?_⟩;intro ops dr nt m k rest htr hk M w0 D0 D a w hs hid Q hQ
  cases rest with
  |nil=>exact hQ D a w hs
  |
   cons r rest =>
   simp only [Pg]at htr;split at htr<;>first|(cases htr;done)|skip
   split at htr<;>first|(cases htr;done)|skip
 |
  @cons o l st st1 out h h' ih ih' =>
  cases out with
  |fn r σ=>trivial
  |code e st2=>exact⟨ih'.1,ahQ ih.2 ih'.2⟩
 |off hg he=>exact⟨rfl,alh hg he⟩
 |op hg h=>exact⟨rfl,aoP hg h⟩
 |adI hg hi ha h hR ih=>exact⟨rfl,af8 hg hi ha ih hR⟩
 |akX ρ hn hρ hg hi h ih=>exact⟨rfl,af9 hn hρ hg hi ih⟩
 |akY hg hi ha h hR ih=>exact⟨rfl,agL hg hi ha ih hR⟩
 |akZ hg hi h hl hb ih=>exact⟨rfl,agM hg hi ih hl hb⟩
 | @fn f args σ F e st' rs hf hl h he hr ih=>exact arf hT hf hl (fun o e=>au0 h o (St.enter args σ) (by rw [e])) ih.1 he hr
 |lib hf hb h=>exact aoo hT hf hb h
 |frz h hr ih=>exact alk hr ih
 |gcF ρ hn hρ h ih=>exact alj hn hρ ih
 |
  @forget c st st2 o he ho hk h' ih =>
  cases o with
  |fn r σ=>trivial
  |code e st3 =>
  obtain⟨⟨i1,i2⟩,i3⟩:=ih;refine⟨⟨i1.trans hk,?_⟩,?_⟩
  ·intro nt cc htr M w0 D0 D a w hs Q hQ;exact i2 nt cc htr M w0 D0 _ a w (hs.forget he ho hk) Q hQ
  intro x hx nt cc htr M w0 D0 D a w hs Q hQ;exact i3 x hx nt cc htr M w0 D0 _ a w (hs.forget he ho hk) Q hQ
 |
  @re c st st2 o W h h' ih =>
  cases o with
  |fn r σ=>trivial
  |code e st3 =>
  obtain⟨⟨i1,i2⟩,i3⟩:=ih;refine⟨⟨i1.trans h.keep,?_⟩,?_⟩
  ·intro nt cc htr M w0 D0 D a w hs Q hQ;exact i2 nt cc htr M w0 D0 _ a w (hs.re h) Q hQ
  intro x hx nt cc htr M w0 D0 D a w hs Q hQ;exact i3 x hx nt cc htr M w0 D0 _ a w (hs.re h) Q hQ
 |reF W ha h hs hr ih=>exact amv ha hs hr ih
 |afV ha h hr ih=>exact ajX ha hr ih
end
end Go.Ml
end
section
namespace Go.Ml
open Go.ChangeShapes Go.WideShapes Go.ChangeAt Go.RowKit
def WE:List (Nat×Nat×Fn)→Nat→Option Nat
 | [],_=>none
 |x::l,i=>if x.1=i then some x.2.1 else WE l i
def ZW:List (Nat×Nat×Fn)→Tb
 | [],_=>none
 |x::l,k=>if x.2.1=k then some x.2.2 else ZW l k
theorem afG:∀{l:List (Nat×Nat×Fn)} {i k:Nat},WE l i=some k→∃x∈l,x.1=i∧x.2.1=k
 | [],_,_,h=>by simp [WE]at h
 |
  x::l,i,k,h=>by
  simp only [WE]at h;split at h
  ·rename_i e;exact⟨x,by simp,e,by simpa using h⟩
  obtain⟨y,hy,e⟩:=afG h;exact⟨y,by simp [hy],e⟩
theorem afH:∀{l:List (Nat×Nat×Fn)} {k:Nat} {F:Fn},ZW l k=some F→∃x∈l,x.2.1=k∧x.2.2=F
 | [],_,_,h=>by simp [ZW]at h
 |
  x::l,i,k,h=>by
  simp only [ZW]at h;split at h
  ·rename_i e;exact⟨x,by simp,e,by simpa using h⟩
  obtain⟨y,hy,e⟩:=afH h;exact⟨y,by simp [hy],e⟩
theorem PK{α β:Type}{f:α→β}:∀{l:List α},(l.map f).Nodup→∀{x y},x∈l→y∈l→f x=f y→x=y
 | [],_,_,_,h,_,_=>by cases h
 |
  a::l,hn,x,y,hx,hy,e=>by
  simp only [bC,fC]at hn;rcases aH.1 hx with rfl|hx'<;>rcases aH.1 hy with rfl|hy'
  ·rfl
  ·exact absurd (e▸iO hy') hn.1
  ·exact absurd (e▸iO hx') hn.1
  exact PK hn.2 hx' hy' e
theorem arh{P:Program}{l:List (Nat×Nat×Fn)}(hnd:(l.map (·.2.1)).Nodup)(h:∀x∈l,(∃fn,P.funcs[x.1]? = some fn∧af6 P (WE l) fn=some x.2.2)∨∃o,x.2.2.body=.lib o∧aol P x.1 o):Fits P (WE l) (ZW l):=by
 intro fid f F h1 h2;obtain⟨x,hx,e1,e2⟩:=afG h1;obtain⟨y,hy,e3,e4⟩:=afH h2;have:x=y:=PK hnd hx hy (e2.trans e3.symm);subst this;rw [←e1,←e4];exact h x hx
theorem aop{P:Program}{l:List (Nat×Nat×Fn)}(hm:P.follows .mixedOrders=true)(hT:Fits P (WE l) (ZW l)){f fid:Nat}{args:List V}{r:V}(h:PF (ZW l) f args r)(hf:WE l fid=some f)
  {w:World} {vals:Array Value} (hr:pV w DM.none (fun _=>False) args vals.toList) :
  Calls P fid vals w fun e w'=>(∃v D X,e=.returned v∧rd w' D X r v)∧Below w.heap.size w w':=by
 have hs:=sound hm hT h;have hX:XS (fun _=>False) DM.none=fun _=>False:=by
  funext b;simp [XS,DM.none]
 refine(hs fid hf w (fun _=>False) DM.none vals (by rw [hX];exact hr) ⟨?_,?_,?_,?_,?_⟩).mono fun e w' hp=>?_
 ·intro o d h;cases h
 ·intro o ob h;simp [jH]at h
 ·intro o o' d d' h;cases h
 ·intro o _;rfl
 ·intro b h;exact h.elim
 obtain⟨v,D',e1,e2,e3,e4,_⟩:=hp;refine⟨⟨v,D',_,e1,e2⟩,⟨e4.os,e4.tape,e4.output,e4.size,fun k hk=>e4.block k hk ?_⟩⟩;rintro⟨o,d,h,_⟩;cases h
theorem ahT{P:Program}{l:List (Nat×Nat×Fn)}(hm:P.follows .mixedOrders=true)(hT:Fits P (WE l) (ZW l)){f fid:Nat}{args:List V}(h:PF (ZW l) f args (.bool true))(hf:WE l fid=some f)
  {w:World} {vals:Array Value} (hr:pV w DM.none (fun _=>False) args vals.toList) :
  Calls P fid vals w fun e w'=>e=.returned (.bool true)∧Below w.heap.size w w' :=
 (aop hm hT h hf hr).mono fun e w' hp=>by
  obtain⟨⟨v,D,X,rfl,e2⟩,hb⟩:=hp;have:v=.bool true:=by simpa [rd]using e2
  exact⟨by rw [this],hb⟩
end Go.Ml
end
section
namespace Go.Ml
open Go.ChangeShapes Go.WideShapes Go.ChangeAt Go.RowKit
inductive Lf where
 |int (k:IntKind)
 |bool
 |str
 |sl (row:List Lf)
mutual
def Mt:Lf→V→Prop
 |.int k,v=>∃n,v=.int k n∧(Lit.int k n).wf=true
 |.bool,v=>∃b,v=.bool b
 |.str,v=>∃s,v=.str s∧s.length≤maxLen
 |.sl row,v=>∃rows:List (List V),v=.sl row.length rows∧rows.length≤maxLen∧∀r∈rows,Ot row r
def Ot:List Lf→List V→Prop
 | [],vs=>vs=[]
 |l::ls,vs=>∃v vs',vs=v::vs'∧Mt l v∧Ot ls vs'
end
def aoq(P:Program)(sh:TypeId→Option (List Lf)):List Field→Nat→Option (List Lf)
 | [],_=>some []
 |
  f::fs,off=>match sh f.type,aoq P sh fs (off+P.cellsOf f.type)with
  |some r,some rs=>if f.offset=off∧r.length=P.cellsOf f.type then some (r++rs)else none
  |_,_=>none
def shapeOf(P:Program):Nat→TypeId→Option (List Lf)
 |0,_=>none
 |
  n+1,t=>match P.underlying t with
  |some (.int k)=>some [.int k]
  |some .bool=>some [.bool]
  |some .string=>some [.str]
  |
   some (.slice e)=>match shapeOf P n e with
   |some r=>if r.length=P.cellsOf e∧0<r.length then some [.sl r]else none
   |none=>none
  |
   some (.struct fs)=>match aoq P (shapeOf P n) fs.toList 0 with
   |some r=>if r.length=P.cellsOf t then some r else none
   |none=>none
  |_=>none
theorem ahU{l1 l2:List Lf}{v1 v2:List V}(h1:Ot l1 v1)(h2:Ot l2 v2):Ot (l1++l2) (v1++v2):=by
 induction l1 generalizing v1 with
 |nil=>simp only [Ot]at h1;subst h1;simpa using h2
 |
  cons l l1 ih =>
  simp only [Ot]at h1;obtain⟨v,vs,rfl,a,b⟩:=h1;simp only [bP,Ot];exact⟨v,vs++v2,rfl,a,ih b⟩
theorem ajg{l:List Lf}{v:List V}(h:Ot l v):v.length=l.length:=by
 induction l generalizing v with
 |nil=>simp only [Ot]at h;subst h;rfl
 |
  cons x l ih =>
  simp only [Ot]at h;obtain⟨v,vs,rfl,a,b⟩:=h;simp [ih b]
theorem ari:∀{l:Lf} {v:V},Mt l v→v.leaf=true:=by
 intro l v h
 cases l<;>simp only [Mt]at h
 ·obtain⟨n,rfl,_⟩:=h;rfl
 ·obtain⟨b,rfl⟩:=h;rfl
 ·obtain⟨s,rfl,_⟩:=h;rfl
 obtain⟨rows,rfl,_⟩:=h;rfl
theorem aor{l:List Lf}{v:List V}(h:Ot l v):∀x∈v,x.leaf=true:=by
 induction l generalizing v with
 |nil=>simp only [Ot]at h;subst h;intro x hx;cases hx
 |
  cons y l ih =>
  simp only [Ot]at h;obtain⟨v,vs,rfl,a,b⟩:=h;intro x hx;rcases aH.1 hx with rfl|hx
  ·exact ari a
  exact ih b x hx
theorem abJ{w:World}{D:DM}{X:Nat→Prop}{b sz:Nat}:∀(off:Nat) (rows:List (List V)),
  (∀i r,rows[i]? = some r→r.length=sz∧oO w D X b (off+i*sz) r)→qQ w D X b sz off rows
 |_,[],_=>by simp [qQ]
 |
  off,r::rows,h=>by
  simp only [qQ];have h0:=h 0 r rfl;refine⟨h0.1,by simpa using h0.2,abJ (off+sz) rows fun i r' hi=>?_⟩;have:=h (i+1) r' (by simpa using hi)
  rwa [show off+(i+1)*sz=off+sz+i*sz by rw [gQ];omega]at this
theorem QM{w:World}{D:DM}{X:Nat→Prop}{b:Nat}:∀(off:Nat) (vs:List V) (cs:List Value),pV w D X vs cs→(∀x∈vs,x.leaf=true) →
  (∀i,i<cs.length→w.cell? ⟨b,off+i,none⟩=cs[i]?)→oO w D X b off vs
 |_,[],_,_,_,_=>by simp [oO]
 |
  off,v::vs,cs,h,hl,hc=>by
  simp only [pV]at h;obtain⟨y,ys,rfl,h1,h2⟩:=h;simp only [oO];refine⟨hl v (by simp),⟨y,by simpa using hc 0 (by simp),h1⟩,QM (off+1) vs ys h2 (fun x hx=>hl x (by simp [hx])) fun i hi=>?_⟩;have:=hc (i+1) (by simpa using hi);rw [show off+1+i=off+(i+1) by omega,this];simp
section
variable {H : Type} {enc : TypeId × Value → H} {P : Program} {w : World}
theorem ZX:∀(n:Nat) {t:TypeId} {L:List Lf} {fuel:Nat} {cs:List Value} {x:DataW H×List MemPlace},shapeOf P n t=some L →
  DataW.trod enc P w 0 (fun _=>true) true fuel t cs=some x→∃vs,Ot L vs∧pV w DM.none (fun _=>False) vs cs
 |0,t,L,fuel,cs,x,h,_=>by simp [shapeOf]at h
 |
  n+1,t,L,fuel,cs,x,h,hx=>by
  cases fuel with
  |zero=>simp [DataW.trod]at hx
  |succ fuel =>
  simp only [shapeOf]at h;split at h
  ·rename_i k hu;simp only [aC]at h;subst h;obtain⟨m,rfl,_,hw⟩:=DataW.trod_int hu hx;exact⟨[.int k m],by simp [Ot,Mt,hw],by simp [pV,rd]⟩
  ·rename_i hu;simp only [aC]at h;subst h;rw [DataW.trod_step]at hx;unfold DataW.trodStep at hx;rw [hu]at hx;split at hx<;>simp_all;rename_i b;exact⟨[.bool b],by simp [Ot,Mt],by simp [pV,rd]⟩
  ·rename_i hu;simp only [aC]at h;subst h;rw [DataW.trod_step]at hx;unfold DataW.trodStep at hx;rw [hu]at hx;split at hx<;>simp_all;rename_i s;exact⟨[.str s.data.toList],by simp [Ot,Mt];exact hx.1,by simp [pV,rd]⟩
  ·rename_i e hu;split at h<;>first|(cases h;done)|skip
   rename_i r hr;split at h<;>first|(cases h;done)|skip
   rename_i hsz;simp only [aC]at h;subst h;rcases DataW.trod_slice hu hx with ⟨rfl,_⟩|⟨a,len,cap,elems,rest,m,_,rfl,_,hb,hl,hm,hlen,hel,_,_⟩
   ·exact⟨[.sl r.length []],by simp [Ot,Mt],by simp only [pV,rd];exact⟨_,[],rfl,⟨none,0,rfl,aP _,.inl (by trivial)⟩,rfl⟩⟩
   have aDR:∀i,i<len→∃cs',w.cells? 0 (a.add (i*P.cellsOf e)) (P.cellsOf e)=some cs'∧∃vs,Ot r vs∧pV w DM.none (fun _=>False) vs cs':=by
    intro i hi;have h1:=hel i hi;have h2:elems[i]? = some (elems[i]'(by omega)):=aB (by omega);rw [h2,dQ]at h1;obtain⟨cs',k1,k2⟩:=h1;exact⟨cs',k1,ZX n hr k2⟩
   have hch:∀i,∃p:List Value×List V,i<len→w.cells? 0 (a.add (i*P.cellsOf e)) (P.cellsOf e)=some p.1∧Ot r p.2∧pV w DM.none (fun _=>False) p.2 p.1:=by
    intro i;by_cases hi:i<len
    ·obtain⟨cs',k1,vs,k2,k3⟩:=aDR i hi;exact⟨(cs',vs),fun _=>⟨k1,k2,k3⟩⟩
    exact⟨([],[]),fun h=>absurd h hi⟩
   obtain⟨f,hf⟩:=Classical.axiomOfChoice hch;have hrow:∀i vs,((List.range len).map fun i=>(f i).2)[i]? = some vs→i<len∧vs=(f i).2:=by
    intro i vs hi;rw [bG,aI]at hi;obtain⟨j,h1,h2⟩:=hi;obtain⟨h3,h4⟩:=aK.1 h1;rw [List.getElem_range]at h4;subst h4;exact⟨by simpa using h3,h2.symm⟩
   refine⟨[.sl r.length ((List.range len).map fun i=>(f i).2)],?_,?_⟩
   ·simp only [Ot,Mt];refine⟨_,[],rfl,⟨_,rfl,by simp;exact cZ hl hm,fun rr hrr=>?_⟩,rfl⟩;obtain⟨i,hi⟩:=bF.1 hrr;obtain⟨h1,rfl⟩:=hrow i rr hi;exact(hf i h1).2.1
   simp only [pV,rd];refine⟨_,[],rfl,⟨some a,cap,by simp,by simpa using hl,?_⟩,rfl⟩;by_cases h0:len=0
   ·left;subst h0;rfl
   right;obtain⟨b,off,spot⟩:=a;have hspot:spot=none:=by
    obtain⟨_,_,hc⟩:=World.cells?_some (hf 0 (by omega)).1;have hlen0:=(World.cells?_some (hf 0 (by omega)).1).2.1;have hc0:=hc 0 (by omega);have hlt0:0<(f 0).1.length:=by omega
    rw [aB hlt0]at hc0;simpa [Addr.add]using World.cell?_spot hc0
   subst hspot;have hb':b<w.heap.size:=by
    have:=World.cells?_block (hf 0 (by omega)).1 (by omega);simpa [Addr.add]using this
   refine⟨b,off,rfl,hb',fun h=>h,abJ _ _ fun i rr hi=>?_⟩;obtain⟨h1,rfl⟩:=hrow i rr hi;obtain⟨g1,g2,g3⟩:=hf i h1;obtain⟨_,hl2,hc⟩:=World.cells?_some g1;refine⟨ajg g2,QM _ _ _ g3 (aor g2) fun j hj=>?_⟩;have:=hc j (by omega);rw [←this,hsz.1]
   congr 1
   simp only [addr_add]
  ·rename_i fs hu;split at h<;>first|(cases h;done)|skip
   rename_i r hr;split at h<;>first|(cases h;done)|skip
   rename_i hsz;simp only [aC]at h;subst h;rw [DataW.trod_step]at hx;unfold DataW.trodStep at hx;rw [hu]at hx;simp only []at hx;split at hx<;>first|(cases hx;done)|skip
   rename_i hlen;rw [aI]at hx;obtain⟨xs,hxs,_⟩:=hx;have key:∀(fl:List Field) (off:Nat) (r:List Lf) (xs:List (DataW H×List MemPlace)),aoq P (shapeOf P n) fl off=some r →
     (fl.mapM fun f=>DataW.trod enc P w 0 (fun _=>true) true fuel f.type ((cs.drop f.offset).take (P.cellsOf f.type)))=some xs →
     ∃vs,Ot r vs∧pV w DM.none (fun _=>False) vs ((cs.drop off).take r.length):=by
    intro fl
    induction fl with
    |
     nil =>
     intro off r xs h _;simp only [aoq,aC]at h;subst h;exact⟨[],by simp [Ot],by simp [pV]⟩
    |
     cons f fl ih =>
     intro off r xs h hm;simp only [aoq]at h;split at h<;>first|(cases h;done)|skip
     rename_i r1 rs h1 h2;split at h<;>first|(cases h;done)|skip
     rename_i hc;simp only [aC]at h;subst h;simp only [bD,iF,fM,dQ,aC]at hm;obtain⟨y,hy,ys,hys,rfl⟩:=hm;obtain⟨v1,a1,a2⟩:=ZX n h1 hy;obtain⟨v2,b1,b2⟩:=ih _ rs ys h2 hys;refine⟨v1++v2,ahU a1 b1,?_⟩;have e:(cs.drop off).take (r1++rs).length=(cs.drop off).take r1.length++(cs.drop (off+P.cellsOf f.type)).take rs.length:=by
      rw [aJ,List.take_add,List.drop_drop,hc.2]
     rw [e];rw [hc.1,←hc.2]at a2;exact Gh _ _ _ _ a2 b2
   obtain⟨vs,a1,a2⟩:=key fs.toList 0 r xs hr hxs;refine⟨vs,a1,?_⟩;rw [bZ,aY (by omega)]at a2;exact a2
  cases h
theorem aos(n:Nat){t:TypeId}{L:List Lf}{v:Value}{d:DataW H}{ps:List MemPlace}(hs:shapeOf P n t=some L)(h:DataW.Trod enc P w 0 (fun _=>true) true t v d ps) :
  ∃vs,Ot L vs∧pV w DM.none (fun _=>False) vs v.cells.toList:=by
 obtain⟨fuel,hf⟩:=h;exact ZX n hs hf
end
end Go.Ml
namespace Go.Ml
open Go.ChangeShapes Go.WideShapes Go.ChangeAt Go.RowKit
def aot(g:Bool)(vs:List V):V:=if g=true then .agg vs else vs.headD .any
def ahV:List (Bool×List Lf)→List V→Prop
 | [],vs=>vs=[]
 |s::ss,vs=>∃cs rest,vs=aot s.1 cs::rest∧Ot s.2 cs∧ahV ss rest
def ash(P:Program)(t:TypeId)(s:Bool×List Lf):Bool :=
 match P.underlying t with
 |some (.struct _)=>s.1
 |some (.int _)|some .bool|some .string|some (.slice _)=>!s.1
 |_=>false
def ZY(P:Program):List TypeId→List (Bool×List Lf)→Prop
 | [],ss=>ss=[]
 |t::ts,ss=>∃s rest,ss=s::rest∧shapeOf P 20 t=some s.2∧ash P t s=true∧ZY P ts rest
theorem ajh{H:Type}{enc:TypeId×Value→H}{P:Program}{w:World}{r:Reach}{b:Nat}:∀{ts:List TypeId} {ss:List (Bool×List Lf)} {vs:List Value} {ds:List (DataW H)} {ps:List MemPlace},
  ZY P ts ss→(∀(j:Nat) t v,ts[j]? = some t→vs[j]? = some v→Value.okWide P w r b t v)→DataW.TrodAll enc P w 0 (fun _=>true) true ts vs ds ps →
  ∃Vs,ahV ss Vs∧pV w DM.none (fun _=>False) Vs vs
 | [],ss,[],ds,ps,h,_,_=>by simp only [ZY]at h;subst h;exact⟨[],rfl,by simp [pV]⟩
 | [],_,_::_,ds,ps,_,_,ht=>by cases ds<;>exact ht.elim
 |_::_,_,[],ds,ps,_,_,ht=>by cases ds<;>exact ht.elim
 |t::ts,ss,v::vs,[],ps,_,_,ht=>ht.elim
 |
  t::ts,ss,v::vs,d::ds,ps,h,hw,ht=>by
  simp only [ZY]at h;obtain⟨s,rest,rfl,h1,h2,h3⟩:=h;obtain⟨p,q,k1,k2,_⟩:=ht;obtain⟨Vs,a1,a2⟩:=ajh h3 (fun j t' v' hj hv=>hw (j+1) t' v' (by simpa using hj) (by simpa using hv)) k2;obtain⟨cs,c1,c2⟩:=aos 20 h1 k1;have hok:=hw 0 t v rfl rfl;refine⟨aot s.1 cs::Vs,⟨cs,Vs,rfl,c1,a1⟩,?_⟩;simp only [pV];refine⟨v,vs,rfl,?_,a2⟩;unfold ash at h2;have one:(∀cs',v≠.agg cs')→s.1=false→s.2.length=1→rd w DM.none (fun _=>False) (aot s.1 cs) v:=by
   intro hv hs hl;have hvc:v.cells.toList=[v]:=by cases v<;>first|rfl|(exact absurd rfl (hv _))
   rw [hvc]at c2;have:=ajg c1;rw [hl]at this
   cases cs with
   |nil=>simp at this
   |
    cons x xs =>
    simp only [pV]at c2;obtain⟨y,ys,e,e2,_⟩:=c2;simp only [List.cons.injEq]at e;rw [hs];simp only [aot,aX,if_false,List.headD_cons];rw [e.1];exact e2
  unfold shapeOf at h1;split at h2
  ·rename_i fs hu;rw [h2];simp only [Value.okWide,hu]at hok;obtain⟨cs',rfl,_⟩:=hok;simp only [aot,if_true,rd];exact⟨cs',rfl,c2⟩
  ·rename_i k hu;rw [hu]at h1;simp only [aC]at h1;obtain⟨n,rfl⟩:=okWide_int hu hok;exact one (by intro cs' e;cases e) (by simpa using h2) (by rw [←h1];rfl)
  ·rename_i hu;rw [hu]at h1;simp only [aC]at h1;obtain⟨n,rfl⟩:=okWide_bool hu hok;exact one (by intro cs' e;cases e) (by simpa using h2) (by rw [←h1];rfl)
  ·rename_i hu;rw [hu]at h1;simp only [aC]at h1;obtain⟨n,rfl⟩:=okWide_string hu hok;exact one (by intro cs' e;cases e) (by simpa using h2) (by rw [←h1];rfl)
  ·rename_i e hu;rw [hu]at h1;simp only []at h1;obtain⟨a0,l0,c0,rfl⟩:=okWide_slice hu hok;refine one (by intro cs' e;cases e) (by simpa using h2) ?_;split at h1<;>first|(cases h1;done)|skip
   split at h1<;>first|(cases h1;done)|skip
   simp only [aC]at h1;rw [←h1];rfl
  cases h2
theorem RV{H:Type}{enc:TypeId×Value→H}{P:Program}(hl:laidOutB P=true){W W':World}(hb:Below W.heap.size W W'):∀{ts:List TypeId} {vs:List Value} {ds:List (DataW H)} {ps:List MemPlace},
  (ts.all fun t=>P.readableRec t&&decide (t<P.types.size))=true→DataW.TrodAll enc P W 0 (fun _=>true) true ts vs ds ps→(∀x∈ps,x.block<W.heap.size) →
  DataW.TrodAll enc P W' 0 (fun b=>decide (b<W.heap.size)) true ts vs ds ps
 | [],[],[],ps,_,h,_=>h
 | [],_::_,ds,ps,_,ht,_=>by cases ds<;>exact ht.elim
 | [],[],_::_,ps,_,ht,_=>ht.elim
 |_::_,[],ds,ps,_,ht,_=>by cases ds<;>exact ht.elim
 |t::ts,v::vs,[],ps,_,ht,_=>ht.elim
 |
  t::ts,v::vs,d::ds,ps,h,ht,hlt=>by
  simp only [dh,aG,decide_eq_true_eq]at h;obtain⟨p,q,k1,k2,rfl⟩:=ht;exact⟨p,q,Below.trod hl h.1.1 h.1.2 k1 hb fun x hx=>hlt x (by simp [hx]),RV hl hb (by simpa using h.2) k2 fun x hx=>hlt x (by simp [hx]),rfl⟩
end Go.Ml
end
section
namespace Go.Ml
theorem Om:∀{a b:List Lf} {vs:List V},Ot (a++b) vs→∃v1 v2,vs=v1++v2∧Ot a v1∧Ot b v2
 | [],b,vs,h=>⟨[],vs,rfl,by simp [Ot],h⟩
 |
  x::a,b,vs,h=>by
  simp only [bP,Ot]at h;obtain⟨v,vs',rfl,h1,h2⟩:=h;obtain⟨v1,v2,rfl,h3,h4⟩:=Om h2;refine⟨v::v1,v2,rfl,?_,h4⟩;simp only [Ot];exact⟨v,v1,rfl,h1,h3⟩
theorem afI{α:Type}{row:List Lf}{f:α→List V}{W:α→Prop}(h:∀r,Ot row r→∃x,r=f x∧W x){v:V}(hv:Mt (.sl row) v):∃l:List α,v=.sl row.length (l.map f)∧Bg W l:=by
 simp only [Mt]at hv;obtain⟨rows,rfl,hl,hr⟩:=hv;have key:∀rows:List (List V),(∀r∈rows,Ot row r)→∃l:List α,rows=l.map f∧∀x∈l,W x:=by
  intro rows
  induction rows with
  |nil=>intro _;exact⟨[],rfl,by simp⟩
  |
   cons r rows ih =>
   intro hr;obtain⟨x,rfl,hx⟩:=h r (hr r (by simp));obtain⟨l,rfl,hl⟩:=ih fun r hr'=>hr r (by simp [hr']);exact⟨x::l,rfl,by simpa using ⟨hx,hl⟩⟩
 obtain⟨l,rfl,hw⟩:=key rows hr;exact⟨l,rfl,by simpa [maxLen]using hl,hw⟩
theorem afJ{v:V}(h:Mt (.int .i64) v):∃n,v=iv n∧(Lit.int .i64 n).wf=true:=by simpa only [Mt]using h
theorem aou{v:V}(h:Mt .bool v):∃b,v=.bool b:=by simpa only [Mt]using h
theorem adv{l:Lf}{r:List V}(h:Ot [l] r):∃v,r=[v]∧Mt l v:=by
 simp only [Ot]at h;obtain⟨v,vs,rfl,h1,rfl⟩:=h;exact⟨v,rfl,h1⟩
abbrev shI:Lf:=.sl [.int .i64]
abbrev shR:List Lf:=[.bool,shI,shI]
abbrev au2:List Lf:=[.int .i64]++([.int .i64]++(shR++(shR++shR)))
theorem afK{v:V}(h:Mt shI v):∃l:List Int,v=ints l∧l.length≤9223372036854775807:=by
 obtain⟨l,rfl,hl⟩:=afI (f:=fun n=>[iv n]) (W:=fun _=>True) (fun r hr=>by
  obtain⟨v,rfl,g⟩:=adv hr;obtain⟨n,rfl,_⟩:=afJ g;exact⟨n,rfl,trivial⟩) h
 exact⟨l,rfl,hl.1⟩
theorem aov{vs:List V}(h:Ot shR vs):∃r:R,vs=r.cells∧r.wf:=by
 simp only [Ot]at h;obtain⟨v1,_,rfl,h1,v2,_,rfl,h2,v3,_,rfl,h3,rfl⟩:=h;obtain⟨b,rfl⟩:=aou h1;obtain⟨m,rfl,hm⟩:=afK h2;obtain⟨d,rfl,hd⟩:=afK h3;exact⟨⟨b,m,d⟩,rfl,hm,hd⟩
theorem afL{vs:List V}(h:Ot [.int .i64] vs):∃n,vs=[iv n]:=by
 obtain⟨v,rfl,g⟩:=adv h;obtain⟨n,rfl,_⟩:=afJ g;exact⟨n,rfl⟩
theorem au3{vs:List V}(h:Ot au2 vs):∃p:Lk,vs=p.cells∧p.wf:=by
 obtain⟨v1,v2,rfl,h1,h⟩:=Om h;obtain⟨v2,v3,rfl,h2,h⟩:=Om h;obtain⟨v3,v4,rfl,h3,h⟩:=Om h;obtain⟨v4,v5,rfl,h4,h5⟩:=Om h;obtain⟨a,rfl⟩:=afL h1;obtain⟨b,rfl⟩:=afL h2;obtain⟨x,rfl,hx⟩:=aov h3;obtain⟨y,rfl,hy⟩:=aov h4;obtain⟨z,rfl,hz⟩:=aov h5;exact⟨⟨a,b,x,y,z⟩,rfl,hx,hy,hz⟩
theorem arj{v:V}(h:Mt (.sl au2) v):∃l,v=kY l∧Bg Lk.wf l:=afI (fun _ hr=>au3 hr) h
def aow{α:Type}(P:α→Prop):List α→Prop
 | []=>True
 |x::l=>P x∧aow P l
theorem aow.mem{α:Type}{P:α→Prop}:∀{l:List α},aow P l→∀x∈l,P x
 | [],_,x,hx=>by cases hx
 |
  y::l,h,x,hx=>by
  rcases aH.1 hx with rfl|hx
  ·exact h.1
  exact aow.mem h.2 x hx
end Go.Ml
namespace Go.Ml
theorem afM{H:Type}{enc:TypeId×Value→H}{P:Program}{w:World}{b:Nat}{sp:Nat→Bool}{hd:Bool}:∀{ts:List TypeId} {vs:List Value} {ds:List (DataW H)} {ps:List MemPlace},
  DataW.TrodAll enc P w b sp hd ts vs ds ps→ds.length=ts.length
 | [],[],[],_,_=>rfl
 | [],[],_::_,_,h=>h.elim
 | [],_::_,ds,_,h=>by cases ds<;>exact h.elim
 |_::_,[],ds,_,h=>by cases ds<;>exact h.elim
 |_::_,_::_,[],_,h=>h.elim
 |
  t::ts,v::vs,d::ds,ps,h=>by
  obtain⟨p,q,_,h2,_⟩:=h;simp [afM h2]
end Go.Ml
end
