/- Contracts of functions. -/
import Derived.Test.YtbccjdlcbhknoaaGreatPart2
set_option linter.unusedSimpArgs false
set_option linter.unusedVariables false
set_option maxRecDepth 100000
set_option maxHeartbeats 16000000
section
namespace Go.Ml
def QX:List Int→Int→List Int
 | [],n=>[n]
 |x::l,n=>if x<n then x::QX l n else if x=n then x::l else n::x::l
def Asc(l:List Int):Prop:=l.Pairwise (· < ·)
theorem U1{l:List Int}{n a:Int}:a∈QX l n↔a=n∨a∈l:=by
 induction l with
 |nil=>simp [QX]
 |
  cons x l ih =>
  unfold QX;split
  ·rw [aH,ih,aH];constructor
   ·rintro(h|h|h)<;>simp [h]
   rintro(h|h|h)<;>simp [h]
  split
  ·rename_i e;subst e;constructor
   ·intro h;exact .inr h
   rintro(h|h)
   ·rw [h];simp
   exact h
  simp
theorem PN{l:List Int}{n:Int}(h:Asc l):Asc (QX l n):=by
 unfold Asc at *
 induction l with
 |nil=>simp [QX]
 |
  cons x l ih =>
  rw [dJ]at h;unfold QX;split
  ·rename_i hx;rw [dJ];refine⟨fun a ha=>?_,ih h.2⟩;rcases U1.1 ha with rfl|ha
   ·exact hx
   exact h.1 a ha
  split
  ·rw [dJ];exact h
  rename_i h1 h2;have:n<x:=by omega
  rw [dJ,dJ];refine⟨fun a ha=>?_,h⟩;rcases aH.1 ha with rfl|ha
  ·exact this
  have:=h.1 a ha;omega
theorem YD:∀{l m:List Int},Asc l→Asc m→(∀a,a∈l↔a∈m)→l=m
 | [],[],_,_,_=>rfl
 | [],y::m,_,_,h=>absurd ((h y).2 (by simp)) (by simp)
 |x::l,[],_,_,h=>absurd ((h x).1 (by simp)) (by simp)
 |
  x::l,y::m,hl,hm,h=>by
  unfold Asc at hl hm;rw [dJ]at hl hm;have e:x=y:=by
   rcases aH.1 ((h x).1 (by simp))with h1|h1
   ·exact h1
   rcases aH.1 ((h y).2 (by simp))with h2|h2
   ·exact h2.symm
   have:=hl.1 y h2;have:=hm.1 x h1;omega
  subst e
  congr 1
  refine YD hl.2 hm.2 fun a=>?_;constructor
  ·intro ha;rcases aH.1 ((h a).1 (by simp [ha]))with h1|h1
   ·have:=hl.1 a ha;omega
   exact h1
  intro ha;rcases aH.1 ((h a).2 (by simp [ha]))with h1|h1
  ·have:=hm.1 a ha;omega
  exact h1
theorem Bo:∀{a b:List Int},a.Nodup→(∀x∈a,x∈b)→a.length≤b.length
 | [],b,_,_=>by simp
 |
  x::a,b,hn,h=>by
  rw [gI]at hn;have hx:=h x (by simp);have:=Bo (a:=a) (b:=b.erase x) hn.2 fun y hy=>by
   have hyx:y≠x:=fun e=>hn.1 (e▸hy);exact(List.mem_erase_of_ne hyx).2 (h y (by simp [hy]))
  rw [List.length_erase_of_mem hx]at this;have:=List.length_pos_of_mem hx;simp only [ak];omega
theorem QY{a b:List Int}(hn:a.Nodup)(h:∀x∈a,x∈b)(hl:b.length≤a.length):∀x∈b,x∈a:=by
 intro x hx;refine Classical.byContradiction fun hxa=>?_;have:=Bo (a:=x::a) (b:=b) (gI.2 ⟨hxa,hn⟩) fun y hy=>by
  rcases aH.1 hy with rfl|hy
  ·exact hx
  exact h y hy
 simp at this;omega
theorem aaH:∀{a b:List Int},a.Nodup→(∀x∈a,x∈b)→b.length≤a.length→b.Nodup
 |a,[],_,_,_=>List.nodup_nil
 |
  a,y::b,hn,h,hl=>by
  have hya:y∈a:=QY hn h hl y (by simp);have h2:=aaH (a:=a.erase y) (b:=b) (hn.erase y) (fun x hx=>by
   have hxy:x≠y:=fun e=>by rw [e]at hx;exact(List.Nodup.not_mem_erase hn) hx
   have:=h x (List.mem_of_mem_erase hx);rcases aH.1 this with e|k
   ·exact absurd e hxy
   exact k) (by rw [List.length_erase_of_mem hya];simp only [ak]at hl;omega)
  refine gI.2 ⟨fun hyb=>?_,h2⟩;have:=Bo (a:=a) (b:=b) hn fun x hx=>by
   rcases aH.1 (h x hx)with e|k
   ·rw [e];exact hyb
   exact k
  simp only [ak]at hl;omega
theorem F5{l:List Int}(h:Asc l):l.Nodup:=by
 unfold Asc at h;exact h.imp fun h e=>by omega
def Bq:Fn:=⟨1,34,[.tmp 2],(sr [oN 2 mN] (.seq (rf 1 [oN 7 (.oI 1 I9 0 []),oK 3 1 (oV 7)]) (.seq (sr [oN 4 (.oO (cI 1))] (.block 0 (.loop (.seq (sr [oW 8 4,oN 9 (bc .lss 8 10)] (cd 9 .skip (.exit 0))) (.seq (.block 1 (sr [oW 12 0,oN 13 (ln 12),oN 14 (.oO (cI 0))] (.block 2 (.loop (sr [oN 15 (bt .lss 14 13)] (.seq (cd 15 .skip (.exit 2)) (.seq (.block 3 (.seq (rf 1 [oK 16 1 (ix 11 12 14),oK 17 1 (lT 11 16),oN 6 (.alloc J7),⟨none,none,1,.store 11 (.t 6) (.t 17),[]⟩]) (sr [oN 18 (fd 0 6),oN 19 (lF 1 18),oW 20 4,oN 21 (bt .eql 19 20),oW 22 21,oG 22 false 23 (fd 1 6),oG 22 false 24 (lF 1 23),oG 22 false 25 (oV 4),oG 22 false 26 (bt .eql 24 25),oN 27 (.pick (.t 22) (.c (.bool true)) (.t 26))] (cd 27 (.seq (rf 2 [oK 28 2 (oV 3),oK 29 2 (oV 4),oN 30 (.oI 1 I9 1 [(0,(.t 29))]),oK 31 1 (.app 1 8 (.t 28) (.t 30)),oK 3 2 (oV 31)]) (.exit 2)) .skip)))) (rg [oN 32 (bc .add 14 1),oW 14 32])))))))) (rg [oW 10 4,oN 11 (bc .add 10 1),oW 4 11])))))) (sr [oW 33 3,oW 2 33] .ret))))⟩
structure Bv (T:Tb):Prop where
 hT:T 180=some Bq
def ends(l:List Lk)(v:Int):Bool:=l.any fun x=>decide (x.a=v)||decide (x.b=v)
def zY(l:List Lk)(v:Nat):List Int:=((List.range v).filter fun (u:Nat)=>decide (1≤u)&&ends l u).map fun u=>((u:Nat):Int)
theorem aiL(l:List Lk):zY l 1=[]:=by simp [zY]
theorem aiM(l:List Lk){v:Nat}(h:1≤v):zY l (v+1)=zY l v++(if ends l v=true then [((v:Nat):Int)]else []):=by
 unfold zY;rw [jd,List.filter_append,cZ]
 congr 1
 simp only [List.filter_cons,List.filter_nil,decide_eq_true h,cO];split<;>rfl
theorem U2(l:List Lk)(v:Nat):(zY l v).length≤v:=by
 unfold zY;rw [aX];have:=jD (fun (u:Nat)=>decide (1≤u)&&ends l u) (List.range v);rw [jE]at this;exact this
theorem U3{l:List Lk}{v:Int}{k:Nat}(hk:k<l.length)(h:(l.getD k default).a=v∨(l.getD k default).b=v):ends l v=true:=by
 unfold ends;rw [List.any_eq_true];exact⟨_,getD_mem hk,by simpa using h⟩
theorem acI{l:List Lk}{v:Int}(h:∀k,k<l.length→(l.getD k default).a≠v∧(l.getD k default).b≠v):ends l v=false:=by
 unfold ends;rw [List.any_eq_false];intro x hx;obtain⟨k,hk⟩:=bD.1 hx;have hlt:=(aN.1 hk).1;have:=h k hlt;rw [aj,hk]at this;simpa using this
theorem aor{a b:St}(h:Fg a b:=by
 (simp only [←sO];refine O9 (k:=3) (Ew _ _) rfl ?_;(try (refine ev ?_;try with_reducible exact True.intro));(repeat' (first|exact True.intro|omega|exact IU (by simp) (by simp) (by simp)|refine⟨?_,?_⟩|exact lK rfl (by simp))))):Fg a b:=h
theorem U4{T:Tb}(h:Bv T){l:List Lk}(hw:IQ Lk.wf l:=by exact qW):PF T 180 [oP l] (ints (zY l 10)):=by
 have hlen:=hw.1;refine jZ nR h.hT ?_;simp only [Bq,Lz];refine ev ?_;refine jX (fun _ _=>false) (α:=Nat×List Int) (fun q=>⟨lS [oP l,.any,.jF,slV q.2.length,iv (q.1:Nat)],Zj 1 (jR q.2),0,0,[],[]⟩) (fun q=>1≤q.1∧q.1≤10∧q.2=zY l q.1) (fun q=>10-q.1) rfl (1,[]) ?_ ?_ ?_
 ·exact⟨by omega,by omega,(aiL l).symm⟩
 ·exact aco
 rintro⟨v,xs⟩ ⟨h1,h2,hx0⟩;dsimp only at h1 h2 hx0;have hx:xs.length≤10:=by rw [hx0];have:=U2 l v;omega
 have es:=aiM l h1;rw [←hx0]at es
 (rcases xs with _|⟨x,xs⟩<;>simp only [aC,ak,Ag,yP,nV,lY]at hx ⊢)
 ·refine ev ?_;refine jW (fun hc=>?_) fun hc=>?_<;>(refine ev1 @hc ?_;try with_reducible exact True.intro)
  ·refine jX (fun _ _=>false) (α:=Nat) (fun k=>⟨lS [oP l,.any,.jF,.jF,iv (v:Nat),.any,.any,.any,.any,.any,.any,.any,oP l,iv (l.length:Nat),iv (k:Nat)],[],0,0,[],[]⟩) (fun k=>k≤l.length∧∀r,r<k→(l.getD r default).a≠(v:Nat)∧(l.getD r default).b≠(v:Nat)) (fun k=>l.length-k) rfl 0 ?_ ?_ ?_
   ·exact⟨by omega,by intro j hj;omega⟩
   ·(refine jS ?_;exact EJ)
   rintro k ⟨hk,hr⟩;refine ev ?_;refine jW (fun hd=>?_) fun hd=>?_<;>(refine vM @hd @mg ?_;try with_reducible exact True.intro)
   ·have hkl:k<l.length:=by omega
    by_cases ha:(l.getD k default).a=(v:Nat)
    ·rw [U3 hkl (.inl ha)]at es;refine ev1 @ha ?_;exact⟨by omega,(v+1,([])++[((v:Nat):Int)]),by dsimp only;omega,⟨by dsimp only;omega,by dsimp only;omega,es.symm⟩,by exact Nk⟩
    by_cases hb:(l.getD k default).b=(v:Nat)
    ·rw [U3 hkl (.inr hb)]at es;refine vM @ha @hb ?_;exact⟨by omega,(v+1,([])++[((v:Nat):Int)]),by dsimp only;omega,⟨by dsimp only;omega,by dsimp only;omega,es.symm⟩,by exact Nk⟩
    refine vM @ha @hb ?_;refine⟨k+1,by omega,⟨by omega,fun r hr'=>?_⟩,by exact aco⟩;by_cases e:r=k
    ·subst e;exact⟨ha,hb⟩
    exact hr r (by omega)
   rw [acI fun r hr'=>hr r (by omega),if_neg (by simp),aP]at es;exact⟨(v+1,[]),by dsimp only;omega,⟨by dsimp only;omega,by dsimp only;omega,es.symm⟩,by exact aco⟩
  have ev:v=10:=by omega
  subst ev;rw [←hx0];exact of_eq_true (oC 1)
 refine ev ?_;refine jW (fun hc=>?_) fun hc=>?_<;>(refine ev1 @hc ?_;try with_reducible exact True.intro)
 ·refine jX (fun _ _=>false) (α:=Nat) (fun k=>⟨lS [oP l,.any,.jF,.kQ 0 0 (x::xs).length,iv (v:Nat),.any,.any,.any,.any,.any,.any,.any,oP l,iv (l.length:Nat),iv (k:Nat)],[some ⟨1,jR (x::xs)⟩],0,0,[],[]⟩) (fun k=>k≤l.length∧∀r,r<k→(l.getD r default).a≠(v:Nat)∧(l.getD r default).b≠(v:Nat)) (fun k=>l.length-k) rfl 0 ?_ ?_ ?_
  ·exact⟨by omega,by intro j hj;omega⟩
  ·(refine jS ?_;exact EJ)
  rintro k ⟨hk,hr⟩;refine ev ?_;refine jW (fun hd=>?_) fun hd=>?_<;>(refine vM @hd @mg ?_;try with_reducible exact True.intro)
  ·have hkl:k<l.length:=by omega
   by_cases ha:(l.getD k default).a=(v:Nat)
   ·rw [U3 hkl (.inl ha)]at es;refine ev1 @ha ?_;exact⟨by omega,(v+1,(x::xs)++[((v:Nat):Int)]),by dsimp only;omega,⟨by dsimp only;omega,by dsimp only;omega,es.symm⟩,by exact aor⟩
   by_cases hb:(l.getD k default).b=(v:Nat)
   ·rw [U3 hkl (.inr hb)]at es;refine vM @ha @hb ?_;exact⟨by omega,(v+1,(x::xs)++[((v:Nat):Int)]),by dsimp only;omega,⟨by dsimp only;omega,by dsimp only;omega,es.symm⟩,by exact aor⟩
   refine vM @ha @hb ?_;refine⟨k+1,by omega,⟨by omega,fun r hr'=>?_⟩,by exact V6⟩;by_cases e:r=k
   ·subst e;exact⟨ha,hb⟩
   exact hr r (by omega)
  rw [acI fun r hr'=>hr r (by omega),if_neg (by simp),aP]at es;exact⟨(v+1,x::xs),by dsimp only;omega,⟨by dsimp only;omega,by dsimp only;omega,es.symm⟩,by exact V6⟩
 have ev:v=10:=by omega
 subst ev;rw [←hx0];exact jP _
def kZ:Fn:=⟨1,86,[.tmp 2],(.seq (rf 1 [oN 1 (.box (.t 0)),oK 2 1 mF]) (.seq (sr [oN 6 (fd 0 1),oN 7 (lF 1 6),oN 8 (bc .lss 7 1),oW 9 8,oG 9 false 10 (fd 0 1),oG 9 false 11 (lF 1 10),oG 9 false 12 (bc .geq 11 10),oN 13 (.pick (.t 9) (.c (.bool true)) (.t 12)),oW 14 13,oG 14 false 15 (fd 1 1),oG 14 false 16 (lT 3 15),oG 14 false 17 (cl 101 [16]),oG 14 false 18 (bc .leq 17 0),oN 19 (.pick (.t 14) (.c (.bool true)) (.t 18)),oW 20 19,oG 20 false 21 (fd 4 1),oG 20 false 22 (lF 1 21),oG 20 false 23 (ln 22),oG 20 false 24 (bc .eql 23 0),oN 25 (.pick (.t 20) (.c (.bool true)) (.t 24))] (cd 25 (sr [oN 2 mF] .ret) .skip)) (.seq (rf 1 [oK 26 1 (.call 39 [(cI 0)]),oN 3 (.alloc vN),⟨none,none,1,.store 3 (.t 3) (.t 26),[]⟩]) (.seq (sr [oN 27 (fd 4 1),oN 28 (lF 1 27),oN 29 (ln 28),oN 30 (.oO (cI 0))] (.block 0 (.loop (sr [oN 31 (bt .lss 30 29)] (.seq (cd 31 .skip (.exit 0)) (.seq (.block 1 (.seq (rf 1 [oK 32 1 (oV 30),oK 33 1 (ix 10 28 30),oK 34 1 (lT 10 33),oN 5 (.alloc zz5),oK 4 1 (oV 32),⟨none,none,1,.store 10 (.t 5) (.t 34),[]⟩]) (.seq (.seq (rt 0 [oN 35 (fd 0 5),oA 36 0 (lF 1 35) [0],oA 37 0 (cl 37 [36]) [1],oA 38 0 (nt 37) [2],oA 39 0 (oV 38) [3,2],oH 39 false 40 0 (fd 0 5) [4],oH 39 false 41 0 (lF 1 40) [5,4],oH 39 false 42 0 (fd 0 1) [4],oH 39 false 43 0 (lF 1 42) [7,4],oH 39 false 44 0 (bt .eql 41 43) [6,8,4],oA 45 0 (.pick (.t 39) (.c (.bool true)) (.t 44)) [4,9],oA 46 0 (oV 45) [10,4],oH 46 false 47 0 (oV 4) [11],oH 46 false 48 0 (bc .gtr 47 0) [12,11],oH 46 false 49 0 (oV 48) [13,11,11],oH 49 true 50 0 (fd 4 1) [14],oH 49 true 51 0 (lF 1 50) [15,14],oH 49 true 52 0 (oV 4) [14],oH 49 true 53 0 (bc .sub 52 1) [17,14],oH 49 true 54 0 (ix 10 51 53) [16,18,14],oH 49 true 55 0 (fd 0 54) [19,14],oH 49 true 56 0 (lF 1 55) [20,14],oH 49 true 57 0 (fd 0 5) [14],oH 49 true 58 0 (lF 1 57) [22,14],oH 49 true 59 0 (bt .geq 56 58) [21,23,14],oH 46 false 60 0 (.pick (.t 49) (.t 59) (.c (.bool false))) [14,24,11],oA 61 0 (.pick (.t 46) (.c (.bool true)) (.t 60)) [11,25]]) (cd 61 (sr [oN 2 mF] .ret) .skip)) (.seq (sr [oN 62 (fd 1 5),oN 63 (lT 3 62),oN 64 (cl 101 [63]),oN 65 (bc .leq 64 0),oW 66 65,oG 66 false 67 (fd 4 5),oG 66 false 68 (lT 3 67),oG 66 false 69 (cl 102 [68]),oG 66 false 70 (nt 69),oN 71 (.pick (.t 66) (.c (.bool true)) (.t 70)),oW 72 71,oG 72 false 73 (fd 7 5),oG 72 false 74 (lT 3 73),oG 72 false 75 (cl 102 [74]),oG 72 false 76 (nt 75),oN 77 (.pick (.t 72) (.c (.bool true)) (.t 76))] (cd 77 (sr [oN 2 mF] .ret) .skip)) (rg [oN 78 (lT 3 3),oN 79 (fd 1 5),oN 80 (lT 3 79),oN 81 (cl 131 [78,80]),oS (.store 3 (.t 3) (.t 81))]))))) (rg [oN 82 (bc .add 30 1),oW 30 82]))))))) (.seq (rt 0 [oN 83 (lT 3 3),oN 84 (.call 39 [(cI 1)]),oA 85 0 (cl 32 [83,84]) [0,1,1],oA 2 0 (oV 85) [2,2,0,1,2]]) .ret)))))⟩
structure oD (T:Tb):Prop where
 hT:T 185=some kZ
 EZ:zK T
 D7:D6 T
 kJ:mO T
 AY:AV T
 lM:sD T
 kE:lN T
theorem avm(a:Int):nd a=inB a 0 9:=rfl
theorem aiN{a b:St}(h:Fg a b:=by
 (refine Fh [(0,_),(1,_)] (by simp) (by intro p hp;simp only [aH,bP,or_false]at hp;rcases hp with rfl|rfl<;>refine⟨rfl,?_⟩<;>first|exact oz _|simp [l9,V.still]) rfl ?_)<;>(try (refine ev ?_;try with_reducible exact True.intro))<;>(repeat' (first|exact True.intro|omega|exact qM rfl (by simp)|refine⟨?_,?_⟩|exact of_eq_true (rJ _ _ _)|exact lK rfl (by simp;done)|exact lK rfl rfl|(refine lD rfl ?_ rfl;simp [jR];done)|(refine lD rfl ?_ rfl;simp [jR];omega)|(refine rM ?_ ?_;(focus ((refine ev ?_;try with_reducible exact True.intro);done));(intro q hq k s0 l0;simp;done))))):Fg a b:=h
theorem tu{T:Tb}(h:oD T){c:Cd}(hw:c.wf:=by exact qW):PF T 185 [Xj c] (.bool (uw c)):=by
 obtain⟨w1,w2⟩:=hw;have hlen:=w2.1;have cs:=Ol h.AY (r:=c.total) w1;have c0:=Ih h.kJ (n:=0) (by omega);have c1:=Ih h.kJ (n:=1) (by omega);have ceq:=Ls h.EZ (y:=JA c.ps c.ps.length) (z:=ku 1) (rP (PG _ _)) (rP (vS (by decide)));by_cases k1:c.node<1
 ·have:uw c=false:=by unfold uw inB;rw [decide_eq_false (show ¬1≤c.node by omega)];simp
  rw [this];refine kR nR h.hT ?_;simp only [kZ,Lz];refine ev ?_
  (refine ev1 @k1 ?_;try with_reducible exact True.intro)
 by_cases k2:10≤c.node
 ·have:uw c=false:=by unfold uw inB;rw [decide_eq_false (show ¬c.node≤9 by omega)];simp
  rw [this];refine kR nR h.hT ?_;simp only [kZ,Lz];refine ev ?_
  (refine vM @k1 @k2 ?_;try with_reducible exact True.intro)
 have e1:inB c.node 1 9=true:=by unfold inB;rw [decide_eq_true (show 1≤c.node by omega),decide_eq_true (show c.node≤9 by omega)];rfl
 by_cases k3:AB c.total.q≤0
 ·have:uw c=false:=by unfold uw yJ;rw [decide_eq_false (show ¬0<AB c.total.q by omega)];simp
  rw [this];refine kR nR h.hT ?_;simp only [kZ,Lz];refine ev ?_;refine vM @k1 @k2 ?_;refine jl cs ?_
  (refine ev1 @k3 ?_;try with_reducible exact True.intro)
 have e2:decide (0<yJ c.total)=true:=decide_eq_true (by unfold yJ;omega);by_cases k4:((c.ps.length:Nat):Int)=0
 ·have e:c.ps=[]:=aY (by omega);have:uw c=false:=by unfold uw;rw [e];simp
  rw [this];refine kR nR h.hT ?_;simp only [kZ,Lz];refine ev ?_;refine vM @k1 @k2 ?_;refine jl cs ?_
  (refine vM @k3 @k4 ?_;try with_reducible exact True.intro)
 have e3:c.ps.isEmpty=false:=by cases hp:c.ps with
  |nil=>rw [hp]at k4;simp at k4
  |cons x l=>rfl
 refine kR nR h.hT ?_;simp only [kZ,Lz];refine ev ?_;refine vM @k1 @k2 ?_;refine jl cs ?_;refine vM @k3 @k4 ?_;refine jl c0 ?_;refine ev ?_;refine jX (fun _ _=>false) (α:=Nat) (fun i=>⟨lS [.any,.ptr 0 0 0,.bool false,.ptr 1 0 0,.any,.any,.any,.any,.any,.any,.any,.any,.any,.any,.any,.any,.any,.any,.any,.any,.any,.any,.any,.any,.any,.any,.any,.any,Nj c.ps,iv (c.ps.length:Nat),iv (i:Nat)],[some ⟨5,[c.cells]⟩,some ⟨3,[(JA c.ps i).cells]⟩],0,0,[],[]⟩) (fun i=>i≤c.ps.length∧∀j,j<i→KD c j=true) (fun i=>c.ps.length-i) rfl 0 ?_ ?_ ?_
 ·exact⟨by omega,by intro j hj;omega⟩
 ·(refine jS ?_)<;>(try (refine ev1 @YB ?_;try with_reducible exact True.intro))<;>(repeat' (first|refine⟨?_,?_⟩|exact Jh (by omega)|exact Lc (by simp)|exact He _))
 rintro i ⟨hi,hj⟩;refine ev ?_;refine jW (fun hc=>?_) fun hc=>?_<;>(refine vM @hc @mg ?_;try with_reducible exact True.intro)
 ·have hil:i<c.ps.length:=by omega
  have hwp:=w2.at_ hil;have es:=(YC c.ps hil).symm;obtain⟨p,hp⟩:∃p,c.ps.getD i default=p:=⟨_,rfl⟩;obtain⟨q,hq⟩:∃q,c.ps.getD (i-1) default=q:=⟨_,rfl⟩;rw [hp]at hwp es ⊢;have cn:=UK h.D7 (a:=p.node);rw [avm]at cn;have csh:=Ol h.AY (r:=p.share) hwp.1;have cdx:=zD h.lM (r:=p.dx) hwp.2.1;have cdy:=zD h.lM (r:=p.dy) hwp.2.2;refine jl cn ?_
  cases b1:inB p.node 0 9
  ·refine ev ?_;rw [show uw c=false from JB hil (by unfold KD;rw [hp,b1];simp)]
  refine ev ?_;by_cases b2:p.node=c.node
  ·refine ev1 @b2 ?_;rw [show uw c=false from JB hil (by unfold KD;rw [hp,decide_eq_true b2];simp)]
  have q2:decide (p.node=c.node)=false:=decide_eq_false b2;by_cases h0:i=0
  ·have h0':¬(0:Int)<(i:Nat):=by omega
   have q3:(decide (i=0)||decide ((c.ps.getD (i-1) default).node<p.node))=true:=by rw [decide_eq_true h0];rfl
   refine vM @b2 @h0' ?_;refine jl csh ?_;by_cases b4:AB p.share.q≤0
   ·refine ev1 @b4 ?_;rw [show uw c=false from JB hil (by unfold KD;rw [hp,decide_eq_false (show ¬0<yJ p.share by unfold yJ;omega)];simp)]
   have q4:decide (0<yJ p.share)=true:=decide_eq_true (by unfold yJ;omega);have aiO:=Ak h.kE (r:=JA c.ps i) (s:=p.share) (PG _ _) (tV (PE (of_decide_eq_true q4)));rw [es]at aiO;refine ev1 @b4 ?_;refine jl cdx ?_
   cases b5:p.dx.ok
   ·refine ev1 @b4 ?_;rw [show uw c=false from JB hil (by unfold KD;rw [hp,b5];simp)]
   refine ev1 @b4 ?_;refine jl cdy ?_
   cases b6:p.dy.ok
   ·refine ev1 @b4 ?_;rw [show uw c=false from JB hil (by unfold KD;rw [hp,b6];simp)]
   refine ev1 @b4 ?_;refine jl aiO ?_;refine ev ?_;refine⟨i+1,by omega,⟨by omega,fun j hj'=>?_⟩,by exact aiN⟩;by_cases e:j=i
   ·subst e;unfold KD;rw [hp,b1,b5,b6,q4,q2,q3];rfl
   exact hj j (by omega)
  have h0':(0:Int)<(i:Nat):=by omega
  have e1:((i:Int)-1).toNat=i-1:=by omega
  by_cases b3:p.node≤q.node
  ·refine ev6 @b2 @h0' @mg @e1 @hq @b3 ?_;rw [show uw c=false from JB hil (by unfold KD;rw [hp,hq,decide_eq_false h0,decide_eq_false (show ¬q.node<p.node by omega)];simp)]
  have q3:(decide (i=0)||decide ((c.ps.getD (i-1) default).node<p.node))=true:=by rw [hq,decide_eq_false h0,decide_eq_true (show q.node<p.node by omega)];rfl
  refine ev6 @b2 @h0' @mg @e1 @hq @b3 ?_;refine jl csh ?_;by_cases b4:AB p.share.q≤0
  ·refine ev1 @b4 ?_;rw [show uw c=false from JB hil (by unfold KD;rw [hp,decide_eq_false (show ¬0<yJ p.share by unfold yJ;omega)];simp)]
  have q4:decide (0<yJ p.share)=true:=decide_eq_true (by unfold yJ;omega);have aiO:=Ak h.kE (r:=JA c.ps i) (s:=p.share) (PG _ _) (tV (PE (of_decide_eq_true q4)));rw [es]at aiO;refine ev1 @b4 ?_;refine jl cdx ?_
  cases b5:p.dx.ok
  ·refine ev1 @b4 ?_;rw [show uw c=false from JB hil (by unfold KD;rw [hp,b5];simp)]
  refine ev1 @b4 ?_;refine jl cdy ?_
  cases b6:p.dy.ok
  ·refine ev1 @b4 ?_;rw [show uw c=false from JB hil (by unfold KD;rw [hp,b6];simp)]
  refine ev1 @b4 ?_;refine jl aiO ?_;refine ev ?_;refine⟨i+1,by omega,⟨by omega,fun j hj'=>?_⟩,by exact aiN⟩;by_cases e:j=i
  ·subst e;unfold KD;rw [hp,b1,b5,b6,q4,q2,q3];rfl
  exact hj j (by omega)
 have ei:i=c.ps.length:=by omega
 subst ei;rw [aiF fun j hj'=>hj j hj',e1,e2,e3];refine ev ?_;refine jl c1 ?_;refine ev ?_;refine jl ceq ?_
 (refine ev ?_;try with_reducible exact True.intro)
def Xw(l:List Cd)(i:Nat):Prop :=
 uw (l.getD i default)=true∧(∀k,k<(l.getD i default).ps.length→((l.getD i default).ps.getD k default).node=0∨∃j,i<j∧j<l.length∧(l.getD j default).node=((l.getD i default).ps.getD k default).node) ∧
  ∀j,i<j→j<l.length→(l.getD j default).node≠(l.getD i default).node
theorem Xx{l:List Cd}{i:Nat}{c:Cd}(h:l.getD i default=c):Xw l i↔(uw c=true ∧
  (∀k,k<c.ps.length→(c.ps.getD k default).node=0∨∃j,i<j∧j<l.length∧(l.getD j default).node=(c.ps.getD k default).node) ∧
  ∀j,i<j→j<l.length→(l.getD j default).node≠c.node):=by subst h;rfl
noncomputable instance (l:List Cd):Decidable (∀i,i<l.length→Xw l i):=Classical.propDecidable _
noncomputable def Hq(l:List Cd):Bool:=decide (∀i,i<l.length→Xw l i)
theorem YE{l:List Cd}{i:Nat}(hi:i<l.length)(h:¬Xw l i):Hq l=false:=decide_eq_false fun k=>h (k i hi)
theorem aeh{l:List Cd}(h:∀i,i<l.length→Xw l i):Hq l=true:=decide_eq_true h
def CY(l:List Cd)(k:Nat):List Int:=0::((l.drop k).map (·.node)).reverse
theorem aiP(l:List Cd):CY l l.length=[0]:=by simp [CY]
theorem aiQ(l:List Cd){k:Nat}(h:k<l.length):CY l (k+1)++[(l.getD k default).node]=CY l k:=by
 unfold CY;rw [bH h,aj,au h];simp only [bU,List.reverse_cons,bK,Option.getD]
theorem acJ(l:List Cd)(k:Nat)(a:Int):a∈CY l k↔a=0∨∃j,k≤j∧j<l.length∧(l.getD j default).node=a:=by
 unfold CY;rw [aH,List.mem_reverse,bG];constructor
 ·rintro(h|⟨c,hc,rfl⟩)
  ·exact .inl h
  right;obtain⟨n,hn⟩:=bD.1 hc;rw [dF]at hn;have hlt:=(aN.1 hn).1;exact⟨k+n,by omega,hlt,by rw [aj,hn];rfl⟩
 rintro(h|⟨j,h1,h2,rfl⟩)
 ·exact .inl h
 refine .inr ⟨l.getD j default,?_,rfl⟩;refine bD.2 ⟨j-k,?_⟩;rw [dF,show k+(j-k)=j by omega,aj,au h2];rfl
theorem acK(l:List Cd){k:Nat}(_:k≤l.length):(CY l k).length=l.length-k+1:=by simp [CY]
theorem af8{c:Cd}(h:uw c=true):1≤c.node∧c.node≤9:=by
 unfold uw inB at h;simp only [aG,decide_eq_true_eq]at h;exact h.1.1.1.2
def Ed:Fn:=⟨2,17,[.tmp 4],(sr [oN 4 mF] (.seq (sr [oW 7 0,oN 8 (ln 7),oN 9 (.oO (cI 0))] (.block 0 (.loop (sr [oN 10 (bt .lss 9 8)] (.seq (cd 10 .skip (.exit 0)) (.seq (.block 1 (sr [oN 11 (ix 1 7 9),oN 12 (lF 1 11),oW 6 12] (sr [oW 13 6,oW 14 1,oN 15 (bt .eql 13 14)] (cd 15 (sr [oN 4 mT] .ret) .skip)))) (rg [oN 16 (bc .add 9 1),oW 9 16]))))))) (sr [oN 4 mF] .ret)))⟩
structure zh (T:Tb):Prop where
 hT:T 236=some Ed
def FP:Fn:=⟨1,54,[.tmp 2],(sr [oN 2 mF] (.seq (rf 1 [oN 7 (.oI 1 I9 1 [(0,(cI 0))]),oK 3 1 (oV 7)]) (.seq (sr [oW 8 0,oN 9 (ln 8),oN 10 (bc .sub 9 1),oW 4 10] (.block 0 (.loop (.seq (sr [oW 11 4,oN 12 (bc .geq 11 0)] (cd 12 .skip (.exit 0))) (.seq (.block 1 (.seq (sr [oW 15 0,oW 16 4,oN 17 (ix 5 15 16),oN 18 (lT 5 17),oN 19 (cl 185 [18]),oN 20 (nt 19),oW 21 20,oG 21 false 22 (oV 3),oG 21 false 23 (oV 0),oG 21 false 24 (oV 4),oG 21 false 25 (ix 5 23 24),oG 21 false 26 (fd 0 25),oG 21 false 27 (lF 1 26),oG 21 false 28 (cl 236 [22,27]),oN 29 (.pick (.t 21) (.c (.bool true)) (.t 28))] (cd 29 (sr [oN 2 mF] .ret) .skip)) (.seq (sr [oW 30 0,oW 31 4,oN 32 (ix 5 30 31),oN 33 (fd 4 32),oN 34 (lF 1 33),oN 35 (ln 34),oN 36 (.oO (cI 0))] (.block 2 (.loop (sr [oN 37 (bt .lss 36 35)] (.seq (cd 37 .skip (.exit 2)) (.seq (.block 3 (.seq (rf 1 [oK 38 1 (ix 10 34 36),oK 39 1 (lT 10 38),oN 6 (.alloc zz5),⟨none,none,1,.store 10 (.t 6) (.t 39),[]⟩]) (sr [oW 40 3,oN 41 (fd 0 6),oN 42 (lF 1 41),oN 43 (cl 236 [40,42]),oN 44 (nt 43)] (cd 44 (sr [oN 2 mF] .ret) .skip)))) (rg [oN 45 (bc .add 36 1),oW 36 45]))))))) (rf 2 [oK 46 2 (oV 3),oK 47 2 (oV 0),oK 48 2 (oV 4),oK 49 2 (ix 5 47 48),oK 50 2 (fd 0 49),oK 51 2 (lF 1 50),oN 52 (.oI 1 I9 1 [(0,(.t 51))]),oK 53 1 (.app 1 8 (.t 46) (.t 52)),oK 3 2 (oV 53)])))) (rg [oW 13 4,oN 14 (bc .sub 13 1),oW 4 14])))))) (sr [oN 2 mT] .ret))))⟩
structure JD (T:Tb):Prop where
 hT:T 273=some FP
 mQ:oD T
 uy:zh T
theorem LD{T:Tb}(h:zh T){l:List Int}{n:Int}(hl:l.length≤9223372036854775807:=by exact qW):PF T 236 [ints l,iv n] (.bool (decide (n∈l))):=by
 refine kR nR h.hT ?_;simp only [Ed,Lz];refine ev ?_;refine jX (fun _ _=>false) (α:=Nat) (fun i=>⟨lS [ints l,iv n,.any,.any,.bool false,.any,.any,ints l,iv (l.length:Nat),iv (i:Nat)],[],0,0,[],[]⟩) (fun i=>i≤l.length∧∀j,j<i→l.getD j 0≠n) (fun i=>l.length-i) rfl 0 ?_ ?_ ?_
 ·exact⟨by omega,by intro j hj;omega⟩
 ·exact Oa
 rintro i ⟨hi,hj⟩;refine ev ?_;refine jW (fun hc=>?_) fun hc=>?_<;>(refine ev1 @hc ?_;try with_reducible exact True.intro)
 ·have hil:i<l.length:=by omega
  by_cases he:l.getD i 0=n
  ·refine ev1 @he ?_;have:n∈l:=by rw [←he,aj,au hil];exact fD hil
   rw [decide_eq_true this]
  refine ev1 @he ?_;refine⟨i+1,by omega,⟨by omega,fun j hj'=>?_⟩,by exact Oa⟩;by_cases e:j=i
  ·subst e;exact he
  exact hj j (by omega)
 have:n∉l:=by
  intro hm;obtain⟨j,hj'⟩:=bD.1 hm;have hlt:=(aN.1 hj').1;refine hj j (by omega) ?_;rw [aj,hj'];rfl
 rw [decide_eq_false this]
theorem aiR{T:Tb}(h:JD T){l:List Cd}(hw:IQ Cd.wf l:=by exact qW)(hl:l.length≤1048576:=by exact qW):PF T 273 [O8 l] (.bool (Hq l)):=by
 refine kR nR h.hT ?_;simp only [FP,Lz];refine ev ?_;refine jX (fun _ _=>false) (α:=Nat) (fun k=>⟨lS [O8 l,.any,.bool false,.kQ 0 0 (CY l k).length,iv ((k:Nat)-1)],[some ⟨1,jR (CY l k)⟩],0,0,[],[]⟩) (fun k=>k≤l.length∧∀i,k≤i→i<l.length→Xw l i) (fun k=>k) rfl l.length ?_ ?_ ?_
 ·exact⟨by omega,by intro i h1 h2;omega⟩
 ·rw [aiP]
  (refine jS ?_;exact EJ)
 rintro k ⟨hk,hj⟩;have hnl:=acK l hk;refine ev ?_;refine jW (fun hc=>?_) fun hc=>?_<;>(refine ev1 @hc ?_;try with_reducible exact True.intro)
 ·obtain⟨m,rfl⟩:∃m,k=m+1:=⟨k-1,by omega⟩;have e0:((m+1:Nat):Int)-1=(m:Nat):=by omega
  have hil:m<l.length:=by omega
  have es:=aiQ l hil;have hmem:=acJ l (m+1);have hwc:=hw.at_ hil;obtain⟨c,hcd⟩:∃c,l.getD m default=c:=⟨_,rfl⟩;have hat:=Xx hcd;rw [hcd]at hwc es;obtain⟨nl,hnd⟩:∃nl,CY l (m+1)=nl:=⟨_,rfl⟩;rw [hnd]at hnl es hmem ⊢;have hps:=hwc.2.1;have cv:=tu h.mQ hwc;have ch:=LD h.uy (l:=nl) (n:=c.node) (by omega);refine Gp @e0 @mg @hcd ?_;refine jl cv ?_
  cases hv:uw c
  ·refine ev ?_;rw [YE hil (by rw [hat,hv];simp)]
  refine Gp @e0 @mg @hcd ?_;refine jl ch ?_;by_cases hm:c.node∈nl
  ·rw [decide_eq_true hm];refine ev ?_;have hb:=af8 hv;rw [YE hil (by
    rw [hat];rintro⟨_,_,h3⟩;rcases(hmem c.node).1 hm with h|⟨j,h1,h2,h4⟩
    ·omega
    exact h3 j (by omega) h2 h4)]
  rw [decide_eq_false hm];refine Gp @e0 @mg @hcd ?_;refine jX (fun _ _=>false) (α:=Nat) (fun q=>⟨lS [O8 l,.any,.bool false,.kQ 0 0 nl.length,iv (m:Nat),.any,.any,.any,.any,.any,.any,.any,.any,.any,.any,.any,.any,.any,.any,.any,.any,.any,.any,.any,.any,.any,.any,.any,.any,.any,.any,.any,.any,.any,Nj c.ps,iv (c.ps.length:Nat),iv (q:Nat)],[some ⟨1,jR nl⟩],0,0,[],[]⟩) (fun q=>q≤c.ps.length∧∀r,r<q→(c.ps.getD r default).node∈nl) (fun q=>c.ps.length-q) rfl 0 ?_ ?_ ?_
  ·exact⟨by omega,by intro j hj;omega⟩
  ·(refine jS ?_;exact EJ)
  rintro q ⟨hq,hr⟩;refine ev ?_;refine jW (fun hd=>?_) fun hd=>?_<;>(refine vM @hd @mg ?_;try with_reducible exact True.intro)
  ·have hql:q<c.ps.length:=by omega
   have ch:=LD h.uy (l:=nl) (n:=(c.ps.getD q default).node) (by omega);refine jl ch ?_;by_cases hm2:(c.ps.getD q default).node∈nl
   ·rw [decide_eq_true hm2];refine ev ?_;refine⟨q+1,by omega,⟨by omega,fun r hr'=>?_⟩,by exact V6⟩;by_cases e:r=q
    ·subst e;exact hm2
    exact hr r (by omega)
   rw [decide_eq_false hm2];refine ev ?_;rw [YE hil (by
    rw [hat];rintro⟨_,h3,_⟩;refine hm2 ((hmem _).2 ?_);rcases h3 q hql with h|⟨j,h1,h2,h4⟩
    ·exact .inl h
    exact .inr ⟨j,by omega,h2,h4⟩)]
  refine Gp @e0 @mg @hcd ?_;simp only [sO,es];refine⟨by omega,m,by omega,⟨by omega,fun i h1 h2=>?_⟩,?_⟩
  ·by_cases e:i=m
   ·subst e;rw [hat];refine⟨hv,fun k hk=>?_,fun j h1 h2 h3=>hm ((hmem _).2 (.inr ⟨j,by omega,h2,h3⟩))⟩;rcases(hmem _).1 (hr k (by omega))with h|⟨j,h1,h2,h3⟩
    ·exact .inl h
    exact .inr ⟨j,by omega,h2,h3⟩
   exact hj i (by omega) h2
  have:(CY l m).length=nl.length+1:=by rw [←es];simp
  rw [this]
  (refine Fh [(2,_)] (by simp) (by intro p hp;simp only [aH,bP,or_false]at hp;rcases hp with rfl<;>refine⟨rfl,?_⟩<;>first|exact oz _|simp [l9,V.still]) rfl ?_)<;>(try (refine ev ?_;try with_reducible exact True.intro))<;>(repeat' (first|exact True.intro|omega|exact qM rfl (by simp)|refine⟨?_,?_⟩|exact of_eq_true (rJ _ _ _)|exact lK rfl (by simp;done)|exact lK rfl rfl|(refine lD rfl ?_ rfl;simp [jR];done)|(refine lD rfl ?_ rfl;simp [jR];omega)|(refine rM ?_ ?_;(focus ((refine ev ?_;try with_reducible exact True.intro);done));(intro q hq k s0 l0;simp;done))))
 have:Hq l=true:=aeh fun i hi=>hj i (by omega) hi;rw [this]
def xX:Fn:=⟨2,29,[.tmp 4],(sr [oN 4 mF] (.seq (sr [oW 8 0,oN 9 (cl 89 [8]),oN 10 (nt 9)] (cd 10 (sr [oN 4 mF] .ret) .skip)) (sr [oW 11 0,oN 12 (cl 180 [11]),oW 5 12] (.seq (sr [oW 13 5,oN 14 (ln 13),oN 15 (.oO (cI 0))] (.block 0 (.loop (sr [oN 16 (bt .lss 15 14)] (.seq (cd 16 .skip (.exit 0)) (.seq (.block 1 (sr [oN 17 (ix 1 13 15),oN 18 (lF 1 17),oW 7 18] (sr [oW 19 1,oW 20 7,oN 21 (cl 236 [19,20]),oN 22 (nt 21)] (cd 22 (sr [oN 4 mF] .ret) .skip)))) (rg [oN 23 (bc .add 15 1),oW 15 23]))))))) (sr [oW 24 1,oN 25 (ln 24),oW 26 5,oN 27 (ln 26),oN 28 (bt .eql 25 27),oW 4 28] .ret)))))⟩
structure Gw (T:Tb):Prop where
 hT:T 221=some xX
 CZ:yA T
 Gx:Bv T
 uy:zh T
theorem qJ{l:Lk}(h:nD l=true):0≤l.a∧l.a<l.b∧l.b≤9:=by
 unfold nD nd at h;simp only [aG,decide_eq_true_eq]at h;omega
theorem xY{l:List Lk}(h:kN l=true){k:Nat}(hk:k<l.length):nD (l.getD k default)=true:=by
 have:=aaG.1 h k hk;unfold PK at this;simp only [aG]at this;exact this.1
theorem aaI{l:List Lk}{v:Int}:ends l v=true↔∃k,k<l.length∧((l.getD k default).a=v∨(l.getD k default).b=v):=by
 constructor
 ·intro h;refine Classical.byContradiction fun k=>?_;rw [acI fun j hj=>⟨fun e=>k ⟨j,hj,.inl e⟩,fun e=>k ⟨j,hj,.inr e⟩⟩]at h
  cases h
 rintro⟨k,hk,h⟩;exact U3 hk h
theorem Oq(l:List Lk)(v:Nat)(a:Int):a∈zY l v↔1≤a∧a<v∧ends l a=true:=by
 unfold zY;rw [bG];constructor
 ·rintro⟨u,hu,rfl⟩;rw [dO,fP,aG,decide_eq_true_eq]at hu;exact⟨by omega,by omega,hu.2.2⟩
 rintro⟨h1,h2,h3⟩;refine⟨a.toNat,?_,by omega⟩;rw [dO,fP,aG,decide_eq_true_eq,show ((a.toNat:Nat):Int)=a by omega];exact⟨by omega,by omega,h3⟩
theorem acL(l:List Lk)(v:Nat):Asc (zY l v):=by
 unfold zY Asc;rw [fQ];refine List.Pairwise.imp ?_ (List.Pairwise.filter _ List.pairwise_lt_range);intro a b h;omega
def uz(l:List Lk):List Int:=if kN l=true then zY l 10 else []
theorem PS{l:List Lk}(h:kN l=true):uz l=zY l 10:=if_pos h
theorem JE(l:List Lk):(uz l).length≤10:=by
 unfold uz;split
 ·exact U2 l 10
 simp
theorem JF(l:List Lk):Asc (uz l):=by
 unfold uz;split
 ·exact acL l 10
 exact List.Pairwise.nil
theorem acM{l:List Lk}{a:Int}(h:a∈uz l):1≤a∧a≤9:=by
 unfold uz at h;split at h
 ·have:=(Oq l 10 a).1 h;omega
 cases h
def acN(l:List Lk)(o:List Int):Prop:=kN l=true∧o.length=(uz l).length∧∀x∈uz l,x∈o
instance (l:List Lk) (o:List Int):Decidable (acN l o):=inferInstanceAs (Decidable (_∧_∧_))
def ND(l:List Lk)(o:List Int):Bool:=decide (acN l o)
theorem acO{T:Tb}(h:Gw T){l:List Lk}{o:List Int}(hw:IQ Lk.wf l:=by exact qW)(ho:o.length≤1048576:=by exact qW):PF T 221 [oP l,ints o] (.bool (ND l o)):=by
 have ci:=PL h.CZ hw;have cn:=U4 h.Gx hw
 cases hb:kN l
 ·rw [hb]at ci;rw [show ND l o=false from decide_eq_false fun k=>by have:=k.1;rw [hb]at this;cases this];refine kR nR h.hT ?_;simp only [xX,Lz];refine ev ?_;refine jl ci ?_
  (refine ev ?_;try with_reducible exact True.intro)
 rw [hb]at ci;rw [←PS hb]at cn;have hnl:=JE l;refine kR nR h.hT ?_;simp only [xX,Lz];refine ev ?_;refine jl ci ?_;refine ev ?_;refine jl cn ?_;refine ev ?_;obtain⟨nd,hnd⟩:∃nd,uz l=nd:=⟨_,rfl⟩;have hord:acN l o↔o.length=nd.length∧∀x∈nd,x∈o:=by
  unfold acN;rw [hnd];exact⟨fun h=>h.2,fun h=>⟨hb,h⟩⟩
 unfold ND;rw [hnd]at hnl ⊢;refine jX (fun _ _=>false) (α:=Nat) (fun i=>⟨lS [.any,ints o,.any,.any,.bool false,ints nd,.any,.any,.any,.any,.any,.any,.any,ints nd,iv (nd.length:Nat),iv (i:Nat)],[],0,0,[],[]⟩) (fun i=>i≤nd.length∧∀j,j<i→nd.getD j 0∈o) (fun i=>nd.length-i) rfl 0 ?_ ?_ ?_
 ·exact⟨by omega,by intro j hj;omega⟩
 ·exact Oa
 rintro i ⟨hi,hj⟩;refine ev ?_;refine jW (fun hc=>?_) fun hc=>?_<;>(refine ev1 @hc ?_;try with_reducible exact True.intro)
 ·have hil:i<nd.length:=by omega
  have ch:=LD h.uy (l:=o) (n:=nd.getD i 0) (by omega);refine jl ch ?_;by_cases hm:nd.getD i 0∈o
  ·rw [decide_eq_true hm];refine ev ?_;refine⟨i+1,by omega,⟨by omega,fun j hj'=>?_⟩,by exact Oa⟩;by_cases e:j=i
   ·subst e;exact hm
   exact hj j (by omega)
  rw [decide_eq_false hm];refine ev ?_;rw [decide_eq_false];rw [hord];rintro⟨_,h2⟩;refine hm (h2 _ ?_);rw [aj,au hil];exact fD hil
 have hall:∀x∈nd,x∈o:=by
  intro x hx;obtain⟨j,hj'⟩:=bD.1 hx;have hlt:=(aN.1 hj').1;have:=hj j (by omega);rw [aj,hj']at this;exact this
 by_cases e:o.length=nd.length
 ·rw [decide_eq_true (hord.2 ⟨e,hall⟩)];simp [e]
 rw [decide_eq_false fun k=>e (hord.1 k).1];simp;omega
theorem aiS{l:List Lk}{o:List Int}:acN l o↔(kN l=true∧o.length=(uz l).length)∧(∀x∈o,x∈uz l)∧o.Nodup:=by
 have hn:=F5 (JF l);constructor
 ·rintro⟨h1,h2,h3⟩;have h4:=aaH hn h3 (by omega);exact⟨⟨h1,h2⟩,QY hn h3 (by omega),h4⟩
 rintro⟨⟨h1,h2⟩,h3,h4⟩;exact⟨h1,h2,QY h4 h3 (by omega)⟩
theorem uD{k l:Lk}:kM k l=true↔k.a<l.a∨(k.a=l.a∧k.b<l.b):=by simp [kM]
theorem FQ{k l m:Lk}(h:kM k l=true)(h2:kM l m=true):kM k m=true:=by
 rw [uD]at *;omega
theorem Xy{l:List Lk}(h:kN l=true){i:Nat}(hi:i+1<l.length):kM (l.getD i default) (l.getD (i+1) default)=true:=by
 have:=aaG.1 h (i+1) hi;unfold PK at this;simp only [aG,dB,decide_eq_true_eq]at this;rcases this.2 with h|h
 ·omega
 exact h
theorem aaJ{l:List Lk}(h:kN l=true):∀(j i:Nat),i<j→j<l.length→kM (l.getD i default) (l.getD j default)=true
 |0,i,hi,_=>by omega
 |
  j+1,i,hi,hj=>by
  have ha:=Xy h hj;by_cases e:i=j
  ·subst e;exact ha
  exact FQ (aaJ h j i (by omega) (by omega)) ha
theorem PU{α:Type} [Inhabited α] {l:List α} {i:Nat} (h:i<l.length):l.getD i default=l[i]:=by
 rw [aj,au h];rfl
theorem aaK{l:List Lk}(h:kN l=true):l.Pairwise fun k l=>kM k l=true∧0≤k.a∧k.a<k.b∧0≤l.a∧l.a<l.b:=by
 rw [fU];intro i j hi hj hij;have h1:=aaJ h j i hij hj;have h2:=qJ (xY h hi);have h3:=qJ (xY h hj);rw [PU hi,PU hj]at h1;rw [PU hi]at h2;rw [PU hj]at h3;exact⟨h1,h2.1,h2.2.1,h3.1,h3.2.1⟩
theorem pW{l:List Lk}(h:kN l=true){x:Lk}(hx:x∈l):nD x=true:=by
 obtain⟨i,hi⟩:=bD.1 hx;have hlt:=(aN.1 hi).1;have:=xY h hlt
 rwa [aj,hi]at this
def acP(v:Int)(x:Lk):Option Int:=if x.a=v then some x.b else if x.b=v then some x.a else none
def Ot(v:Int)(out:List Int)(x:Lk):List Int:=if x.b=v then QX (if x.a=v then QX out x.b else out) x.a else(if x.a=v then QX out x.b else out)
def nbS(l:List Lk)(v:Int)(i:Nat):List Int:=(l.take i).foldl (Ot v) []
def nbI(l:List Lk)(v:Int)(i:Nat):List Int:=(l.take i).filterMap (acP v)
theorem take_snoc{α:Type} [Inhabited α] {l:List α} {i:Nat} (h:i<l.length):l.take (i+1)=l.take i++[l.getD i default]:=by
 rw [iM,au h,aj,au h];rfl
theorem acQ{v:Int}{out:List Int}{x:Lk}{a:Int}:a∈Ot v out x↔a∈out∨(x.a=v∧a=x.b)∨(x.b=v∧a=x.a):=by
 unfold Ot;split<;>split<;>simp_all [U1]<;>(constructor<;>rintro(h|h)<;>simp_all)
theorem aei{v:Int}:∀(l:List Lk) (out:List Int) (a:Int),a∈l.foldl (Ot v) out↔a∈out∨∃x∈l,(x.a=v∧a=x.b)∨(x.b=v∧a=x.a)
 | [],out,a=>by simp
 |
  x::l,out,a=>by
  rw [fJ,aei l,acQ];simp only [aH,exists_eq_or_imp,or_assoc]
theorem acR{v:Int}{out:List Int}{x:Lk}(h:Asc out):Asc (Ot v out x):=by
 unfold Ot;split<;>split<;>first|exact PN (PN h)|exact PN h|exact h
theorem Tm{v:Int}:∀(l:List Lk) (out:List Int),Asc out→Asc (l.foldl (Ot v) out)
 | [],out,h=>h
 |x::l,out,h=>Tm l _ (acR h)
theorem aot{l:List Lk}(h:kN l=true)(v:Int):nbS l v l.length=nbI l v l.length:=by
 unfold nbS nbI;rw [bM];refine YD (Tm _ _ .nil) ?_ fun a=>?_
 ·refine List.Pairwise.filterMap _ ?_ (aaK h);rintro k m ⟨h1,h2,h3,h4,h5⟩ b hb b' hb';rw [uD]at h1;unfold acP at hb hb';split at hb<;>split at hb'<;>(try split at hb)<;>(try split at hb')<;>simp_all<;>omega
 rw [aei,List.mem_filterMap];simp only [bP,false_or];constructor
 ·rintro⟨x,hx,h1⟩;refine⟨x,hx,?_⟩;have:=qJ (pW h hx);unfold acP;rcases h1 with ⟨h1,rfl⟩|⟨h1,rfl⟩
  ·rw [if_pos h1]
  rw [if_neg (by omega),if_pos h1]
 rintro⟨x,hx,h1⟩;refine⟨x,hx,?_⟩;unfold acP at h1;split at h1
 ·simp_all
 split at h1<;>simp_all
def wz:Fn:=⟨2,31,[.tmp 4],(sr [oN 4 mN] (.seq (rf 1 [oN 8 (.oI 11 J7 0 []),oK 5 1 (oV 8)]) (.seq (sr [oW 9 0,oN 10 (ln 9),oN 11 (.oO (cI 0))] (.block 0 (.loop (sr [oN 12 (bt .lss 11 10)] (.seq (cd 12 .skip (.exit 0)) (.seq (.block 1 (.seq (rf 1 [oK 13 1 (ix 11 9 11),oK 14 1 (lT 11 13),oN 7 (.alloc J7),⟨none,none,1,.store 11 (.t 7) (.t 14),[]⟩]) (sr [oN 15 (fd 0 7),oN 16 (lF 1 15),oW 17 1,oN 18 (bt .neq 16 17),oW 19 18,oG 19 true 20 (fd 1 7),oG 19 true 21 (lF 1 20),oG 19 true 22 (oV 1),oG 19 true 23 (bt .neq 21 22),oN 24 (.pick (.t 19) (.t 23) (.c (.bool false)))] (cd 24 (rf 2 [oK 25 2 (oV 5),oK 26 2 (lT 11 7),oN 27 (.oI 11 J7 1 [(0,(.t 26))]),oK 28 1 (.app 11 184 (.t 25) (.t 27)),oK 5 2 (oV 28)]) .skip)))) (rg [oN 29 (bc .add 11 1),oW 11 29]))))))) (sr [oW 30 5,oW 4 30] .ret))))⟩
structure zZ (T:Tb):Prop where
 hT:T 241=some wz
def Tq(v:Int)(x:Lk):Bool:=decide (x.a≠v)&&decide (x.b≠v)
def wo(l:List Lk)(v:Int)(i:Nat):List Lk:=(l.take i).filter (Tq v)
theorem azG(l:List Lk)(v:Int):wo l v 0=[]:=by simp [wo]
theorem aqJ(l:List Lk)(v:Int):wo l v l.length=l.filter (Tq v):=by simp [wo]
theorem azH(l:List Lk)(v:Int){i:Nat}(h:i<l.length):wo l v (i+1)=wo l v i++(if Tq v (l.getD i default)=true then [l.getD i default]else []):=by
 unfold wo;rw [take_snoc h,List.filter_append,List.filter_cons];split<;>simp
theorem aqK(l:List Lk)(v:Int)(i:Nat):(wo l v i).length≤i:=by
 unfold wo;exact bV (jD _ _) (by simp;omega)
abbrev Lk0:Lk:=⟨0,0,R0,R0,R0⟩
theorem Ou:lU (V4 Lk0) (.agg [iv 0,iv 0,.bool false,.jF,.jF,.bool false,.jF,.jF,.bool false,.jF,.jF]):=by
 show lU (.agg [iv 0,iv 0,.bool false,.sl 1 [],.sl 1 [],.bool false,.sl 1 [],.sl 1 [],.bool false,.sl 1 [],.sl 1 []]) _;simp only [Pg,Uy,Ux,MI,ah8,oC,and_true]
theorem IY{v w:V}{b:Bool}(h:lU v w):lU (.nJ [v,.bool b]) (.nJ [w,.bool b]):=by
 simp only [lU,uJ];exact⟨_,rfl,_,_,rfl,h,_,_,rfl,rfl,rfl⟩
def lkP(a b:Int)(x:Lk):Bool:=(decide (x.a=a)&&decide (x.b=b))||(decide (x.a=b)&&decide (x.b=a))
def am1(l:List Lk)(a b:Int):Option Lk:=l.find? (lkP a b)
theorem aiT{l:List Lk}{a b:Int}{x:Lk}(h:am1 l a b=some x):x∈l:=List.mem_of_find?_eq_some h
def xC:Fn:=⟨2,91,[.cell 4 11 true,.cell 5 3 true,.tmp 6],(.seq (rf 4 [oN 2 (.box (.t 0)),oK 3 1 (.box (.t 1)),oK 4 2 (.alloc J7),oK 5 3 (.alloc vN),oK 6 4 mF]) (.seq (rt 2 [oK 12 2 (fd 2 2),oA 13 2 (lT 3 12) [0],oK 14 2 (fd 2 3),oA 15 2 (lT 3 14) [2],oN 7 (.alloc vN),oK 8 1 (.alloc vN),⟨none,none,2,.store 3 (.t 7) (.t 13),[4,1,0,1,4,5]⟩,⟨none,none,2,.store 3 (.t 8) (.t 15),[5,3,6,0,1,2,3,4,5,6]⟩]) (.seq (rf 1 [oK 16 1 (lT 3 7),oK 17 1 (lT 3 8),oK 18 1 (cl 131 [16,17]),oN 9 (.alloc vN),⟨none,none,1,.store 3 (.t 9) (.t 18),[]⟩]) (.seq (rf 1 [oK 19 1 (fd 0 2),oK 20 1 (lF 1 19),oK 21 1 (fd 1 2),oK 22 1 (lF 1 21),oK 23 1 (lT 3 9),oK 24 1 (.build J7 [(0,1,(.t 20)),(1,1,(.t 22)),(2,3,(.t 23))]),oN 10 (.alloc J7),⟨none,none,1,.store 11 (.t 10) (.t 24),[]⟩]) (.seq (rt 0 [oN 25 (lT 3 7),oN 26 (fd 5 2),oA 27 0 (lT 3 26) [1],oA 28 0 (cl 157 [25,27]) [0,2],oN 29 (lT 3 8),oN 30 (fd 5 3),oA 31 0 (lT 3 30) [5],oA 32 0 (cl 157 [29,31]) [4,6,3],oA 33 0 (cl 131 [28,32]) [3,7,7],oN 34 (lT 3 9),oA 35 0 (cl 156 [33,34]) [8,9,8],oA 36 0 (fd 5 10) [0,1,2,3,4,5,6,7,8,9,10],⟨none,none,0,.store 3 (.t 36) (.t 35),[11,10,10,0,1,2,3,4,5,6,7,8,9,10]⟩]) (.seq (rt 0 [oN 37 (lT 3 7),oN 38 (fd 8 2),oA 39 0 (lT 3 38) [1],oA 40 0 (cl 157 [37,39]) [0,2],oN 41 (lT 3 8),oN 42 (fd 8 3),oA 43 0 (lT 3 42) [5],oA 44 0 (cl 157 [41,43]) [4,6,3],oA 45 0 (cl 131 [40,44]) [3,7,7],oN 46 (lT 3 9),oA 47 0 (cl 156 [45,46]) [8,9,8],oA 48 0 (fd 8 10) [0,1,2,3,4,5,6,7,8,9,10],⟨none,none,0,.store 3 (.t 48) (.t 47),[11,10,10,0,1,2,3,4,5,6,7,8,9,10]⟩]) (.seq (rt 1 [oK 49 1 (lT 3 7),oK 50 1 (lT 3 8),oA 51 1 (cl 157 [49,50]) [0,1],oK 52 1 (lT 3 9),oA 53 1 (cl 156 [51,52]) [2,3,2],oK 54 1 (fd 5 2),oA 55 1 (lT 3 54) [5],oK 56 1 (fd 5 3),oA 57 1 (lT 3 56) [7],oA 58 1 (cl 159 [55,57]) [6,8,4],oK 59 1 (fd 8 2),oA 60 1 (lT 3 59) [10],oK 61 1 (fd 8 3),oA 62 1 (lT 3 61) [12],oA 63 1 (cl 159 [60,62]) [11,13,9],oA 64 1 (cl 158 [58,63]) [9,14,14],oA 65 1 (cl 157 [53,64]) [4,15,15],oN 11 (.alloc vN),⟨none,none,1,.store 3 (.t 11) (.t 65),[17,16,16,0,1,2,3,4,5,6,7,8,9,10,11,12,13,14,15,16,17]⟩]) (.seq (sr [oN 66 (fd 2 10),oN 67 (lT 3 66),oN 68 (cl 132 [67]),oN 69 (nt 68),oW 70 69,oG 70 false 71 (fd 5 10),oG 70 false 72 (lT 3 71),oG 70 false 73 (cl 132 [72]),oG 70 false 74 (nt 73),oN 75 (.pick (.t 70) (.c (.bool true)) (.t 74)),oW 76 75,oG 76 false 77 (fd 8 10),oG 76 false 78 (lT 3 77),oG 76 false 79 (cl 132 [78]),oG 76 false 80 (nt 79),oN 81 (.pick (.t 76) (.c (.bool true)) (.t 80)),oW 82 81,oG 82 false 83 (lT 3 11),oG 82 false 84 (cl 132 [83]),oG 82 false 85 (nt 84),oN 86 (.pick (.t 82) (.c (.bool true)) (.t 85))] (cd 86 (sr [oN 87 (.build J7 []),oN 88 (.build vN []),oS (.store 11 (.t 4) (.t 87)),oS (.store 3 (.t 5) (.t 88)),oN 6 mF] .ret) .skip)) (.seq (rt 0 [oN 89 (lT 11 10),oN 90 (lT 3 11),⟨none,none,0,.store 11 (.t 4) (.t 89),[0,0]⟩,⟨none,none,0,.store 3 (.t 5) (.t 90),[1,2,0,1,2]⟩,oA 6 0 mT [3,0,1,2,3]]) .ret)))))))))⟩
structure Bz (T:Tb):Prop where
 hT:T 140=some xC
 kE:lN T
 jQ:l7 T
 wY:um T
 lQ:pF T
 yK:uO T
 pG:wR T
theorem aiU{v w x y:V}{b:Bool}(h:lU v w)(h2:lU x y):lU (.nJ [v,x,.bool b]) (.nJ [w,y,.bool b]):=by
 simp only [lU,uJ];exact⟨_,rfl,_,_,rfl,h,_,_,rfl,h2,_,_,rfl,rfl,rfl⟩
def qj(k l:Lk):R:=mG k.w l.w
def F6(k l:Lk):R:=xR (mG (mulR k.w k.dx) (mulR l.w l.dx)) (qj k l)
def KH(k l:Lk):R:=xR (mG (mulR k.w k.dy) (mulR l.w l.dy)) (qj k l)
def PV(k l:Lk):R:=mulR (xR (mulR k.w l.w) (qj k l)) (sqR (vI k.dx l.dx) (vI k.dy l.dy))
theorem U5(k l:Lk):(qj k l).cn:=uM _ _
theorem aiV(k l:Lk):(F6 k l).cn:=Ju _ _
theorem aiW(k l:Lk):(KH k l).cn:=Ju _ _
theorem aiX(k l:Lk):(PV k l).cn:=Px _ _
def RY(k l:Lk):Lk:=⟨k.a,k.b,qj k l,F6 k l,KH k l⟩
def QZ(k l:Lk):Bool:=(qj k l).ok&&(F6 k l).ok&&(KH k l).ok&&(PV k l).ok
def mgP(k l:Lk):Bool:=nD k&&nD l&&decide (k.a=l.a)&&decide (k.b=l.b)
theorem aiY{r s:R}(hr:0<yJ r)(hs:0<yJ s)(ho:(mG r s).ok=true):0<yJ (mG r s):=by
 unfold yJ at *;rw [uq]at ho;rw [Ig]at ho ⊢
 cases h1:r.q with
 |none=>rw [h1]at hr;simp [AB]at hr
 |
  some a =>
  cases h2:s.q with
  |none=>rw [h2]at hs;simp [AB]at hs
  |
   some b =>
   simp only [h1,h2]at ho hr hs ⊢;simp only [N8]at ho ⊢;have hf:fits (a+b)=true:=by
    cases hf:fits (a+b)with
    |true=>rfl
    |false=>rw [Xi hf]at ho;exact absurd rfl ho
   rw [tH hf];simp only [AB]at hr hs ⊢;have pos:∀q:Rat,0<sgn q.num↔0<q:=by
    intro q;rw [Rat.lt_iff,show (0:Rat).num=0 from rfl,show (0:Rat).den=1 from rfl,Int.zero_mul,Int.natCast_one,Int.mul_one];unfold sgn;split
    ·constructor<;>intro h<;>omega
    split
    ·constructor<;>intro h<;>omega
    constructor<;>intro h<;>omega
   rw [pos]at hr hs ⊢;have h3:a+0<a+b:=Rat.add_lt_add_left.2 hs;rw [Rat.add_zero]at h3;exact Std.lt_trans hr h3
theorem aiZ{k l:Lk}(h:mgP k l=true):nD (RY k l)=((qj k l).ok&&(F6 k l).ok&&(KH k l).ok):=by
 unfold mgP at h;simp only [aG,decide_eq_true_eq]at h;obtain⟨⟨⟨h1,h2⟩,_⟩,_⟩:=h;have p1:=(zM h1).2.2.2;have p2:=(zM h2).2.2.2;have h1':=h1;unfold nD at h1';simp only [aG]at h1';unfold nD RY;rw [h1'.1.1.1.1.1,h1'.1.1.1.1.2,h1'.1.1.1.2]
 cases hw:(qj k l).ok with
 |
  false =>
  have:¬0<AB (qj k l).q:=by rw [DZ.1 hw];simp [AB]
  simp [this]
 |
  true =>
  have:0<AB (qj k l).q:=aiY p1 p2 hw;simp [this]
theorem aqM{σ:Store}{c9 d3 e3 t9 u3 v3:List V}{os:List Nat}{n m:Int}{b:Bool}(h:mJ σ (c9++(d3++e3)) (t9++(u3++v3)) os)(hl:c9.length=t9.length)(hl2:d3.length=u3.length)(hn:os.Nodup) :
  Fin σ (.nJ [.agg (.int .i64 n::.int .i64 m::c9),.agg e3,.bool b]) (.nJ [.agg (.int .i64 n::.int .i64 m::t9),.agg v3,.bool b]):=by
 obtain⟨a1,a2,o1,o2,e,rfl,h1,h2⟩:=oq h;obtain⟨rfl,rfl⟩:=eu e (by rw [hl];exact h1.len.symm);obtain⟨a3,a4,o3,o4,e,rfl,h3,h4⟩:=oq h2;obtain⟨rfl,rfl⟩:=eu e (by rw [hl2];exact h3.len.symm);refine vU (os:=o1++o4) (Ea (nP (nY (Hl (Hl h1))) ?_)) ?_
 ·have:=nP (nY h4) (nI (b:=b) (σ:=σ) nC)
  rwa [aP]at this
 refine hn.sublist ?_;exact List.Sublist.append (List.Sublist.refl _) (List.sublist_append_right _ _)
theorem Got.aej{σ σ2:Store}{r:V}{x:Lk}{y:R}{b:Bool}{os:List Nat}(g:Got σ σ2 r (.nJ [V4 x,kC y,.bool b]) os):∃c3 c4 c6 c7 c9 c10 e1 e2,r=.nJ [.agg [iv x.a,iv x.b,.bool x.w.neg,c3,c4,.bool x.dx.neg,c6,c7,.bool x.dy.neg,c9,c10],.agg [.bool y.neg,e1,e2],.bool b] ∧
  mJ σ2 [iv x.a,iv x.b,.bool x.w.neg,c3,c4,.bool x.dx.neg,c6,c7,.bool x.dy.neg,c9,c10,.bool y.neg,e1,e2] (x.cells++y.cells) os:=by
 obtain⟨v,w,rfl,g2⟩:=g.azA;obtain⟨cs,e,h⟩:=g2.ow.kP
 cases e
 obtain⟨v1,vs,o1,o2,e1,rfl,h1,h2⟩:=h.inv
 cases e1
 obtain⟨w1,vs2,o3,o4,e1,rfl,h3,h4⟩:=h2.inv
 cases e1
 obtain⟨_,rfl⟩:=h4.Ec;obtain⟨c,rfl,h5⟩:=h1.kP;obtain⟨e,rfl,h6⟩:=h3.kP;obtain⟨c3,c4,c6,c7,c9,c10,rfl⟩:=h5.lk;obtain⟨e1,e2,rfl⟩:=h6.rat
 refine⟨c3,c4,c6,c7,c9,c10,e1,e2,rfl,?_⟩;rw [aP];exact lH h5 h6
theorem Tt{σ:Store}:Fin σ (.nJ [.agg [iv 0,iv 0,.bool false,.jF,.jF,.bool false,.jF,.jF,.bool false,.jF,.jF],.agg [.bool false,.jF,.jF],.bool false]) (.nJ [V4 Lk0,kC R0,.bool false]) :=
 ⟨.nJ [V4 Lk0,kC R0,.bool false],[],aiU Ou uX,Ea (nP (o1:=[]) (nY (Hl (Hl (nI (nP (o1:=[]) kX (nP (o1:=[]) kX (nI (nP (o1:=[]) kX (nP (o1:=[]) kX (nI (nP (o1:=[]) kX (nP (o1:=[]) kX nC))))))))))))
  (nP (o1:=[]) (nY (nI (nP (o1:=[]) kX (nP (o1:=[]) kX nC)))) (nI nC))),.nil⟩
theorem NG{T:Tb}(h:Bz T){k l:Lk}(hk:k.w.cn∧k.dx.cn∧k.dy.cn)(hl:l.w.cn∧l.dx.cn∧l.dy.cn):PO T 140 [V4 k,V4 l] (.nJ [V4 (if QZ k l=true then RY k l else Lk0),kC (if QZ k l=true then PV k l else R0),.bool (QZ k l)]):=by
 obtain⟨k1,k2,k3⟩:=hk;obtain⟨l1,l2,l3⟩:=hl;refine lI (fun x d=>(x == 131&&d == 18)||(x == 156&&d == 35)||(x == 156&&d == 47)||(x == 156&&d == 53)||(x == 157&&d == 65)) h.hT ?_;simp only [xC,Lz,St.enter,ak,aC,aQ];refine ew ?_;refine⟨by unfold vH;decide +kernel,?_⟩;refine ew ?_;refine og (show PO T 131 [kC k.w,kC l.w] (kC (qj k l))from zW h.kE k1 l1) (by (refine ew ?_;try with_reducible exact True.intro)) ?_;intro r q1 o1 G;have hO:=G.ow;have gn:=G.nd;have gf:=G.fresh;have go:=G.old;have gl:=G.len;clear G;obtain⟨_,rfl,Xz⟩:=hO.kP;obtain⟨x1,x2,rfl⟩:=Xz.rat
 have E:Ep [some ⟨11,[[iv k.a,iv k.b,.bool k.w.neg,ints k.w.mag,ints k.w.den,.bool k.dx.neg,ints k.dx.mag,ints k.dx.den,.bool k.dy.neg,ints k.dy.mag,ints k.dy.den]]⟩,some ⟨11,[[iv l.a,iv l.b,.bool l.w.neg,ints l.w.mag,ints l.w.den,.bool l.dx.neg,ints l.dx.mag,ints l.dx.den,.bool l.dy.neg,ints l.dy.mag,ints l.dy.den]]⟩,some ⟨11,[[iv 0,iv 0,.bool false,.jF,.jF,.bool false,.jF,.jF,.bool false,.jF,.jF]]⟩,some ⟨3,[[.bool false,.jF,.jF]]⟩,some ⟨3,[[.bool k.w.neg,ints k.w.mag,ints k.w.den]]⟩,some ⟨3,[[.bool l.w.neg,ints l.w.mag,ints l.w.den]]⟩] [] [] [] [(0,⟨11,[[iv k.a,iv k.b,.bool k.w.neg,ints k.w.mag,ints k.w.den,.bool k.dx.neg,ints k.dx.mag,ints k.dx.den,.bool k.dy.neg,ints k.dy.mag,ints k.dy.den]]⟩),(1,⟨11,[[iv l.a,iv l.b,.bool l.w.neg,ints l.w.mag,ints l.w.den,.bool l.dx.neg,ints l.dx.mag,ints l.dx.den,.bool l.dy.neg,ints l.dy.mag,ints l.dy.den]]⟩),(2,⟨11,[[iv 0,iv 0,.bool false,.jF,.jF,.bool false,.jF,.jF,.bool false,.jF,.jF]]⟩),(3,⟨3,[[.bool false,.jF,.jF]]⟩),(4,⟨3,[[.bool k.w.neg,ints k.w.mag,ints k.w.den]]⟩),(5,⟨3,[[.bool l.w.neg,ints l.w.mag,ints l.w.den]]⟩)]:=⟨Lm,by simp [iZ]⟩
 have E2:=E.got (s1:=[some ⟨11,[[iv k.a,iv k.b,.bool k.w.neg,ints k.w.mag,ints k.w.den,.bool k.dx.neg,ints k.dx.mag,ints k.dx.den,.bool k.dy.neg,ints k.dy.mag,ints k.dy.den]]⟩,some ⟨11,[[iv l.a,iv l.b,.bool l.w.neg,ints l.w.mag,ints l.w.den,.bool l.dx.neg,ints l.dx.mag,ints l.dx.den,.bool l.dy.neg,ints l.dy.mag,ints l.dy.den]]⟩,some ⟨11,[[iv 0,iv 0,.bool false,.jF,.jF,.bool false,.jF,.jF,.bool false,.jF,.jF]]⟩,some ⟨3,[[.bool false,.jF,.jF]]⟩,some ⟨3,[[.bool k.w.neg,ints k.w.mag,ints k.w.den]]⟩,some ⟨3,[[.bool l.w.neg,ints l.w.mag,ints l.w.den]]⟩]++[none]) (fun q hq=>by first|exact kY hq|(simp only [bT];exact kY hq)) (by simp) (Xz) (by simpa using gn) (by simpa using gf) (by simpa using go);have F0:=E.free (s1:=[some ⟨11,[[iv k.a,iv k.b,.bool k.w.neg,ints k.w.mag,ints k.w.den,.bool k.dx.neg,ints k.dx.mag,ints k.dx.den,.bool k.dy.neg,ints k.dy.mag,ints k.dy.den]]⟩,some ⟨11,[[iv l.a,iv l.b,.bool l.w.neg,ints l.w.mag,ints l.w.den,.bool l.dx.neg,ints l.dx.mag,ints l.dx.den,.bool l.dy.neg,ints l.dy.mag,ints l.dy.den]]⟩,some ⟨11,[[iv 0,iv 0,.bool false,.jF,.jF,.bool false,.jF,.jF,.bool false,.jF,.jF]]⟩,some ⟨3,[[.bool false,.jF,.jF]]⟩,some ⟨3,[[.bool k.w.neg,ints k.w.mag,ints k.w.den]]⟩,some ⟨3,[[.bool l.w.neg,ints l.w.mag,ints l.w.den]]⟩]++[none]) (p:=6) (by simpa using gf) (by simp) (by simp);have hq:7≤q1.length:=by simpa using gl
 clear E gn gf go gl;have E:Ep q1 [.bool (qj k l).neg,x1,x2] [.bool (qj k l).neg,ints (qj k l).mag,ints (qj k l).den] _ [(0,⟨11,[[iv k.a,iv k.b,.bool k.w.neg,ints k.w.mag,ints k.w.den,.bool k.dx.neg,ints k.dx.mag,ints k.dx.den,.bool k.dy.neg,ints k.dy.mag,ints k.dy.den]]⟩),(1,⟨11,[[iv l.a,iv l.b,.bool l.w.neg,ints l.w.mag,ints l.w.den,.bool l.dx.neg,ints l.dx.mag,ints l.dx.den,.bool l.dy.neg,ints l.dy.mag,ints l.dy.den]]⟩),(2,⟨11,[[iv 0,iv 0,.bool false,.jF,.jF,.bool false,.jF,.jF,.bool false,.jF,.jF]]⟩),(3,⟨3,[[.bool false,.jF,.jF]]⟩),(4,⟨3,[[.bool k.w.neg,ints k.w.mag,ints k.w.den]]⟩),(5,⟨3,[[.bool l.w.neg,ints l.w.mag,ints l.w.den]]⟩)]:=E2;clear E2
 replace E:=E.Ey (p:=6) (ob:=⟨3,[[.bool (qj k l).neg,x1,x2]]⟩) (L':=[(0,⟨11,[[iv k.a,iv k.b,.bool k.w.neg,ints k.w.mag,ints k.w.den,.bool k.dx.neg,ints k.dx.mag,ints k.dx.den,.bool k.dy.neg,ints k.dy.mag,ints k.dy.den]]⟩),(1,⟨11,[[iv l.a,iv l.b,.bool l.w.neg,ints l.w.mag,ints l.w.den,.bool l.dx.neg,ints l.dx.mag,ints l.dx.den,.bool l.dy.neg,ints l.dy.mag,ints l.dy.den]]⟩),(2,⟨11,[[iv 0,iv 0,.bool false,.jF,.jF,.bool false,.jF,.jF,.bool false,.jF,.jF]]⟩),(3,⟨3,[[.bool false,.jF,.jF]]⟩),(4,⟨3,[[.bool k.w.neg,ints k.w.mag,ints k.w.den]]⟩),(5,⟨3,[[.bool l.w.neg,ints l.w.mag,ints l.w.den]]⟩),(6,⟨3,[[.bool (qj k l).neg,x1,x2]]⟩)]) F0 (by omega) (by simp)
 have R:=ah (E.res1 1 rfl rfl (jG _ _)) (ah (fun x=>(E.snoc (x:=x)).res1 1 rfl rfl (jG _ _)) (ah (E.res1 2 rfl rfl (jG _ _)) (fun x=>(E.snoc (x:=x)).res1 2 rfl rfl (jG _ _))));have LF:=ah (E.leaf 1 rfl rfl) (E.leaf 2 rfl rfl);have LO:=ah (E.at0 (p:=0) (ob:=⟨11,[[iv k.a,iv k.b,.bool k.w.neg,ints k.w.mag,ints k.w.den,.bool k.dx.neg,ints k.dx.mag,ints k.dx.den,.bool k.dy.neg,ints k.dy.mag,ints k.dy.den]]⟩) (by simp)) (ah (E.at0 (p:=1) (ob:=⟨11,[[iv l.a,iv l.b,.bool l.w.neg,ints l.w.mag,ints l.w.den,.bool l.dx.neg,ints l.dx.mag,ints l.dx.den,.bool l.dy.neg,ints l.dy.mag,ints l.dy.den]]⟩) (by simp)) (ah (E.at0 (p:=2) (ob:=⟨11,[[iv 0,iv 0,.bool false,.jF,.jF,.bool false,.jF,.jF,.bool false,.jF,.jF]]⟩) (by simp)) (ah (E.at0 (p:=3) (ob:=⟨3,[[.bool false,.jF,.jF]]⟩) (by simp)) (ah (E.at0 (p:=4) (ob:=⟨3,[[.bool k.w.neg,ints k.w.mag,ints k.w.den]]⟩) (by simp)) (ah (E.at0 (p:=5) (ob:=⟨3,[[.bool l.w.neg,ints l.w.mag,ints l.w.den]]⟩) (by simp)) (E.at0 (p:=6) (ob:=⟨3,[[.bool (qj k l).neg,x1,x2]]⟩) (by simp)))))));refine CV @R @LF @LO @jO @kG @List.set_set.{0} ?_;obtain⟨s1,hs⟩:∃s,(q1.set 6 (some ⟨3,[[.bool (qj k l).neg,x1,x2]]⟩))=s:=⟨_,rfl⟩;have hls:q1.length=s1.length:=by rw [←hs];simp
 simp only [hs]at *;clear hs;simp only [hls]at *;clear hls R LF LO;have R:=ah (E.res1 1 rfl rfl (jG _ _)) (ah (fun x=>(E.snoc (x:=x)).res1 1 rfl rfl (jG _ _)) (ah (E.res1 2 rfl rfl (jG _ _)) (fun x=>(E.snoc (x:=x)).res1 2 rfl rfl (jG _ _))));have LF:=ah (E.leaf 1 rfl rfl) (E.leaf 2 rfl rfl);have LO:=ah (E.at0 (p:=0) (ob:=⟨11,[[iv k.a,iv k.b,.bool k.w.neg,ints k.w.mag,ints k.w.den,.bool k.dx.neg,ints k.dx.mag,ints k.dx.den,.bool k.dy.neg,ints k.dy.mag,ints k.dy.den]]⟩) (by simp)) (ah (E.at0 (p:=1) (ob:=⟨11,[[iv l.a,iv l.b,.bool l.w.neg,ints l.w.mag,ints l.w.den,.bool l.dx.neg,ints l.dx.mag,ints l.dx.den,.bool l.dy.neg,ints l.dy.mag,ints l.dy.den]]⟩) (by simp)) (ah (E.at0 (p:=2) (ob:=⟨11,[[iv 0,iv 0,.bool false,.jF,.jF,.bool false,.jF,.jF,.bool false,.jF,.jF]]⟩) (by simp)) (ah (E.at0 (p:=3) (ob:=⟨3,[[.bool false,.jF,.jF]]⟩) (by simp)) (ah (E.at0 (p:=4) (ob:=⟨3,[[.bool k.w.neg,ints k.w.mag,ints k.w.den]]⟩) (by simp)) (ah (E.at0 (p:=5) (ob:=⟨3,[[.bool l.w.neg,ints l.w.mag,ints l.w.den]]⟩) (by simp)) (E.at0 (p:=6) (ob:=⟨3,[[.bool (qj k l).neg,x1,x2]]⟩) (by simp)))))));refine CV @R @LF @LO @jO @kG @List.set_set.{0} ?_;have E2:=E.push (ob:=⟨11,[[.int .i64 k.a,.int .i64 k.b,.bool (qj k l).neg,x1,x2,.bool false,.jF,.jF,.bool false,.jF,.jF]]⟩);clear E
 have E:Ep ((s1++[none]).set s1.length (some ⟨11,[[.int .i64 k.a,.int .i64 k.b,.bool (qj k l).neg,x1,x2,.bool false,.jF,.jF,.bool false,.jF,.jF]]⟩)) [.bool (qj k l).neg,x1,x2] [.bool (qj k l).neg,ints (qj k l).mag,ints (qj k l).den] ([]++o1) [(0,⟨11,[[iv k.a,iv k.b,.bool k.w.neg,ints k.w.mag,ints k.w.den,.bool k.dx.neg,ints k.dx.mag,ints k.dx.den,.bool k.dy.neg,ints k.dy.mag,ints k.dy.den]]⟩),(1,⟨11,[[iv l.a,iv l.b,.bool l.w.neg,ints l.w.mag,ints l.w.den,.bool l.dx.neg,ints l.dx.mag,ints l.dx.den,.bool l.dy.neg,ints l.dy.mag,ints l.dy.den]]⟩),(2,⟨11,[[iv 0,iv 0,.bool false,.jF,.jF,.bool false,.jF,.jF,.bool false,.jF,.jF]]⟩),(3,⟨3,[[.bool false,.jF,.jF]]⟩),(4,⟨3,[[.bool k.w.neg,ints k.w.mag,ints k.w.den]]⟩),(5,⟨3,[[.bool l.w.neg,ints l.w.mag,ints l.w.den]]⟩),(6,⟨3,[[.bool (qj k l).neg,x1,x2]]⟩),(s1.length,⟨11,[[.int .i64 k.a,.int .i64 k.b,.bool (qj k l).neg,x1,x2,.bool false,.jF,.jF,.bool false,.jF,.jF]]⟩)]:=by rw [aar];exact E2
 clear E2 R LF LO;obtain⟨p10,hp⟩:∃p,s1.length=p:=⟨_,rfl⟩;obtain⟨s2,hs⟩:∃s,((s1++[none]).set s1.length (some ⟨11,[[.int .i64 k.a,.int .i64 k.b,.bool (qj k l).neg,x1,x2,.bool false,.jF,.jF,.bool false,.jF,.jF]]⟩))=s:=⟨_,rfl⟩;have hls:s2.length=p10+1:=by rw [←hs,←hp];simp
 simp only [hs]at *;clear hs;simp only [hp]at *;clear hp;have R:=ah (E.res1 1 rfl rfl (jG _ _)) (ah (fun x=>(E.snoc (x:=x)).res1 1 rfl rfl (jG _ _)) (ah (E.res1 2 rfl rfl (jG _ _)) (fun x=>(E.snoc (x:=x)).res1 2 rfl rfl (jG _ _))));have LF:=ah (E.leaf 1 rfl rfl) (E.leaf 2 rfl rfl);have LO:=ah (E.at0 (p:=0) (ob:=⟨11,[[iv k.a,iv k.b,.bool k.w.neg,ints k.w.mag,ints k.w.den,.bool k.dx.neg,ints k.dx.mag,ints k.dx.den,.bool k.dy.neg,ints k.dy.mag,ints k.dy.den]]⟩) (by simp)) (ah (E.at0 (p:=1) (ob:=⟨11,[[iv l.a,iv l.b,.bool l.w.neg,ints l.w.mag,ints l.w.den,.bool l.dx.neg,ints l.dx.mag,ints l.dx.den,.bool l.dy.neg,ints l.dy.mag,ints l.dy.den]]⟩) (by simp)) (ah (E.at0 (p:=2) (ob:=⟨11,[[iv 0,iv 0,.bool false,.jF,.jF,.bool false,.jF,.jF,.bool false,.jF,.jF]]⟩) (by simp)) (ah (E.at0 (p:=3) (ob:=⟨3,[[.bool false,.jF,.jF]]⟩) (by simp)) (ah (E.at0 (p:=4) (ob:=⟨3,[[.bool k.w.neg,ints k.w.mag,ints k.w.den]]⟩) (by simp)) (ah (E.at0 (p:=5) (ob:=⟨3,[[.bool l.w.neg,ints l.w.mag,ints l.w.den]]⟩) (by simp)) (ah (E.at0 (p:=6) (ob:=⟨3,[[.bool (qj k l).neg,x1,x2]]⟩) (by simp)) (E.at0 (p:=p10) (ob:=⟨11,[[.int .i64 k.a,.int .i64 k.b,.bool (qj k l).neg,x1,x2,.bool false,.jF,.jF,.bool false,.jF,.jF]]⟩) (by simp))))))));refine jl (wW h.lQ k1 k2) ?_;refine CV @R @LF @LO @jO @kG @List.set_set.{0} ?_;refine jl (wW h.lQ l1 l2) ?_;refine CV @R @LF @LO @jO @kG @List.set_set.{0} ?_;refine jl (Ak h.kE Lj Lj) ?_;refine CV @R @LF @LO @jO @kG @List.set_set.{0} ?_
 refine CW (fun o=>o∈([]++o1)) (show PO T 156 [kC (mG (mulR k.w k.dx) (mulR l.w l.dx)),kC (qj k l)] (kC (F6 k l))from Oo h.wY Lj (U5 k l)) (by (refine CV @R @LF @LO @jO @kG @List.set_set.{0} ?_;try with_reducible exact True.intro)) ?_ ?_
 ·intro o ho;have ho:o∈reach s2 FD (kC (mG (mulR k.w k.dx) (mulR l.w l.dx)))++(reach s2 (11+1) (.agg [.bool (qj k l).neg,x1,x2])++[]):=ho;rw [show reach s2 FD (kC (mG (mulR k.w k.dx) (mulR l.w l.dx)))=[]from by (refine ew ?_;try with_reducible exact True.intro),dI,aP]at ho;obtain⟨c,hc,ho⟩:=Au.1 ho;rcases aH.1 hc with e|hc
  ·rw [e]at ho;simp [reach]at ho
  rcases aH.1 hc with e|hc
  ·rw [e]at ho;exact E.reach 1 rfl rfl _ o ho
  rw [aV.1 hc]at ho;exact E.reach 2 rfl rfl _ o ho
 intro Rr r q3 o3 hRr G;have hO:=G.ow;have gn:=G.nd;have gf:=G.fresh;have go:=G.old;have gl:=G.len;clear G;obtain⟨_,rfl,hQ3⟩:=hO.kP;obtain⟨x3,x4,rfl⟩:=hQ3.rat
 have E2:=E.got (s1:=s2) (fun q hq=>rfl) (aJ _) hQ3 gn gf go;have F:p10∉([]++o1)++o3:=by
  intro hm;rcases aK.1 hm with hm|hm
  ·exact(E.l (p10,⟨11,[[.int .i64 k.a,.int .i64 k.b,.bool (qj k l).neg,x1,x2,.bool false,.jF,.jF,.bool false,.jF,.jF]]⟩) (by simp)).2 hm
  have:=gf _ hm;omega
 have hq3:p10+1≤q3.length:=by omega
 have hRn:∀o∈Rr,o≠p10:=fun o ho e=>(E.l (p10,⟨11,[[.int .i64 k.a,.int .i64 k.b,.bool (qj k l).neg,x1,x2,.bool false,.jF,.jF,.bool false,.jF,.jF]]⟩) (by simp)).2 (e▸hRr o ho);clear E gn gf go gl hO R LF LO hRr;have E:Ep q3 [.bool (qj k l).neg,x1,x2,.bool (F6 k l).neg,x3,x4] [.bool (qj k l).neg,ints (qj k l).mag,ints (qj k l).den,.bool (F6 k l).neg,ints (F6 k l).mag,ints (F6 k l).den] (([]++o1)++o3) [(0,⟨11,[[iv k.a,iv k.b,.bool k.w.neg,ints k.w.mag,ints k.w.den,.bool k.dx.neg,ints k.dx.mag,ints k.dx.den,.bool k.dy.neg,ints k.dy.mag,ints k.dy.den]]⟩),(1,⟨11,[[iv l.a,iv l.b,.bool l.w.neg,ints l.w.mag,ints l.w.den,.bool l.dx.neg,ints l.dx.mag,ints l.dx.den,.bool l.dy.neg,ints l.dy.mag,ints l.dy.den]]⟩),(2,⟨11,[[iv 0,iv 0,.bool false,.jF,.jF,.bool false,.jF,.jF,.bool false,.jF,.jF]]⟩),(3,⟨3,[[.bool false,.jF,.jF]]⟩),(4,⟨3,[[.bool k.w.neg,ints k.w.mag,ints k.w.den]]⟩),(5,⟨3,[[.bool l.w.neg,ints l.w.mag,ints l.w.den]]⟩),(6,⟨3,[[.bool (qj k l).neg,x1,x2]]⟩),(p10,⟨11,[[.int .i64 k.a,.int .i64 k.b,.bool (qj k l).neg,x1,x2,.bool false,.jF,.jF,.bool false,.jF,.jF]]⟩)]:=E2;clear E2;have R:=ah (E.res1 1 rfl rfl (jG _ _)) (ah (fun x=>(E.snoc (x:=x)).res1 1 rfl rfl (jG _ _)) (ah (E.res1 2 rfl rfl (jG _ _)) (ah (fun x=>(E.snoc (x:=x)).res1 2 rfl rfl (jG _ _)) (ah (E.res1 4 rfl rfl (jG _ _)) (ah (fun x=>(E.snoc (x:=x)).res1 4 rfl rfl (jG _ _)) (ah (E.res1 5 rfl rfl (jG _ _)) (fun x=>(E.snoc (x:=x)).res1 5 rfl rfl (jG _ _))))))))
 have LF:=ah (E.leaf 1 rfl rfl) (ah (E.leaf 2 rfl rfl) (ah (E.leaf 4 rfl rfl) (E.leaf 5 rfl rfl)));have LO:=ah (E.at0 (p:=0) (ob:=⟨11,[[iv k.a,iv k.b,.bool k.w.neg,ints k.w.mag,ints k.w.den,.bool k.dx.neg,ints k.dx.mag,ints k.dx.den,.bool k.dy.neg,ints k.dy.mag,ints k.dy.den]]⟩) (by simp)) (ah (E.at0 (p:=1) (ob:=⟨11,[[iv l.a,iv l.b,.bool l.w.neg,ints l.w.mag,ints l.w.den,.bool l.dx.neg,ints l.dx.mag,ints l.dx.den,.bool l.dy.neg,ints l.dy.mag,ints l.dy.den]]⟩) (by simp)) (ah (E.at0 (p:=2) (ob:=⟨11,[[iv 0,iv 0,.bool false,.jF,.jF,.bool false,.jF,.jF,.bool false,.jF,.jF]]⟩) (by simp)) (ah (E.at0 (p:=3) (ob:=⟨3,[[.bool false,.jF,.jF]]⟩) (by simp)) (ah (E.at0 (p:=4) (ob:=⟨3,[[.bool k.w.neg,ints k.w.mag,ints k.w.den]]⟩) (by simp)) (ah (E.at0 (p:=5) (ob:=⟨3,[[.bool l.w.neg,ints l.w.mag,ints l.w.den]]⟩) (by simp)) (ah (E.at0 (p:=6) (ob:=⟨3,[[.bool (qj k l).neg,x1,x2]]⟩) (by simp)) (E.at0 (p:=p10) (ob:=⟨11,[[.int .i64 k.a,.int .i64 k.b,.bool (qj k l).neg,x1,x2,.bool false,.jF,.jF,.bool false,.jF,.jF]]⟩) (by simp))))))));refine CV @R @LF @LO @jO @kG @List.set_set.{0} ?_;refine⟨?_,?_⟩
 ·revert Rr
  refine MN _ (fun R=>∀o∈R,o≠p10) 2 10 rfl (fun _=>rfl) ?_ ?_
  ·intro R hR b hb w hw hm;simp only [aH,bP,or_false]at hb;rcases hb with rfl|rfl|rfl|rfl|rfl|rfl|rfl|rfl|rfl|rfl|rfl|rfl|rfl
   all_goals first|(cases hw;done)|(rw [aV.1 hw]at hm;exact hR _ hm rfl)
  have hn0:7≤p10:=hq;generalize p10=m at hn0 ⊢
  revert m
  refine xW _ _ 7 (fun n hn=>?_) (fun n hn=>?_) ?_
  ·simp only [sh];split<;>omega
  ·simp [VN,sh];try omega
  unfold vH;decide +kernel
 clear hRn Rr
 replace E:=E.Ey (p:=p10) (ob:=⟨11,[[.int .i64 k.a,.int .i64 k.b,.bool (qj k l).neg,x1,x2,.bool (F6 k l).neg,x3,x4,.bool false,.jF,.jF]]⟩) (L':=[(0,⟨11,[[iv k.a,iv k.b,.bool k.w.neg,ints k.w.mag,ints k.w.den,.bool k.dx.neg,ints k.dx.mag,ints k.dx.den,.bool k.dy.neg,ints k.dy.mag,ints k.dy.den]]⟩),(1,⟨11,[[iv l.a,iv l.b,.bool l.w.neg,ints l.w.mag,ints l.w.den,.bool l.dx.neg,ints l.dx.mag,ints l.dx.den,.bool l.dy.neg,ints l.dy.mag,ints l.dy.den]]⟩),(2,⟨11,[[iv 0,iv 0,.bool false,.jF,.jF,.bool false,.jF,.jF,.bool false,.jF,.jF]]⟩),(3,⟨3,[[.bool false,.jF,.jF]]⟩),(4,⟨3,[[.bool k.w.neg,ints k.w.mag,ints k.w.den]]⟩),(5,⟨3,[[.bool l.w.neg,ints l.w.mag,ints l.w.den]]⟩),(6,⟨3,[[.bool (qj k l).neg,x1,x2]]⟩),(p10,⟨11,[[.int .i64 k.a,.int .i64 k.b,.bool (qj k l).neg,x1,x2,.bool (F6 k l).neg,x3,x4,.bool false,.jF,.jF]]⟩)]) F (by omega) (by simp;try omega)
 clear R LF LO F;obtain⟨s3,hs⟩:∃s,(q3.set p10 (some ⟨11,[[.int .i64 k.a,.int .i64 k.b,.bool (qj k l).neg,x1,x2,.bool (F6 k l).neg,x3,x4,.bool false,.jF,.jF]]⟩))=s:=⟨_,rfl⟩;have hls:q3.length=s3.length:=by rw [←hs];simp
 simp only [hs]at *;clear hs;simp only [hls]at *;clear hls;have R:=ah (E.res1 1 rfl rfl (jG _ _)) (ah (fun x=>(E.snoc (x:=x)).res1 1 rfl rfl (jG _ _)) (ah (E.res1 2 rfl rfl (jG _ _)) (ah (fun x=>(E.snoc (x:=x)).res1 2 rfl rfl (jG _ _)) (ah (E.res1 4 rfl rfl (jG _ _)) (ah (fun x=>(E.snoc (x:=x)).res1 4 rfl rfl (jG _ _)) (ah (E.res1 5 rfl rfl (jG _ _)) (fun x=>(E.snoc (x:=x)).res1 5 rfl rfl (jG _ _))))))));have LF:=ah (E.leaf 1 rfl rfl) (ah (E.leaf 2 rfl rfl) (ah (E.leaf 4 rfl rfl) (E.leaf 5 rfl rfl)));have LO:=ah (E.at0 (p:=0) (ob:=⟨11,[[iv k.a,iv k.b,.bool k.w.neg,ints k.w.mag,ints k.w.den,.bool k.dx.neg,ints k.dx.mag,ints k.dx.den,.bool k.dy.neg,ints k.dy.mag,ints k.dy.den]]⟩) (by simp)) (ah (E.at0 (p:=1) (ob:=⟨11,[[iv l.a,iv l.b,.bool l.w.neg,ints l.w.mag,ints l.w.den,.bool l.dx.neg,ints l.dx.mag,ints l.dx.den,.bool l.dy.neg,ints l.dy.mag,ints l.dy.den]]⟩) (by simp)) (ah (E.at0 (p:=2) (ob:=⟨11,[[iv 0,iv 0,.bool false,.jF,.jF,.bool false,.jF,.jF,.bool false,.jF,.jF]]⟩) (by simp)) (ah (E.at0 (p:=3) (ob:=⟨3,[[.bool false,.jF,.jF]]⟩) (by simp)) (ah (E.at0 (p:=4) (ob:=⟨3,[[.bool k.w.neg,ints k.w.mag,ints k.w.den]]⟩) (by simp)) (ah (E.at0 (p:=5) (ob:=⟨3,[[.bool l.w.neg,ints l.w.mag,ints l.w.den]]⟩) (by simp)) (ah (E.at0 (p:=6) (ob:=⟨3,[[.bool (qj k l).neg,x1,x2]]⟩) (by simp)) (E.at0 (p:=p10) (ob:=⟨11,[[.int .i64 k.a,.int .i64 k.b,.bool (qj k l).neg,x1,x2,.bool (F6 k l).neg,x3,x4,.bool false,.jF,.jF]]⟩) (by simp))))))))
 have aCK:p10+1≤s3.length:=by omega
 refine jl (wW h.lQ k1 k3) ?_;refine CV @R @LF @LO @jO @kG @List.set_set.{0} ?_;refine jl (wW h.lQ l1 l3) ?_;refine CV @R @LF @LO @jO @kG @List.set_set.{0} ?_;refine jl (Ak h.kE Lj Lj) ?_;refine CV @R @LF @LO @jO @kG @List.set_set.{0} ?_;refine CW (fun o=>o∈(([]++o1)++o3)) (show PO T 156 [kC (mG (mulR k.w k.dy) (mulR l.w l.dy)),kC (qj k l)] (kC (KH k l))from Oo h.wY Lj (U5 k l)) (by (refine CV @R @LF @LO @jO @kG @List.set_set.{0} ?_;try with_reducible exact True.intro)) ?_ ?_
 ·intro o ho;have ho:o∈reach s3 FD (kC (mG (mulR k.w k.dy) (mulR l.w l.dy)))++(reach s3 (11+1) (.agg [.bool (qj k l).neg,x1,x2])++[]):=ho;rw [show reach s3 FD (kC (mG (mulR k.w k.dy) (mulR l.w l.dy)))=[]from by (refine ew ?_;try with_reducible exact True.intro),dI,aP]at ho;obtain⟨c,hc,ho⟩:=Au.1 ho;rcases aH.1 hc with e|hc
  ·rw [e]at ho;simp [reach]at ho
  rcases aH.1 hc with e|hc
  ·rw [e]at ho;exact E.reach 1 rfl rfl _ o ho
  rw [aV.1 hc]at ho;exact E.reach 2 rfl rfl _ o ho
 intro Rr r q5 o5 hRr G;have hO:=G.ow;have gn:=G.nd;have gf:=G.fresh;have go:=G.old;have gl:=G.len;clear G;obtain⟨_,rfl,hQ5⟩:=hO.kP;obtain⟨x5,x6,rfl⟩:=hQ5.rat
 have E2:=E.got (s1:=s3) (fun q hq=>rfl) (aJ _) hQ5 gn gf go;have F:p10∉(([]++o1)++o3)++o5:=by
  intro hm;rcases aK.1 hm with hm|hm
  ·exact(E.l (p10,⟨11,[[.int .i64 k.a,.int .i64 k.b,.bool (qj k l).neg,x1,x2,.bool (F6 k l).neg,x3,x4,.bool false,.jF,.jF]]⟩) (by simp)).2 hm
  have:=gf _ hm;omega
 have hq5:p10+1≤q5.length:=by omega
 have hRn:∀o∈Rr,o≠p10:=fun o ho e=>(E.l (p10,⟨11,[[.int .i64 k.a,.int .i64 k.b,.bool (qj k l).neg,x1,x2,.bool (F6 k l).neg,x3,x4,.bool false,.jF,.jF]]⟩) (by simp)).2 (e▸hRr o ho);clear E gn gf go gl hO R LF LO hRr;have E:Ep q5 [.bool (qj k l).neg,x1,x2,.bool (F6 k l).neg,x3,x4,.bool (KH k l).neg,x5,x6] [.bool (qj k l).neg,ints (qj k l).mag,ints (qj k l).den,.bool (F6 k l).neg,ints (F6 k l).mag,ints (F6 k l).den,.bool (KH k l).neg,ints (KH k l).mag,ints (KH k l).den] ((([]++o1)++o3)++o5) [(0,⟨11,[[iv k.a,iv k.b,.bool k.w.neg,ints k.w.mag,ints k.w.den,.bool k.dx.neg,ints k.dx.mag,ints k.dx.den,.bool k.dy.neg,ints k.dy.mag,ints k.dy.den]]⟩),(1,⟨11,[[iv l.a,iv l.b,.bool l.w.neg,ints l.w.mag,ints l.w.den,.bool l.dx.neg,ints l.dx.mag,ints l.dx.den,.bool l.dy.neg,ints l.dy.mag,ints l.dy.den]]⟩),(2,⟨11,[[iv 0,iv 0,.bool false,.jF,.jF,.bool false,.jF,.jF,.bool false,.jF,.jF]]⟩),(3,⟨3,[[.bool false,.jF,.jF]]⟩),(4,⟨3,[[.bool k.w.neg,ints k.w.mag,ints k.w.den]]⟩),(5,⟨3,[[.bool l.w.neg,ints l.w.mag,ints l.w.den]]⟩),(6,⟨3,[[.bool (qj k l).neg,x1,x2]]⟩),(p10,⟨11,[[.int .i64 k.a,.int .i64 k.b,.bool (qj k l).neg,x1,x2,.bool (F6 k l).neg,x3,x4,.bool false,.jF,.jF]]⟩)]:=E2;clear E2
 have R:=ah (E.res1 1 rfl rfl (jG _ _)) (ah (fun x=>(E.snoc (x:=x)).res1 1 rfl rfl (jG _ _)) (ah (E.res1 2 rfl rfl (jG _ _)) (ah (fun x=>(E.snoc (x:=x)).res1 2 rfl rfl (jG _ _)) (ah (E.res1 4 rfl rfl (jG _ _)) (ah (fun x=>(E.snoc (x:=x)).res1 4 rfl rfl (jG _ _)) (ah (E.res1 5 rfl rfl (jG _ _)) (ah (fun x=>(E.snoc (x:=x)).res1 5 rfl rfl (jG _ _)) (ah (E.res1 7 rfl rfl (jG _ _)) (ah (fun x=>(E.snoc (x:=x)).res1 7 rfl rfl (jG _ _)) (ah (E.res1 8 rfl rfl (jG _ _)) (fun x=>(E.snoc (x:=x)).res1 8 rfl rfl (jG _ _))))))))))));have LF:=ah (E.leaf 1 rfl rfl) (ah (E.leaf 2 rfl rfl) (ah (E.leaf 4 rfl rfl) (ah (E.leaf 5 rfl rfl) (ah (E.leaf 7 rfl rfl) (E.leaf 8 rfl rfl)))))
 have LO:=ah (E.at0 (p:=0) (ob:=⟨11,[[iv k.a,iv k.b,.bool k.w.neg,ints k.w.mag,ints k.w.den,.bool k.dx.neg,ints k.dx.mag,ints k.dx.den,.bool k.dy.neg,ints k.dy.mag,ints k.dy.den]]⟩) (by simp)) (ah (E.at0 (p:=1) (ob:=⟨11,[[iv l.a,iv l.b,.bool l.w.neg,ints l.w.mag,ints l.w.den,.bool l.dx.neg,ints l.dx.mag,ints l.dx.den,.bool l.dy.neg,ints l.dy.mag,ints l.dy.den]]⟩) (by simp)) (ah (E.at0 (p:=2) (ob:=⟨11,[[iv 0,iv 0,.bool false,.jF,.jF,.bool false,.jF,.jF,.bool false,.jF,.jF]]⟩) (by simp)) (ah (E.at0 (p:=3) (ob:=⟨3,[[.bool false,.jF,.jF]]⟩) (by simp)) (ah (E.at0 (p:=4) (ob:=⟨3,[[.bool k.w.neg,ints k.w.mag,ints k.w.den]]⟩) (by simp)) (ah (E.at0 (p:=5) (ob:=⟨3,[[.bool l.w.neg,ints l.w.mag,ints l.w.den]]⟩) (by simp)) (ah (E.at0 (p:=6) (ob:=⟨3,[[.bool (qj k l).neg,x1,x2]]⟩) (by simp)) (E.at0 (p:=p10) (ob:=⟨11,[[.int .i64 k.a,.int .i64 k.b,.bool (qj k l).neg,x1,x2,.bool (F6 k l).neg,x3,x4,.bool false,.jF,.jF]]⟩) (by simp))))))));refine CV @R @LF @LO @jO @kG @List.set_set.{0} ?_;refine⟨?_,?_⟩
 ·revert Rr
  refine MN _ (fun R=>∀o∈R,o≠p10) 2 10 rfl (fun _=>rfl) ?_ ?_
  ·intro R hR b hb w hw hm;simp only [aH,bP,or_false]at hb;rcases hb with rfl|rfl|rfl|rfl|rfl|rfl|rfl|rfl|rfl|rfl|rfl|rfl|rfl
   all_goals first|(cases hw;done)|(rw [aV.1 hw]at hm;exact hR _ hm rfl)
  refine Bd (L':=p10+1) (by omega) ?_;have hn0:7≤p10:=hq;generalize p10=m at hn0 ⊢
  revert m
  refine xW _ _ 7 (fun n hn=>?_) (fun n hn=>?_) ?_
  ·simp only [sh];split<;>omega
  ·simp [VN,sh];try omega
  unfold vH;decide +kernel
 clear hRn Rr
 replace E:=E.Ey (p:=p10) (ob:=⟨11,[[.int .i64 k.a,.int .i64 k.b,.bool (qj k l).neg,x1,x2,.bool (F6 k l).neg,x3,x4,.bool (KH k l).neg,x5,x6]]⟩) (L':=[(0,⟨11,[[iv k.a,iv k.b,.bool k.w.neg,ints k.w.mag,ints k.w.den,.bool k.dx.neg,ints k.dx.mag,ints k.dx.den,.bool k.dy.neg,ints k.dy.mag,ints k.dy.den]]⟩),(1,⟨11,[[iv l.a,iv l.b,.bool l.w.neg,ints l.w.mag,ints l.w.den,.bool l.dx.neg,ints l.dx.mag,ints l.dx.den,.bool l.dy.neg,ints l.dy.mag,ints l.dy.den]]⟩),(2,⟨11,[[iv 0,iv 0,.bool false,.jF,.jF,.bool false,.jF,.jF,.bool false,.jF,.jF]]⟩),(3,⟨3,[[.bool false,.jF,.jF]]⟩),(4,⟨3,[[.bool k.w.neg,ints k.w.mag,ints k.w.den]]⟩),(5,⟨3,[[.bool l.w.neg,ints l.w.mag,ints l.w.den]]⟩),(6,⟨3,[[.bool (qj k l).neg,x1,x2]]⟩),(p10,⟨11,[[.int .i64 k.a,.int .i64 k.b,.bool (qj k l).neg,x1,x2,.bool (F6 k l).neg,x3,x4,.bool (KH k l).neg,x5,x6]]⟩)]) F (by omega) (by simp;try omega)
 clear R LF LO F;obtain⟨s5,hs⟩:∃s,(q5.set p10 (some ⟨11,[[.int .i64 k.a,.int .i64 k.b,.bool (qj k l).neg,x1,x2,.bool (F6 k l).neg,x3,x4,.bool (KH k l).neg,x5,x6]]⟩))=s:=⟨_,rfl⟩;have hls:q5.length=s5.length:=by rw [←hs];simp
 simp only [hs]at *;clear hs;simp only [hls]at *;clear hls;have R:=ah (E.res1 1 rfl rfl (jG _ _)) (ah (fun x=>(E.snoc (x:=x)).res1 1 rfl rfl (jG _ _)) (ah (E.res1 2 rfl rfl (jG _ _)) (ah (fun x=>(E.snoc (x:=x)).res1 2 rfl rfl (jG _ _)) (ah (E.res1 4 rfl rfl (jG _ _)) (ah (fun x=>(E.snoc (x:=x)).res1 4 rfl rfl (jG _ _)) (ah (E.res1 5 rfl rfl (jG _ _)) (ah (fun x=>(E.snoc (x:=x)).res1 5 rfl rfl (jG _ _)) (ah (E.res1 7 rfl rfl (jG _ _)) (ah (fun x=>(E.snoc (x:=x)).res1 7 rfl rfl (jG _ _)) (ah (E.res1 8 rfl rfl (jG _ _)) (fun x=>(E.snoc (x:=x)).res1 8 rfl rfl (jG _ _))))))))))));have LF:=ah (E.leaf 1 rfl rfl) (ah (E.leaf 2 rfl rfl) (ah (E.leaf 4 rfl rfl) (ah (E.leaf 5 rfl rfl) (ah (E.leaf 7 rfl rfl) (E.leaf 8 rfl rfl)))))
 have LO:=ah (E.at0 (p:=0) (ob:=⟨11,[[iv k.a,iv k.b,.bool k.w.neg,ints k.w.mag,ints k.w.den,.bool k.dx.neg,ints k.dx.mag,ints k.dx.den,.bool k.dy.neg,ints k.dy.mag,ints k.dy.den]]⟩) (by simp)) (ah (E.at0 (p:=1) (ob:=⟨11,[[iv l.a,iv l.b,.bool l.w.neg,ints l.w.mag,ints l.w.den,.bool l.dx.neg,ints l.dx.mag,ints l.dx.den,.bool l.dy.neg,ints l.dy.mag,ints l.dy.den]]⟩) (by simp)) (ah (E.at0 (p:=2) (ob:=⟨11,[[iv 0,iv 0,.bool false,.jF,.jF,.bool false,.jF,.jF,.bool false,.jF,.jF]]⟩) (by simp)) (ah (E.at0 (p:=3) (ob:=⟨3,[[.bool false,.jF,.jF]]⟩) (by simp)) (ah (E.at0 (p:=4) (ob:=⟨3,[[.bool k.w.neg,ints k.w.mag,ints k.w.den]]⟩) (by simp)) (ah (E.at0 (p:=5) (ob:=⟨3,[[.bool l.w.neg,ints l.w.mag,ints l.w.den]]⟩) (by simp)) (ah (E.at0 (p:=6) (ob:=⟨3,[[.bool (qj k l).neg,x1,x2]]⟩) (by simp)) (E.at0 (p:=p10) (ob:=⟨11,[[.int .i64 k.a,.int .i64 k.b,.bool (qj k l).neg,x1,x2,.bool (F6 k l).neg,x3,x4,.bool (KH k l).neg,x5,x6]]⟩) (by simp))))))));have aCL:p10+1≤s5.length:=by omega
 refine jl (wW h.lQ k1 l1) ?_;refine CV @R @LF @LO @jO @kG @List.set_set.{0} ?_;refine CW (fun o=>o∈((([]++o1)++o3)++o5)) (show PO T 156 [kC (mulR k.w l.w),kC (qj k l)] (kC (xR (mulR k.w l.w) (qj k l)))from Oo h.wY Lj (U5 k l)) (by (refine CV @R @LF @LO @jO @kG @List.set_set.{0} ?_;try with_reducible exact True.intro)) ?_ ?_
 ·intro o ho;have ho:o∈reach (s5++[none]) FD (kC (mulR k.w l.w))++(reach (s5++[none]) (11+1) (.agg [.bool (qj k l).neg,x1,x2])++[]):=ho;rw [show reach (s5++[none]) FD (kC (mulR k.w l.w))=[]from by (refine ew ?_;try with_reducible exact True.intro),dI,aP]at ho;obtain⟨c,hc,ho⟩:=Au.1 ho;rcases aH.1 hc with e|hc
  ·rw [e]at ho;simp [reach]at ho
  rcases aH.1 hc with e|hc
  ·rw [e]at ho;exact E.snoc.reach 1 rfl rfl _ o ho
  rw [aV.1 hc]at ho;exact E.snoc.reach 2 rfl rfl _ o ho
 intro Ra r q7 o7 hRa G;have hO:=G.ow;have gn:=G.nd;have gf:=G.fresh;have go:=G.old;have gl:=G.len;clear G;obtain⟨_,rfl,hQ7⟩:=hO.kP;obtain⟨x7,x8,rfl⟩:=hQ7.rat
 have E2:=E.got (s1:=s5++[none]) (fun q hq=>kY hq) (by simp) hQ7 gn gf go;have F:s5.length∉((([]++o1)++o3)++o5)++o7:=by
  intro hm;rcases aK.1 hm with hm|hm
  ·exact absurd (E.c.lt _ hm) (jV _)
  have:=gf _ hm;simp at this;omega
 have hq7:s5.length+1≤q7.length:=by simpa using gl
 have azI:∀o∈Ra,o≠s5.length:=fun o ho e=>absurd (E.c.lt _ (e▸hRa o ho)) (jV _);have EL:=E.lt;clear E gn gf go gl hO R LF LO hRa;have E:Ep q7 [.bool (qj k l).neg,x1,x2,.bool (F6 k l).neg,x3,x4,.bool (KH k l).neg,x5,x6,.bool (xR (mulR k.w l.w) (qj k l)).neg,x7,x8] [.bool (qj k l).neg,ints (qj k l).mag,ints (qj k l).den,.bool (F6 k l).neg,ints (F6 k l).mag,ints (F6 k l).den,.bool (KH k l).neg,ints (KH k l).mag,ints (KH k l).den,.bool (xR (mulR k.w l.w) (qj k l)).neg,ints (xR (mulR k.w l.w) (qj k l)).mag,ints (xR (mulR k.w l.w) (qj k l)).den] (((([]++o1)++o3)++o5)++o7) [(0,⟨11,[[iv k.a,iv k.b,.bool k.w.neg,ints k.w.mag,ints k.w.den,.bool k.dx.neg,ints k.dx.mag,ints k.dx.den,.bool k.dy.neg,ints k.dy.mag,ints k.dy.den]]⟩),(1,⟨11,[[iv l.a,iv l.b,.bool l.w.neg,ints l.w.mag,ints l.w.den,.bool l.dx.neg,ints l.dx.mag,ints l.dx.den,.bool l.dy.neg,ints l.dy.mag,ints l.dy.den]]⟩),(2,⟨11,[[iv 0,iv 0,.bool false,.jF,.jF,.bool false,.jF,.jF,.bool false,.jF,.jF]]⟩),(3,⟨3,[[.bool false,.jF,.jF]]⟩),(4,⟨3,[[.bool k.w.neg,ints k.w.mag,ints k.w.den]]⟩),(5,⟨3,[[.bool l.w.neg,ints l.w.mag,ints l.w.den]]⟩),(6,⟨3,[[.bool (qj k l).neg,x1,x2]]⟩),(p10,⟨11,[[.int .i64 k.a,.int .i64 k.b,.bool (qj k l).neg,x1,x2,.bool (F6 k l).neg,x3,x4,.bool (KH k l).neg,x5,x6]]⟩)]:=E2;clear E2
 have R:=ah (E.res1 1 rfl rfl (jG _ _)) (ah (fun x=>(E.snoc (x:=x)).res1 1 rfl rfl (jG _ _)) (ah (E.res1 2 rfl rfl (jG _ _)) (ah (fun x=>(E.snoc (x:=x)).res1 2 rfl rfl (jG _ _)) (ah (E.res1 4 rfl rfl (jG _ _)) (ah (fun x=>(E.snoc (x:=x)).res1 4 rfl rfl (jG _ _)) (ah (E.res1 5 rfl rfl (jG _ _)) (ah (fun x=>(E.snoc (x:=x)).res1 5 rfl rfl (jG _ _)) (ah (E.res1 7 rfl rfl (jG _ _)) (ah (fun x=>(E.snoc (x:=x)).res1 7 rfl rfl (jG _ _)) (ah (E.res1 8 rfl rfl (jG _ _)) (ah (fun x=>(E.snoc (x:=x)).res1 8 rfl rfl (jG _ _)) (ah (E.res1 10 rfl rfl (jG _ _)) (ah (fun x=>(E.snoc (x:=x)).res1 10 rfl rfl (jG _ _)) (ah (E.res1 11 rfl rfl (jG _ _)) (fun x=>(E.snoc (x:=x)).res1 11 rfl rfl (jG _ _))))))))))))))));have LF:=ah (E.leaf 1 rfl rfl) (ah (E.leaf 2 rfl rfl) (ah (E.leaf 4 rfl rfl) (ah (E.leaf 5 rfl rfl) (ah (E.leaf 7 rfl rfl) (ah (E.leaf 8 rfl rfl) (ah (E.leaf 10 rfl rfl) (E.leaf 11 rfl rfl)))))))
 have LO:=ah (E.at0 (p:=0) (ob:=⟨11,[[iv k.a,iv k.b,.bool k.w.neg,ints k.w.mag,ints k.w.den,.bool k.dx.neg,ints k.dx.mag,ints k.dx.den,.bool k.dy.neg,ints k.dy.mag,ints k.dy.den]]⟩) (by simp)) (ah (E.at0 (p:=1) (ob:=⟨11,[[iv l.a,iv l.b,.bool l.w.neg,ints l.w.mag,ints l.w.den,.bool l.dx.neg,ints l.dx.mag,ints l.dx.den,.bool l.dy.neg,ints l.dy.mag,ints l.dy.den]]⟩) (by simp)) (ah (E.at0 (p:=2) (ob:=⟨11,[[iv 0,iv 0,.bool false,.jF,.jF,.bool false,.jF,.jF,.bool false,.jF,.jF]]⟩) (by simp)) (ah (E.at0 (p:=3) (ob:=⟨3,[[.bool false,.jF,.jF]]⟩) (by simp)) (ah (E.at0 (p:=4) (ob:=⟨3,[[.bool k.w.neg,ints k.w.mag,ints k.w.den]]⟩) (by simp)) (ah (E.at0 (p:=5) (ob:=⟨3,[[.bool l.w.neg,ints l.w.mag,ints l.w.den]]⟩) (by simp)) (ah (E.at0 (p:=6) (ob:=⟨3,[[.bool (qj k l).neg,x1,x2]]⟩) (by simp)) (E.at0 (p:=p10) (ob:=⟨11,[[.int .i64 k.a,.int .i64 k.b,.bool (qj k l).neg,x1,x2,.bool (F6 k l).neg,x3,x4,.bool (KH k l).neg,x5,x6]]⟩) (by simp))))))));refine CV @R @LF @LO @jO @kG @List.set_set.{0} ?_;refine jl (Ap h.pG k2 l2) ?_;refine CV @R @LF @LO @jO @kG @List.set_set.{0} ?_;refine jl (Ap h.pG k3 l3) ?_;refine CV @R @LF @LO @jO @kG @List.set_set.{0} ?_;refine jl (LC h.yK Lj Lj) ?_;refine CV @R @LF @LO @jO @kG @List.set_set.{0} ?_
 refine CW (fun o=>o∈(((([]++o1)++o3)++o5)++o7)) (show PO T 157 [kC (xR (mulR k.w l.w) (qj k l)),kC (sqR (vI k.dx l.dx) (vI k.dy l.dy))] (kC (PV k l))from UZ h.lQ Lj (aiG _ _)) (by (refine CV @R @LF @LO @jO @kG @List.set_set.{0} ?_;try with_reducible exact True.intro)) ?_ ?_
 ·intro o ho;have ho:o∈reach q7 (11+1) (.agg [.bool (xR (mulR k.w l.w) (qj k l)).neg,x7,x8])++(reach q7 FD (kC (sqR (vI k.dx l.dx) (vI k.dy l.dy)))++[]):=ho;rw [show reach q7 FD (kC (sqR (vI k.dx l.dx) (vI k.dy l.dy)))=[]from by (refine ew ?_;try with_reducible exact True.intro),aP,aP]at ho;obtain⟨c,hc,ho⟩:=Au.1 ho;rcases aH.1 hc with e|hc
  ·rw [e]at ho;simp [reach]at ho
  rcases aH.1 hc with e|hc
  ·rw [e]at ho;exact E.reach 10 rfl rfl _ o ho
  rw [aV.1 hc]at ho;exact E.reach 11 rfl rfl _ o ho
 intro Rb r q9 o9 hRb G;have hO:=G.ow;have gn:=G.nd;have gf:=G.fresh;have go:=G.old;have gl:=G.len;clear G;obtain⟨_,rfl,hQ9⟩:=hO.kP;obtain⟨x9,x10,rfl⟩:=hQ9.rat
 have E2:=E.got (s1:=q7) (fun q hq=>rfl) (aJ _) hQ9 gn gf go;have F9:s5.length∉(((([]++o1)++o3)++o5)++o7)++o9:=by
  intro hm;rcases aK.1 hm with hm|hm
  ·exact F hm
  have:=gf _ hm;omega
 have hq9:s5.length+1≤q9.length:=by omega
 have azJ:∀o∈Rb,o≠s5.length:=fun o ho e=>F (e▸hRb o ho);clear E F gn gf go gl hO R LF LO hRb;have E:Ep q9 [.bool (qj k l).neg,x1,x2,.bool (F6 k l).neg,x3,x4,.bool (KH k l).neg,x5,x6,.bool (xR (mulR k.w l.w) (qj k l)).neg,x7,x8,.bool (PV k l).neg,x9,x10] [.bool (qj k l).neg,ints (qj k l).mag,ints (qj k l).den,.bool (F6 k l).neg,ints (F6 k l).mag,ints (F6 k l).den,.bool (KH k l).neg,ints (KH k l).mag,ints (KH k l).den,.bool (xR (mulR k.w l.w) (qj k l)).neg,ints (xR (mulR k.w l.w) (qj k l)).mag,ints (xR (mulR k.w l.w) (qj k l)).den,.bool (PV k l).neg,ints (PV k l).mag,ints (PV k l).den] ((((([]++o1)++o3)++o5)++o7)++o9) [(0,⟨11,[[iv k.a,iv k.b,.bool k.w.neg,ints k.w.mag,ints k.w.den,.bool k.dx.neg,ints k.dx.mag,ints k.dx.den,.bool k.dy.neg,ints k.dy.mag,ints k.dy.den]]⟩),(1,⟨11,[[iv l.a,iv l.b,.bool l.w.neg,ints l.w.mag,ints l.w.den,.bool l.dx.neg,ints l.dx.mag,ints l.dx.den,.bool l.dy.neg,ints l.dy.mag,ints l.dy.den]]⟩),(2,⟨11,[[iv 0,iv 0,.bool false,.jF,.jF,.bool false,.jF,.jF,.bool false,.jF,.jF]]⟩),(3,⟨3,[[.bool false,.jF,.jF]]⟩),(4,⟨3,[[.bool k.w.neg,ints k.w.mag,ints k.w.den]]⟩),(5,⟨3,[[.bool l.w.neg,ints l.w.mag,ints l.w.den]]⟩),(6,⟨3,[[.bool (qj k l).neg,x1,x2]]⟩),(p10,⟨11,[[.int .i64 k.a,.int .i64 k.b,.bool (qj k l).neg,x1,x2,.bool (F6 k l).neg,x3,x4,.bool (KH k l).neg,x5,x6]]⟩)]:=E2;clear E2
 have R:=ah (E.res1 1 rfl rfl (jG _ _)) (ah (fun x=>(E.snoc (x:=x)).res1 1 rfl rfl (jG _ _)) (ah (E.res1 2 rfl rfl (jG _ _)) (ah (fun x=>(E.snoc (x:=x)).res1 2 rfl rfl (jG _ _)) (ah (E.res1 4 rfl rfl (jG _ _)) (ah (fun x=>(E.snoc (x:=x)).res1 4 rfl rfl (jG _ _)) (ah (E.res1 5 rfl rfl (jG _ _)) (ah (fun x=>(E.snoc (x:=x)).res1 5 rfl rfl (jG _ _)) (ah (E.res1 7 rfl rfl (jG _ _)) (ah (fun x=>(E.snoc (x:=x)).res1 7 rfl rfl (jG _ _)) (ah (E.res1 8 rfl rfl (jG _ _)) (ah (fun x=>(E.snoc (x:=x)).res1 8 rfl rfl (jG _ _)) (ah (E.res1 10 rfl rfl (jG _ _)) (ah (fun x=>(E.snoc (x:=x)).res1 10 rfl rfl (jG _ _)) (ah (E.res1 11 rfl rfl (jG _ _)) (ah (fun x=>(E.snoc (x:=x)).res1 11 rfl rfl (jG _ _)) (ah (E.res1 13 rfl rfl (jG _ _)) (ah (fun x=>(E.snoc (x:=x)).res1 13 rfl rfl (jG _ _)) (ah (E.res1 14 rfl rfl (jG _ _)) (fun x=>(E.snoc (x:=x)).res1 14 rfl rfl (jG _ _))))))))))))))))))));have LF:=ah (E.leaf 1 rfl rfl) (ah (E.leaf 2 rfl rfl) (ah (E.leaf 4 rfl rfl) (ah (E.leaf 5 rfl rfl) (ah (E.leaf 7 rfl rfl) (ah (E.leaf 8 rfl rfl) (ah (E.leaf 10 rfl rfl) (ah (E.leaf 11 rfl rfl) (ah (E.leaf 13 rfl rfl) (E.leaf 14 rfl rfl)))))))))
 have LO:=ah (E.at0 (p:=0) (ob:=⟨11,[[iv k.a,iv k.b,.bool k.w.neg,ints k.w.mag,ints k.w.den,.bool k.dx.neg,ints k.dx.mag,ints k.dx.den,.bool k.dy.neg,ints k.dy.mag,ints k.dy.den]]⟩) (by simp)) (ah (E.at0 (p:=1) (ob:=⟨11,[[iv l.a,iv l.b,.bool l.w.neg,ints l.w.mag,ints l.w.den,.bool l.dx.neg,ints l.dx.mag,ints l.dx.den,.bool l.dy.neg,ints l.dy.mag,ints l.dy.den]]⟩) (by simp)) (ah (E.at0 (p:=2) (ob:=⟨11,[[iv 0,iv 0,.bool false,.jF,.jF,.bool false,.jF,.jF,.bool false,.jF,.jF]]⟩) (by simp)) (ah (E.at0 (p:=3) (ob:=⟨3,[[.bool false,.jF,.jF]]⟩) (by simp)) (ah (E.at0 (p:=4) (ob:=⟨3,[[.bool k.w.neg,ints k.w.mag,ints k.w.den]]⟩) (by simp)) (ah (E.at0 (p:=5) (ob:=⟨3,[[.bool l.w.neg,ints l.w.mag,ints l.w.den]]⟩) (by simp)) (ah (E.at0 (p:=6) (ob:=⟨3,[[.bool (qj k l).neg,x1,x2]]⟩) (by simp)) (E.at0 (p:=p10) (ob:=⟨11,[[.int .i64 k.a,.int .i64 k.b,.bool (qj k l).neg,x1,x2,.bool (F6 k l).neg,x3,x4,.bool (KH k l).neg,x5,x6]]⟩) (by simp))))))));refine CV @R @LF @LO @jO @kG @List.set_set.{0} ?_;refine⟨?_,?_⟩
 ·revert Rb
  refine MN _ (fun R=>∀o∈R,o≠s5.length) 2 16 rfl (fun _=>rfl) ?_ ?_
  ·intro R hR b hb w hw hm;simp only [aH,bP,or_false]at hb;rcases hb with rfl|rfl|rfl|rfl|rfl|rfl|rfl|rfl|rfl|rfl|rfl|rfl|rfl|rfl|rfl|rfl|rfl|rfl|rfl
   all_goals first|(cases hw;done)|(rw [aV.1 hw]at hm;exact hR _ hm rfl)
  revert Ra
  refine MN _ (fun R=>∀o∈R,o≠s5.length) 14 4 rfl (fun _=>rfl) ?_ ?_
  ·intro R hR b hb w hw hm;simp only [aH,bP,or_false]at hb;rcases hb with rfl|rfl|rfl|rfl|rfl|rfl|rfl|rfl|rfl|rfl|rfl|rfl|rfl|rfl|rfl|rfl|rfl|rfl|rfl
   all_goals first|(cases hw;done)|(rw [aV.1 hw]at hm;exact hR _ hm rfl)
  have hn0:7≤s5.length:=by omega
  clear EL E hls;generalize s5.length=m at hn0 ⊢
  revert m
  refine xW _ _ 7 (fun n hn=>?_) (fun n hn=>?_) ?_
  ·simp only [sh];split<;>omega
  ·simp [VN,sh];try omega
  unfold vH;decide +kernel
 clear azI azJ Ra Rb
 replace E:=E.Ey (p:=s5.length) (ob:=⟨3,[[.bool (PV k l).neg,x9,x10]]⟩) (L':=[(0,⟨11,[[iv k.a,iv k.b,.bool k.w.neg,ints k.w.mag,ints k.w.den,.bool k.dx.neg,ints k.dx.mag,ints k.dx.den,.bool k.dy.neg,ints k.dy.mag,ints k.dy.den]]⟩),(1,⟨11,[[iv l.a,iv l.b,.bool l.w.neg,ints l.w.mag,ints l.w.den,.bool l.dx.neg,ints l.dx.mag,ints l.dx.den,.bool l.dy.neg,ints l.dy.mag,ints l.dy.den]]⟩),(2,⟨11,[[iv 0,iv 0,.bool false,.jF,.jF,.bool false,.jF,.jF,.bool false,.jF,.jF]]⟩),(3,⟨3,[[.bool false,.jF,.jF]]⟩),(4,⟨3,[[.bool k.w.neg,ints k.w.mag,ints k.w.den]]⟩),(5,⟨3,[[.bool l.w.neg,ints l.w.mag,ints l.w.den]]⟩),(6,⟨3,[[.bool (qj k l).neg,x1,x2]]⟩),(p10,⟨11,[[.int .i64 k.a,.int .i64 k.b,.bool (qj k l).neg,x1,x2,.bool (F6 k l).neg,x3,x4,.bool (KH k l).neg,x5,x6]]⟩),(s5.length,⟨3,[[.bool (PV k l).neg,x9,x10]]⟩)]) F9 (by omega) (by simp;try omega)
 clear R LF LO F9 EL;obtain⟨p11,avn⟩:∃p,s5.length=p:=⟨_,rfl⟩;simp only [avn]at *;clear avn;obtain⟨s11,hs⟩:∃s,(q9.set p11 (some ⟨3,[[.bool (PV k l).neg,x9,x10]]⟩))=s:=⟨_,rfl⟩;have hls:q9.length=s11.length:=by rw [←hs];simp
 simp only [hs]at *;clear hs;simp only [hls]at *;clear hls;have R:=ah (E.res1 1 rfl rfl (jG _ _)) (ah (fun x=>(E.snoc (x:=x)).res1 1 rfl rfl (jG _ _)) (ah (E.res1 2 rfl rfl (jG _ _)) (ah (fun x=>(E.snoc (x:=x)).res1 2 rfl rfl (jG _ _)) (ah (E.res1 4 rfl rfl (jG _ _)) (ah (fun x=>(E.snoc (x:=x)).res1 4 rfl rfl (jG _ _)) (ah (E.res1 5 rfl rfl (jG _ _)) (ah (fun x=>(E.snoc (x:=x)).res1 5 rfl rfl (jG _ _)) (ah (E.res1 7 rfl rfl (jG _ _)) (ah (fun x=>(E.snoc (x:=x)).res1 7 rfl rfl (jG _ _)) (ah (E.res1 8 rfl rfl (jG _ _)) (ah (fun x=>(E.snoc (x:=x)).res1 8 rfl rfl (jG _ _)) (ah (E.res1 10 rfl rfl (jG _ _)) (ah (fun x=>(E.snoc (x:=x)).res1 10 rfl rfl (jG _ _)) (ah (E.res1 11 rfl rfl (jG _ _)) (ah (fun x=>(E.snoc (x:=x)).res1 11 rfl rfl (jG _ _)) (ah (E.res1 13 rfl rfl (jG _ _)) (ah (fun x=>(E.snoc (x:=x)).res1 13 rfl rfl (jG _ _)) (ah (E.res1 14 rfl rfl (jG _ _)) (fun x=>(E.snoc (x:=x)).res1 14 rfl rfl (jG _ _))))))))))))))))))));have LF:=ah (E.leaf 1 rfl rfl) (ah (E.leaf 2 rfl rfl) (ah (E.leaf 4 rfl rfl) (ah (E.leaf 5 rfl rfl) (ah (E.leaf 7 rfl rfl) (ah (E.leaf 8 rfl rfl) (ah (E.leaf 10 rfl rfl) (ah (E.leaf 11 rfl rfl) (ah (E.leaf 13 rfl rfl) (E.leaf 14 rfl rfl)))))))))
 have LO:=ah (E.at0 (p:=0) (ob:=⟨11,[[iv k.a,iv k.b,.bool k.w.neg,ints k.w.mag,ints k.w.den,.bool k.dx.neg,ints k.dx.mag,ints k.dx.den,.bool k.dy.neg,ints k.dy.mag,ints k.dy.den]]⟩) (by simp)) (ah (E.at0 (p:=1) (ob:=⟨11,[[iv l.a,iv l.b,.bool l.w.neg,ints l.w.mag,ints l.w.den,.bool l.dx.neg,ints l.dx.mag,ints l.dx.den,.bool l.dy.neg,ints l.dy.mag,ints l.dy.den]]⟩) (by simp)) (ah (E.at0 (p:=2) (ob:=⟨11,[[iv 0,iv 0,.bool false,.jF,.jF,.bool false,.jF,.jF,.bool false,.jF,.jF]]⟩) (by simp)) (ah (E.at0 (p:=3) (ob:=⟨3,[[.bool false,.jF,.jF]]⟩) (by simp)) (ah (E.at0 (p:=4) (ob:=⟨3,[[.bool k.w.neg,ints k.w.mag,ints k.w.den]]⟩) (by simp)) (ah (E.at0 (p:=5) (ob:=⟨3,[[.bool l.w.neg,ints l.w.mag,ints l.w.den]]⟩) (by simp)) (ah (E.at0 (p:=6) (ob:=⟨3,[[.bool (qj k l).neg,x1,x2]]⟩) (by simp)) (ah (E.at0 (p:=p10) (ob:=⟨11,[[.int .i64 k.a,.int .i64 k.b,.bool (qj k l).neg,x1,x2,.bool (F6 k l).neg,x3,x4,.bool (KH k l).neg,x5,x6]]⟩) (by simp)) (E.at0 (p:=p11) (ob:=⟨3,[[.bool (PV k l).neg,x9,x10]]⟩) (by simp)))))))));have gW:=D9 h.jQ (U5 k l)
 cases hbW:(qj k l).ok
 ·rw [hbW]at gW;refine CV @R @LF @LO @jO @kG @List.set_set.{0} ?_;refine jl gW ?_;refine CV @R @LF @LO @jO @kG @List.set_set.{0} ?_;have hG:QZ k l=false:=by unfold QZ;rw [hbW];simp
  rw [hG];exact Tt
 rw [hbW]at gW;refine CV @R @LF @LO @jO @kG @List.set_set.{0} ?_;refine jl gW ?_;refine CV @R @LF @LO @jO @kG @List.set_set.{0} ?_;have gX:=D9 h.jQ (aiV k l)
 cases hbX:(F6 k l).ok
 ·rw [hbX]at gX
  skip
  refine jl gX ?_;refine CV @R @LF @LO @jO @kG @List.set_set.{0} ?_;have hG:QZ k l=false:=by unfold QZ;rw [hbX];simp
  rw [hG];exact Tt
 rw [hbX]at gX
 skip
 refine jl gX ?_;refine CV @R @LF @LO @jO @kG @List.set_set.{0} ?_;have gY:=D9 h.jQ (aiW k l)
 cases hbY:(KH k l).ok
 ·rw [hbY]at gY
  skip
  refine jl gY ?_;refine CV @R @LF @LO @jO @kG @List.set_set.{0} ?_;have hG:QZ k l=false:=by unfold QZ;rw [hbY];simp
  rw [hG];exact Tt
 rw [hbY]at gY
 skip
 refine jl gY ?_;refine CV @R @LF @LO @jO @kG @List.set_set.{0} ?_;have gE:=D9 h.jQ (aiX k l)
 cases hbE:(PV k l).ok
 ·rw [hbE]at gE
  skip
  refine jl gE ?_;refine CV @R @LF @LO @jO @kG @List.set_set.{0} ?_;have hG:QZ k l=false:=by unfold QZ;rw [hbE];simp
  rw [hG];exact Tt
 rw [hbE]at gE
 skip
 refine jl gE ?_;refine CV @R @LF @LO @jO @kG @List.set_set.{0} ?_;have hG:QZ k l=true:=by unfold QZ;rw [hbW,hbX,hbY,hbE];rfl
 rw [hG];refine⟨?_,?_⟩
 ·refine Bd (L':=p11+1) (by omega) ?_;have hn0:7≤p10:=by omega
  have hn1:p10+1≤p11:=by omega
  clear E R LF LO;obtain⟨d,hd⟩:∃d,p11=p10+(d+1):=⟨p11-p10-1,by omega⟩;rw [hd];clear hd hn1;generalize p10=m at hn0 ⊢
  revert m
  refine xW _ _ 7 (fun n hn=>?_) (fun n hn=>?_) ?_
  ·simp only [sh];split<;>omega
  ·simp [VN,sh];rw [if_neg (by omega)];omega
  have hn2:8≤7+(d+1):=by omega
  generalize 7+(d+1)=m at hn2 ⊢
  revert m
  refine xW _ _ 8 (fun n hn=>?_) (fun n hn=>?_) ?_
  ·simp only [sh];split<;>omega
  ·simp [VN,sh];try omega
  unfold vH;decide +kernel
 rw [if_pos rfl,if_pos rfl];have n2:=(E.l (2,⟨11,[[iv 0,iv 0,.bool false,.jF,.jF,.bool false,.jF,.jF,.bool false,.jF,.jF]]⟩) (by simp)).2;have n3:=(E.l (3,⟨3,[[.bool false,.jF,.jF]]⟩) (by simp)).2;have E3:=(E.c.set (o:=2) (x:=some ⟨11,[[.int .i64 k.a,.int .i64 k.b,.bool (qj k l).neg,x1,x2,.bool (F6 k l).neg,x3,x4,.bool (KH k l).neg,x5,x6]]⟩) n2).set (o:=3) (x:=some ⟨3,[[.bool (PV k l).neg,x9,x10]]⟩) n3;exact aqM (c9:=[.bool (qj k l).neg,x1,x2,.bool (F6 k l).neg,x3,x4,.bool (KH k l).neg,x5,x6]) (d3:=[.bool (xR (mulR k.w l.w) (qj k l)).neg,x7,x8]) (e3:=[.bool (PV k l).neg,x9,x10]) (t9:=[.bool (qj k l).neg,ints (qj k l).mag,ints (qj k l).den,.bool (F6 k l).neg,ints (F6 k l).mag,ints (F6 k l).den,.bool (KH k l).neg,ints (KH k l).mag,ints (KH k l).den]) (u3:=[.bool (xR (mulR k.w l.w) (qj k l)).neg,ints (xR (mulR k.w l.w) (qj k l)).mag,ints (xR (mulR k.w l.w) (qj k l)).den]) (v3:=[.bool (PV k l).neg,ints (PV k l).mag,ints (PV k l).den]) E3.ow rfl rfl E3.nd
abbrev Gd:=Nat→Nat→Bool
def Cb(g:Gd)(i j:Nat)(b:Bool):Gd:=fun x y=>if x=i∧y=j then b else g x y
def gz:Gd:=fun _ _=>false
def kU(g:Gd):List V:=(List.range 100).map fun k=>.bool (g (k / 10) (k % 10))
theorem tK(g:Gd):(kU g).length=100:=by simp [kU]
theorem Ov(g:Gd):(kU g).all V.leaf=true:=by
 rw [aT];intro x hx;obtain⟨k,_,rfl⟩:=bG.1 hx;rfl
theorem U6{g:Gd}{i j:Nat}(hi:i<10)(hj:j<10):(kU g)[i*10+j]? = some (.bool (g i j)):=by
 rw [kU,bI,dS (by omega)];simp only [bQ];rw [show (i*10+j) / 10=i by omega,show (i*10+j) % 10=j by omega]
theorem af9{g:Gd}{i j:Nat}{b:Bool}(hj:j<10):(kU g).set (i*10+j) (.bool b)=kU (Cb g i j b):=by
 apply dX
 intro n;rw [dP];simp only [kU,bI,aX,jE];by_cases hn:n<100
 ·rw [dS hn];by_cases e:i*10+j=n
  ·rw [if_pos e,if_pos (by omega)];simp only [bQ,Cb];rw [if_pos (by omega)]
  rw [if_neg e];simp only [bQ,Cb];rw [if_neg (by omega)]
 rw [aW (by simp;omega)];split
 ·split
  ·omega
  rfl
 rfl
theorem aga{g:Gd}{i j:Nat}{b:Bool}(hi:i<10)(hj:j<10):List.take (i*10+j) (kU g)++.bool b::List.drop (i*10+j+1) (kU g)=kU (Cb g i j b):=by
 rw [←af9 hj,List.set_eq_take_append_cons_drop,if_pos (by rw [tK];omega)]
theorem IZ{g:Gd}{i j:Nat}{b:Bool}(hi:i<10)(hj:j<10):List.take (i*10+j*1) (kU g)++[.bool b]++List.drop (i*10+j*1+1) (kU g)=kU (Cb g i j b):=by
 rw [Nat.mul_one,bT,List.singleton_append];exact aga hi hj
theorem Q5{g:Gd}{i j:Nat}(hi:i<10)(hj:j<10):(kU g)[i*10+j*1]? = some (.bool (g i j)):=by
 rw [Nat.mul_one];exact U6 hi hj
theorem acS(g:Gd):List.take 100 (kU g)=kU g:=bg (by rw [tK];omega)
theorem acU(g:Gd):List.drop 100 (kU g)=[]:=dH (by rw [tK];omega)
theorem YF:kU gz=List.replicate 100 (.bool false):=by
 unfold kU gz;rw [List.map_const',jE]
theorem qR(g:Gd):l9 [kU g]:=by
 intro r hr v hv;rw [aV.1 hr]at hv;obtain⟨k,_,rfl⟩:=bG.1 hv;rfl
theorem RZ{σ:Store}:∀{l:List V},(∀v∈l,v.still=true)→SB σ l=some l
 | [],_=>rfl
 |v::l,h=>by rw [ahx,MC (n:=10) (h v (by simp)),RZ fun w hw=>h w (by simp [hw])]
theorem acW(g:Gd)(σ:Store):SB σ (kU g)=some (kU g):=RZ (qR g _ (by simp))
theorem YG(g:Gd)(σ:Store):NY σ (kU g)=[]:=by
 unfold NY;rw [jk];intro v hv;exact Af (qR g _ (by simp) v hv)
theorem Si{σ:Store}{n:Nat}:∀{l:List V},(∀v∈l,v.still=true)→l.mapM (resolve σ (n+1))=some l
 | [],_=>rfl
 |
  v::l,h=>by
  rw [bF,MC (h v (by simp)),Si fun w hw=>h w (by simp [hw])];rfl
theorem agb(g:Gd)(σ:Store)(n:Nat):resolve σ (n+2) (.agg (kU g))=some (.agg (kU g)):=by
 rw [resolve,Si (qR g _ (by simp))];rfl
theorem aaL(g:Gd)(σ:Store)(n:Nat):reach σ (n+2) (.agg (kU g))=[]:=by
 rw [reach,jk];intro v hv;exact Af (qR g _ (by simp) v hv)
theorem Hr(g:Gd):(List.take 100 (kU g)=kU g∧List.drop 100 (kU g)=[])∧((kU g).length=100∧(kU g).all V.leaf=true)∧((∀σ,SB σ (kU g)=some (kU g))∧∀σ,NY σ (kU g)=[])∧((∀σ,resolve σ 11 (.agg (kU g))=some (.agg (kU g)))∧∀σ,reach σ 11 (.agg (kU g))=[]) :=
 ⟨⟨acS g,acU g⟩,⟨tK g,Ov g⟩,⟨acW g,YG g⟩,fun σ=>agb g σ 9,fun σ=>aaL g σ 9⟩
def grow(g:Gd)(a:Nat):List (List V):=(List.range 10).map fun j=>[.bool (g a j)]
theorem ai0{g:Gd}{a j:Nat}{b:Bool}:(grow g a).set j [.bool b]=grow (Cb g a j b) a:=by
 apply dX
 intro n;rw [dP];simp only [grow,bI,aX,jE];by_cases hn:n<10
 ·rw [dS hn];by_cases e:j=n
  ·rw [if_pos e,if_pos (by omega)];simp only [bQ,Cb];rw [if_pos (by simp [e])]
  rw [if_neg e];simp only [bQ,Cb];rw [if_neg (by omega)]
 rw [aW (by simp;omega)];split
 ·split
  ·omega
  rfl
 rfl
theorem am2{g:Gd}{a c j:Nat}{b:Bool}(h:c≠a):grow (Cb g a j b) c=grow g c:=by
 unfold grow Cb
 apply iq
 intro k _;rw [if_neg (by omega)]
def onR(b:Nat):List (List V):=(List.range 10).map fun i=>[.kQ (b+i) 0 10]
def gst(g:Gd):Store:=some ⟨1,[[.kQ 1 0 10]]⟩::some ⟨1,onR 2⟩::(List.range 10).map fun a=>some ⟨1,grow g a⟩
theorem aek(g:Gd):(gst g).length=12:=by simp [gst]
structure Il (s:Store) (b:Nat) (g:Gd):Prop where
 p:iZ s b=some ⟨1,[[.kQ (b+1) 0 10]]⟩
 on:iZ s (b+1)=some ⟨1,onR (b+2)⟩
 row:∀a,a<10→iZ s (b+2+a)=some ⟨1,grow g a⟩
theorem am3{g:Gd}{a:Nat}(ha:a<10):iZ (gst g) (2+a)=some ⟨1,grow g a⟩:=by
 rw [Nat.add_comm];show ((List.range 10).map fun a=>some (⟨1,grow g a⟩:Obj))[a]?.getD none=_;rw [bI,dS ha];rfl
theorem Il.lt{s:Store}{b:Nat}{g:Gd}(h:Il s b g):b+12≤s.length:=by
 have:=kD (h.row 9 (by omega));omega
theorem Il.frame{s s2:Store}{b:Nat}{g:Gd}(h:Il s b g)(hs:∀q,b≤q→q<b+12→iZ s2 q=iZ s q):Il s2 b g :=
 ⟨(hs _ (by omega) (by omega)).trans h.p,(hs _ (by omega) (by omega)).trans h.on,fun a ha=>(hs _ (by omega) (by omega)).trans (h.row a ha)⟩
theorem Il.set{s:Store}{b:Nat}{g:Gd}(h:Il s b g){i j:Nat}{x:Bool}(hi:i<10)(hj:j<10):Il (s.set (b+2+i) (some ⟨1,(grow g i).set j [.bool x]⟩)) b (Cb g i j x):=by
 have hl:=h.lt;refine⟨(jM (by omega)).trans h.p,(jM (by omega)).trans h.on,fun a ha=>?_⟩;by_cases e:a=i
 ·subst e;rw [kF (by omega),ai0]
 rw [jM (by omega),h.row a ha,am2 e]
theorem acZ{f:Nat→Option Nat}{v:V}(h:v.still=true):kH f v=v:=by
 cases v<;>simp_all [V.still,kH]
theorem am4{ρ:Nat→Option Nat}{b b':Nat}(h:∀i,i<10→ρ (b+i)=some (b'+i)):oQ ρ ⟨1,onR b⟩=⟨1,onR b'⟩:=by
 unfold oQ onR
 congr 1
 rw [gu]
 apply iq
 intro i hi;simp [kH,h i (fP.1 hi)]
theorem agc(f:Nat→Option Nat)(g:Gd)(a:Nat):oQ f ⟨1,grow g a⟩=⟨1,grow g a⟩:=by
 unfold oQ
 congr 1
theorem MQ{T:Tb}{f:Nat}{as:List Src}{dst:Option Nat}{env:Nat→V}{σ:Store}{kp bs:Nat}{rs ms:List Nat}{k:St→Prop}{as':List V}{r:V}{σ':Store}
  (h:Run T (.fn f as' []) (.fn r σ')) (ha:IJ env σ as (· = as')) (hr:lX env σ as=[]) (hk:k ⟨nG env dst (kH (lG σ.length) r),yH σ σ',kp,bs,rs,ms⟩):KX T f as dst ⟨env,σ,kp,bs,rs,ms⟩ k:=by
 obtain⟨as2,e,rfl⟩:=yh ha;exact⟨_,.own e h (R:=[]) (by split;rfl;exact hr.symm),hk⟩
theorem Sj{b j:Nat}:∀n,j<n→place ((List.range n).map (b + ·)) (b+j)=some j:=by
 intro n hj;have h1:((List.range n).map (b + ·))[j]? = some (b+j):=by rw [bI,dS hj];rfl
 have h2:((List.range n).map (b + ·)).Nodup:=by
  refine fQ.2 (List.nodup_range.imp fun hne e=>hne (by omega))
 exact Me h2 h1
def g12(b:Nat):List Nat:=(List.range 12).map (b + ·)
theorem agd(g:Gd):gst g=(List.range 12).map fun j=>iZ (gst g) j:=by
 apply dX
 intro n;rw [bI];by_cases h:n<12
 ·rw [dS h];simp only [bQ,iZ];rw [au (by rw [aek];exact h)];rfl
 rw [aW (by rw [aek];omega),aW (by simp;omega)];rfl
theorem ai1{ρ:Nat→Option Nat}{o o':Nat}(h:ρ o=some o'){s l:Nat}:oQ ρ ⟨1,[[.kQ o s l]]⟩=⟨1,[[.kQ o' s l]]⟩:=by
 simp [oQ,kH,h]
theorem Il.gc{s:Store}{b:Nat}{g:Gd}(h:Il s b g):Fv (g12 b) s=gst g:=by
 rw [agd g];unfold Fv;rw [g12,gu]
 apply iq
 intro j hj;have hj:=fP.1 hj;show (iZ s (b+j)).map (oQ (place ((List.range 12).map (b + ·))))=iZ (gst g) j;by_cases h0:j=0
 ·subst h0;rw [gq,h.p];exact congrArg some (ai1 (Sj 12 (by omega:1<12)))
 by_cases h1:j=1
 ·subst h1;rw [h.on];refine congrArg some (am4 fun i hi=>?_);rw [show b+2+i=b+(2+i) by omega];exact Sj 12 (by omega)
 obtain⟨a,rfl⟩:∃a,j=2+a:=⟨j-2,by omega⟩;rw [←iG,h.row a (by omega),am3 (by omega)];exact congrArg some (agc _ _ _)
theorem mapM_some{α β:Type}{f:α→Option β}{h:α→β}:∀{l:List α},(∀a∈l,f a=some (h a))→l.mapM f=some (l.map h)
 | [],_=>rfl
 |
  a::l,k=>by
  rw [bF,k a (by simp),mapM_some fun x hx=>k x (by simp [hx])];rfl
theorem LG{s:Store}{o n m:Nat}{rows:List (List V)}(h:iZ s o=some ⟨m,rows⟩)(hs:l9 rows):resolve s (n+2) (.kQ o 0 rows.length)=some (.sl m rows):=by
 rw [resolve];simp only [h,aQ,aJ,if_true,bY,bM];rw [vJ hs];rfl
end Go.Ml
namespace Go.Ml
def BA:Fn:=⟨2,77,[.tmp 4,.cell 5 3 true,.tmp 6],(.seq (rf 2 [oN 3 (.box (.t 1)),oK 4 2 mN,oK 5 1 (.alloc vN),oK 6 2 mF]) (sr [oN 7 (.oO (cI 0))] (.seq (.block 0 (.loop (.seq (.seq (rt 0 [oW 12 7,oW 13 0,oA 14 0 (ln 13) [1],oA 15 0 (bt .lss 12 14) [0,2],oA 16 0 (oV 15) [3],oH 16 true 17 0 (oV 0) [4],oH 16 true 18 0 (oV 7) [4],oH 16 true 19 0 (ix 11 17 18) [5,6,4],oH 16 true 20 0 (lT 11 19) [7,4],oH 16 true 21 0 (lT 11 3) [4],oH 16 true 22 0 (cl 111 [20,21]) [8,9,4,4],oA 23 0 (.pick (.t 16) (.t 22) (.c (.bool false))) [4,10]]) (cd 23 .skip (.exit 0))) (.block 1 (rg [oW 24 7,oN 25 (bc .add 24 1),oW 7 25]))))) (.seq (rf 2 [oN 26 (.oI 11 J7 0 []),oK 27 2 (oV 0),oK 28 2 (oV 7),oK 29 2 (.slice 11 (.t 27) none (some (.t 28))),oK 30 1 (.app 11 184 (.t 26) (.t 29)),oK 8 2 (oV 30)]) (.seq (.seq (rt 0 [oW 31 7,oW 32 0,oA 33 0 (ln 32) [1],oA 34 0 (bt .eql 31 33) [0,2],oA 35 0 (oV 34) [3],oH 35 false 36 0 (lT 11 3) [4],oH 35 false 37 0 (oV 0) [4],oH 35 false 38 0 (oV 7) [4],oH 35 false 39 0 (ix 11 37 38) [6,7,4],oH 35 false 40 0 (lT 11 39) [8,4],oH 35 false 41 0 (cl 111 [36,40]) [5,9,4,4],oA 42 0 (.pick (.t 35) (.c (.bool true)) (.t 41)) [4,10]]) (cd 42 (.seq (rf 2 [oK 43 2 (oV 8),oK 44 2 (lT 11 3),oN 45 (.oI 11 J7 1 [(0,(.t 44))]),oK 46 1 (.app 11 184 (.t 43) (.t 45)),oK 8 2 (oV 46)]) (.seq (rf 1 [oK 47 1 (oV 8),oK 48 1 (oV 0),oK 49 1 (oV 7),oK 50 1 (.slice 11 (.t 48) (some (.t 49)) none),oN 51 (.app 11 184 (.t 47) (.t 50)),oK 52 1 (.call 39 [(cI 0)]),oK 4 1 (oV 51),⟨none,none,1,.store 3 (.t 5) (.t 52),[]⟩,oK 6 1 mT]) .ret)) .skip)) (.seq (rt 2 [oK 54 2 (oV 0),oK 55 2 (oV 7),oA 56 2 (ix 11 54 55) [0,1],oA 57 2 (lT 11 56) [2],oK 58 2 (lT 11 3),oA 59 2 (cl 140 [57,58]) [3,4],oA 53 2 (oV 59) [5],oA 60 2 (ex 0 53) [6],oA 61 2 (ex 1 53) [6],oA 62 2 (ex 2 53) [6],oN 9 (.alloc J7),oK 10 1 (.alloc vN),⟨none,none,2,.store 11 (.t 9) (.t 60),[10,7,5,0,1,2,3,4,5,6,7,10,11]⟩,⟨none,none,2,.store 3 (.t 10) (.t 61),[11,8,12,0,1,2,3,4,5,6,7,8,10,11,12]⟩,oA 11 2 (oV 62) [9,13,0,1,2,3,4,5,6,7,8,9,10,11,12,13]]) (.seq (sr [oW 63 11,oN 64 (nt 63)] (cd 64 (sr [oN 65 (.build vN []),oN 4 mN,oS (.store 3 (.t 5) (.t 65)),oN 6 mF] .ret) .skip)) (.seq (rf 2 [oK 66 2 (oV 8),oK 67 2 (lT 11 9),oN 68 (.oI 11 J7 1 [(0,(.t 67))]),oK 69 1 (.app 11 184 (.t 66) (.t 68)),oK 8 2 (oV 69)]) (.seq (rt 1 [oK 70 1 (oV 8),oK 71 1 (oV 0),oK 72 1 (oV 7),oA 73 1 (bc .add 72 1) [2],oA 74 1 (.slice 11 (.t 71) (some (.t 73)) none) [1,3],oA 75 0 (.app 11 184 (.t 70) (.t 74)) [0,4],oK 76 1 (lT 3 10),oA 4 1 (oV 75) [5,5,0,1,2,3,4,5],⟨none,none,1,.store 3 (.t 5) (.t 76),[6,7,0,1,2,3,4,5,6,7]⟩,oA 6 1 mT [8,0,1,2,3,4,5,6,7,8]]) .ret)))))))))⟩
structure Gy (T:Tb):Prop where
 hT:T 130=some BA
 kJ:mO T
 wu:vZ T
 Hu:Bz T
def GY(l:Lk):List Lk→Nat
 | []=>0
 |x::xs=>if kM x l=true then GY l xs+1 else 0
theorem JG(l:Lk):∀s:List Lk,GY l s≤s.length
 | []=>aJ _
 |
  x::xs=>by
  have:=JG l xs;unfold GY;split<;>simp<;>omega
theorem ael{l:Lk}:∀{s:List Lk} {i:Nat},i≤GY l s→i<s.length→kM (s.getD i default) l=decide (i<GY l s)
 | [],i,_,h=>absurd h (gG _)
 |
  x::xs,0,h,_=>by
  unfold GY
  cases hx:kM x l
  ·simp [hx]
  simp [hx]
 |
  x::xs,i+1,h,hi=>by
  unfold GY at h ⊢;split at h
  ·rename_i hx;have:=ael (s:=xs) (i:=i) (l:=l) (by omega) (by simpa using hi);rw [List.getD_cons_succ,this,if_pos hx];simp
  omega
def Ox(s:List Lk)(l:Lk):Option (List Lk×R) :=
 let i:=GY l s
 if i=s.length∨kM l (s.getD i default)=true then some (s.take i++l::s.drop i,ku 0)
 else if QZ (s.getD i default) l=true then some (s.take i++RY (s.getD i default) l::s.drop (i+1),PV (s.getD i default) l)else none
def SL(s:List Lk)(l:Lk):Bool:=kN s&&nD l&&(Ox s l).isSome
def adV(s:List Lk)(l:Lk):List Lk:=if kN s=true∧nD l=true then((Ox s l).map (·.1)).getD []else []
def adE(s:List Lk)(l:Lk):R:=if kN s=true∧nD l=true then((Ox s l).map (·.2)).getD R0 else R0
theorem aqP{s:List Lk}{l:Lk}(h:¬(kN s=true∧nD l=true)):adV s l=[]∧adE s l=R0∧SL s l=false:=by
 refine⟨if_neg h,if_neg h,?_⟩;unfold SL
 cases h1:kN s
 ·rfl
 cases h2:nD l
 ·rfl
 exact absurd ⟨h1,h2⟩ h
theorem JH{s:List Lk}{l:Lk}(h1:kN s=true)(h2:nD l=true):adV s l=((Ox s l).map (·.1)).getD []∧adE s l=((Ox s l).map (·.2)).getD R0∧SL s l=(Ox s l).isSome :=
 ⟨if_pos ⟨h1,h2⟩,if_pos ⟨h1,h2⟩,by unfold SL;rw [h1,h2];rfl⟩
theorem aem:lU (.nJ [oP [],kC R0,.bool false]) (.nJ [.jF,.agg [.bool false,.jF,.jF],.bool false]):=by
 simp only [lU,uJ];exact⟨_,rfl,_,_,rfl,.inl ⟨rfl,.inl rfl⟩,_,_,rfl,uX,_,_,rfl,rfl,rfl⟩
theorem Tv{σ:Store}{p n:Nat}{L:List Lk}(h:iZ σ p=some ⟨11,L.map Lk.cells⟩)(hn:n=L.length):resolve σ FD (.kQ p 0 n)=some (oP L):=by
 have:=LG (n:=10) h (J6 L);rw [aX]at this;rw [hn];exact this
theorem XA(env:Nat→V)(n:Nat)(x:Src)(lo hi:Option Src):I.reads env (.slice n x lo hi)=ql (x.ev env):=by simp [I.reads,I.vG]
theorem XB{σ:Store}{v u e t:V}{b:Bool}{os:List Nat}(hr:resolve σ FD v=some u)(h:lC σ e t os)(hn:os.Nodup):acB σ (.nJ [v,e,.bool b]) [(false,u),(true,t),(false,.bool b)]:=by
 refine⟨[v,e,.bool b],os,jP _,?_,hn⟩;simp only [Tf,if_true,bn,if_false];exact⟨v,[e,.bool b],[],os,rfl,rfl,⟨hr,rfl⟩,e,[.bool b],os,[],rfl,by simp,h,.bool b,[],[],[],rfl,rfl,⟨rfl,rfl⟩,rfl,rfl⟩
theorem YH{σ:Store}:acB σ (.nJ [.jF,.agg [.bool false,.jF,.jF],.bool false]) [(false,oP []),(true,kC R0),(false,.bool false)]:=by
 refine⟨[.sl 11 [],kC R0,.bool false],[],?_,?_,.nil⟩
 ·exact aem
 simp only [Tf,if_true,bn,if_false];refine⟨_,_,[],[],rfl,rfl,⟨rfl,rfl⟩,_,_,[],[],rfl,rfl,?_,_,[],[],[],rfl,rfl,⟨rfl,rfl⟩,rfl,rfl⟩;exact nY (nI (nP (o1:=[]) kX (nP (o1:=[]) kX nC)))
theorem YI{σ:Store}{p n:Nat}{A B:List Lk}{m:Lk}{y:R}{c3 c4 c6 c7 c9 c10 e1 e2:V}{os:List Nat}(C:Cs σ [iv m.a,iv m.b,.bool m.w.neg,c3,c4,.bool m.dx.neg,c6,c7,.bool m.dy.neg,c9,c10,.bool y.neg,e1,e2] (m.cells++y.cells) os)
  (h:iZ σ p=some ⟨11,A.map Lk.cells++([iv m.a,iv m.b,.bool m.w.neg,c3,c4,.bool m.dx.neg,c6,c7,.bool m.dy.neg,c9,c10]::B.map Lk.cells)⟩) (hn:n=A.length+(B.length+1)) :
  acB σ (.nJ [.kQ p 0 n,.agg [.bool y.neg,e1,e2],.bool true]) [(false,oP (A++m::B)),(true,kC y),(false,.bool true)]:=by
 obtain⟨a1,a2,o1,o2,e,rfl,k1,k2⟩:=oq C.ow;obtain⟨rfl,rfl⟩:=eu (show [iv m.a,iv m.b,.bool m.w.neg,c3,c4,.bool m.dx.neg,c6,c7,.bool m.dy.neg,c9,c10]++[.bool y.neg,e1,e2]=a1++a2 from e) k1.len.symm;have nd:=(aZ.1 C.nd);refine XB ?_ (nY k2) nd.2.1;have hm:resolve σ 12 (.agg [iv m.a,iv m.b,.bool m.w.neg,c3,c4,.bool m.dx.neg,c6,c7,.bool m.dy.neg,c9,c10])=some (.agg m.cells):=Ii 12 (nY k1) (aqI 9 m);rw [resolve]at hm;have hr:[iv m.a,iv m.b,.bool m.w.neg,c3,c4,.bool m.dx.neg,c6,c7,.bool m.dy.neg,c9,c10].mapM (resolve σ 11)=some m.cells:=by
  obtain⟨w,hw,e⟩:=aI.1 hm;rw [hw];exact congrArg some (V.agg.inj e)
 show resolve σ (11+1) _=_;rw [resolve];have hl:(A.map Lk.cells++([iv m.a,iv m.b,.bool m.w.neg,c3,c4,.bool m.dx.neg,c6,c7,.bool m.dy.neg,c9,c10]::B.map Lk.cells)).length=n:=by simp;omega
 simp only [h,aQ,hl,aJ,if_true,bY];rw [bg (by omega),List.mapM_append,bF,hr,vJ (J6 A),vJ (J6 B)];simp
def adT(s:List Lk)(l:Lk):List (Bool×V):=[(false,oP (((Ox s l).map (·.1)).getD [])),(true,kC (((Ox s l).map (·.2)).getD R0)),(false,.bool (Ox s l).isSome)]
theorem ac0{T:Tb}(h:Gy T){S:List Lk}{l:Lk}(hw:IQ Lk.wf S)(h1:kN S=true)(h2:nD l=true)(hz:S.length≤1048576):PX T 130 [oP S,V4 l] (adT S l):=by
 unfold adT;have hpl:=JG l S;refine PD (fun x d=>(x == 39&&d == 52)||(x == 140&&d == 59)) h.hT ?_;simp only [BA,Lz,St.enter,ak,aC,aQ];refine ew ?_;refine jX (fun x d=>(x == 39&&d == 52)||(x == 140&&d == 59)) (α:=Nat) (fun i=>⟨lS [oP S,.any,.any,.ptr 0 0 0,.any,.ptr 1 0 0,.any,iv (i:Nat)],[some ⟨11,[l.cells]⟩,some ⟨3,[[.bool false,.jF,.jF]]⟩],0,0,[],[]⟩) (fun i=>i≤GY l S) (fun i=>GY l S-i) rfl 0 ?_ ?_ ?_
 ·omega
 ·(refine jS ?_;exact zV)
 intro i hi;have hT:∀k,List.take k (S.map Lk.cells)=(S.take k).map Lk.cells:=fun k=>List.map_take.symm;have hD:∀k,List.drop k (S.map Lk.cells)=(S.drop k).map Lk.cells:=fun k=>List.map_drop.symm;have hap:(∀A,A.map Lk.cells++[l.cells]=(A++[l]).map Lk.cells)∧∀A B:List Lk,A.map Lk.cells++B.map Lk.cells=(A++B).map Lk.cells:=⟨fun A=>by simp,fun A B=>by simp⟩;have hl2:(List.take i S).length≤1048576:=by rw [fK];omega
 have hl1:(List.drop i S).length≤1048576:=by rw [jq];omega
 have hnT:i=0→(List.map Lk.cells (List.take i S)=[])=True:=fun h0=>eq_true (by rw [h0];rfl);have hnF:0<i→(List.map Lk.cells (List.take i S)=[])=False:=fun h0=>eq_false (by intro e;have:=congrArg List.length e;rw [aX,fK]at this;have h9:([]:List (List V)).length=0:=rfl;omega);by_cases hc:(i:Int)<(S.length:Nat)
 ·have hil:i<S.length:=by omega
  have hne:¬(i:Int)=(S.length:Nat):=by omega
  have hpa:=ael hi hil;have hrow:=mg (f:=Lk.cells) hil;have hdF:(List.map Lk.cells (List.drop i S)=[])=False:=eq_false (by intro e;have:=congrArg List.length e;rw [aX,jq]at this;have h9:([]:List (List V)).length=0:=rfl;omega);generalize hx:S.getD i default=x at hpa hrow;have cl1:=Ik h.wu (k:=x) (l:=l);rw [hpa]at cl1;refine Aq @hc @hrow ?_;refine jl cl1 ?_;by_cases hip:i<GY l S
  ·rw [decide_eq_true hip];refine ew ?_;exact⟨i+1,by omega,by omega,by (refine jS ?_;exact zV)⟩
  rw [decide_eq_false hip];have hie:i=GY l S:=by omega
  have cl2:=Ik h.wu (k:=l) (l:=x);have avp:kM l x=true→Ox S l=some (S.take i++l::S.drop i,ku 0):=fun h=>by
   unfold Ox;dsimp only;rw [←hie,hx];exact if_pos (.inr h)
  rcases iH i with h0|h0
  ·have hn:=hnT h0;refine NC @hc @hrow @hT @hn @hne ?_;refine jl cl2 ?_
   cases hlx:kM l x
   ·refine NC @hc @hrow @hT @hn @hne ?_;have hxo:nD x=true:=hx▸xY h1 hil;have hab:x.a=l.a∧x.b=l.b:=by
     rw [decide_eq_false hip]at hpa;unfold kM at hpa hlx;simp at hpa hlx;omega
    have aqQ:Ox S l=if QZ x l=true then some (S.take i++RY x l::S.drop (i+1),PV x l)else none:=by
     unfold Ox;dsimp only;rw [←hie,hx,if_neg (by rw [hlx];simp;omega)]
    rw [aqQ];have po:=NG h.Hu (JC hxo) (JC h2);refine pV po (by (refine ew ?_;try with_reducible exact True.intro)) (by (refine ew ?_;try with_reducible exact True.intro)) ?_
    cases hg:QZ x l
    ·intro r q os G;obtain⟨c3,c4,c6,c7,c9,c10,e1,e2,rfl,hO⟩:=G.aej;rw [if_neg (by decide),if_neg (by decide)]at hO ⊢;have L3:=hO.leaf (by rfl);simp only [dU,iP,iI,aG]at L3;have gl:6≤q.length:=by have:=G.len;simp at this;omega
     have O0:=(G.old 1 (by simp)).trans rfl;refine Aq @L3 @O0 ?_;refine⟨by unfold vH;decide +kernel,?_⟩;exact .inl YH
    intro r q os G;obtain⟨c3,c4,c6,c7,c9,c10,e1,e2,rfl,hO⟩:=G.aej;rw [if_pos rfl,if_pos rfl]at hO ⊢;have L3:=hO.leaf (by rfl);simp only [dU,iP,iI,aG]at L3;have gl:6≤q.length:=by have:=G.len;simp at this;omega
    have O0:=(G.old 1 (by simp)).trans rfl;refine Aq @L3 @O0 ?_;refine⟨by unfold vH;decide +kernel,?_⟩;have hl3:(List.drop (i+1) S).length≤1048576:=by rw [jq];omega
    have hln:(List.drop (i+1) S).length=S.length-(i+1):=by rw [jq]
    have hb1:((i:Int)+1≤(S.length:Nat))=True:=eq_true (by omega);have hb0:(0≤(i:Int)+1)=True:=eq_true (by omega);have ht1:((i:Int)+1).toNat=i+1:=by omega
    have TD:=ah @XA (ah (ah hT hD) (ah hb1 (ah hb0 ht1)));have hti:(List.take i S).length=i:=by rw [fK];omega
    by_cases hde:List.map Lk.cells (List.drop (i+1) S)=[]
    ·have hdz:(List.drop (i+1) S).length=0:=by have:=congrArg List.length hde;rw [aX]at this;exact this
     refine Fj @hde @O0 @TD ?_;refine⟨by (try simp only [aO,aX,ak,aC]);omega,?_⟩;refine Fj @hde @O0 @TD ?_;rw [if_pos (by rw [L3.2.2.2.2.2.2.2.2.2.2.2.2.1,L3.2.2.2.2.2.2.2.2.2.2.2.2.2];rfl)];refine⟨?_,?_⟩
     ·have hn0:6≤List.length q:=gl;generalize List.length q=m at hn0 ⊢
      revert m
      refine xW _ _ 6 (fun n hn=>?_) (fun n hn=>?_) ?_
      ·simp only [sh];split<;>omega
      ·simp [VN,sh];try omega
      unfold vH;decide +kernel
     have hlt:=hO.lt;have hfr:=G.fresh;refine .inl (YI (A:=S.take i) (B:=S.drop (i+1)) (Cs.frame (⟨hO,G.nd⟩:Cs q _ _ os) fun o ho=>?_) ?_ ?_)
     ·have k1:=hlt o ho;have k2:=hfr o ho;simp only [ak,aC]at k2;simp (disch:=first|omega|(simp;done)|(simp;omega)) only [jM,jU]
     ·simp (disch:=first|omega|(simp;done)|(simp;omega)) only [jM,kF,jU];rw [show List.map Lk.cells (List.take i S)=[]from of_eq_true hn];first|rfl|(rw [hde];rfl)|simp
     (try simp only [aO,aX,ak,aC]);omega
    refine Fj @hde @O0 @TD ?_;refine⟨by (try simp only [aO,aX,ak,aC]);omega,?_⟩;refine Fj @hde @O0 @TD ?_;refine⟨by (try simp only [aO,aX,ak,aC]);omega,?_⟩;rw [if_pos (by rw [L3.2.2.2.2.2.2.2.2.2.2.2.2.1,L3.2.2.2.2.2.2.2.2.2.2.2.2.2];rfl)];refine⟨?_,?_⟩
    ·have hn0:6≤List.length q:=gl;generalize List.length q=m at hn0 ⊢
     revert m
     refine xW _ _ 6 (fun n hn=>?_) (fun n hn=>?_) ?_
     ·simp only [sh];split<;>omega
     ·simp [VN,sh];try omega
     unfold vH;decide +kernel
    have hlt:=hO.lt;have hfr:=G.fresh;refine .inl (YI (A:=S.take i) (B:=S.drop (i+1)) (Cs.frame (⟨hO,G.nd⟩:Cs q _ _ os) fun o ho=>?_) ?_ ?_)
    ·have k1:=hlt o ho;have k2:=hfr o ho;simp only [ak,aC]at k2;simp (disch:=first|omega|(simp;done)|(simp;omega)) only [jM,jU]
    ·simp (disch:=first|omega|(simp;done)|(simp;omega)) only [jM,kF,jU];rw [show List.map Lk.cells (List.take i S)=[]from of_eq_true hn];first|rfl|(rw [hde];rfl)|simp
    (try simp only [aO,aX,ak,aC]);omega
   rw [avp hlx];refine CV @hrow @hT @hD @hn @hdF @hap ?_;refine⟨by omega,by omega,?_⟩;refine og (qI h.kJ (n:=0)) (by (refine ew ?_;try with_reducible exact True.intro)) ?_;intro r q os G;have gl:7≤q.length:=by have:=G.len;simp at this;omega
   have hop:iZ q 6=some ⟨11,l.cells::List.map Lk.cells (List.drop i S)⟩:=(G.old 6 (by simp)).trans rfl;have ho1:=(G.old 1 (by simp)).trans rfl;have n1:1∉os:=fun hm=>by have:=G.fresh 1 hm;simp at this
   obtain⟨_,rfl,hQ⟩:=G.ow.kP;obtain⟨y1,y2,rfl⟩:=hQ.rat
   have E:Ep q [.bool (ku 0).neg,y1,y2] [.bool (ku 0).neg,ints (ku 0).mag,ints (ku 0).den] os []:=⟨⟨hQ,G.nd⟩,by simp⟩;have LF:=ah (E.leaf 1 rfl rfl) (E.leaf 2 rfl rfl);have C:=E.c.set (o:=1) (x:=some ⟨3,[[.bool (ku 0).neg,y1,y2]]⟩) n1;refine Aq @LF @ho1 ?_;refine .inl (XB (Tv (L:=S.take i++l::S.drop i) ?_ ?_) (nY C.ow) C.nd)
   ·rw [jM (by decide)];refine hop.trans ?_;rw [h0];simp
   rw [h0];simp;omega
  have hn:=hnF h0;refine NC @hc @hrow @hT @hn @hne ?_;refine CV @hrow @hT @hD @hn @hdF @hap ?_;refine⟨by omega,?_⟩;refine jl cl2 ?_
  cases hlx:kM l x
  ·refine y9 @hrow ?_;have hxo:nD x=true:=hx▸xY h1 hil;have hab:x.a=l.a∧x.b=l.b:=by
    rw [decide_eq_false hip]at hpa;unfold kM at hpa hlx;simp at hpa hlx;omega
   have aqQ:Ox S l=if QZ x l=true then some (S.take i++RY x l::S.drop (i+1),PV x l)else none:=by
    unfold Ox;dsimp only;rw [←hie,hx,if_neg (by rw [hlx];simp;omega)]
   rw [aqQ];have po:=NG h.Hu (JC hxo) (JC h2);refine pV po (by (refine ew ?_;try with_reducible exact True.intro)) (by (refine ew ?_;try with_reducible exact True.intro)) ?_
   cases hg:QZ x l
   ·intro r q os G;obtain⟨c3,c4,c6,c7,c9,c10,e1,e2,rfl,hO⟩:=G.aej;rw [if_neg (by decide),if_neg (by decide)]at hO ⊢;have L3:=hO.leaf (by rfl);simp only [dU,iP,iI,aG]at L3;have gl:6≤q.length:=by have:=G.len;simp at this;omega
    have O0:=(G.old 1 (by simp)).trans rfl;have O3:iZ q 3=some ⟨11,List.map Lk.cells (List.take i S)⟩:=(G.old 3 (by simp)).trans rfl;refine Aq @L3 @O0 ?_;refine⟨by unfold vH;decide +kernel,?_⟩;exact .inl YH
   intro r q os G;obtain⟨c3,c4,c6,c7,c9,c10,e1,e2,rfl,hO⟩:=G.aej;rw [if_pos rfl,if_pos rfl]at hO ⊢;have L3:=hO.leaf (by rfl);simp only [dU,iP,iI,aG]at L3;have gl:6≤q.length:=by have:=G.len;simp at this;omega
   have O0:=(G.old 1 (by simp)).trans rfl;have O3:iZ q 3=some ⟨11,List.map Lk.cells (List.take i S)⟩:=(G.old 3 (by simp)).trans rfl;refine Aq @L3 @O0 ?_;refine⟨by unfold vH;decide +kernel,?_⟩;have hl3:(List.drop (i+1) S).length≤1048576:=by rw [jq];omega
   have hln:(List.drop (i+1) S).length=S.length-(i+1):=by rw [jq]
   have hb1:((i:Int)+1≤(S.length:Nat))=True:=eq_true (by omega);have hb0:(0≤(i:Int)+1)=True:=eq_true (by omega);have ht1:((i:Int)+1).toNat=i+1:=by omega
   have TD:=ah @XA (ah (ah hT hD) (ah hb1 (ah hb0 ht1)));have hti:(List.take i S).length=i:=by rw [fK];omega
   by_cases hde:List.map Lk.cells (List.drop (i+1) S)=[]
   ·have hdz:(List.drop (i+1) S).length=0:=by have:=congrArg List.length hde;rw [aX]at this;exact this
    refine Fj @hde ((ah O0 O3)) @TD ?_;refine⟨by (try simp only [aO,aX,ak,aC]);omega,?_⟩;refine Fj @hde ((ah O0 O3)) @TD ?_;rw [if_pos (by rw [L3.2.2.2.2.2.2.2.2.2.2.2.2.1,L3.2.2.2.2.2.2.2.2.2.2.2.2.2];rfl)];refine⟨?_,?_⟩
    ·have hn0:6≤List.length q:=gl;generalize List.length q=m at hn0 ⊢
     revert m
     refine xW _ _ 6 (fun n hn=>?_) (fun n hn=>?_) ?_
     ·simp only [sh];split<;>omega
     ·simp [VN,sh];try omega
     unfold vH;decide +kernel
    have hlt:=hO.lt;have hfr:=G.fresh;refine .inl (YI (A:=S.take i) (B:=S.drop (i+1)) (Cs.frame (⟨hO,G.nd⟩:Cs q _ _ os) fun o ho=>?_) ?_ ?_)
    ·have k1:=hlt o ho;have k2:=hfr o ho;simp only [ak,aC]at k2;simp (disch:=first|omega|(simp;done)|(simp;omega)) only [jM,jU]
    ·simp (disch:=first|omega|(simp;done)|(simp;omega)) only [jM,kF,jU]
     first|rfl|(rw [hde];rfl)|(simp;done)|(simp;omega)
    (try simp only [aO,aX,ak,aC]);omega
   refine Fj @hde ((ah O0 O3)) @TD ?_;refine⟨by (try simp only [aO,aX,ak,aC]);omega,?_⟩;refine Fj @hde ((ah O0 O3)) @TD ?_;refine⟨by (try simp only [aO,aX,ak,aC]);omega,?_⟩;rw [if_pos (by rw [L3.2.2.2.2.2.2.2.2.2.2.2.2.1,L3.2.2.2.2.2.2.2.2.2.2.2.2.2];rfl)];refine⟨?_,?_⟩
   ·have hn0:6≤List.length q:=gl;generalize List.length q=m at hn0 ⊢
    revert m
    refine xW _ _ 6 (fun n hn=>?_) (fun n hn=>?_) ?_
    ·simp only [sh];split<;>omega
    ·simp [VN,sh];try omega
    unfold vH;decide +kernel
   have hlt:=hO.lt;have hfr:=G.fresh;refine .inl (YI (A:=S.take i) (B:=S.drop (i+1)) (Cs.frame (⟨hO,G.nd⟩:Cs q _ _ os) fun o ho=>?_) ?_ ?_)
   ·have k1:=hlt o ho;have k2:=hfr o ho;simp only [ak,aC]at k2;simp (disch:=first|omega|(simp;done)|(simp;omega)) only [jM,jU]
   ·simp (disch:=first|omega|(simp;done)|(simp;omega)) only [jM,kF,jU]
    first|rfl|(rw [hde];rfl)|(simp;done)|(simp;omega)
   (try simp only [aO,aX,ak,aC]);omega
  rw [avp hlx];refine CV @hrow @hT @hD @hn @hdF @hap ?_;refine⟨by omega,by simp only [aO,ak,aC];omega,?_⟩;refine og (qI h.kJ (n:=0)) (by (refine ew ?_;try with_reducible exact True.intro)) ?_;intro r q os G;have gl:7≤q.length:=by have:=G.len;simp at this;omega
  have hop:iZ q 6=some ⟨11,List.map Lk.cells (List.take i S++[l]++List.drop i S)⟩:=(G.old 6 (by simp)).trans rfl;have ho1:=(G.old 1 (by simp)).trans rfl;have n1:1∉os:=fun hm=>by have:=G.fresh 1 hm;simp at this
  obtain⟨_,rfl,hQ⟩:=G.ow.kP;obtain⟨y1,y2,rfl⟩:=hQ.rat
  have E:Ep q [.bool (ku 0).neg,y1,y2] [.bool (ku 0).neg,ints (ku 0).mag,ints (ku 0).den] os []:=⟨⟨hQ,G.nd⟩,by simp⟩;have LF:=ah (E.leaf 1 rfl rfl) (E.leaf 2 rfl rfl);have C:=E.c.set (o:=1) (x:=some ⟨3,[[.bool (ku 0).neg,y1,y2]]⟩) n1;refine Aq @LF @ho1 ?_;refine .inl (XB (Tv (L:=S.take i++l::S.drop i) ?_ ?_) (nY C.ow) C.nd)
  ·rw [jM (by decide)];refine hop.trans ?_;simp
  simp;omega
 have hie:i=S.length:=by omega
 have hpe:GY l S=S.length:=by omega
 have azK:Ox S l=some (S++[l],ku 0):=by
  unfold Ox;dsimp only;rw [hpe,if_pos (.inl rfl),bM,gJ]
 have hde:List.map Lk.cells (List.drop i S)=[]:=by rw [dH (by omega)];rfl
 have htk:List.take i S=S:=bg (by omega);have hci:((i:Int)=(S.length:Nat))=True:=eq_true (by omega);rw [azK];have hd0:(List.drop i (List.map Lk.cells S)=[])=True:=eq_true (by rw [dH (by simp;omega)]);rcases iH i with h0|h0
 ·have hn:(List.map Lk.cells S=[])=True:=eq_true (by have:=of_eq_true (hnT h0);rw [htk]at this;exact this);refine IX @hc @hci @hn @hd0 ?_;refine⟨by omega,?_⟩;refine IX @hc @hci @hn @hd0 ?_;refine og (qI h.kJ (n:=0)) (by (refine ew ?_;try with_reducible exact True.intro)) ?_;intro r q os G;have gl:6≤q.length:=by have:=G.len;simp at this;omega
  have hop:iZ q 5=some ⟨11,[l.cells]⟩:=(G.old 5 (by simp)).trans rfl;have ho1:=(G.old 1 (by simp)).trans rfl;have n1:1∉os:=fun hm=>by have:=G.fresh 1 hm;simp at this
  obtain⟨_,rfl,hQ⟩:=G.ow.kP;obtain⟨y1,y2,rfl⟩:=hQ.rat
  have E:Ep q [.bool (ku 0).neg,y1,y2] [.bool (ku 0).neg,ints (ku 0).mag,ints (ku 0).den] os []:=⟨⟨hQ,G.nd⟩,by simp⟩;have LF:=ah (E.leaf 1 rfl rfl) (E.leaf 2 rfl rfl);have C:=E.c.set (o:=1) (x:=some ⟨3,[[.bool (ku 0).neg,y1,y2]]⟩) n1;refine Aq @LF @ho1 ?_;refine .inl (XB (Tv (L:=S++[l]) ?_ ?_) (nY C.ow) C.nd)
  ·rw [jM (by decide)];refine hop.trans ?_;rw [cZ,of_eq_true hn];rfl
  have:=congrArg List.length (of_eq_true hn);simp at this ⊢;simp [this]
 have hn:(List.map Lk.cells S=[])=False:=eq_false (by have:=of_eq_false (hnF h0);rw [htk]at this;exact this);refine IX @hc @hci @hn @hd0 ?_;refine⟨by omega,?_⟩;refine IX @hc @hci @hn @hd0 ?_;refine⟨by (try simp only [aO,aX,ak,aC]);omega,?_⟩;refine og (qI h.kJ (n:=0)) (by (refine ew ?_;try with_reducible exact True.intro)) ?_;intro r q os G;have gl:6≤q.length:=by have:=G.len;simp at this;omega
 have hop:iZ q 5=some ⟨11,List.map Lk.cells S++[l.cells]⟩:=(G.old 5 (by simp)).trans rfl;have ho1:=(G.old 1 (by simp)).trans rfl;have n1:1∉os:=fun hm=>by have:=G.fresh 1 hm;simp at this
 obtain⟨_,rfl,hQ⟩:=G.ow.kP;obtain⟨y1,y2,rfl⟩:=hQ.rat
 have E:Ep q [.bool (ku 0).neg,y1,y2] [.bool (ku 0).neg,ints (ku 0).mag,ints (ku 0).den] os []:=⟨⟨hQ,G.nd⟩,by simp⟩;have LF:=ah (E.leaf 1 rfl rfl) (E.leaf 2 rfl rfl);have C:=E.c.set (o:=1) (x:=some ⟨3,[[.bool (ku 0).neg,y1,y2]]⟩) n1;refine Aq @LF @ho1 ?_;refine .inl (XB (Tv (L:=S++[l]) ?_ ?_) (nY C.ow) C.nd)
 ·rw [jM (by decide)];refine hop.trans ?_;rw [cZ];rfl
 simp
theorem U7{α:Type}{f:α→Nat}{k:Nat}:∀{l:List α},(∀x∈l,f x≤k)→Qn f l≤l.length*(k+1)
 | [],_=>by simp [Qn]
 |
  x::l,h=>by
  have h1:=h x (by simp);have h2:=U7 (f:=f) (k:=k) (l:=l) fun y hy=>h y (by simp [hy]);unfold Qn at h2 ⊢;simp only [ak,bU,List.sum_cons];rw [fZ];omega
theorem XC{l:List Lk}(h:kN l=true):∀i,i<l.length→(i:Int)≤10*(l.getD i default).a+(l.getD i default).b
 |
  0,hi=>by
  have:=qJ (xY h hi);omega
 |
  i+1,hi=>by
  have k1:=XC h i (by omega);have k2:=Xy h hi;have k3:=qJ (xY h hi);have k4:=qJ (xY h (show i<l.length by omega));unfold kM at k2;simp only [dB,aG,decide_eq_true_eq]at k2;omega
theorem Q7{l:List Lk}(h:kN l=true):l.length≤100:=by
 rcases dD 100 l.length with hl|hl
 ·have k1:=XC h (l.length-1) (by omega);have k3:=qJ (xY h (show l.length-1<l.length by omega));omega
 exact hl
theorem am5{s:List Lk}{l:Lk}{t:List Lk}{e:R}(h:Ox s l=some (t,e))(h1:kN s=true)(h2:nD l=true):(∀x∈t,x.w.cn∧x.dx.cn∧x.dy.cn)∧e.cn∧t.length≤s.length+1:=by
 unfold Ox at h;dsimp only at h;have hp:=JG l s;have hs:∀x∈s,x.w.cn∧x.dx.cn∧x.dy.cn:=fun x hx=>JC (pW h1 hx);split at h
 ·cases h
  refine⟨fun x hx=>?_,vS (by decide),by simp;omega⟩;simp only [aK,aH]at hx;rcases hx with hx|rfl|hx
  ·exact hs x (bZ hx)
  ·exact JC h2
  exact hs x (eF hx)
 rename_i hc;split at h
 ·cases h
  refine⟨fun x hx=>?_,aiX _ _,by simp;omega⟩;simp only [aK,aH]at hx;rcases hx with hx|rfl|hx
  ·exact hs x (bZ hx)
  ·exact⟨U5 _ _,aiV _ _,aiW _ _⟩
  exact hs x (eF hx)
 cases h
theorem ai2{x:Lk}(h:x.w.cn∧x.dx.cn∧x.dy.cn):x.sz≤144:=by
 have a:=Oj h.1;have b:=Oj h.2.1;have c:=Oj h.2.2;unfold Lk.sz R.sz;omega
theorem ai3(s:List Lk)(l:Lk):(∀x∈adV s l,x.w.cn∧x.dx.cn∧x.dy.cn)∧(adE s l).cn∧(adV s l).length≤101:=by
 by_cases h:kN s=true∧nD l=true
 ·obtain⟨e1,e2,_⟩:=JH h.1 h.2;have hl:=Q7 h.1;rw [e1,e2]
  cases hr:Ox s l with
  |none=>exact⟨by simp,SI,by simp⟩
  |
   some p =>
   obtain⟨k1,k2,k3⟩:=am5 (t:=p.1) (e:=p.2) hr h.1 h.2;exact⟨k1,k2,by simp only [bQ,iV];omega⟩
 obtain⟨e1,e2,_⟩:=aqP h;rw [e1,e2];exact⟨by simp,SI,by simp⟩
theorem mapM_mono{σ σ2:Store}{n:Nat}(ih:∀v t:V,resolve σ n v=some t→resolve σ2 n v=some t):∀(l l':List V),l.mapM (resolve σ n)=some l'→l.mapM (resolve σ2 n)=some l'
 | [],l',h=>h
 |
  x::l,l',h=>by
  rw [bF]at h ⊢
  cases hx:resolve σ n x with
  |none=>rw [hx]at h;cases h
  |
   some y =>
   rw [hx]at h;rw [ih _ _ hx]
   cases hl:l.mapM (resolve σ n)with
   |none=>rw [hl]at h;cases h
   |some ys=>rw [hl]at h;rw [mapM_mono ih _ _ hl];exact h
theorem U8{σ σ2:Store}{n:Nat}(ih:∀v t:V,resolve σ n v=some t→resolve σ2 n v=some t):∀(l:List (List V)) (l':List (List V)),(l.mapM fun (r:List V)=>r.mapM (resolve σ n))=some l'→(l.mapM fun (r:List V)=>r.mapM (resolve σ2 n))=some l'
 | [],l',h=>h
 |
  x::l,l',h=>by
  rw [bF]at h ⊢
  cases hx:x.mapM (resolve σ n)with
  |none=>rw [hx]at h;cases h
  |
   some y =>
   rw [hx]at h;rw [mapM_mono ih _ _ hx]
   cases hl:l.mapM fun (r:List V)=>r.mapM (resolve σ n)with
   |none=>rw [hl]at h;cases h
   |some ys=>rw [hl]at h;rw [U8 ih _ _ hl];exact h
theorem aaM{σ σ2:Store}(hs:∀o ob,iZ σ o=some ob→iZ σ2 o=some ob):∀(n:Nat) (v t:V),resolve σ n v=some t→resolve σ2 n v=some t
 |0,_,_,h=>by simp [resolve]at h
 |
  n+1,v,t,h=>by
  have ih:=aaM hs n
  cases v with
  |
   kQ o s l =>
   simp only [resolve]at h ⊢
   cases ho:iZ σ o with
   |none=>rw [ho]at h;cases h
   |
    some ob =>
    rw [ho]at h;rw [hs _ _ ho];dsimp only at h ⊢;split at h
    ·rename_i hl;rw [if_pos hl];obtain⟨rows,h1,rfl⟩:=aI.1 h;rw [U8 ih _ _ h1];rfl
    cases h
  |
   ptr o r off =>
   simp only [resolve]at h ⊢
   cases ho:iZ σ o with
   |none=>rw [ho]at h;cases h
   |
    some ob =>
    rw [ho]at h;rw [hs _ _ ho];dsimp only at h ⊢
    cases hr:ob.rows[r]? with
    |none=>rw [hr]at h;cases h
    |
     some row =>
     rw [hr]at h;dsimp only at h ⊢;obtain⟨rows,h1,rfl⟩:=aI.1 h;rw [mapM_mono ih _ _ h1];rfl
  |
   agg cs =>
   simp only [resolve]at h ⊢;obtain⟨rows,h1,rfl⟩:=aI.1 h;rw [mapM_mono ih _ _ h1];rfl
  |
   nJ cs =>
   simp only [resolve]at h ⊢;obtain⟨rows,h1,rfl⟩:=aI.1 h;rw [mapM_mono ih _ _ h1];rfl
  |_=>simpa only [resolve]using h
theorem Ez{σ:Store}{n k:Nat}{w:V}{rows:List (List V)}(h:resolve σ (n+1) w=some (.sl k rows)):w.leaf=true:=by
 cases w with
 |kQ=>rfl
 |sl=>rfl
 |ptr o r off=>obtain⟨_,_,e⟩:=adP h;cases e
 |agg cs=>simp only [resolve]at h;obtain⟨_,_,e⟩:=aI.1 h;cases e
 |nJ cs=>simp only [resolve]at h;obtain⟨_,_,e⟩:=aI.1 h;cases e
 |_=>simp only [resolve]at h;cases h
theorem aen{σ:Store}:Fin σ (.nJ [.jF,.agg [.bool false,.jF,.jF],.bool false]) (.nJ [oP [],kC R0,.bool false]) :=
 ⟨.nJ [.sl 11 [],kC R0,.bool false],[],aem,Ea (nP (o1:=[]) (by simp [lC]) (nP (o1:=[]) (nY (nI (nP (o1:=[]) kX (nP (o1:=[]) kX nC)))) (nI nC))),.nil⟩
def wC:Fn:=⟨2,57,[.cell 4 3 true,.tmp 5],(.seq (rf 1 [oN 4 (.alloc vN),oK 5 1 mF]) (.seq (rf 1 [oK 9 1 (.call 39 [(cI 0)]),oN 6 (.alloc vN),⟨none,none,1,.store 3 (.t 6) (.t 9),[]⟩]) (.seq (sr [oW 10 0,oN 11 (ln 10),oN 12 (.oO (cI 0))] (.block 0 (.loop (sr [oN 13 (bt .lss 12 11)] (.seq (cd 13 .skip (.exit 0)) (.seq (.block 1 (.seq (rf 1 [oK 14 1 (ix 11 10 12),oK 15 1 (lT 11 14),oN 8 (.alloc J7),⟨none,none,1,.store 11 (.t 8) (.t 15),[]⟩]) (.seq (sr [oN 16 (fd 0 8),oN 17 (lF 1 16),oN 18 (bc .lss 17 0),oW 19 18,oG 19 false 20 (fd 0 8),oG 19 false 21 (lF 1 20),oG 19 false 22 (oV 1),oG 19 false 23 (ln 22),oG 19 false 24 (bt .geq 21 23),oN 25 (.pick (.t 19) (.c (.bool true)) (.t 24)),oW 26 25,oG 26 false 27 (fd 1 8),oG 26 false 28 (lF 1 27),oG 26 false 29 (bc .lss 28 0),oN 30 (.pick (.t 26) (.c (.bool true)) (.t 29)),oW 31 30,oG 31 false 32 (fd 1 8),oG 31 false 33 (lF 1 32),oG 31 false 34 (oV 1),oG 31 false 35 (ln 34),oG 31 false 36 (bt .geq 33 35),oN 37 (.pick (.t 31) (.c (.bool true)) (.t 36))] (cd 37 (sr [oN 38 (.build vN []),oS (.store 3 (.t 4) (.t 38)),oN 5 mF] .ret) .skip)) (rt 0 [oN 39 (lT 3 6),oN 40 (lT 11 8),oW 41 1,oN 42 (fd 0 8),oA 43 0 (lF 1 42) [3],oA 44 0 (ix 6 41 43) [2,4],oA 45 0 (lT 6 44) [5],oW 46 1,oN 47 (fd 1 8),oA 48 0 (lF 1 47) [8],oA 49 0 (ix 6 46 48) [7,9],oA 50 0 (lT 6 49) [10],oA 51 0 (cl 187 [40,45,50]) [1,6,11],oA 52 0 (cl 131 [39,51]) [0,12,12],⟨none,none,0,.store 3 (.t 6) (.t 52),[13,13,0,1,2,3,4,5,6,7,8,9,10,11,12,13]⟩])))) (rg [oN 53 (bc .add 12 1),oW 12 53]))))))) (.seq (rt 0 [oN 54 (lT 3 6),oN 55 (lT 3 6),oA 56 0 (cl 132 [55]) [1],⟨none,none,0,.store 3 (.t 4) (.t 54),[0,2,0]⟩,oA 5 0 (oV 56) [2,3,0,1,2,3]]) .ret))))⟩
structure Aa (T:Tb):Prop where
 hT:T 177=some wC
 kJ:mO T
 kE:lN T
 jQ:l7 T
 PW:Bj T
def U9(n:Nat)(x:Lk):Bool:=decide (0≤x.a)&&decide (x.a<n)&&(decide (0≤x.b)&&decide (x.b<n))
def Sl(l:List Lk)(at':List Pt):Nat→R
 |0=>ku 0
 |k+1=>mG (Sl l at' k) (Ij (l.getD k default) (at'.getD (l.getD k default).a.toNat default) (at'.getD (l.getD k default).b.toNat default))
def teG(l:List Lk)(n:Nat):Bool:=l.all (U9 n)
def Q8(l:List Lk)(at':List Pt):Bool:=teG l at'.length&&(Sl l at' l.length).ok
def teV(l:List Lk)(at':List Pt):R:=if Q8 l at'=true then Sl l at' l.length else R0
theorem aqR(l:List Lk)(at':List Pt):∀k,(Sl l at' k).cn
 |0=>vS (by decide)
 |k+1=>uM _ _
theorem am6{l:List Lk}{n k:Nat}(hk:k<l.length)(h:U9 n (l.getD k default)=false):teG l n=false:=by
 unfold teG;rw [jf];refine⟨l.getD k default,?_,by rw [h];simp⟩;rw [aj,au hk];exact fD hk
theorem ai4{l:List Lk}{n:Nat}(h:∀k,k<l.length→U9 n (l.getD k default)=true):teG l n=true:=by
 unfold teG;rw [aT];intro x hx;obtain⟨k,hk⟩:=bD.1 hx;have:=h k (aN.1 hk).1;rw [aj,hk]at this;exact this
theorem Oy{α:Type} [Inhabited α] {f:α→Prop} {l:List α} (h:IQ f l) {k:Nat} (hk:k<l.length):f (l.getD k default):=by
 refine h.2 _ ?_;rw [aj,au hk];exact fD hk
theorem ai5{l:List Lk}{at':List Pt}(h:teG l at'.length=false):teV l at'=R0∧Q8 l at'=false:=by
 have h2:Q8 l at'=false:=by unfold Q8;rw [h];rfl
 refine⟨?_,h2⟩;unfold teV;rw [h2];rfl
theorem Ep.renew{s s1 σ2:Store}{cs ts rs trs:List V}{os os2:List Nat}{L:List (Nat×Obj)}(E:Ep s cs ts os L)(h1:∀o,o<s.length→iZ s1 o=iZ s o)(hl:s.length≤s1.length)(ho:mJ σ2 rs trs os2)(hn:os2.Nodup)(hf:∀o∈os2,s1.length≤o)
  (old:∀o,o<s1.length→iZ σ2 o=iZ s1 o):Ep σ2 rs trs os2 L :=
 ⟨⟨ho,hn⟩,fun q hq=>⟨(old _ (aU (E.lt q hq) hl)).trans ((h1 _ (E.lt q hq)).trans (E.l q hq).1),fun hm=>by have:=hf _ hm;have:=E.lt q hq;omega⟩⟩
theorem avq{σ:Store}:Fin σ (.agg [.bool false,.jF,.jF]) (kC R0) :=
 ⟨kC R0,[],uX,nY (nI (nP (o1:=[]) kX (nP (o1:=[]) kX nC))),.nil⟩
theorem Kt{T:Tb}(h:Aa T){l:List Lk}{at':List Pt}(hw:IQ Lk.wf l:=by exact qW)(hp:IQ Pt.wf at':=by exact qW)(hl:l.length≤1048576:=by exact qW)(hl2:at'.length≤1048576:=by exact qW):PO T 177 [oP l,O7 at'] (.nJ [kC (teV l at'),.bool (Q8 l at')]):=by
 refine lI (fun x d=>(x == 39&&d == 9)||(x == 131&&d == 52)) h.hT ?_;simp only [wC,Lz,St.enter,ak,aC,aQ];refine ew ?_;refine og (qI h.kJ (n:=0)) (by (refine ew ?_;try with_reducible exact True.intro)) ?_;intro r q1 o1 G;have hO:=G.ow;have gn:=G.nd;have gf:=G.fresh;have go:=G.old;have gl:=G.len;clear G;obtain⟨_,rfl,Xz⟩:=hO.kP;obtain⟨x1,x2,rfl⟩:=Xz.rat
 have E:Ep [some ⟨3,[[.bool false,.jF,.jF]]⟩] [] [] [] [(0,⟨3,[[.bool false,.jF,.jF]]⟩)]:=⟨Lm,by simp [iZ]⟩;have E2:=E.got (s1:=[some ⟨3,[[.bool false,.jF,.jF]]⟩]++[none]) (fun q hq=>by first|exact kY hq|(simp only [bT];exact kY hq)) (by simp) Xz gn gf go;have F0:=E.free (s1:=[some ⟨3,[[.bool false,.jF,.jF]]⟩]++[none]) (p:=1) gf (by simp) (by simp);have hq:2≤q1.length:=by simpa using gl
 clear E gn gf go gl;have E:Ep q1 [.bool (ku 0).neg,x1,x2] [.bool (ku 0).neg,ints (ku 0).mag,ints (ku 0).den] _ [(0,⟨3,[[.bool false,.jF,.jF]]⟩)]:=E2;clear E2
 replace E:=E.Ey (p:=1) (ob:=⟨3,[[.bool (ku 0).neg,x1,x2]]⟩) (L':=[(0,⟨3,[[.bool false,.jF,.jF]]⟩),(1,⟨3,[[.bool (ku 0).neg,x1,x2]]⟩)]) F0 (by omega) (by simp)
 have LF:=ah (E.leaf 1 rfl rfl) (E.leaf 2 rfl rfl);refine IX @LF @jO @kG @List.set_set.{0} ?_;clear LF;refine jX (fun x d=>(x == 39&&d == 9)||(x == 131&&d == 52)) (α:=Nat×Store×V×V×List Nat) (fun q=>⟨lS [oP l,O7 at',.any,.any,.ptr 0 0 0,.any,.ptr 1 0 0,.any,.any,.any,oP l,iv (l.length:Nat),iv (q.1:Nat)],q.2.1,0,0,[],[]⟩) (fun q=>(q.1≤l.length∧∀k,k<q.1→U9 at'.length (l.getD k default)=true)∧Ep q.2.1 [.bool (Sl l at' q.1).neg,q.2.2.1,q.2.2.2.1] [.bool (Sl l at' q.1).neg,ints (Sl l at' q.1).mag,ints (Sl l at' q.1).den] q.2.2.2.2 [(0,⟨3,[[.bool false,.jF,.jF]]⟩),(1,⟨3,[[.bool (Sl l at' q.1).neg,q.2.2.1,q.2.2.2.1]]⟩)]) (fun q=>l.length-q.1) rfl (0,(q1.set 1 (some ⟨3,[[.bool (ku 0).neg,x1,x2]]⟩)),x1,x2,[]++o1) ?_ ?_ ?_
 ·exact⟨⟨by omega,by intro k hk;omega⟩,E⟩
 ·(refine jS ?_;exact zV)
 clear E;rintro⟨i,s,x1,x2,os⟩ ⟨⟨hi,hg⟩,E⟩;dsimp only at hi hg E;have es:Sl l at' (i+1)=mG (Sl l at' i) (Ij (l.getD i default) (at'.getD (l.getD i default).a.toNat default) (at'.getD (l.getD i default).b.toNat default)):=rfl;have hcn:=aqR l at' i;have hbad:=am6 (l:=l) (n:=at'.length) (k:=i);have hfin:i=l.length→Sl l at' l.length=Sl l at' i:=fun e=>by rw [e]
 have L0:=E.at0 (p:=0) (ob:=⟨3,[[.bool false,.jF,.jF]]⟩) (by simp);have L1:=E.at0 (p:=1) (ob:=⟨3,[[.bool (Sl l at' i).neg,x1,x2]]⟩) (by simp);by_cases hc:(i:Int)<(l.length:Nat)
 ·have hil:i<l.length:=by omega
  have hxw:=Oy hw hil;have hbad:=hbad hil;have hgs:U9 at'.length (l.getD i default)=true→∀k,k<i+1→U9 at'.length (l.getD k default)=true:=fun h k hk=>by
   by_cases e:k=i
   ·subst e;exact h
   exact hg k (by omega)
  have hmx:(l.map Lk.cells).getD i []=(l.getD i default).cells:=mg hil;generalize l.getD i default=x at es hbad hxw hgs hmx;have bad:U9 at'.length x=false→∀σ,Fin σ (.nJ [.agg [.bool false,.jF,.jF],.bool false]) (.nJ [kC (teV l at'),.bool (Q8 l at')]):=fun h σ=>by
   rw [(ai5 (hbad h)).1,(ai5 (hbad h)).2];exact avq.QU
  clear hbad;have LFx:=ah (E.leaf 1 rfl rfl) (E.leaf 2 rfl rfl);by_cases ha:0≤x.a∧x.a<at'.length
  ·have ha1:¬x.a<0:=by omega
   have ha2:¬x.a≥(at'.length:Nat):=by omega
   by_cases hb:0≤x.b∧x.b<at'.length
   ·have hb1:¬x.b<0:=by omega
    have hb2:¬x.b≥(at'.length:Nat):=by omega
    have hgs:=hgs (by unfold U9;rw [decide_eq_true ha.1,decide_eq_true ha.2,decide_eq_true hb.1,decide_eq_true hb.2];rfl);have wp:=Oy hp (k:=x.a.toNat) (by omega);have wq:=Oy hp (k:=x.b.toNat) (by omega);have g1:(at'.map Pt.cells).getD x.a.toNat []=(at'.getD x.a.toNat default).cells:=mg (by omega);have g2:(at'.map Pt.cells).getD x.b.toNat []=(at'.getD x.b.toNat default).cells:=mg (by omega);generalize at'.getD x.a.toNat default=p at es wp g1;generalize at'.getD x.b.toNat default=q at es wq g2;generalize hS:Sl l at' i=S at es hcn hfin E L1;refine CV @hc @hmx @L0 @L1 (ah ha1 (ah ha2 (ah hb1 hb2))) (ah g1 g2) ?_;refine jl ((U0 h.PW hxw wp wq).WL (ML _ _)) ?_;have R:=ah (fun y=>(E.snoc (x:=y)).res1 1 rfl rfl (jG _ _)) (fun y=>(E.snoc (x:=y)).res1 2 rfl rfl (jG _ _));refine NC @L0 @L1 @R @jO @kG ?_;refine CW (fun o=>o∈os) (show PO T 131 [kC S,kC (Ij x p q)] (kC (mG S (Ij x p q)))from zW h.kE hcn (aee _ _ _)) (by (refine Fj @R @jO @kG ?_;try with_reducible exact True.intro)) ?_ ?_
    ·intro o ho;have ho:o∈reach (s++[some ⟨11,[x.cells]⟩]) (11+1) (.agg [.bool S.neg,x1,x2])++(reach (s++[some ⟨11,[x.cells]⟩]) FD (kC (Ij x p q))++[]):=ho;rw [show reach (s++[some ⟨11,[x.cells]⟩]) FD (kC (Ij x p q))=[]from by (refine ew ?_;try with_reducible exact True.intro),aP,aP]at ho;obtain⟨c,hc,ho⟩:=Au.1 ho;rcases aH.1 hc with e|hc
     ·rw [e]at ho;simp [reach]at ho
     rcases aH.1 hc with e|hc
     ·rw [e]at ho;exact E.snoc.reach 1 rfl rfl _ o ho
     rw [aV.1 hc]at ho;exact E.snoc.reach 2 rfl rfl _ o ho
    intro Rr r q2 o2 hRr G;have gl:s.length+1≤q2.length:=by have:=G.len;simpa using this
    obtain⟨_,rfl,hQ⟩:=G.ow.kP;obtain⟨y1,y2,rfl⟩:=hQ.rat
    have F1:1∉o2:=fun hm=>by have h1:=G.fresh 1 hm;rw [aO]at h1;have:=L1.2;omega
    have E2:=E.renew (s1:=s++[some ⟨11,[x.cells]⟩]) (fun q hq=>kY hq) (by simp) hQ G.nd G.fresh G.old;have hRn:∀o∈Rr,o≠1:=fun o ho e=>(E.l (1,⟨3,[[.bool S.neg,x1,x2]]⟩) (by simp)).2 (e▸hRr o ho);rw [←es]at E2;have LF:=ah (E2.leaf 1 rfl rfl) (E2.leaf 2 rfl rfl);have M0:=E2.at0 (p:=0) (ob:=⟨3,[[.bool false,.jF,.jF]]⟩) (by simp);have M1:=E2.at0 (p:=1) (ob:=⟨3,[[.bool S.neg,x1,x2]]⟩) (by simp);refine NC @LF @M0 @M1 @jO @kG ?_;refine⟨by unfold vH;rfl,?_⟩
    try rw [←es]
    have E3:=E2.Ey (p:=1) (ob:=⟨3,[[.bool (Sl l at' (i+1)).neg,y1,y2]]⟩) (L':=[(0,⟨3,[[.bool false,.jF,.jF]]⟩),(1,⟨3,[[.bool (Sl l at' (i+1)).neg,y1,y2]]⟩)]) F1 M1.2 (by simp);refine⟨(i+1,q2.set 1 (some ⟨3,[[.bool (Sl l at' (i+1)).neg,y1,y2]]⟩),y1,y2,o2),by dsimp only;omega,⟨⟨by dsimp only;omega,hgs⟩,E3⟩,?_⟩;dsimp only
    (refine jS ?_;exact zV)
   have bad:=bad (by unfold U9;simp;omega);by_cases hb1:x.b<0
   ·refine CV @hc @hmx @L0 @L1 (ah ha1 ha2) @hb1 ?_;exact bad _
   have hb2:x.b≥(at'.length:Nat):=by omega
   refine ew7 @hc @hmx @L0 @L1 (ah ha1 ha2) @hb1 @hb2 ?_;exact bad _
  have bad:=bad (by unfold U9;simp;omega);by_cases ha1:x.a<0
  ·refine NC @hc @hmx @L0 @L1 @ha1 ?_;exact bad _
  have ha2:x.a≥(at'.length:Nat):=by omega
  refine CV @hc @hmx @L0 @L1 @ha1 @ha2 ?_;exact bad _
 have hie:i=l.length:=by omega
 have hG:=ai4 (l:=l) (n:=at'.length) fun k hk=>hg k (by omega);have e1:Q8 l at'=(Sl l at' l.length).ok:=by unfold Q8;rw [hG,cO]
 unfold teV;rw [e1,hfin hie];generalize hS:Sl l at' i=S at es hcn E L1;have cg:=D9 h.jQ hcn;have LFx:=ah (E.leaf 1 rfl rfl) (E.leaf 2 rfl rfl);have R:=ah (E.res1 1 rfl rfl (jG _ _)) (E.res1 2 rfl rfl (jG _ _));refine CV @hc @L0 @L1 @R @jO @kG ?_;refine jl cg ?_;refine CV @L0 @L1 @LFx @R @jO @kG ?_;refine⟨by unfold vH;rfl,?_⟩;have n0:=(E.l (0,⟨3,[[.bool false,.jF,.jF]]⟩) (by simp)).2;have C:=E.c.set (o:=0) (x:=some ⟨3,[[.bool S.neg,x1,x2]]⟩) n0;have hf:Fin (s.set 0 (some ⟨3,[[.bool S.neg,x1,x2]]⟩)) (.agg [.bool S.neg,x1,x2]) (kC S):=vU (nY C.ow) C.nd
 cases hb:S.ok
 ·have h0:=Yp hcn (DZ.1 hb);rw [if_neg (by simp),←h0];exact hf.QU
 rw [if_pos rfl];exact hf.QU
def xE:Fn:=⟨1,15,[.tmp 2],(sr [oN 2 mF] (.seq (sr [oW 5 0,oN 6 (ln 5),oN 7 (.oO (cI 0))] (.block 0 (.loop (sr [oN 8 (bt .lss 7 6)] (.seq (cd 8 .skip (.exit 0)) (.seq (.block 1 (.seq (rf 1 [oK 9 1 (ix 11 5 7),oK 10 1 (lT 11 9),oN 4 (.alloc J7),⟨none,none,1,.store 11 (.t 4) (.t 10),[]⟩]) (sr [oN 11 (lT 11 4),oN 12 (cl 84 [11]),oN 13 (nt 12)] (cd 13 (sr [oN 2 mF] .ret) .skip)))) (rg [oN 14 (bc .add 7 1),oW 7 14]))))))) (sr [oN 2 mT] .ret)))⟩
structure BD (T:Tb):Prop where
 hT:T 108=some xE
 oZ:qw T
def yB:Fn:=⟨1,42,[.tmp 2,.cell 3 3 true,.tmp 4],(.seq (rf 1 [oK 2 1 mN,oN 3 (.alloc vN),oK 4 1 mF]) (.seq (rf 1 [oN 12 (.oI 11 J7 0 []),oK 5 1 (oV 12)]) (.seq (rf 1 [oK 13 1 (.call 39 [(cI 0)]),oN 6 (.alloc vN),⟨none,none,1,.store 3 (.t 6) (.t 13),[]⟩]) (.seq (sr [oW 14 0,oN 15 (ln 14),oN 16 (.oO (cI 0))] (.block 0 (.loop (sr [oN 17 (bt .lss 16 15)] (.seq (cd 17 .skip (.exit 0)) (.seq (.block 1 (.seq (rf 1 [oK 18 1 (ix 11 14 16),oK 19 1 (lT 11 18),oN 8 (.alloc J7),⟨none,none,1,.store 11 (.t 8) (.t 19),[]⟩]) (.seq (rf 1 [oK 21 1 (oV 5),oK 22 1 (lT 11 8),oK 23 1 (cl 130 [21,22]),oK 20 1 (oV 23),oK 24 1 (ex 0 20),oK 25 1 (ex 1 20),oK 26 1 (ex 2 20),oN 10 (.alloc vN),oK 9 1 (oV 24),⟨none,none,1,.store 3 (.t 10) (.t 25),[]⟩,oK 11 1 (oV 26)]) (sr [oN 27 (lT 3 6),oN 28 (lT 3 10),oN 29 (cl 131 [27,28]),oS (.store 3 (.t 6) (.t 29))] (.seq (sr [oW 30 11,oN 31 (nt 30),oW 32 31,oG 32 false 33 (lT 3 6),oG 32 false 34 (cl 132 [33]),oG 32 false 35 (nt 34),oN 36 (.pick (.t 32) (.c (.bool true)) (.t 35))] (cd 36 (sr [oN 37 (.build vN []),oN 2 mN,oS (.store 3 (.t 3) (.t 37)),oN 4 mF] .ret) .skip)) (rg [oW 38 9,oW 5 38])))))) (rg [oN 39 (bc .add 16 1),oW 16 39]))))))) (.seq (rt 0 [oW 40 5,oN 41 (lT 3 6),oA 2 0 (oV 40) [0,0],⟨none,none,0,.store 3 (.t 3) (.t 41),[1,2,0,1,2]⟩,oA 4 0 mT [3,0,1,2,3]]) .ret)))))⟩
structure yC (T:Tb):Prop where
 hT:T 109=some yB
 kJ:mO T
 Va:Gy T
 kE:lN T
 jQ:l7 T
def vg:Fn:=⟨1,24,[.tmp 2,.cell 3 3 true,.tmp 4],(.seq (rf 1 [oK 2 1 mN,oN 3 (.alloc vN),oK 4 1 mF]) (.seq (sr [oW 8 0,oN 9 (cl 108 [8]),oN 10 (nt 9)] (cd 10 (sr [oN 11 (.build vN []),oN 2 mN,oS (.store 3 (.t 3) (.t 11)),oN 4 mF] .ret) .skip)) (.seq (rf 1 [oK 13 1 (oV 0),oK 14 1 (cl 109 [13]),oK 12 1 (oV 14),oK 15 1 (ex 0 12),oK 16 1 (ex 1 12),oK 17 1 (ex 2 12),oN 6 (.alloc vN),oK 5 1 (oV 15),⟨none,none,1,.store 3 (.t 6) (.t 16),[]⟩,oK 7 1 (oV 17)]) (.seq (sr [oW 18 7,oN 19 (nt 18)] (cd 19 (sr [oN 20 (.build vN []),oN 2 mN,oS (.store 3 (.t 3) (.t 20)),oN 4 mF] .ret) .skip)) (.seq (rt 0 [oW 21 5,oA 22 0 (cl 110 [21]) [0],oN 23 (lT 3 6),oA 2 0 (oV 22) [1,1,0,1],⟨none,none,0,.store 3 (.t 3) (.t 23),[2,3,0,1,2,3]⟩,oA 4 0 mT [4,0,1,2,3,4]]) .ret)))))⟩
structure C9 (T:Tb):Prop where
 hT:T 88=some vg
 PY:BD T
 Df:yC T
 Q9:CX T
theorem qB{l:List Lk}:kN l=true↔(∀x∈l,nD x=true)∧l.Pairwise fun k l=>kM k l=true:=by
 constructor
 ·intro h;exact⟨fun x hx=>pW h hx,(aaK h).imp fun h=>h.1⟩
 rintro⟨h1,h2⟩;unfold kN;refine aiJ fun i hi=>?_;have a:=h1 (l.getD i default) (getD_mem hi);unfold PK;rw [fU]at h2;rcases iH i with h0|h0
 ·subst h0;rw [a,decide_eq_true rfl];rfl
 have:=h2 (i-1) i (by omega) hi (by omega);have e1:l.getD (i-1) default=l[i-1]:=by rw [aj,au];rfl
 have e2:l.getD i default=l[i]:=by rw [aj,au];rfl
 rw [←e1,←e2]at this;rw [a,this,Bool.or_true];rfl
theorem Oz(k:Lk):kM k k=false:=by simp [kM]
theorem JJ{k l:Lk}(h1:kM k l=false)(h2:kM l k=false):k.a=l.a∧k.b=l.b:=by
 unfold kM at h1 h2;simp at h1 h2;omega
theorem YJ{k l m:Lk}(ha:l.a=m.a)(hb:l.b=m.b):kM k l=kM k m∧kM l k=kM m k:=by
 unfold kM;rw [ha,hb];exact⟨rfl,rfl⟩
theorem aaN{l:Lk}:∀{s:List Lk} {x:Lk},x∈s.take (GY l s)→kM x l=true
 | [],x,h=>by simp [GY]at h
 |
  y::s,x,h=>by
  unfold GY at h;split at h
  ·rename_i hy;rw [jI]at h;rcases aH.1 h with rfl|h
   ·exact hy
   exact aaN h
  simp at h
theorem MR{l:Lk}{s:List Lk}(h:s.Pairwise fun k l=>kM k l=true):∀x∈s.drop (GY l s),kM x l=false:=by
 induction s with
 |nil=>intro x hx;simp at hx
 |
  cons y s ih =>
  rw [dJ]at h;intro x hx;unfold GY at hx;split at hx
  ·rw [List.drop_succ_cons]at hx;exact ih h.2 x hx
  rename_i hy;rw [bY]at hx;have hy:kM y l=false:=by simpa using hy
  rcases aH.1 hx with rfl|hx
  ·exact hy
  cases hxl:kM x l
  ·rfl
  have:=FQ (h.1 x hx) hxl;rw [this]at hy;cases hy
theorem ai6{A B:List Lk}{m:Lk}(h:(A++B).Pairwise fun k l=>kM k l=true)(h1:∀x∈A,kM x m=true)(h2:∀x∈B,kM m x=true):(A++m::B).Pairwise fun k l=>kM k l=true:=by
 rw [iW]at h ⊢;refine⟨h.1,dJ.2 ⟨h2,h.2.1⟩,fun x hx y hy=>?_⟩;rcases aH.1 hy with rfl|hy
 ·exact h1 x hx
 exact h.2.2 x hx y hy
theorem aqS{s:List Lk}{l:Lk}{t:List Lk}{e:R}(h:Ox s l=some (t,e))(h1:kN s=true)(h2:nD l=true):kN t=true:=by
 obtain⟨hv,hp⟩:=qB.1 h1;have hpl:=JG l s;have hpre:=@aaN l s;have hpost:=MR (l:=l) hp;unfold Ox at h;dsimp only at h;generalize GY l s=i at *;have hsp:s.take i++s.drop i=s:=fE i s;split at h
 ·rename_i hc
  cases h
  refine qB.2 ⟨fun x hx=>?_,ai6 (by rw [hsp];exact hp) (fun x hx=>hpre hx) fun x hx=>?_⟩
  ·simp only [aK,aH]at hx;rcases hx with hx|rfl|hx
   ·exact hv x (bZ hx)
   ·exact h2
   exact hv x (eF hx)
  rcases hc with hc|hc
  ·rw [hc,gJ]at hx;cases hx
  by_cases hi:i<s.length
  ·have hd:s.drop i=s.getD i default::s.drop (i+1):=by
    rw [bH hi,aj,au hi];rfl
   rw [hd]at hx;rcases aH.1 hx with rfl|hx
   ·exact hc
   have hpd:=hp.drop (i:=i);rw [hd,dJ]at hpd;exact FQ hc (hpd.1 x hx)
  rw [dH (by omega)]at hx;cases hx
 rename_i hc;split at h
 ·rename_i hg
  cases h
  have hi:i<s.length:=by
   rcases dD i s.length with k|k
   ·exact k
   exact absurd (.inl (by omega)) hc
  have hd:s.drop i=s.getD i default::s.drop (i+1):=by
   rw [bH hi,aj,au hi];rfl
  have hx0:=hpost (s.getD i default) (by rw [hd];simp);have hxl:kM l (s.getD i default)=false:=by
   cases hq:kM l (s.getD i default)
   ·rfl
   exact absurd (.inr hq) hc
  have hsm:=getD_mem (l:=s) hi;generalize s.getD i default=x at *;obtain⟨ea,eb⟩:=JJ hx0 hxl;have hP:mgP x l=true:=by unfold mgP;rw [hv x hsm,h2,decide_eq_true ea,decide_eq_true eb];rfl
  have hm:nD (RY x l)=true:=by
   rw [aiZ hP];unfold QZ at hg;simp only [aG]at hg ⊢;exact hg.1
  have hcg:=fun k=>YJ (k:=k) (l:=RY x l) (m:=x) rfl rfl;have hp2:(s.take i++x::s.drop (i+1)).Pairwise fun k l=>kM k l=true:=by rw [←hd,hsp];exact hp
  rw [iW]at hp2;refine qB.2 ⟨fun y hy=>?_,ai6 ?_ (fun y hy=>?_) fun y hy=>?_⟩
  ·simp only [aK,aH]at hy;rcases hy with hy|rfl|hy
   ·exact hv y (bZ hy)
   ·exact hm
   exact hv y (eF hy)
  ·rw [iW];exact⟨hp2.1,(dJ.1 hp2.2.1).2,fun a ha b hb=>hp2.2.2 a ha b (dK _ hb)⟩
  ·rw [(hcg y).1];exact hp2.2.2 y hy x (by simp)
  rw [(hcg y).2];exact(dJ.1 hp2.2.1).1 y hy
 cases h
theorem ac1{s:List Lk}{l:Lk}(h:SL s l=true):kN (adV s l)=true∧kN s=true∧nD l=true:=by
 unfold SL at h;simp only [aG]at h;obtain⟨⟨h1,h2⟩,h3⟩:=h;refine⟨?_,h1,h2⟩;rw [(JH h1 h2).1]
 cases hr:Ox s l with
 |none=>rw [hr]at h3;cases h3
 |some p=>exact aqS (t:=p.1) (e:=p.2) hr h1 h2
def KE(l:List Lk):Nat→Option (List Lk×R)
 |0=>some ([],ku 0)
 |
  k+1=>match KE l k with
  |none=>none
  |some p=>if SL p.1 (l.getD k default)=true then some (adV p.1 (l.getD k default),mG p.2 (adE p.1 (l.getD k default)))else none
def Qo(l:List Lk):Option (List Lk×R):=match KE l l.length with
 |none=>none
 |some p=>if p.2.ok=true then some p else none
def Aw(l:List Lk):Bool:=(Qo l).isSome
def uH(l:List Lk):List Lk:=((Qo l).map (·.1)).getD []
def MS(l:List Lk):R:=((Qo l).map (·.2)).getD R0
theorem aaO{l:List Lk}{k:Nat}(h:KE l k=none):∀n,k≤n→KE l n=none
 |0,hn=>by rw [Nat.le_zero.1 hn]at h;exact h
 |
  n+1,hn=>by
  rcases dD k (n+1)with hk|hk
  ·simp only [KE,aaO h n (by omega)]
  rw [show n+1=k by omega];exact h
theorem PZ{r s:R}(h:r.ok=false):(mG r s).ok=false:=by
 rw [DZ,Ig,DZ.1 h,RN]
theorem aep{l:List Lk}{k:Nat}{p:List Lk×R}(h:KE l k=some p)(hb:p.2.ok=false):∀n,k≤n→∀q,KE l n=some q→q.2.ok=false
 |0,hn,q,hq=>by rw [Nat.le_zero.1 hn]at h;rw [h]at hq;cases hq;exact hb
 |
  n+1,hn,q,hq=>by
  rcases dD k (n+1)with hk|hk
  ·simp only [KE]at hq
   cases hf:KE l n with
   |none=>rw [hf]at hq;cases hq
   |
    some r =>
    rw [hf]at hq;dsimp only at hq;split at hq
    ·cases hq
     exact PZ (aep h hb n (by omega) r hf)
    cases hq
  rw [show n+1=k by omega]at hq;rw [h]at hq;cases hq;exact hb
theorem Tz{l:List Lk}:∀{k:Nat} {p:List Lk×R},KE l k=some p→kN p.1=true∧p.2.cn∧(∀x∈p.1,x.w.cn∧x.dx.cn∧x.dy.cn)∧p.1.length≤101
 |0,p,h=>by cases h;exact⟨by decide,vS (by decide),by simp,by simp⟩
 |
  k+1,p,h=>by
  simp only [KE]at h
  cases hf:KE l k with
  |none=>rw [hf]at h;cases h
  |
   some r =>
   rw [hf]at h;dsimp only at h;split at h
   ·rename_i hk
    cases h
    have:=ai3 r.1 (l.getD k default);exact⟨(ac1 hk).1,uM _ _,this.1,this.2.2⟩
   cases h
theorem EC{l:List Lk}(h:Qo l=none):uH l=[]∧MS l=R0∧Aw l=false:=by
 unfold uH MS Aw;rw [h];exact⟨rfl,rfl,rfl⟩
theorem Sm{l:List Lk}{k:Nat}(h:KE l k=none)(hk:k≤l.length):Qo l=none:=by
 unfold Qo;rw [aaO h l.length hk]
theorem ac2{l:List Lk}{k:Nat}{p:List Lk×R}(h:KE l k=some p)(hb:p.2.ok=false)(hk:k≤l.length):Qo l=none:=by
 unfold Qo
 cases hf:KE l l.length with
 |none=>rfl
 |some q=>dsimp only;rw [if_neg (by rw [aep h hb _ hk q hf];simp)]
theorem JK{l:List Lk}:(∀x∈uH l,x.w.cn∧x.dx.cn∧x.dy.cn)∧(MS l).cn∧(uH l).length≤101∧kN (uH l)=true:=by
 cases hg:Qo l with
 |
  none =>
  obtain⟨e1,e2,_⟩:=EC hg;rw [e1,e2];exact⟨by simp,SI,by simp,by decide⟩
 |
  some p =>
  have e1:uH l=p.1:=by unfold uH;rw [hg];rfl
  have e2:MS l=p.2:=by unfold MS;rw [hg];rfl
  rw [e1,e2];unfold Qo at hg
  cases hf:KE l l.length with
  |none=>rw [hf]at hg;cases hg
  |
   some q =>
   rw [hf]at hg;dsimp only at hg;split at hg
   ·cases hg
    obtain⟨a,b,c,d⟩:=Tz hf;exact⟨c,b,d,a⟩
   cases hg
theorem Rh{s:List Lk}(h:∀x∈s,x.w.cn∧x.dx.cn∧x.dy.cn)(hl:s.length≤101):Qn Lk.sz s≤20000:=by
 have:=U7 (f:=Lk.sz) (k:=144) fun x hx=>ai2 (h x hx);omega
theorem Ri{s:List Lk}(h:∀x∈s,x.w.cn∧x.dx.cn∧x.dy.cn)(hl:s.length≤101):IQ Lk.wf s :=
 ⟨by omega,fun x hx=>⟨rP (h x hx).1,rP (h x hx).2.1,rP (h x hx).2.2⟩⟩
def xZ:Nat→V→Prop
 |0,_=>False
 |n+1,.sl _ rows=>∀r∈rows,∀c∈r,xZ n c
 |n+1,.agg cs=>∀c∈cs,xZ n c
 |n+1,.nJ cs=>∀c∈cs,xZ n c
 |_+1,.ou _ _=>False
 |_+1,_=>True
theorem xZ.le:∀{n:Nat} {v:V},xZ n v→mP n v
 |0,_,h=>h
 |
  n+1,v,h=>by
  cases v with
  |sl k rows=>simp only [xZ,mP]at h ⊢;exact fun r hr c hc=>(h r hr c hc).le
  |agg cs=>simp only [xZ,mP]at h ⊢;exact fun c hc=>(h c hc).le
  |nJ cs=>simp only [xZ,mP]at h ⊢;exact fun c hc=>(h c hc).le
  |_=>simp [mP]
theorem YK(n:Nat)(q:IntKind)(k:Int):xZ (n+1) (.int q k):=by simp [xZ]
theorem Ee(n:Nat)(b:Bool):xZ (n+1) (.bool b):=by simp [xZ]
theorem uP(n:Nat)(l:List Int):xZ (n+2) (ints l):=by
 simp only [xZ];intro r hr c hc;simp only [jR,bG]at hr;obtain⟨x,_,rfl⟩:=hr;simp only [aH,bP,or_false]at hc;subst hc;simp [xZ]
theorem ai7{n:Nat}{cs:List V}(h:∀c∈cs,xZ n c):xZ (n+1) (.agg cs):=by simpa only [xZ]using h
theorem ai8(n:Nat)(x:R):xZ (n+3) (kC x):=by
 refine ai7 ?_;simp only [eH];exact⟨Ee _ _,uP _ _,uP _ _,by simp⟩
theorem ai9(n:Nat)(l:List Lk):xZ (n+3) (oP l):=by
 simp only [xZ];intro r hr c hc;obtain⟨x,_,rfl⟩:=bG.1 hr
 revert c
 simp only [eH];exact⟨YK _ _ _,YK _ _ _,Ee _ _,uP _ _,uP _ _,Ee _ _,uP _ _,uP _ _,Ee _ _,uP _ _,uP _ _,by simp⟩
theorem aer{σ:Store}:∀(n:Nat) {v t:V},resolve σ (n+1) v=some t→xZ n t→resolve σ n v=some t
 |0,v,t,_,hd=>by simp [xZ]at hd
 |
  n+1,v,t,h,hd=>by
  have ih:=@aer σ n;have hl:∀(l l':List V),l.mapM (resolve σ (n+1))=some l'→(∀c∈l',xZ n c)→l.mapM (resolve σ n)=some l':=by
   intro l
   induction l with
   |nil=>intro l' h _;exact h
   |
    cons x l ihl =>
    intro l' h hd;rw [bF]at h ⊢
    cases hx:resolve σ (n+1) x with
    |none=>rw [hx]at h;cases h
    |
     some y =>
     rw [hx]at h
     cases hl:l.mapM (resolve σ (n+1))with
     |none=>rw [hl]at h;cases h
     |
      some ys =>
      rw [hl]at h
      cases h
      rw [ih hx (hd y (by simp)),ihl ys hl fun c hc=>hd c (by simp [hc])];rfl
  have hr:∀(l:List (List V)) (l':List (List V)),(l.mapM fun (r:List V)=>r.mapM (resolve σ (n+1)))=some l'→(∀r∈l',∀c∈r,xZ n c)→(l.mapM fun (r:List V)=>r.mapM (resolve σ n))=some l':=by
   intro l
   induction l with
   |nil=>intro l' h _;exact h
   |
    cons x l ihl =>
    intro l' h hd;rw [bF]at h ⊢
    cases hx:x.mapM (resolve σ (n+1))with
    |none=>rw [hx]at h;cases h
    |
     some y =>
     rw [hx]at h
     cases hl':l.mapM fun (r:List V)=>r.mapM (resolve σ (n+1))with
     |none=>rw [hl']at h;cases h
     |
      some ys =>
      rw [hl']at h
      cases h
      rw [hl x y hx (hd y (by simp)),ihl ys hl' fun c hc=>hd c (by simp [hc])];rfl
  cases v with
  |
   kQ o s l =>
   simp only [resolve]at h ⊢
   cases ho:iZ σ o with
   |none=>rw [ho]at h;cases h
   |
    some ob =>
    rw [ho]at h;dsimp only at h ⊢;split at h
    ·rename_i hle;rw [if_pos hle];obtain⟨rows,h1,rfl⟩:=aI.1 h;rw [hr _ _ h1 (by simpa only [xZ]using hd)];rfl
    cases h
  |
   ptr o r off =>
   simp only [resolve]at h ⊢
   cases ho:iZ σ o with
   |none=>rw [ho]at h;cases h
   |
    some ob =>
    rw [ho]at h;dsimp only at h ⊢
    cases hro:ob.rows[r]? with
    |none=>rw [hro]at h;cases h
    |
     some row =>
     rw [hro]at h;dsimp only at h ⊢;obtain⟨rows,h1,rfl⟩:=aI.1 h;simp [xZ]at hd
  |
   agg cs =>
   simp only [resolve]at h ⊢;obtain⟨rows,h1,rfl⟩:=aI.1 h;rw [hl _ _ h1 (by simpa only [xZ]using hd)];rfl
  |
   nJ cs =>
   simp only [resolve]at h ⊢;obtain⟨rows,h1,rfl⟩:=aI.1 h;rw [hl _ _ h1 (by simpa only [xZ]using hd)];rfl
  |_=>simpa only [resolve]using h
theorem aes{σ:Store}:∀{ts:List (Bool×V)} {vs:List V} {os:List Nat},Tf σ vs ts os→(∀p∈ts,xZ 11 p.2)→vs.mapM (resolve σ 11)=some (ts.map (·.2))
 |
  [],vs,os,h,_=>by
  simp only [Tf]at h;obtain⟨rfl,rfl⟩:=h;rfl
 |
  (b,t)::ts,vs,os,h,hd=>by
  simp only [Tf]at h;obtain⟨v,vs',o1,o2,rfl,rfl,h1,h2⟩:=h;have e2:=aes h2 fun p hp=>hd p (by simp [hp]);have hdt:xZ 11 t:=hd (b,t) (by simp);have e1:resolve σ 11 v=some t:=by
   cases b with
   |true=>exact Ii 11 (by simpa using h1) hdt.le
   |
    false =>
    have h1:resolve σ FD v=some t∧o1=[]:=by simpa using h1
    exact aer 11 h1.1 hdt
  rw [bF,e1,e2];rfl
theorem PX.WL{T:Tb}{f:Nat}{args:List V}{ts:List (Bool×V)}(h:PX T f args ts)(hd:∀p∈ts,xZ 11 p.2):PF T f args (.nJ (ts.map (·.2))):=by
 obtain⟨vs,σ',os,h1,h2,h3⟩:=h;refine .WL h1 ?_;show resolve σ' (11+1) _=_;rw [resolve,aes h2 hd];rfl
theorem YL{T:Tb}(h:BD T){l:List Lk}(hw:IQ Lk.wf l:=by exact qW):PF T 108 [oP l] (.bool (l.all nD)):=by
 refine kR nR h.hT ?_;simp only [xE,Lz];refine ev ?_;refine jX (fun _ _=>false) (α:=Nat) (fun i=>⟨lS [oP l,.any,.any,.any,.any,oP l,iv (l.length:Nat),iv (i:Nat)],[],0,0,[],[]⟩) (fun i=>i≤l.length∧∀k,k<i→nD (l.getD k default)=true) (fun i=>l.length-i) rfl 0 ?_ ?_ ?_
 ·exact⟨by omega,by intro k hk;omega⟩
 ·(refine jS ?_;exact EJ)
 rintro i ⟨hi,hg⟩;have hl1:=hw.1;by_cases hc:(i:Int)<(l.length:Nat)
 ·have hil:i<l.length:=by omega
  have hxw:=Oy hw hil;have hmx:(l.map Lk.cells).getD i []=(l.getD i default).cells:=mg hil;have hmem:=getD_mem (l:=l) hil;have hgs:nD (l.getD i default)=true→∀k,k<i+1→nD (l.getD k default)=true:=fun h k hk=>by
   by_cases e:k=i
   ·subst e;exact h
   exact hg k (by omega)
  generalize l.getD i default=x at hxw hmx hmem hgs;have cl:=AZ h.oZ hxw
  cases hx:nD x
  ·have ha:l.all nD=false:=jf.2 ⟨x,hmem,by rw [hx];simp⟩;rw [hx]at cl;rw [ha];refine vM @hc @hmx ?_;refine jl cl ?_
   (refine ev ?_;try with_reducible exact True.intro)
  rw [hx]at cl;refine vM @hc @hmx ?_;refine jl cl ?_;refine ev ?_;exact⟨i+1,by omega,⟨by omega,hgs hx⟩,by exact aco⟩
 have hie:i=l.length:=by omega
 have ha:l.all nD=true:=aT.2 fun x hx=>by
  obtain⟨k,hk⟩:=bD.1 hx;have:=hg k (by have:=(aN.1 hk).1;omega);rw [aj,hk]at this;exact this
 rw [ha]
 (refine ev1 @hc ?_;try with_reducible exact True.intro)
theorem aaP{l:List Lk}(h:l.all nD=false):Qo l=none:=by
 obtain⟨x,hx,hb⟩:=jf.1 h;obtain⟨k,hk⟩:=bD.1 hx;have hkl:=(aN.1 hk).1;have e:l.getD k default=x:=by rw [aj,hk];rfl
 have:KE l (k+1)=none:=by
  simp only [KE]
  cases KE l k with
  |none=>rfl
  |
   some p =>
   dsimp only;rw [e,if_neg];unfold SL;have:nD x=false:=by simpa using hb
   simp [this]
 exact Sm this (by omega)
def joT(l:List Lk):List (Bool×V):=[(false,oP (uH l)),(true,kC (MS l)),(false,.bool (Aw l))]
theorem Ep.fr{s S1:Store}{cs ts:List V}{os:List Nat}{L:List (Nat×Obj)}(E:Ep s cs ts os L)(h1:∀o,o<s.length→iZ S1 o=iZ s o):Ep S1 cs ts os L :=
 ⟨E.c.frame fun o ho=>h1 o (E.c.lt o ho),fun q hq=>⟨(h1 _ (E.lt q hq)).trans (E.l q hq).1,(E.l q hq).2⟩⟩
theorem aja(sz:Nat):EvV (.sl sz []) .jF=True:=eq_true (He sz)
theorem P5{T:Tb}(h:yC T){l:List Lk}(hw:IQ Lk.wf l)(ha:l.all nD=true)(hl:l.length≤1048576):PX T 109 [oP l] (joT l):=by
 unfold joT;refine PD (fun x d=>(x == 39&&d == 13)||(x == 131&&d == 29)) h.hT ?_;simp only [yB,Lz,St.enter,ak,aC,aQ];refine ew ?_;refine og (qI h.kJ (n:=0)) (by (refine ew ?_;try with_reducible exact True.intro)) ?_;intro r q1 o1 G;obtain⟨_,rfl,Xz⟩:=G.ow.kP;obtain⟨x1,x2,rfl⟩:=Xz.rat
 have E:Ep [some ⟨3,[[.bool false,.jF,.jF]]⟩] [] [] [] [(0,⟨3,[[.bool false,.jF,.jF]]⟩)]:=⟨Lm,by simp [iZ]⟩;have E2:=E.got (s1:=[some ⟨3,[[.bool false,.jF,.jF]]⟩]++[none,none]) (fun q hq=>by first|exact kY hq|(simp only [bT];exact kY hq)) (by simp) Xz G.nd G.fresh G.old;have F0:=E.free (s1:=[some ⟨3,[[.bool false,.jF,.jF]]⟩]++[none,none]) (p:=2) G.fresh (by simp) (by simp);have hq:3≤q1.length:=by simpa using G.len
 clear E G;have E:Ep q1 [.bool (ku 0).neg,x1,x2] [.bool (ku 0).neg,ints (ku 0).mag,ints (ku 0).den] _ [(0,⟨3,[[.bool false,.jF,.jF]]⟩)]:=E2;clear E2
 replace E:=E.Ey (p:=2) (ob:=⟨3,[[.bool (ku 0).neg,x1,x2]]⟩) (L':=[(0,⟨3,[[.bool false,.jF,.jF]]⟩),(2,⟨3,[[.bool (ku 0).neg,x1,x2]]⟩)]) F0 (by omega) (by simp)
 have LF:=ah (E.leaf 1 rfl rfl) (E.leaf 2 rfl rfl);refine IX @LF @jO @kG @List.set_set.{0} ?_;clear LF;refine jX (fun x d=>(x == 39&&d == 13)||(x == 131&&d == 29)) (α:=Nat×Store×List Lk×R×V×V×List Nat) (fun q=>⟨lS [oP l,.any,.any,.ptr 0 0 0,.any,oP q.2.2.1,.ptr 2 0 0,.any,.any,.any,.any,.any,.any,.any,oP l,iv (l.length:Nat),iv (q.1:Nat)],q.2.1,0,0,[],[]⟩) (fun q=>(q.1≤l.length∧KE l q.1=some (q.2.2.1,q.2.2.2.1)∧q.2.2.2.1.ok=true)∧Ep q.2.1 [.bool q.2.2.2.1.neg,q.2.2.2.2.1,q.2.2.2.2.2.1] [.bool q.2.2.2.1.neg,ints q.2.2.2.1.mag,ints q.2.2.2.1.den] q.2.2.2.2.2.2 [(0,⟨3,[[.bool false,.jF,.jF]]⟩),(2,⟨3,[[.bool q.2.2.2.1.neg,q.2.2.2.2.1,q.2.2.2.2.2.1]]⟩)]) (fun q=>l.length-q.1) rfl (0,(q1.set 2 (some ⟨3,[[.bool (ku 0).neg,x1,x2]]⟩)),[],ku 0,x1,x2,[]++o1) ?_ ?_ ?_
 ·exact⟨⟨by omega,rfl,show (ku 0).ok=true by decide +kernel⟩,E⟩
 ·dsimp only;rw [show oP []=.sl 11 []from rfl]
  (refine jS ?_)<;>(try (refine y9 @aja ?_;try with_reducible exact True.intro))<;>(repeat' (first|refine⟨?_,?_⟩|exact Jh (by omega)|exact Lc (by simp)|exact He _))
 clear E;rintro⟨k,s,S,e,x1,x2,os⟩ ⟨⟨hk,hf,he⟩,E⟩;dsimp only at hk hf he E;obtain⟨i1,i2,i3,i4⟩:=Tz hf;dsimp only at i1 i2 i3 i4;have L0:=E.at0 (p:=0) (ob:=⟨3,[[.bool false,.jF,.jF]]⟩) (by simp);have L1:=E.at0 (p:=2) (ob:=⟨3,[[.bool e.neg,x1,x2]]⟩) (by simp);have LFx:=ah (E.leaf 1 rfl rfl) (E.leaf 2 rfl rfl);by_cases hc:(k:Int)<(l.length:Nat)
 ·have hkl:k<l.length:=by omega
  have hxw:=Oy hw hkl;have hxo:nD (l.getD k default)=true:=aT.1 ha _ (getD_mem hkl);have hs:KE l (k+1)=if SL S (l.getD k default)=true then some (adV S (l.getD k default),mG e (adE S (l.getD k default)))else none:=by simp only [KE,hf]
  have hmx:(l.map Lk.cells).getD k []=(l.getD k default).cells:=mg hkl;have hbad:KE l (k+1)=none→Qo l=none:=fun h=>Sm h (by omega);have hbd2:∀p,KE l (k+1)=some p→p.2.ok=false→Qo l=none:=fun p h h2=>ac2 h h2 (by omega);generalize l.getD k default=x at hs hxw hxo hmx;have ca:=(ac0 h.Va (S:=S) (l:=x) (Ri i3 i4) i1 hxo (by omega)).WL (by
   intro p hp;simp only [adT,aH,bP,or_false]at hp;rcases hp with rfl|rfl|rfl
   ·exact ai9 _ _
   ·exact ai8 _ _
   exact Ee _ _)
  have hac:=ai3 S x;obtain⟨g1,g2,g3⟩:=JH i1 hxo;simp only [adT,bU,iO]at ca;rw [←g1,←g2,←g3]at ca;clear g1 g2 g3;generalize hS':adV S x=S' at hs ca hac;generalize he':adE S x=e' at hs ca hac;generalize ho:SL S x=ok at hs ca;refine Aq @hc @hmx ?_;refine jl ca ?_;have hp2:¬(s.length+1=s.length):=by omega
  refine NC @L0 @L1 @LFx @jO @kG ?_;obtain⟨S1,hS1⟩:∃S1,(List.set (s++[some ⟨11,[x.cells]⟩]++[none]) (s.length+1) (some ⟨3,[[.bool false,.jF,.jF]]⟩)).set (s.length+1) (some ⟨3,[e'.cells]⟩)=S1:=⟨_,rfl⟩;have h1:∀o,o<s.length→iZ S1 o=iZ s o:=fun o ho=>by
   rw [←hS1,jM (by omega),jM (by omega),bT,kY ho]
  have hl1:S1.length=s.length+2:=by rw [←hS1];simp
  rw [hS1];clear hS1;have E1:=E.fr h1;have R:=ah (E1.res1 1 rfl rfl (jG _ _)) (E1.res1 2 rfl rfl (jG _ _));refine og (zW h.kE i2 hac.2.1) (by (refine Fj @R @jO @kG ?_;try with_reducible exact True.intro)) ?_;intro r q2 o2 G;have gl:s.length+2≤q2.length:=by have:=G.len;omega
  obtain⟨_,rfl,hQ⟩:=G.ow.kP;obtain⟨y1,y2,rfl⟩:=hQ.rat
  have F1:2∉o2:=fun hm=>by have h1:=G.fresh 2 hm;have:=L1.2;omega
  have E2:=E1.renew (fun q hq=>rfl) (aJ _) hQ G.nd G.fresh G.old;have aqT:=uM e e';have hbd2:=fun (hs:KE l (k+1)=some (S',mG e e'))=>hbd2 (S',mG e e') hs;dsimp only at hbd2;generalize mG e e'=e2 at *;have LF:=ah (E2.leaf 1 rfl rfl) (E2.leaf 2 rfl rfl);have M0:=E2.at0 (p:=0) (ob:=⟨3,[[.bool false,.jF,.jF]]⟩) (by simp);have M1:=E2.at0 (p:=2) (ob:=⟨3,[[.bool e.neg,x1,x2]]⟩) (by simp);refine NC @LF @M0 @M1 @jO @kG ?_;have E3:=E2.Ey (p:=2) (ob:=⟨3,[[.bool e2.neg,y1,y2]]⟩) (L':=[(0,⟨3,[[.bool false,.jF,.jF]]⟩),(2,⟨3,[[.bool e2.neg,y1,y2]]⟩)]) F1 M1.2 (by simp);generalize hq3:q2.set 2 (some ⟨3,[[.bool e2.neg,y1,y2]]⟩)=q3 at *;have N0:=E3.at0 (p:=0) (ob:=⟨3,[[.bool false,.jF,.jF]]⟩) (by simp);have N1:=E3.at0 (p:=2) (ob:=⟨3,[[.bool e2.neg,y1,y2]]⟩) (by simp);have R3:=ah (E3.res1 1 rfl rfl (jG _ _)) (E3.res1 2 rfl rfl (jG _ _))
  cases ok
  ·obtain⟨e1,e2,e3⟩:=EC (hbad (by rw [hs];rfl));rw [e1,e2,e3];refine NC @N0 @N1 @LF @jO @kG ?_;exact .inl YH
  have cg:=D9 h.jQ aqT;refine CV @N0 @N1 @LF @R3 @jO @kG ?_;refine jl cg ?_
  cases hb:e2.ok
  ·obtain⟨e1,e2,e3⟩:=EC (hbd2 (by rw [hs];rfl) hb);rw [e1,e2,e3];refine NC @N0 @N1 @LF @jO @kG ?_;exact .inl YH
  refine NC @N0 @N1 @LF @jO @kG ?_;refine⟨(k+1,q3,S',e2,y1,y2,o2),by dsimp only;omega,⟨⟨by dsimp only;omega,by dsimp only;rw [hs];rfl,hb⟩,E3⟩,?_⟩;dsimp only
  (refine jS ?_;exact zV)
 have hie:k=l.length:=by omega
 have hg:Qo l=some (S,e):=by unfold Qo;rw [←hie,hf];exact if_pos he
 have e1:uH l=S:=by unfold uH;rw [hg];rfl
 have e2:MS l=e:=by unfold MS;rw [hg];rfl
 have e3:Aw l=true:=by unfold Aw;rw [hg];rfl
 rw [e1,e2,e3];refine CV @hc @L0 @L1 @LFx @jO @kG ?_;refine⟨by unfold vH;rfl,.inl (XB rfl ?_ E.c.nd)⟩;have n0:=(E.l (0,⟨3,[[.bool false,.jF,.jF]]⟩) (by simp)).2;exact nY (E.c.set (o:=0) (x:=some ⟨3,[[.bool e.neg,x1,x2]]⟩) n0).ow
def inC(n:Int):Bool:=decide (-1000000≤n)&&decide (n≤1000000)
theorem aeu{n:Int}(h:inC n=true) : -1000000≤n∧n≤1000000:=by simpa [inC]using h
def wtC(w:Int):Bool:=decide (1≤w)&&decide (w≤9999)
theorem am9{n:Int}(h:wtC n=true):1≤n∧n≤9999:=by simpa [wtC]using h
def agf(a b w x y:Int):Bool:=nd a&&nd b && !decide (a=b)&&wtC w&&inC x&&inC y
def nlV(a b w x y:Int):Lk:=if agf a b w x y=true then(if b<a then⟨b,a,ku w,ku (-x),ku (-y)⟩else⟨a,b,ku w,ku x,ku y⟩)else Lk0
theorem OA{T:Tb}(h:Bl T){a b w x y:Int}:PF T 14 [iv a,iv b,iv w,iv x,iv y] (.nJ [V4 (nlV a b w x y),.bool (agf a b w x y)]):=by
 have ca:=Xn h.Lu (a:=a);have cb:=Xn h.Lu (a:=b);have cw:PF T 35 [iv w,iv 1,iv 9999] (.bool (wtC w)):=Pn h.vO;have cx:PF T 35 [iv x,iv (-1000000),iv 1000000] (.bool (inC x)):=Pn h.vO;have cy:PF T 35 [iv y,iv (-1000000),iv 1000000] (.bool (inC y)):=Pn h.vO;unfold nlV agf
 cases h1:nd a
 ·rw [h1]at ca;refine jZ nR h.hT ?_;simp only [oh,Lz];refine ev ?_;refine jl ca ?_;refine ev ?_;exact IY Ou
 rw [h1]at ca
 cases h2:nd b
 ·rw [h2]at cb;refine jZ nR h.hT ?_;simp only [oh,Lz];refine ev ?_;refine jl ca ?_;refine ev ?_;refine jl cb ?_;refine ev ?_;exact IY Ou
 rw [h2]at cb;by_cases h3:a=b
 ·have h3':(a=b)=True:=eq_true h3;simp only [h3',decide_true];refine jZ nR h.hT ?_;simp only [oh,Lz];refine ev ?_;refine jl ca ?_;refine ev ?_;refine jl cb ?_;refine ev1 @h3' ?_;exact IY Ou
 cases h4:wtC w
 ·rw [h4]at cw;refine jZ nR h.hT ?_;simp only [oh,Lz];refine ev ?_;refine jl ca ?_;refine ev ?_;refine jl cb ?_;refine ev1 @h3 ?_;refine jl cw ?_;refine ev ?_;exact IY Ou
 rw [h4]at cw;have hw:=am9 h4
 cases h5:inC x
 ·rw [h5]at cx;refine jZ nR h.hT ?_;simp only [oh,Lz];refine ev ?_;refine jl ca ?_;refine ev ?_;refine jl cb ?_;refine ev1 @h3 ?_;refine jl cw ?_;refine ev ?_;refine jl cx ?_;refine ev ?_;exact IY Ou
 rw [h5]at cx;have hx:=aeu h5
 cases h6:inC y
 ·rw [h6]at cy;refine jZ nR h.hT ?_;simp only [oh,Lz];refine ev ?_;refine jl ca ?_;refine ev ?_;refine jl cb ?_;refine ev1 @h3 ?_;refine jl cw ?_;refine ev ?_;refine jl cx ?_;refine ev ?_;refine jl cy ?_;refine ev ?_;exact IY Ou
 rw [h6]at cy;have hy:=aeu h6;have hk:(true&&true && !decide (a=b)&&true&&true&&true)=true:=by rw [decide_eq_false h3];rfl
 rw [hk];by_cases h7:b<a
 ·simp only [if_true,if_pos h7];refine jZ nR h.hT ?_;simp only [oh,Lz];refine ev ?_;refine jl ca ?_;refine ev ?_;refine jl cb ?_;refine ev1 @h3 ?_;refine jl cw ?_;refine ev ?_;refine jl cx ?_;refine ev ?_;refine jl cy ?_;refine ev1 @h7 ?_;refine jl (wU h.qZ (n:=w) (by omega)) ?_;refine ev ?_;refine jl (wU h.qZ (n:=0-x) (by omega)) ?_;refine ev ?_;refine jl (wU h.qZ (n:=0-y) (by omega)) ?_;refine ev ?_;rw [Int.zero_sub,Int.zero_sub];exact jP _
 simp only [if_true,if_neg h7];refine jZ nR h.hT ?_;simp only [oh,Lz];refine ev ?_;refine jl ca ?_;refine ev ?_;refine jl cb ?_;refine ev1 @h3 ?_;refine jl cw ?_;refine ev ?_;refine jl cx ?_;refine ev ?_;refine jl cy ?_;refine ev1 @h7 ?_;refine jl (wU h.qZ (n:=w) (by omega)) ?_;refine ev ?_;refine jl (wU h.qZ (n:=x) (by omega)) ?_;refine ev ?_;refine jl (wU h.qZ (n:=y) (by omega)) ?_;refine ev ?_;exact jP _
def BF:Fn:=⟨1,58,[.tmp 2],(sr [oN 2 (.oO (cI 0))] (sr [oW 4 0,oW 5 0,oN 6 (.chk (.t 5)),oN 7 (fd 2 6),oN 8 (lF 1 7),oN 9 (bc .mul 8 6364136223846793005),oN 10 (bc .add 9 1442695040888963407),oN 11 (.chk (.t 4)),oN 12 (fd 2 11),oS (.store 1 (.t 12) (.t 10))] (.seq (rt 0 [oW 13 0,oA 14 0 (.chk (.t 13)) [0],oA 15 0 (fd 2 14) [1],oA 16 0 (lF 1 15) [2],oA 17 0 (.bin .shr (.t 16) (.c (.int .u64 33))) [3],oW 18 0,oA 19 0 (.chk (.t 18)) [5],oA 20 0 (fd 2 19) [6],oA 21 0 (lF 1 20) [7],oA 22 0 (.bin .shr (.t 21) (.c (.int .u64 45))) [8],oA 23 0 (bt .xor 17 22) [4,9],oA 24 0 (bc .and 23 255) [10],oA 3 0 (oV 24) [11,0,1,2,3,4,5,6,7,8,9,10,11]]) (.seq (.seq (rt 0 [oW 25 0,oA 26 0 (.chk (.t 25)) [0],oA 27 0 (fd 1 26) [1],oA 28 0 (lF 1 27) [2],oW 29 0,oA 30 0 (.chk (.t 29)) [4],oA 31 0 (fd 0 30) [5],oA 32 0 (lF 1 31) [6],oA 33 0 (ln 32) [7],oA 34 0 (bt .lss 28 33) [3,8]]) (cd 34 (.seq (rt 0 [oW 35 3,oW 36 0,oA 37 0 (.chk (.t 36)) [1],oA 38 0 (fd 0 37) [2],oA 39 0 (lF 1 38) [3],oW 40 0,oA 41 0 (.chk (.t 40)) [5],oA 42 0 (fd 1 41) [6],oA 43 0 (lF 1 42) [7],oA 44 0 (ix 1 39 43) [4,8],oA 45 0 (lF 1 44) [9],oA 46 0 (.conv .i64 (.t 45)) [10],oA 47 0 (bt .add 35 46) [0,11],oA 48 0 (bc .and 47 255) [12],oA 3 0 (oV 48) [13,0,1,2,3,4,5,6,7,8,9,10,11,12,13]]) (rg [oW 49 0,oW 50 0,oN 51 (.chk (.t 50)),oN 52 (fd 1 51),oN 53 (lF 1 52),oN 54 (bc .add 53 1),oN 55 (.chk (.t 49)),oN 56 (fd 1 55),oS (.store 1 (.t 56) (.t 54))])) .skip)) (sr [oW 57 3,oW 2 57] .ret)))))⟩
structure yc (T:Tb):Prop where
 hT:T 129=some BF
def Ef:Fn:=⟨1,32,[.tmp 2],(sr [oN 2 (.oO (.c (.one)))] (sr [oW 5 0,oN 6 (ln 5),oN 7 (.bin .add (cI 1951) (.t 6)),oW 3 7] (.seq (sr [oN 4 (.oO (cI 0))] (.block 0 (.loop (.seq (sr [oW 8 4,oW 9 0,oN 10 (ln 9),oN 11 (bt .lss 8 10),oW 12 11,oG 12 true 13 (oV 4),oG 12 true 14 (bc .lss 13 4000),oN 15 (.pick (.t 12) (.t 14) (.c (.bool false)))] (cd 15 .skip (.exit 0))) (.seq (.block 1 (rg [oW 18 3,oN 19 (bc .mul 18 59),oW 20 0,oW 21 4,oN 22 (ix 1 20 21),oN 23 (lF 1 22),oN 24 (.conv .i64 (.t 23)),oN 25 (bt .add 19 24),oN 26 (bc .add 25 7),oN 27 (bc .and 26 1073741823),oW 3 27])) (rg [oW 16 4,oN 17 (bc .add 16 1),oW 4 17])))))) (.seq (rf 1 [oK 28 1 (oV 0),oK 29 1 (oV 3),oK 30 1 (.build [.jF,.int .i64 0,.int .i64 0] [(0,1,(.t 28)),(2,1,(.t 29))]),oN 31 (.box (.t 30)),oK 2 1 (oV 31)]) .ret))))⟩
structure Eh (T:Tb):Prop where
 hT:T 105=some Ef
def Ei:Fn:=⟨2,17,[.tmp 4],(sr [oN 4 (.oO (.c (.one)))] (sr [oW 7 0,oN 8 (cl 105 [7]),oW 5 8] (.seq (sr [oN 6 (.oO (cI 0))] (.block 0 (.loop (.seq (sr [oW 9 6,oW 10 1,oN 11 (bt .lss 9 10)] (cd 11 .skip (.exit 0))) (.seq (.block 1 (rg [oW 14 5,oN 15 (cl 129 [14])])) (rg [oW 12 6,oN 13 (bc .add 12 1),oW 6 13])))))) (sr [oW 16 5,oW 4 16] .ret))))⟩
structure Io (T:Tb):Prop where
 hT:T 181=some Ei
 Ip:Eh T
 Gz:yc T
def zN:Fn:=⟨2,37,[.tmp 4],(sr [oN 4 (.oO (cI 0))] (.seq (sr [oW 9 1,oN 10 (bc .leq 9 0)] (cd 10 (sr [oN 4 (.oO (cI 0))] .ret) .skip)) (.seq (sr [oW 11 1,oN 12 (bc .leq 11 256)] (cd 12 (sr [oW 13 0,oN 14 (cl 129 [13]),oW 15 1,oN 16 (bt .rem 14 15),oW 4 16] .ret) .skip)) (sr [oW 17 0,oN 18 (cl 129 [17]),oW 5 18] (sr [oW 19 0,oN 20 (cl 129 [19]),oW 6 20] (sr [oW 21 0,oN 22 (cl 129 [21]),oW 7 22] (sr [oW 23 0,oN 24 (cl 129 [23]),oW 8 24] (sr [oW 25 5,oN 26 (bc .mul 25 16777216),oW 27 6,oN 28 (bc .mul 27 65536),oN 29 (bt .add 26 28),oW 30 7,oN 31 (bc .mul 30 256),oN 32 (bt .add 29 31),oW 33 8,oN 34 (bt .add 32 33),oW 35 1,oN 36 (bt .rem 34 35),oW 4 36] .ret))))))))⟩
structure rG (T:Tb):Prop where
 hT:T 107=some zN
 Gz:yc T
def BG:Fn:=⟨2,24,[.cell 4 3 true],(.seq (rf 3 [oN 2 (.box (.t 0)),oK 3 1 (.box (.t 1)),oK 4 2 (.alloc vN)]) (.seq (sr [oN 5 (lT 2 2),oN 6 (cl 120 [5]),oN 7 (nt 6),oW 8 7,oG 8 false 9 (lT 2 3),oG 8 false 10 (cl 120 [9]),oG 8 false 11 (nt 10),oN 12 (.pick (.t 8) (.c (.bool true)) (.t 11))] (cd 12 (sr [oN 13 (.build vN []),oS (.store 3 (.t 4) (.t 13))] .ret) .skip)) (sr [oN 14 (fd 0 2),oN 15 (lF 1 14),oN 16 (fd 0 3),oN 17 (lF 1 16),oN 18 (.beq true (.t 15) (.t 17)),oN 19 (fd 1 2),oN 20 (lF 1 19),oN 21 (fd 1 3),oN 22 (lF 1 21),oN 23 (cl 206 [18,20,22]),oS (.store 3 (.t 4) (.t 23))] .ret)))⟩
structure GH (T:Tb):Prop where
 hT:T 199=some BG
 Ku:ES T
 Wn:Ie T
def FT:Fn:=⟨2,10,[.cell 4 3 true],(.seq (rf 1 [oN 4 (.alloc vN)]) (sr [oW 5 0,oN 6 (cl 53 [5]),oW 7 1,oN 8 (cl 53 [7]),oN 9 (cl 199 [6,8]),oS (.store 3 (.t 4) (.t 9))] .ret))⟩
structure JL (T:Tb):Prop where
 hT:T 190=some FT
 zG:zF T
 Vb:GH T
def BH:Fn:=⟨2,12,[.tmp 4],(sr [oN 4 (.oO (cI 0))] (sr [oW 5 1,oW 6 0,oW 7 1,oN 8 (ln 7),oN 9 (cl 107 [6,8]),oN 10 (ix 1 5 9),oN 11 (lF 1 10),oW 4 11] .ret))⟩
structure BI (T:Tb):Prop where
 hT:T 191=some BH
 kK:rG T
def Ej:Fn:=⟨1,10,[.cell 2 3 true],(.seq (rf 1 [oN 2 (.alloc vN)]) (.seq (rf 1 [oK 3 1 (oV 0),oK 4 1 (.call 107 [(.t 3),(cI 21)]),oK 5 1 (bc .sub 4 10),oK 6 1 (oV 0),oN 7 (.oI 1 I9 5 [(0,(cI 1)),(1,(cI 1)),(2,(cI 1)),(3,(cI 2)),(4,(cI 3))]),oK 8 1 (cl 191 [6,7]),oK 9 1 (cl 190 [5,8]),⟨none,none,1,.store 3 (.t 2) (.t 9),[]⟩]) .ret))⟩
structure Ir (T:Tb):Prop where
 hT:T 184=some Ej
 kK:rG T
 YM:JL T
 Vd:BI T
def BJ:Fn:=⟨2,10,[.cell 4 3 true],(.seq (rf 1 [oN 4 (.alloc vN)]) (sr [oW 5 0,oW 6 1,oN 7 (.bin .mul (cI 3) (.t 6)),oN 8 (cl 181 [5,7]),oN 9 (cl 184 [8]),oS (.store 3 (.t 4) (.t 9))] .ret))⟩
structure GI (T:Tb):Prop where
 hT:T 175=some BJ
 Wp:Io T
 Wq:Ir T
def BK:Fn:=⟨2,39,[.cell 4 11 true],(.seq (rf 1 [oN 4 (.alloc J7)]) (sr [oW 9 0,oW 10 1,oN 11 (cl 107 [9,10]),oW 5 11] (sr [oW 12 0,oW 13 1,oN 14 (cl 107 [12,13]),oW 6 14] (.seq (sr [oW 15 5,oW 16 6,oN 17 (bt .eql 15 16)] (cd 17 (rg [oW 18 5,oN 19 (bc .add 18 1),oW 20 1,oN 21 (bc .add 20 1),oN 22 (bt .rem 19 21),oW 6 22]) .skip)) (.seq (rf 1 [oK 24 1 (oV 5),oK 25 1 (oV 6),oK 26 1 (oV 0),oK 27 1 (.call 107 [(.t 26),(cI 9)]),oK 28 1 (.bin .add (cI 1) (.t 27)),oK 29 1 (oV 0),oK 30 1 (.call 107 [(.t 29),(cI 41)]),oK 31 1 (bc .sub 30 20),oK 32 1 (oV 0),oK 33 1 (.call 107 [(.t 32),(cI 41)]),oK 34 1 (bc .sub 33 20),oK 35 1 (cl 14 [24,25,28,31,34]),oK 23 1 (oV 35),oK 36 1 (ex 0 23),oK 37 1 (ex 1 23),oN 7 (.alloc J7),⟨none,none,1,.store 11 (.t 7) (.t 36),[]⟩,oK 8 1 (oV 37)]) (sr [oN 38 (lT 11 7),oS (.store 11 (.t 4) (.t 38))] .ret))))))⟩
structure GK (T:Tb):Prop where
 hT:T 128=some BK
 BL:Bl T
 kK:rG T
abbrev bytesV(x:List UInt8):V:=.sl 1 (x.map fun b=>[.int .u8 b.toNat])
def cur(x:List UInt8)(i h:Int):Store:=[some ⟨3,[[bytesV x,iv i,iv h]]⟩]
theorem ajb(a:Int):0≤G6 .i64 a 255∧G6 .i64 a 255≤255:=by
 have h:(BitVec.ofInt 64 a &&& BitVec.ofInt 64 255).toNat≤255:=by
  rw [BitVec.toNat_and];exact bV Nat.and_le_right (by decide)
 unfold G6;rw [show IntKind.i64.bits=64 from rfl,w64 ⟨by omega,by omega⟩];omega
theorem agh{T:Tb}(h:yc T){x:List UInt8}{i hh:Int}(hi:0≤i∧i≤x.length)(hx:x.length≤1048576) :
  ∃n i' h':Int,(0≤n∧n≤255)∧(0≤i'∧i'≤x.length)∧Run T (.fn 129 [.ptr 0 0 0] (cur x i hh)) (.fn (iv n) (cur x i' h')):=by
 have:∃r σ',Run T (.fn 129 [.ptr 0 0 0] (cur x i hh)) (.fn r σ')∧∃n i' h':Int,(r=iv n∧σ'=cur x i' h')∧(0≤n∧n≤255)∧(0≤i'∧i'≤x.length):=by
  unfold cur;refine run_end nR h.hT ?_;simp only [BF,Lz,St.enter,ak,aC,aQ];refine ew ?_;refine jW (fun hc=>?_) fun hc=>?_<;>(refine y9 @hc ?_;try with_reducible exact True.intro)
  ·have g1:(x.map fun b=>[V.int .u8 b.toNat]).getD i.toNat []=[.int .u8 (x.getD i.toNat default).toNat]:=mg (f:=fun b:UInt8=>[V.int .u8 b.toNat]) (by omega);have hb:(x.getD i.toNat default).toNat<256:=(x.getD i.toNat default).toBitVec.isLt;generalize (x.getD i.toNat default).toNat=b at g1 hb;refine y9 @g1 ?_
   trace_state
   exact⟨_,_,_,⟨rfl,rfl⟩,ajb _,by omega⟩
  refine ew ?_;exact⟨_,_,_,⟨rfl,rfl⟩,ajb _,hi⟩
 obtain⟨r,σ',h1,n,i',h',⟨rfl,rfl⟩,h2,h3⟩:=this;exact⟨n,i',h',h2,h3,h1⟩
def Nl(x:List UInt8)(i h:Int):Obj:=⟨3,[[bytesV x,iv i,iv h]]⟩
def Np(s:Store)(b:Nat)(x:List UInt8):Prop:=∃i h:Int,iZ s b=some (Nl x i h)∧0≤i∧i≤x.length
def agi(T:Tb)(f:Nat)(rest:List V)(x:List UInt8)(Q:V→Prop):Prop :=
 ∀i h:Int,0≤i∧i≤x.length→∃(r:V) (i' h':Int),(Q r∧∀g,kH g r=r)∧(0≤i'∧i'≤x.length)∧Run T (.fn f (.ptr 0 0 0::rest) (cur x i h)) (.fn r (cur x i' h'))
theorem ED(g:Nat→Option Nat)(x:List UInt8)(i h:Int):oQ g (Nl x i h)=Nl x i h:=by
 simp [oQ,Nl,kH]
theorem YN{T:Tb}{f:Nat}{rest:List V}{x:List UInt8}{Q:V→Prop}
  (h:∀i h:Int,0≤i∧i≤x.length→∃r σ',Run T (.fn f (.ptr 0 0 0::rest) (cur x i h)) (.fn r σ')∧(Q r∧∀g,kH g r=r)∧Np σ' 0 x):agi T f rest x Q:=by
 intro i hh hi;obtain⟨r,σ',h1,h2,i',h',h3,h4⟩:=h i hh hi;refine⟨r,i',h',h2,h4,?_⟩;have:=Run.gcF [0] (by simp) (fun k hk=>by
  have hk:k<1:=hk;have e:k=0:=by omega
  rw [e];rfl) h1
 rw [h2.2]at this;have e:Fv [0] σ'=cur x i' h':=by
  simp only [Fv,bU,iO,h3,bQ,ED];rfl
 rwa [e]at this
theorem nU{T:Tb}{f:Nat}{as:List Src}{dst:Option Nat}{env:Nat→V}{σ:Store}{kp bs:Nat}{rs ms:List Nat}{k:St→Prop}{b:Nat}{x:List UInt8}{rest:List V}{Q:V→Prop}
  (hb:Np σ b x) (hf:agi T f rest x Q) (ha:(as.map fun s=>s.ev env)=.ptr b 0 0::rest) (hr:∀g,rest.map (kH g)=rest)
  (hk:∀(r:V) (i h:Int),Q r→0≤i∧i≤x.length→k ⟨nG env dst r,σ.set b (some (Nl x i h)),kp,bs,rs,ms⟩):KX T f as dst ⟨env,σ,kp,bs,rs,ms⟩ k:=by
 obtain⟨i,h,hob,hi⟩:=hb;obtain⟨r,i',h',⟨hq,hm⟩,hi',hrun⟩:=hf i h hi;have e:(as.map fun s=>kH (place [b]) (s.ev env))=.ptr 0 0 0::rest:=by
  have:(as.map fun s=>kH (place [b]) (s.ev env))=(as.map fun s=>s.ev env).map (kH (place [b])):=by rw [gu];rfl
  rw [this,ha,bU,hr];simp [kH,place]
 have e2:Fv [b] σ=cur x i h:=by
  simp only [Fv,bU,iO,hob,bQ,ED];rfl
 have hlt:=kD hob;have e3:qC [b] σ (cur x i' h')=σ.set b (some (Nl x i' h')):=by
  unfold qC;have:(cur x i' h').drop [b].length=[]:=rfl;rw [this,iO,aP]
  apply dX
  intro q;rw [jc,dP];by_cases hq:b=q
  ·subst hq;rw [if_pos rfl,if_pos hlt,au hlt];simp only [bQ,place,if_true];show some ((iZ (cur x i' h') 0).map _)=_;show some (some (oQ _ (Nl x i' h')))=_;rw [ED]
  rw [if_neg hq]
  cases hg:σ[q]? with
  |none=>rfl
  |some ob=>simp [place,hq]
 refine⟨_,.ref [b] (by simp) (fun o ho=>by rw [aV.1 ho,hob];rfl) (r:=r) (σ':=cur x i' h') (by rw [e,e2];exact hrun),?_⟩;have:=hk r i' h' hq hi';rw [←e3]at this;have hm2:=hm (back [b] σ.length);show k ⟨nG env dst (kH (back [b] σ.length) r),_,_,_,_,_⟩;rw [hm2];exact this
theorem XD{T:Tb}(h:yc T){x:List UInt8}(hx:x.length≤1048576):agi T 129 [] x fun r=>∃n:Int,r=iv n∧0≤n∧n≤255:=by
 intro i hh hi;obtain⟨n,i',h',h1,h2,h3⟩:=agh h (hh:=hh) hi hx;exact⟨iv n,i',h',⟨⟨n,rfl,h1⟩,fun g=>rfl⟩,h2,h3⟩
theorem oJ{T:Tb}(h:rG T){x:List UInt8}{n:Int}(hn:0<n∧n≤256)(hx:x.length≤1048576):agi T 107 [iv n] x fun r=>∃m:Int,r=iv m∧0≤m∧m<n:=by
 refine YN fun i hh hi=>?_;have hP:Np (cur x i hh) 0 x:=⟨i,hh,rfl,hi⟩;have h1:¬n≤0:=by omega
 have hl:(cur x i hh).length=1:=rfl;generalize cur x i hh=s0 at hP hl ⊢;refine run_end (fun x d=>x == 129) h.hT ?_;simp only [zN,Lz,St.enter,ak,aC,aQ];refine ew ?_;refine jW (fun hc=>absurd hc h1) fun _=>?_;refine ew ?_;refine jW (fun _=>?_) fun hc=>absurd hn.2 hc;refine ew ?_;refine nU hP (XD h.Gz hx) rfl (fun _=>rfl) ?_;rintro _ i2 h2 ⟨m,rfl,hm⟩ hi2;refine ew ?_;exact⟨⟨⟨_,rfl,Int.tmod_nonneg _ hm.1,Int.tmod_lt_of_pos _ hn.1⟩,fun g=>rfl⟩,i2,h2,kF (by omega),hi2⟩
theorem ana{T:Tb}(h:BI T){x:List UInt8}(hx:x.length≤1048576){i hh:Int}(hi:0≤i∧i≤x.length) :
  ∃(d i' h':Int),(1≤d∧d≤3)∧(0≤i'∧i'≤x.length)∧Run T (.fn 191 [.ptr 0 0 0,.kQ 1 0 5] [some (Nl x i hh),some ⟨1,[[iv 1],[iv 1],[iv 1],[iv 2],[iv 3]]⟩]) (.fn (iv d) [some (Nl x i' h'),some ⟨1,[[iv 1],[iv 1],[iv 1],[iv 2],[iv 3]]⟩]):=by
 have:∃r σ',Run T (.fn 191 [.ptr 0 0 0,.kQ 1 0 5] [some (Nl x i hh),some ⟨1,[[iv 1],[iv 1],[iv 1],[iv 2],[iv 3]]⟩]) (.fn r σ')∧∃d i' h':Int,(r=iv d∧σ'=[some (Nl x i' h'),some ⟨1,[[iv 1],[iv 1],[iv 1],[iv 2],[iv 3]]⟩])∧(1≤d∧d≤3)∧(0≤i'∧i'≤x.length):=by
  refine run_end (fun x d=>x == 107) h.hT ?_;simp only [BH,Lz,St.enter,ak,aC,aQ];refine ew ?_;refine nU (b:=0) (rest:=[iv 5]) ⟨i,hh,rfl,hi⟩ (oJ h.kK (n:=5) (by omega) hx) rfl (fun _=>rfl) ?_;rintro _ i2 h2 ⟨m,rfl,hm⟩ hi2;have:m=0∨m=1∨m=2∨m=3∨m=4:=by omega
  rcases this with rfl|rfl|rfl|rfl|rfl
  all_goals
   refine ew ?_;exact⟨_,_,_,⟨rfl,rfl⟩,by omega,hi2⟩
 obtain⟨r,σ',h1,n,i',h',⟨rfl,rfl⟩,h2,h3⟩:=this;exact⟨n,i',h',h2,h3,h1⟩
def l5:Obj:=⟨1,[[iv 1],[iv 1],[iv 1],[iv 2],[iv 3]]⟩
theorem aev(g:Nat→Option Nat):oQ g l5=l5:=by simp [oQ,l5,kH]
theorem ac3{T:Tb}(h:BI T){x:List UInt8}(hx:x.length≤1048576){as:List Src}{dst:Option Nat}{env:Nat→V}{σ:Store}{kp bs:Nat}{rs ms:List Nat}{k:St→Prop}{b p:Nat}
  (hb:Np σ b x) (hp:iZ σ p=some l5) (hne:b≠p) (ha:(as.map fun s=>s.ev env)=[.ptr b 0 0,.kQ p 0 5])
  (hk:∀(d i h:Int),(1≤d∧d≤3)→0≤i∧i≤x.length→k ⟨nG env dst (iv d),σ.set b (some (Nl x i h)),kp,bs,rs,ms⟩):KX T 191 as dst ⟨env,σ,kp,bs,rs,ms⟩ k:=by
 obtain⟨i,hh,hob,hi⟩:=hb;obtain⟨d,i',h',hd,hi',hrun⟩:=ana h hx (hh:=hh) hi;have e:(as.map fun s=>kH (place [b,p]) (s.ev env))=[.ptr 0 0 0,.kQ 1 0 5]:=by
  have:(as.map fun s=>kH (place [b,p]) (s.ev env))=(as.map fun s=>s.ev env).map (kH (place [b,p])):=by rw [gu];rfl
  rw [this,ha];simp [kH,place,hne]
 have e2:Fv [b,p] σ=[some (Nl x i hh),some l5]:=by
  simp only [Fv,bU,iO,hob,hp,bQ,ED,aev]
 have hlt:=kD hob;have hlp:=kD hp;have e3:qC [b,p] σ [some (Nl x i' h'),some l5]=σ.set b (some (Nl x i' h')):=by
  unfold qC;have:([some (Nl x i' h'),some l5]:Store).drop [b,p].length=[]:=rfl;rw [this,iO,aP]
  apply dX
  intro q;rw [jc,dP];by_cases hq:b=q
  ·subst hq;rw [if_pos rfl,if_pos hlt,au hlt];simp only [bQ,place,if_true];show some (some (oQ _ (Nl x i' h')))=_;rw [ED]
  rw [if_neg hq];by_cases hq2:p=q
  ·subst hq2;have h5:σ[p]? = some (some l5):=by
    rw [au hlp];have:(σ[p]?).getD none=some l5:=hp;rw [au hlp]at this;exact congrArg some this
   rw [h5];simp only [bQ,place,if_neg hq,if_true];show some (some (oQ _ l5))=_;rw [aev]
  cases hg:σ[q]? with
  |none=>rfl
  |some ob=>simp [place,hq,hq2]
 refine⟨_,.ref [b,p] (by simp [hne]) (fun o ho=>by
  rcases aH.1 ho with rfl|ho
  ·rw [hob];rfl
  rw [aV.1 ho,hp];rfl) (r:=iv d) (σ':=[some (Nl x i' h'),some l5]) (by rw [e,e2];exact hrun),?_⟩
 have:=hk d i' h' hd hi';rw [←e3]at this;exact this
def KF(n d:Int):R:=Q.raw (VL n d)
theorem avr{n:Int}(hn : -1000000≤n∧n≤1000000):(wG (bi n).mag && !((bi n).neg&&(bi n).mag.isEmpty))=true:=by
 have h1:wG (mk n.natAbs)=true:=O6 (dZ (by omega:n.natAbs≤1000000) (by decide));show (wG (mk n.natAbs) && !(decide (n<0)&&(mk n.natAbs).isEmpty))=true;rw [h1,cO];by_cases h:n<0
 ·have h2:mk n.natAbs≠[]:=fun e=>by
   have:=congrArg val e;rw [val_mk]at this;simp [val]at this;omega
  rw [decide_eq_true h,cO]
  cases he:mk n.natAbs with
  |nil=>exact absurd he h2
  |cons a l=>rfl
 rw [decide_eq_false h];rfl
theorem ac4{T:Tb}(h:GH T){n d:Int}(hn : -1000000≤n∧n≤1000000:=by exact qW)(hd:1≤d∧d≤1000000:=by exact qW):PF T 199 [SC (bi n),SC (bi d)] (kC (KF n d)):=by
 have ln:(mk n.natAbs).length≤2:=Le (by omega);have ld:(mk d.natAbs).length≤2:=Le (by omega);have c1:=RJ h.Ku (z:=bi n) (by show (mk n.natAbs).length≤_;omega);have c2:=RJ h.Ku (z:=bi d) (by show (mk d.natAbs).length≤_;omega);rw [avr hn]at c1;rw [avr ⟨by omega,hd.2⟩]at c2;have c3:=ait h.Wn (neg:=decide (n<0)) (m:=n.natAbs) (n:=d.natAbs) (by omega) (by omega);have e:sg (decide (n<0)) n.natAbs=n:=by unfold sg;split<;>simp_all<;>omega
 have e2:((d.natAbs:Nat):Int)=d:=by omega
 rw [e,e2]at c3;have hdn:(d<0)=False:=eq_false (by omega);refine jZ nR h.hT ?_;simp only [BG,Lz];refine ev ?_;refine jl c1 ?_;refine ev ?_;refine jl c2 ?_;refine ev1 @hdn ?_;refine jl c3 ?_;refine ev ?_;exact jP _
theorem ajc{T:Tb}(h:JL T){n d:Int}(hn : -1000000≤n∧n≤1000000:=by exact qW)(hd:1≤d∧d≤1000000:=by exact qW):PF T 190 [iv n,iv d] (kC (KF n d)):=by
 have c1:=Lh h.zG (n:=n) (by omega);have c2:=Lh h.zG (n:=d) (by omega);refine jZ nR h.hT ?_;simp only [FT,Lz];refine ev ?_;refine jl c1 ?_;refine ev ?_;refine jl c2 ?_;refine ev ?_;refine jl (ac4 h.Vb hn hd) ?_;refine ev ?_;exact jP _
theorem ajd(g:Nat→Option Nat)(r:R):kH g (kC r)=kC r:=by simp [kH,kH.F7]
theorem aje{T:Tb}(h:Ir T){x:List UInt8}(hx:x.length≤1048576):agi T 184 [] x fun r=>∃n d:Int,r=kC (KF n d)∧(-10≤n∧n≤10)∧(1≤d∧d≤3):=by
 refine YN fun i hh hi=>?_;unfold cur;refine run_end (fun x d=>x == 107||x == 191) h.hT ?_;simp only [Ej,Lz,St.enter,ak,aC,aQ];refine ew ?_;refine nU (b:=0) (rest:=[iv 21]) ⟨i,hh,rfl,hi⟩ (oJ h.kK (n:=21) (by omega) hx) rfl (fun _=>rfl) ?_;rintro _ i2 h2 ⟨m,rfl,hm⟩ hi2;refine ew ?_;refine ac3 h.Vd hx (b:=0) (p:=2) ⟨i2,h2,rfl,hi2⟩ rfl (by decide) rfl ?_;intro d i3 h3 hd hi3;refine ew ?_;refine jl (ajc h.YM (n:=m-10) (d:=d) (by omega) (by omega)) ?_;refine ew ?_;exact⟨⟨⟨_,_,rfl,by omega,hd⟩,fun g=>ajd g _⟩,i3,h3,rfl,hi3⟩
theorem aaQ{T:Tb}(h:Eh T){x:List UInt8}(hx:x.length≤1048576):∃hh:Int,Run T (.fn 105 [bytesV x] []) (.fn (.ptr 0 0 0) (cur x 0 hh)):=by
 have:∃r σ',Run T (.fn 105 [bytesV x] []) (.fn r σ')∧∃hh:Int,r=.ptr 0 0 0∧σ'=cur x 0 hh:=by
  refine run_end nR h.hT ?_;simp only [Ef,Lz,St.enter,ak,aC,aQ];refine ew ?_;refine jX (fun _ _=>false) (α:=Nat×Int) (fun q=>⟨lS [bytesV x,.any,.any,iv q.2,iv (q.1:Nat)],[],0,0,[],[]⟩) (fun q=>q.1≤x.length) (fun q=>x.length-q.1) rfl (0,1951+x.length) ?_ ?_ ?_
  ·omega
  ·(refine jS ?_;exact zV)
  rintro⟨k,hh⟩ hk;dsimp only at hk;by_cases hc:(k:Int)<(x.length:Nat)
  ·have hkl:k<x.length:=by omega
   by_cases hc2:(k:Int)<4000
   ·have g1:(x.map fun b=>[V.int .u8 b.toNat]).getD k []=[.int .u8 (x.getD k default).toNat]:=mg (f:=fun b:UInt8=>[V.int .u8 b.toNat]) hkl;have hb:(x.getD k default).toNat<256:=(x.getD k default).toBitVec.isLt;generalize (x.getD k default).toNat=b at g1 hb;refine Fj @hc @hc2 @g1 ?_;exact⟨(k+1,G6 IntKind.i64 (IntKind.i64.wrap (IntKind.i64.wrap (IntKind.i64.wrap (hh*59)+b)+7)) 1073741823),by dsimp only;omega,by dsimp only;omega,by (refine jS ?_;exact zV)⟩
   refine Aq @hc @hc2 ?_;exact⟨_,rfl⟩
  refine y9 @hc ?_;exact⟨_,rfl⟩
 obtain⟨r,σ',h1,hh,rfl,rfl⟩:=this;exact⟨hh,h1⟩
theorem XE{x:List UInt8}{i h:Int}{s:Store}(hi:0≤i∧i≤x.length):Np (yH s (cur x i h)) s.length x:=by
 refine⟨i,h,?_,hi⟩;rw [oU,if_neg (jV _),Nat.sub_self];show (some (Nl x i h)).map _=_;rw [bQ,ED]
theorem ajf{T:Tb}(h:Io T){x:List UInt8}{n:Int}(hn:n≤1000)(hx:x.length≤1048576):∃i hh:Int,(0≤i∧i≤x.length)∧Run T (.fn 181 [bytesV x,iv n] []) (.fn (.ptr 0 0 0) (cur x i hh)):=by
 obtain⟨h0,rn⟩:=aaQ h.Ip hx;have:∃r σ',Run T (.fn 181 [bytesV x,iv n] []) (.fn r σ')∧(r=.ptr 0 0 0∧Np σ' 0 x):=by
  refine run_end (fun x d=>x == 105||x == 129) h.hT ?_;simp only [Ei,Lz,St.enter,ak,aC,aQ];refine ew ?_;refine MQ rn (by (refine ew ?_;try with_reducible exact True.intro)) (by (refine ew ?_;try with_reducible exact True.intro)) ?_;have hP:=XE (x:=x) (i:=0) (h:=h0) (s:=[]) (by omega);rw [aC]at hP;rw [show kH (lG ([]:Store).length) (.ptr 0 0 0)=.ptr 0 0 0 from rfl];generalize yH [] (cur x 0 h0)=s0 at hP ⊢;refine ew ?_;refine jX (fun x d=>x == 105||x == 129) (α:=Nat×Store) (fun q=>⟨lS [.any,iv n,.any,.any,.any,.ptr 0 0 0,iv (q.1:Nat)],q.2,0,0,[],[]⟩) (fun q=>q.1≤1000∧Np q.2 0 x) (fun q=>1000-q.1) rfl (0,s0) ?_ ?_ ?_
  ·exact⟨by omega,hP⟩
  ·(refine jS ?_;exact zV)
  clear hP;rintro⟨k,s⟩ ⟨hk,hP⟩;dsimp only at hk hP;refine ew ?_;refine jW (fun hc=>?_) fun hc=>?_<;>(refine y9 @hc ?_;try with_reducible exact True.intro)
  ·refine nU hP (XD h.Gz hx) rfl (fun _=>rfl) ?_;rintro _ i2 h2 ⟨m,rfl,hm⟩ hi2;refine ew ?_;have hlt:0<s.length:=by obtain⟨_,_,ho,_⟩:=hP;exact kD ho
   exact⟨(k+1,s.set 0 (some (Nl x i2 h2))),by dsimp only;omega,⟨by dsimp only;omega,⟨i2,h2,kF hlt,hi2⟩⟩,by (refine jS ?_;exact zV)⟩
  exact hP
 obtain⟨r,σ',h1,rfl,i',h',h3,h4⟩:=this;refine⟨i',h',h4,?_⟩;have:=Run.gcF [0] (by simp) (fun k hk=>absurd hk (gG _)) h1;have e:Fv [0] σ'=cur x i' h':=by
  simp only [Fv,bU,iO,h3,bQ,ED];rfl
 rwa [e]at this
theorem agj{T:Tb}(h:GI T){x:List UInt8}{n:Int}(hn:0≤n∧n≤100)(hx:x.length≤1048576):∃m d:Int,(-10≤m∧m≤10)∧(1≤d∧d≤3)∧PF T 175 [bytesV x,iv n] (kC (KF m d)):=by
 obtain⟨i0,h0,hi0,rn⟩:=ajf h.Wp (n:=3*n) (by omega) hx;have:∃r σ',Run T (.fn 175 [bytesV x,iv n] []) (.fn r σ')∧∃m d:Int,(-10≤m∧m≤10)∧(1≤d∧d≤3)∧r=kC (KF m d):=by
  refine run_end (fun x d=>x == 181||x == 184) h.hT ?_;simp only [BJ,Lz,St.enter,ak,aC,aQ];refine ew ?_;refine MQ rn (by (refine ew ?_;try with_reducible exact True.intro)) (by (refine ew ?_;try with_reducible exact True.intro)) ?_;obtain⟨s,hs⟩:∃s,yH [some ⟨3,[[.bool false,.jF,.jF]]⟩] (cur x i0 h0)=s:=⟨_,rfl⟩;have hP:=XE (x:=x) (i:=i0) (h:=h0) (s:=[some ⟨3,[[.bool false,.jF,.jF]]⟩]) hi0;have h00:iZ s 0=some ⟨3,[[.bool false,.jF,.jF]]⟩:=by rw [←hs,oU,if_pos (by decide)];rfl
  rw [hs]at hP ⊢;rw [show kH (lG ([some ⟨3,[[.bool false,.jF,.jF]]⟩]:Store).length) (.ptr 0 0 0)=.ptr 1 0 0 from rfl];rw [show ([some ⟨3,[[.bool false,.jF,.jF]]⟩]:Store).length=1 from rfl]at hP;have hlt:1<s.length:=by obtain⟨_,_,ho,_⟩:=hP;exact kD ho
  refine ew ?_;refine nU hP (aje h.Wq hx) rfl (fun _=>rfl) ?_;rintro _ i2 h2 ⟨m,d,rfl,hm,hd⟩ hi2;refine y9 @h00 ?_;exact⟨m,d,hm,hd,rfl⟩
 obtain⟨r,σ',h1,m,d,h2,h3,rfl⟩:=this;exact⟨m,d,h2,h3,.WL h1 (zf (by intro v hv;simp at hv;rcases hv with rfl|rfl|rfl<;>rfl))⟩
structure SmL (l:Lk):Prop where
 ab:0≤l.a∧l.a<l.b∧l.b≤3
 w:∃n:Int,(1≤n∧n≤9)∧l.w=ku n
 dx:∃n:Int,(-20≤n∧n≤20)∧l.dx=ku n
 dy:∃n:Int,(-20≤n∧n≤20)∧l.dy=ku n
theorem aew(g:Nat→Option Nat)(l:Lk):kH g (V4 l)=V4 l:=by simp [kH,kH.F7]
def BM:Fn:=⟨2,51,[.tmp 4],(sr [oN 4 mN] (.seq (rf 1 [oN 10 (.oI 11 J7 0 []),oK 5 1 (oV 10)]) (.seq (sr [oN 6 (.oO (cI 1))] (.block 0 (.loop (.seq (sr [oW 11 6,oW 12 1,oN 13 (bt .leq 11 12)] (cd 13 .skip (.exit 0))) (.seq (.block 1 (.seq (rf 1 [oK 17 1 (oV 0),oK 18 1 (oV 6),oK 19 1 (cl 107 [17,18]),oK 20 1 (oV 6),oK 21 1 (oV 0),oK 22 1 (.call 107 [(.t 21),(cI 9)]),oK 23 1 (.bin .add (cI 1) (.t 22)),oK 24 1 (oV 0),oK 25 1 (.call 107 [(.t 24),(cI 41)]),oK 26 1 (bc .sub 25 20),oK 27 1 (oV 0),oK 28 1 (.call 107 [(.t 27),(cI 41)]),oK 29 1 (bc .sub 28 20),oK 30 1 (cl 14 [19,20,23,26,29]),oK 16 1 (oV 30),oK 31 1 (ex 0 16),oK 32 1 (ex 1 16),oN 7 (.alloc J7),⟨none,none,1,.store 11 (.t 7) (.t 31),[]⟩,oK 8 1 (oV 32)]) (rf 2 [oK 33 2 (oV 5),oK 34 2 (lT 11 7),oN 35 (.oI 11 J7 1 [(0,(.t 34))]),oK 36 1 (.app 11 184 (.t 33) (.t 35)),oK 5 2 (oV 36)]))) (rg [oW 14 6,oN 15 (bc .add 14 1),oW 6 15])))))) (.seq (sr [oW 37 0,oN 38 (.call 107 [(.t 37),(cI 4)]),oW 9 38] (.block 2 (.loop (.seq (sr [oW 39 9,oN 40 (bc .gtr 39 0)] (cd 40 .skip (.exit 2))) (.seq (.block 3 (rf 2 [oK 43 2 (oV 5),oK 44 2 (oV 0),oK 45 2 (oV 1),oK 46 2 (bc .add 45 1),oK 47 2 (cl 128 [44,46]),oN 48 (.oI 11 J7 1 [(0,(.t 47))]),oK 49 1 (.app 11 184 (.t 43) (.t 48)),oK 5 2 (oV 49)])) (rg [oW 41 9,oN 42 (bc .sub 41 1),oW 9 42])))))) (sr [oW 50 5,oW 4 50] .ret)))))⟩
structure GL (T:Tb):Prop where
 hT:T 106=some BM
 BL:Bl T
 kK:rG T
 Ve:GK T
def yD:Fn:=⟨1,11,[.tmp 2],(sr [oN 2 mN] (sr [oW 4 0,oN 5 (cl 105 [4]),oW 3 5] (sr [oW 6 3,oW 7 3,oN 8 (.call 107 [(.t 7),(cI 4)]),oN 9 (.bin .add (cI 1) (.t 8)),oN 10 (cl 106 [6,9]),oW 2 10] .ret)))⟩
structure Dh (T:Tb):Prop where
 hT:T 87=some yD
 Ip:Eh T
 Vf:GL T
 kK:rG T
structure YO (n:Int) (l:Lk):Prop where
 ab:0≤l.a∧l.a<l.b∧l.b≤n
 w:∃n:Int,(1≤n∧n≤9)∧l.w=ku n
 dx:∃n:Int,(-20≤n∧n≤20)∧l.dx=ku n
 dy:∃n:Int,(-20≤n∧n≤20)∧l.dy=ku n
theorem YO.mono{n m:Int}{l:Lk}(h:YO n l)(hm:n≤m):YO m l:=⟨⟨h.ab.1,h.ab.2.1,by have:=h.ab.2.2;omega⟩,h.w,h.dx,h.dy⟩
theorem ac5{n a b w x y:Int}(hn:n≤9)(ha:0≤a∧a≤n)(hb:0≤b∧b≤n)(hne:a≠b)(hw:1≤w∧w≤9)(hx : -20≤x∧x≤20)(hy : -20≤y∧y≤20):YO n (nlV a b w x y)∧(a<b→(nlV a b w x y).b=b):=by
 have hok:agf a b w x y=true:=by
  unfold agf nd inC wtC;simp;omega
 unfold nlV;rw [if_pos hok];split
 ·exact⟨⟨⟨by dsimp only;omega,by dsimp only;omega,by dsimp only;omega⟩,⟨w,hw,rfl⟩,⟨-x,by omega,rfl⟩,⟨-y,by omega,rfl⟩⟩,fun h=>by omega⟩
 exact⟨⟨⟨by dsimp only;omega,by dsimp only;omega,by dsimp only;omega⟩,⟨w,hw,rfl⟩,⟨x,hx,rfl⟩,⟨y,hy,rfl⟩⟩,fun _=>rfl⟩
theorem ac6{T:Tb}(h:GK T){x:List UInt8}{n:Int}(hn:1≤n∧n≤5)(hx:x.length≤1048576):agi T 128 [iv n] x fun r=>∃l:Lk,r=V4 l∧YO n l:=by
 refine YN fun i hh hi=>?_;unfold cur;refine run_end (fun x d=>x == 107) h.hT ?_;simp only [BK,Lz,St.enter,ak,aC,aQ];refine ew ?_;refine nU (b:=0) (rest:=[iv n]) ⟨i,hh,rfl,hi⟩ (oJ h.kK (n:=n) (by omega) hx) rfl (fun _=>rfl) ?_;rintro _ i2 h2 ⟨a,rfl,ha⟩ hi2;refine ew ?_;refine nU (b:=0) (rest:=[iv n]) ⟨i2,h2,rfl,hi2⟩ (oJ h.kK (n:=n) (by omega) hx) rfl (fun _=>rfl) ?_;rintro _ i3 h3 ⟨b,rfl,hb⟩ hi3;refine ew ?_;refine jW (fun hc=>?_) fun hc=>?_
 ·have hw1:IntKind.i64.wrap (n+1)=n+1:=w64 (by omega);have hr:(a+1).tmod (n+1)=a+1:=Int.tmod_eq_of_lt (by omega) (by omega);refine y9 @hr ?_;refine nU (b:=0) (rest:=[iv 9]) ⟨i3,h3,rfl,hi3⟩ (oJ h.kK (n:=9) (by omega) hx) rfl (fun _=>rfl) ?_;rintro _ i4 h4 ⟨w,rfl,hw⟩ hi4;refine ew ?_;refine nU (b:=0) (rest:=[iv 41]) ⟨i4,h4,rfl,hi4⟩ (oJ h.kK (n:=41) (by omega) hx) rfl (fun _=>rfl) ?_;rintro _ i5 h5 ⟨dx,rfl,hdx⟩ hi5;refine ew ?_;refine nU (b:=0) (rest:=[iv 41]) ⟨i5,h5,rfl,hi5⟩ (oJ h.kK (n:=41) (by omega) hx) rfl (fun _=>rfl) ?_;rintro _ i6 h6 ⟨dy,rfl,hdy⟩ hi6;refine ew ?_;have hS:=ac5 (n:=n) (a:=a) (b:=a+1) (w:=1+w) (x:=dx-20) (y:=dy-20) (by omega) (by omega) (by omega) (by omega) (by omega) (by omega) (by omega);refine jl (OA h.BL (a:=a) (b:=a+1) (w:=1+w) (x:=dx-20) (y:=dy-20)) ?_;generalize nlV a (a+1) (1+w) (dx-20) (dy-20)=l at hS ⊢;refine ew ?_;exact⟨⟨⟨l,rfl,hS.1⟩,fun g=>aew g _⟩,i6,h6,rfl,hi6⟩
 refine ew ?_;refine nU (b:=0) (rest:=[iv 9]) ⟨i3,h3,rfl,hi3⟩ (oJ h.kK (n:=9) (by omega) hx) rfl (fun _=>rfl) ?_;rintro _ i4 h4 ⟨w,rfl,hw⟩ hi4;refine ew ?_;refine nU (b:=0) (rest:=[iv 41]) ⟨i4,h4,rfl,hi4⟩ (oJ h.kK (n:=41) (by omega) hx) rfl (fun _=>rfl) ?_;rintro _ i5 h5 ⟨dx,rfl,hdx⟩ hi5;refine ew ?_;refine nU (b:=0) (rest:=[iv 41]) ⟨i5,h5,rfl,hi5⟩ (oJ h.kK (n:=41) (by omega) hx) rfl (fun _=>rfl) ?_;rintro _ i6 h6 ⟨dy,rfl,hdy⟩ hi6;refine ew ?_;have hS:=ac5 (n:=n) (a:=a) (b:=b) (w:=1+w) (x:=dx-20) (y:=dy-20) (by omega) (by omega) (by omega) (by omega) (by omega) (by omega) (by omega);refine jl (OA h.BL (a:=a) (b:=b) (w:=1+w) (x:=dx-20) (y:=dy-20)) ?_;generalize nlV a (b) (1+w) (dx-20) (dy-20)=l at hS ⊢;refine ew ?_;exact⟨⟨⟨l,rfl,hS.1⟩,fun g=>aew g _⟩,i6,h6,rfl,hi6⟩
structure Vg (n:Nat) (L:List Lk):Prop where
 rn:1≤n∧n≤4
 len:n≤L.length∧L.length≤n+3
 sm:∀l∈L,YO ((n:Int)+1) l
 base:∀k,k<n→(L.getD k default).b=(k:Int)+1
theorem XF{xs:List Lk}{l:Lk}{k:Nat}:(xs++[l]).getD k default=if k<xs.length then xs.getD k default else if k=xs.length then l else default:=by
 rw [aj,aj];split
 ·rename_i h;rw [bf h]
 rename_i h;split
 ·rename_i e;subst e;simp
 rw [aW (by simp<;>omega)];rfl
def agk(s:Store)(v:V)(xs:List Lk):Prop:=(xs=[]∧v=.jF)∨∃p,v=.kQ p 0 xs.length∧iZ s p=some ⟨11,xs.map Lk.cells⟩∧p≠0
theorem agk.fr{s s2:Store}{v:V}{xs:List Lk}(h:agk s v xs)(hf:∀p,p≠0→p<s.length→iZ s2 p=iZ s p):agk s2 v xs:=by
 rcases h with h|⟨p,h1,h2,h3⟩
 ·exact .inl h
 exact .inr ⟨p,h1,(hf p h3 (kD h2)).trans h2,h3⟩
theorem Np.fr{s s2:Store}{x:List UInt8}(h:Np s 0 x)(hf:iZ s2 0=iZ s 0):Np s2 0 x:=by
 obtain⟨i,hh,h1,h2⟩:=h;exact⟨i,hh,hf.trans h1,h2⟩
theorem Np.lt{s:Store}{x:List UInt8}(h:Np s 0 x):0<s.length:=by obtain⟨i,hh,h1,h2⟩:=h;exact kD h1
theorem agl{T:Tb}(h:GL T){x:List UInt8}(hx:x.length≤1048576){n:Nat}(hn:1≤n∧n≤4){i hh:Int}(hi:0≤i∧i≤x.length) :
  ∃r σ',Run T (.fn 106 [.ptr 0 0 0,iv n] (cur x i hh)) (.fn r σ')∧(∃L,Vg n L∧resolve σ' FD r=some (oP L))∧1≤σ'.length:=by
 have hP:Np (cur x i hh) 0 x:=⟨i,hh,rfl,hi⟩;generalize cur x i hh=s0 at hP ⊢;have hP0:=hP.lt;refine run_end (fun x d=>x == 107||x == 128) h.hT ?_;simp only [BM,Lz,St.enter,ak,aC,aQ];refine ew ?_;refine jX (fun x d=>x == 107||x == 128) (α:=Nat×Store×V×List Lk) (fun q=>⟨lS [.ptr 0 0 0,iv n,.any,.any,.any,q.2.2.1,iv ((q.1:Nat)+1)],q.2.1,s0.length,0,[],[]⟩) (fun q=>(q.1≤n∧Np q.2.1 0 x)∧agk q.2.1 q.2.2.1 q.2.2.2∧q.2.2.2.length=q.1∧(∀l∈q.2.2.2,YO ((n:Int)+1) l)∧∀j,j<q.1→(q.2.2.2.getD j default).b=(j:Int)+1) (fun q=>n-q.1) rfl (0,s0++[none],.jF,[]) ?_ ?_ ?_
 ·exact⟨⟨by omega,hP.fr (jU hP0)⟩,.inl ⟨rfl,rfl⟩,rfl,by simp,by intro q hq;omega⟩
 ·(refine jS ?_;exact zV)
 generalize s0.length=kp;clear hP hP0;rintro⟨k,s,v,xs⟩ ⟨⟨hk,hP⟩,hLs,hxl,hsm,hb⟩;dsimp only at hk hP hLs hxl hsm hb;by_cases hc:(k:Int)+1≤(n:Int)
 ·refine y9 @hc ?_;refine nU (b:=0) (rest:=[iv (k+1)]) (hP.fr (jU hP.lt)) (oJ h.kK (n:=(k:Int)+1) (by omega) hx) rfl (fun _=>rfl) ?_;rintro _ i1 h1 ⟨a,rfl,ha⟩ hi1;refine ew ?_;refine nU (b:=0) (rest:=[iv 9]) ⟨_,_,kF (by simp),hi1⟩ (oJ h.kK (n:=9) (by omega) hx) rfl (fun _=>rfl) ?_;rintro _ i2 h2 ⟨w,rfl,hw⟩ hi2;refine ew ?_;refine nU (b:=0) (rest:=[iv 41]) ⟨_,_,kF (by simp),hi2⟩ (oJ h.kK (n:=41) (by omega) hx) rfl (fun _=>rfl) ?_;rintro _ i3 h3 ⟨dx,rfl,hdx⟩ hi3;refine ew ?_;refine nU (b:=0) (rest:=[iv 41]) ⟨_,_,kF (by simp),hi3⟩ (oJ h.kK (n:=41) (by omega) hx) rfl (fun _=>rfl) ?_;rintro _ i4 h4 ⟨dy,rfl,hdy⟩ hi4;have hS:=ac5 (n:=(n:Int)+1) (a:=a) (b:=(k:Int)+1) (w:=1+w) (x:=dx-20) (y:=dy-20) (by omega) (by omega) (by omega) (by omega) (by omega) (by omega) (by omega);have cn:=OA h.BL (a:=a) (b:=(k:Int)+1) (w:=1+w) (x:=dx-20) (y:=dy-20);generalize nlV a ((k:Int)+1) (1+w) (dx-20) (dy-20)=l at hS cn;generalize agf a ((k:Int)+1) (1+w) (dx-20) (dy-20)=ok at cn;refine ew ?_;refine jl cn ?_;obtain⟨S,hSe⟩:∃S,((((s++[none]).set 0 (some (Nl x i1 h1))).set 0 (some (Nl x i2 h2))).set 0 (some (Nl x i3 h3))).set 0 (some (Nl x i4 h4))=S:=⟨_,rfl⟩;rw [hSe];have hSl:S.length=s.length+1:=by rw [←hSe];simp
  have hS0:iZ S 0=some (Nl x i4 h4):=by rw [←hSe];exact kF (by simp)
  have hSo:∀p,p≠0→p<s.length→iZ S p=iZ s p:=fun p h0 hp=>by
   rw [←hSe,jM h0,jM h0,jM h0,jM h0,jU hp]
  have hSm:iZ S s.length=none:=by
   rw [←hSe];have h0:=hP.lt;rw [jM (by omega),jM (by omega),jM (by omega),jM (by omega),zU]
  have hm0:=hP.lt;have hLs:=hLs.fr hSo;clear hSe hSo hP;have hs0:s.length<S.length:=by omega
  generalize s.length=m at *;have hxs:xs.length≤1048576:=by omega
  have anb:∀l'∈xs++[l],YO ((n:Int)+1) l':=fun l' hl'=>by
   rcases aK.1 hl' with hl'|hl'
   ·exact hsm l' hl'
   rw [aV.1 hl'];exact hS.1
  have hb2:∀j,j<k+1→((xs++[l]).getD j default).b=(j:Int)+1:=fun j hj=>by
   rw [XF];split
   ·exact hb j (by omega)
   rw [if_pos (by omega),hS.2 (by omega)];omega
  rcases hLs with ⟨rfl,rfl⟩|⟨p,rfl,hp,hp0⟩
  ·refine Aq @hS0 @hSl ?_;refine⟨by omega,?_⟩;generalize hB:List.set (_++[none]) (m+1+1) (some (⟨11,[l.cells]⟩:Obj))=B;have hB0:iZ B 0=some (Nl x i4 h4):=by
    rw [←hB,jM (by omega),jU (by simp [hSl]<;>omega),jM (by omega),jU (by simp [hSl]<;>omega),jM (by omega),jM (by omega),hS0]
   have hBp:iZ B (m+1+1)=some ⟨11,[l.cells]⟩:=by rw [←hB];exact kF (by simp [hSl]<;>omega)
   refine⟨(k+1,B,.kQ (m+1+1) 0 1,[]++[l]),by dsimp only;omega,⟨⟨by dsimp only;omega,i4,h4,hB0,hi4⟩,.inr ⟨m+1+1,rfl,(by dsimp only [List.nil_append,List.map_cons,List.map_nil];exact hBp),by omega⟩,by dsimp only;simp;simp at hxl;omega,anb,hb2⟩,?_⟩;dsimp only
   (refine jS ?_;exact zV)
  have hpl:=kD hp;have hpm:p≠m:=fun e=>by rw [e,hSm]at hp;cases hp
  refine Fj @hS0 @hp @hSl ?_;refine⟨by omega,?_⟩;generalize hB:List.set _ (m+1+1) (some (⟨11,List.map Lk.cells xs++[l.cells]⟩:Obj))=B;have hB0:iZ B 0=some (Nl x i4 h4):=by
   rw [←hB,jM (by omega),jU (by simp<;>omega),jM (by omega),jM (by omega),jU (by simp [hSl]<;>omega),jM (by omega),jM (by omega),hS0]
  have hBp:iZ B (m+1+1)=some ⟨11,List.map Lk.cells xs++[l.cells]⟩:=by rw [←hB];exact kF (by simp [hSl]<;>omega)
  refine⟨(k+1,B,.kQ (m+1+1) 0 (xs.length+1),xs++[l]),by dsimp only;omega,⟨⟨by dsimp only;omega,i4,h4,hB0,hi4⟩,.inr ⟨m+1+1,by dsimp only;simp,(by dsimp only;rw [List.map_append];exact hBp),by omega⟩,by dsimp only;simp;omega,anb,hb2⟩,?_⟩;dsimp only
  (refine jS ?_;exact zV)
 have hkn:k=n:=by omega
 subst hkn;have hP0:=hP.lt;refine y9 @hc ?_;refine nU (b:=0) (rest:=[iv 4]) hP (oJ h.kK (n:=4) (by omega) hx) rfl (fun _=>rfl) ?_;rintro _ i1 h1 ⟨mm,rfl,hmm⟩ hi1;obtain⟨S,hSe⟩:∃S,s.set 0 (some (Nl x i1 h1))=S:=⟨_,rfl⟩;have hPS:Np S 0 x:=⟨i1,h1,by rw [←hSe];exact kF hP0,hi1⟩;have hLS:agk S v xs:=hLs.fr fun p h0 hp=>by rw [←hSe];exact jM h0
 rw [hSe];clear hSe hP hLs hP0;have hlen:xs.length+mm.toNat≤k+3:=by omega
 refine ew ?_;refine jX (fun x d=>x == 107||x == 128) (α:=Nat×Store×V×List Lk) (fun q=>⟨lS [.ptr 0 0 0,iv k,.any,.any,.any,q.2.2.1,.any,.any,.any,iv (q.1:Nat)],q.2.1,kp,0,[],[]⟩) (fun q=>Np q.2.1 0 x∧agk q.2.1 q.2.2.1 q.2.2.2∧(k≤q.2.2.2.length∧q.2.2.2.length+q.1≤k+3)∧(∀l∈q.2.2.2,YO ((k:Int)+1) l)∧∀j,j<k→(q.2.2.2.getD j default).b=(j:Int)+1) (fun q=>q.1) rfl (mm.toNat,S,v,xs) ?_ ?_ ?_
 ·exact⟨hPS,hLS,⟨by dsimp only;omega,hlen⟩,hsm,hb⟩
 ·(refine jS ?_;exact zV)
 clear hPS hLS hsm hb hlen hxl;rintro⟨r,s,v,xs⟩ ⟨hP,hLs,⟨hxl,hxr⟩,hsm,hb⟩;dsimp only at hP hLs hxl hxr hsm hb;by_cases hc2:(r:Int)>0
 ·refine y9 @hc2 ?_;refine nU (b:=0) (rest:=[iv ((k:Int)+1)]) (hP.fr (by have:=hP.lt;rw [bT,kY this])) (ac6 h.Ve (n:=(k:Int)+1) (by omega) hx) rfl (fun _=>rfl) ?_;rintro _ i4 h4 ⟨l,rfl,hS⟩ hi4;obtain⟨S,hSe⟩:∃S,List.set (s++[none]++[none]) 0 (some (Nl x i4 h4))=S:=⟨_,rfl⟩;rw [hSe];have hm0:=hP.lt;have hSl:S.length=s.length+2:=by rw [←hSe];simp
  have hS0:iZ S 0=some (Nl x i4 h4):=by rw [←hSe];exact kF (by simp)
  have hSo:∀p,p≠0→p<s.length→iZ S p=iZ s p:=fun p h0 hp=>by
   rw [←hSe,jM h0,bT,kY hp]
  have hpl:∀p,p≠0→iZ s p≠none→p<s.length:=fun p _ h=>by
   rcases dD p s.length with k|k
   ·exact k
   exact absurd (by unfold iZ;rw [aW k];rfl) h
  have hLs:(xs=[]∧v=.jF)∨∃p,v=.kQ p 0 xs.length∧iZ S p=some ⟨11,xs.map Lk.cells⟩∧p≠0∧p<s.length:=by
   rcases hLs with h|⟨p,h1,h2,h3⟩
   ·exact .inl h
   exact .inr ⟨p,h1,(hSo p h3 (kD h2)).trans h2,h3,kD h2⟩
  clear hSe hSo hP hpl;generalize s.length=m at *;have anb:∀l'∈xs++[l],YO ((k:Int)+1) l':=fun l' hl'=>by
   rcases aK.1 hl' with hl'|hl'
   ·exact hsm l' hl'
   rw [aV.1 hl'];exact hS
  have hb2:∀j,j<k→((xs++[l]).getD j default).b=(j:Int)+1:=fun j hj=>by
   rw [XF,if_pos (by omega)];exact hb j hj
  rcases hLs with ⟨rfl,rfl⟩|⟨p,rfl,hp,hp0,hpm⟩
  ·simp at hxl;omega
  refine Fj @hS0 @hp @hSl ?_;refine⟨by omega,?_⟩;generalize hB:List.set _ (m+1) (some (⟨11,List.map Lk.cells xs++[l.cells]⟩:Obj))=B;have hB0:iZ B 0=some (Nl x i4 h4):=by
   rw [←hB,jM (by omega),jM (by omega),jM (by omega),hS0]
  have hBp:iZ B (m+1)=some ⟨11,List.map Lk.cells xs++[l.cells]⟩:=by rw [←hB];exact kF (by simp [hSl])
  refine⟨(r-1,B,.kQ (m+1) 0 (xs.length+1),xs++[l]),by dsimp only;omega,⟨⟨i4,h4,hB0,hi4⟩,.inr ⟨m+1,by dsimp only;simp,(by dsimp only;rw [List.map_append];exact hBp),by omega⟩,by dsimp only;simp;omega,anb,hb2⟩,?_⟩;dsimp only
  (refine jS ?_;exact zV)
 refine y9 @hc2 ?_;rcases hLs with ⟨rfl,rfl⟩|⟨p,rfl,hp,hp0⟩
 ·simp at hxl;omega
 exact⟨⟨xs,⟨hn,⟨hxl,by omega⟩,hsm,hb⟩,aqd (fun x hx=>J6 xs _ (ig hx)) hp⟩,hP.lt⟩
theorem ajg(x:List UInt8)(i h:Int):yH [] (cur x i h)=cur x i h:=by
 show []++[some (oQ (lG 0) (Nl x i h))]=_;rw [ED];rfl
theorem aaS{T:Tb}(h:Dh T){x:List UInt8}(hx:x.length≤1048576):∃n L,Vg n L∧PF T 87 [bytesV x] (oP L):=by
 obtain⟨h0,rn⟩:=aaQ h.Ip hx;have:∃r σ',Run T (.fn 87 [bytesV x] []) (.fn r σ')∧∃n L,Vg n L∧resolve σ' FD r=some (oP L):=by
  refine run_end (fun x d=>x == 105||x == 107||x == 106) h.hT ?_;simp only [yD,Lz,St.enter,ak,aC,aQ];refine ew ?_;refine MQ rn (by (refine ew ?_;try with_reducible exact True.intro)) (by (refine ew ?_;try with_reducible exact True.intro)) ?_;rw [show kH (lG ([]:Store).length) (.ptr 0 0 0)=.ptr 0 0 0 from rfl,ajg];refine ew ?_;refine nU (b:=0) (rest:=[iv 4]) ⟨0,h0,rfl,by omega⟩ (oJ h.kK (n:=4) (by omega) hx) rfl (fun _=>rfl) ?_;rintro _ i1 h1 ⟨m,rfl,hm⟩ hi1;rw [show (cur x 0 h0).set 0 (some (Nl x i1 h1))=cur x i1 h1 from rfl];obtain⟨r,σ',h2,⟨L,h3,h4⟩,h5⟩:=agl h.Vf hx (n:=(1+m).toNat) (by omega) (hh:=h1) hi1;rw [show (((1+m).toNat:Nat):Int)=1+m by omega]at h2;refine ew ?_;refine Td h2 rfl h5 (aJ _) ?_;refine ew ?_;exact⟨_,L,h3,h4⟩
 obtain⟨r,σ',h1,n,L,h2,h3⟩:=this;exact⟨n,L,h2,.WL h1 h3⟩
def Ht(a:Rat)(N:Nat):Prop:=a.num.natAbs≤N∧a.den≤N
theorem FU{n:Int}{d N:Nat}(h:d≠0)(h1:n.natAbs≤N)(h2:d≤N):Ht (Rat.normalize n d h) N:=by
 rw [Rat.normalize_eq];refine⟨?_,bV (Nat.div_le_self _ _) h2⟩;show (n / (n.natAbs.gcd d:Nat)).natAbs≤N;refine bV ?_ h1;have hd:((n.natAbs.gcd d:Nat):Int)∣n:=Int.ofNat_dvd_left.2 (Nat.gcd_dvd_left _ _);rw [Int.natAbs_ediv_of_dvd hd];exact Nat.div_le_self _ _
theorem aqU{a:Rat}{N:Nat}(h:Ht a N):1≤N:=by
 have:=a.den_pos;have:=h.2;omega
theorem ajh{a b:Rat}{M N:Nat}(ha:Ht a M)(hb:Ht b N):Ht (a*b) (M*N):=by
 rw [Rat.mul_def];refine FU _ ?_ (fV ha.2 hb.2);rw [iE];exact fV ha.1 hb.1
theorem aji{a b:Rat}{M N:Nat}(ha:Ht a M)(hb:Ht b N):Ht (a+b) (2*(M*N)):=by
 rw [Rat.add_def];have h1:(a.num*(b.den:Int)).natAbs≤M*N:=by
  rw [iE,bW];exact fV ha.1 hb.2
 have h2:(b.num*(a.den:Int)).natAbs≤M*N:=by
  rw [iE,bW,dw];exact fV ha.2 hb.1
 have h3:=fV ha.2 hb.2;refine FU _ ?_ (by omega);have:=Int.natAbs_add_le (a.num*(b.den:Int)) (b.num*(a.den:Int));omega
theorem aqV{a:Rat}{N:Nat}(h:Ht a N):Ht (-a) N:=by
 unfold Ht;rw [Rat.neg_num,Rat.neg_den,Int.natAbs_neg];exact h
theorem aqW{a b:Rat}{M N:Nat}(ha:Ht a M)(hb:Ht b N):Ht (a-b) (2*(M*N)):=by
 rw [Rat.sub_eq_add_neg];exact aji ha (aqV hb)
theorem aqX{a:Rat}{N:Nat}(h:Ht a N):Ht a⁻¹ N:=by
 unfold Ht;rw [Rat.num_inv,Rat.den_inv];refine⟨?_,?_⟩
 ·rw [iE,bW];have hs:a.num.sign.natAbs≤1:=by
   rcases Int.lt_trichotomy a.num 0 with h|h|h
   ·rw [Int.sign_eq_neg_one_of_neg h];decide
   ·rw [h];decide
   rw [Int.sign_eq_one_of_pos h];decide
  have:=fV hs (aJ a.den);have:=h.2;omega
 split
 ·exact aqU h
 exact h.1
theorem aqY{a b:Rat}{M N:Nat}(ha:Ht a M)(hb:Ht b N):Ht (a / b) (M*N):=by
 rw [Rat.div_def];exact ajh ha (aqX hb)
theorem ajj{n:Int}{N:Nat}(h:n.natAbs≤N)(h1:1≤N):Ht (n:Rat) N:=by
 unfold Ht;rw [Rat.num_intCast,Rat.den_intCast];exact⟨h,h1⟩
theorem MV{a:Rat}{N:Nat}(h:Ht a N)(hN:N<1000000000 ^ 24):fits a=true:=by
 unfold fits;rw [decide_eq_true (dZ h.1 hN),decide_eq_true (dZ h.2 hN)];rfl
theorem Ht.mono{a:Rat}{M N:Nat}(h:Ht a M)(hl:M≤N):Ht a N:=⟨bV h.1 hl,bV h.2 hl⟩
structure Rv (r:R) (a:Rat) (N:Nat):Prop where
 q:r.q=some a
 h:Ht a N
theorem Rv.add{r s:R}{a b:Rat}{M N:Nat}(h1:Rv r a M)(h2:Rv s b N)(hN:2*(M*N)<1000000000 ^ 24:=by decide):Rv (mG r s) (a+b) (2*(M*N)):=by
 have h:=aji h1.h h2.h;refine⟨?_,h⟩;rw [Ig,h1.q,h2.q];show norm (a+b)=_;exact tH (MV h hN)
theorem Rv.sub{r s:R}{a b:Rat}{M N:Nat}(h1:Rv r a M)(h2:Rv s b N)(hN:2*(M*N)<1000000000 ^ 24:=by decide):Rv (vI r s) (a-b) (2*(M*N)):=by
 have h:=aqW h1.h h2.h;refine⟨?_,h⟩;rw [Oh,h1.q,h2.q];show norm (a + -b)=_;rw [←Rat.sub_eq_add_neg];exact tH (MV h hN)
theorem Rv.mul{r s:R}{a b:Rat}{M N:Nat}(h1:Rv r a M)(h2:Rv s b N)(hN:M*N<1000000000 ^ 24:=by decide):Rv (mulR r s) (a*b) (M*N):=by
 have h:=ajh h1.h h2.h;refine⟨?_,h⟩;rw [Oi,h1.q,h2.q];show norm (a*b)=_;exact tH (MV h hN)
theorem Rv.div{r s:R}{a b:Rat}{M N:Nat}(h1:Rv r a M)(h2:Rv s b N)(hb:b≠0)(hN:M*N<1000000000 ^ 24:=by decide):Rv (xR r s) (a / b) (M*N):=by
 have h:=aqY h1.h h2.h;refine⟨?_,h⟩;rw [Yn,h1.q,h2.q];show (if b=0 then none else norm (a / b))=_;rw [if_neg hb];exact tH (MV h hN)
theorem LH{n:Int}{N:Nat}(h:n.natAbs≤N)(h1:1≤N)(hN:N<1000000000 ^ 24:=by decide):Rv (ku n) (n:Rat) N :=
 ⟨ET (dZ h hN),ajj h h1⟩
theorem Rv.ok{r:R}{a:Rat}{N:Nat}(h:Rv r a N):r.ok=true:=by
 rw [uq,h.q];simp
theorem Rv.eq{r s:R}{a b:Rat}{M N:Nat}(h1:Rv r a M)(h2:Rv s b N)(hr:r.cn)(hs:s.cn)(e:a=b):r=s:=by
 rw [←hr,←hs,h1.q,h2.q,e]
theorem ajk{n d:Int}(hn : -10≤n∧n≤10)(hd:1≤d∧d≤3):Rv (KF n d) (Rat.divInt n d) 10:=by
 have hh:Ht (Rat.divInt n d) 10:=by
  obtain⟨e,rfl⟩:∃e:Nat,d=(e:Int):=⟨d.toNat,by omega⟩;show Ht (mkRat n e) 10;unfold mkRat
  rw [dif_neg (by omega)];exact FU _ (by omega) (by omega)
 refine⟨?_,hh⟩;unfold KF VL;rw [if_neg (by omega),tH (MV hh (by decide))];exact J5 (MV hh (by decide))
theorem Rv.of_eq{r s:R}{a:Rat}{N:Nat}(h:Rv s a N)(e:r=s):Rv r a N:=e▸h
theorem ajl{l:Lk}{p q:Pt}(h:nD l=true):Ij l p q=mulR l.w (sqR (vI (vI q.x p.x) l.dx) (vI (vI q.y p.y) l.dy)):=by unfold Ij;rw [if_pos h]
theorem anc{l:Lk}{w:Rat}{N:Nat}(h:0≤l.a∧l.a<l.b∧l.b≤9)(hw:Rv l.w w N)(hp:0<w)(hx:l.dx.ok=true)(hy:l.dy.ok=true):nD l=true:=by
 have hs:0<yJ l.w:=by
  unfold yJ;rw [hw.q];show 0<sgn w.num;have:0<w.num:=by
   rw [Rat.lt_iff,show (0:Rat).num=0 from rfl,show (0:Rat).den=1 from rfl,Int.zero_mul,Int.natCast_one,Int.mul_one]at hp;exact hp
  unfold sgn;rw [if_neg (by omega),if_neg (by omega)]
  decide
 unfold yJ at hs;unfold nD nd;rw [decide_eq_true hs,hx,hy,decide_eq_true h.2.1,decide_eq_true h.1,decide_eq_true h.2.2,decide_eq_true (show 0≤l.b by omega),decide_eq_true (show l.a≤9 by omega)];rfl
theorem TA{a b:Rat}(h:norm a=some b):a=b:=by
 unfold norm at h;split at h
 ·cases h;rfl
 cases h
theorem P6{r:R}(h:r.ok=true):∃a,r.q=some a:=by
 cases hq:r.q with
 |none=>exact absurd hq (uq.1 h)
 |some a=>exact⟨a,rfl⟩
theorem JM{r s:R}{a b:Rat}(hr:r.q=some a)(hs:s.q=some b)(ho:(mG r s).ok=true):(mG r s).q=some (a+b):=by
 obtain⟨c,hc⟩:=P6 ho;rw [hc];rw [Ig,hr,hs]at hc;rw [TA hc]
theorem LJ{r s:R}{a b:Rat}(hr:r.q=some a)(hs:s.q=some b)(ho:(vI r s).ok=true):(vI r s).q=some (a-b):=by
 obtain⟨c,hc⟩:=P6 ho;rw [hc];rw [Oh,hr,hs]at hc;have:norm (a + -b)=some c:=hc;rw [Rat.sub_eq_add_neg,TA this]
theorem E8{r s:R}{a b:Rat}(hr:r.q=some a)(hs:s.q=some b)(ho:(mulR r s).ok=true):(mulR r s).q=some (a*b):=by
 obtain⟨c,hc⟩:=P6 ho;rw [hc];rw [Oi,hr,hs]at hc;rw [TA hc]
theorem YP{r s:R}{a b:Rat}(hr:r.q=some a)(hs:s.q=some b)(ho:(xR r s).ok=true):(xR r s).q=some (a / b)∧b≠0:=by
 obtain⟨c,hc⟩:=P6 ho;rw [hc];rw [Yn,hr,hs]at hc;have:(if b=0 then none else norm (a / b))=some c:=hc;split at this
 ·cases this
 rename_i h0;rw [TA this];exact⟨rfl,h0⟩
theorem EF{r s:R}(h:(mG r s).ok=true):r.ok=true∧s.ok=true:=by
 constructor
 ·cases hr:r.ok
  ·rw [PZ hr]at h;cases h
  rfl
 cases hr:s.ok
 ·rw [afV,PZ hr]at h;cases h
 rfl
theorem GN{r s:R}(h:(mulR r s).ok=true):r.ok=true∧s.ok=true:=by
 rw [uq,Oi]at h;constructor
 ·rw [uq];intro e;rw [e]at h;exact h rfl
 rw [uq];intro e;rw [e,RQ]at h;exact h rfl
theorem P7{r s:R}(h:(xR r s).ok=true):r.ok=true∧s.ok=true:=by
 rw [uq,Yn]at h;constructor
 ·rw [uq];intro e;rw [e]at h;exact h rfl
 rw [uq];intro e;rw [e,aan]at h;exact h rfl
theorem I4{r s:R}(h:(vI r s).ok=true):r.ok=true∧s.ok=true:=by
 rw [uq,Oh]at h;constructor
 ·rw [uq];intro e;rw [e]at h;exact h rfl
 rw [uq];intro e;rw [e,RS]at h;exact h rfl
def R.v(r:R):Rat:=r.q.getD 0
theorem R.EG{r:R}{a:Rat}(h:r.q=some a):r.v=a:=by unfold R.v;rw [h];rfl
theorem R.wK{r:R}(h:r.ok=true):r.q=some r.v:=by obtain⟨a,ha⟩:=P6 h;rw [ha,R.EG ha]
def mW(l:Lk):Rat:=l.w.v
def mX(l:Lk):Rat:=l.w.v*l.dx.v
def mY(l:Lk):Rat:=l.w.v*l.dy.v
def mZ(l:Lk):Rat:=l.w.v*(l.dx.v*l.dx.v+l.dy.v*l.dy.v)
theorem aex{n:Int}(h:0<sgn n):0<n:=by
 unfold sgn at h;split at h
 ·omega
 split at h<;>omega
theorem aaT{l:Lk}(h:nD l=true):0<l.w.v:=by
 have hk:=zM h;have hs:=hk.2.2.2;unfold yJ at hs;rw [R.wK hk.1]at hs;have:0<sgn l.w.v.num:=hs;rw [Rat.lt_iff,show (0:Rat).num=0 from rfl,show (0:Rat).den=1 from rfl,Int.zero_mul,Int.natCast_one,Int.mul_one];exact aex this
theorem aqZ(v w a b c d:Rat)(h:v+w≠0):(v+w)*((v*a+w*b) / (v+w)*((v*a+w*b) / (v+w))+(v*c+w*d) / (v+w)*((v*c+w*d) / (v+w)))+v*w / (v+w)*((a-b)*(a-b)+(c-d)*(c-d))=v*(a*a+c*c)+w*(b*b+d*d):=by
 grind
theorem ajm(s t:Rat)(h:t≠0):t*(s / t)=s:=by grind
theorem ajn{k l:Lk}(h1:nD k=true)(h2:nD l=true)(hg:QZ k l=true) :
  mW (RY k l)=mW k+mW l∧mX (RY k l)=mX k+mX l∧mY (RY k l)=mY k+mY l∧mZ (RY k l)+(PV k l).v=mZ k+mZ l:=by
 have k1:=zM h1;have k2:=zM h2;have kw:=R.wK k1.1;have kx:=R.wK k1.2.1;have ky:=R.wK k1.2.2.1;have lw:=R.wK k2.1;have lx:=R.wK k2.2.1;have ly:=R.wK k2.2.2.1;unfold QZ at hg;simp only [aG]at hg;obtain⟨⟨⟨gW,gX⟩,gY⟩,gE⟩:=hg;have eW:=JM kw lw gW;obtain⟨gX1,_⟩:=P7 gX;obtain⟨gX2,gX3⟩:=EF gX1;obtain⟨eX,hne⟩:=YP (JM (E8 kw kx gX2) (E8 lw lx gX3) gX1) eW gX;obtain⟨gY1,_⟩:=P7 gY;obtain⟨gY2,gY3⟩:=EF gY1;obtain⟨eY,_⟩:=YP (JM (E8 kw ky gY2) (E8 lw ly gY3) gY1) eW gY;obtain⟨gE1,gE2⟩:=GN gE;obtain⟨gE3,_⟩:=P7 gE1;obtain⟨gE4,gE5⟩:=EF gE2;obtain⟨gE6,_⟩:=GN gE4;obtain⟨gE7,_⟩:=GN gE5;have sx:=LJ kx lx gE6;have sy:=LJ ky ly gE7;have eE:=E8 (YP (E8 kw lw gE3) eW gE1).1 (JM (E8 sx sx gE4) (E8 sy sy gE5) gE2) gE;have vW:(RY k l).w.v=k.w.v+l.w.v:=R.EG eW;have vX:(RY k l).dx.v=(k.w.v*k.dx.v+l.w.v*l.dx.v) / (k.w.v+l.w.v):=R.EG eX;have vY:(RY k l).dy.v=(k.w.v*k.dy.v+l.w.v*l.dy.v) / (k.w.v+l.w.v):=R.EG eY;have vE:(PV k l).v=k.w.v*l.w.v / (k.w.v+l.w.v)*((k.dx.v-l.dx.v)*(k.dx.v-l.dx.v)+(k.dy.v-l.dy.v)*(k.dy.v-l.dy.v)):=R.EG eE;unfold mW mX mY mZ;rw [vW,vX,vY,vE];exact⟨rfl,ajm _ _ hne,ajm _ _ hne,aqZ _ _ _ _ _ _ hne⟩
def OB(f:Lk→Rat)(i j:Int):List Lk→Rat
 | []=>0
 |x::L=>(if x.a=i∧x.b=j then f x else 0)+OB f i j L
def tot(f:Lk→Rat):List Lk→Rat
 | []=>0
 |x::L=>f x+tot f L
theorem P8(f:Lk→Rat)(i j:Int):∀A B:List Lk,OB f i j (A++B)=OB f i j A+OB f i j B
 | [],B=>by simp [OB,Rat.zero_add]
 |x::A,B=>by simp only [bK,OB,P8 f i j A B,Rat.add_assoc]
theorem zO(f:Lk→Rat):∀A B:List Lk,tot f (A++B)=tot f A+tot f B
 | [],B=>by simp [tot,Rat.zero_add]
 |x::A,B=>by simp only [bK,tot,zO f A B,Rat.add_assoc]
theorem aey(f:Lk→Rat)(i j:Int):∀A:List Lk,OB f i j A.reverse=OB f i j A
 | []=>rfl
 |x::A=>by rw [List.reverse_cons,P8,aey f i j A];simp only [OB,Rat.add_zero];rw [Rat.add_comm]
theorem aez(f:Lk→Rat):∀A:List Lk,tot f A.reverse=tot f A
 | []=>rfl
 |x::A=>by rw [List.reverse_cons,zO,aez f A];simp only [tot,Rat.add_zero];rw [Rat.add_comm]
theorem ane{s:List Lk}{l:Lk}{t:List Lk}{e:R}(h:Ox s l=some (t,e))(h1:kN s=true)(h2:nD l=true) :
  (∀f,(f=mW∨f=mX∨f=mY)→∀i j,OB f i j t=OB f i j s+OB f i j [l])∧tot mZ t+e.v=tot mZ s+mZ l:=by
 obtain⟨hv,hp⟩:=qB.1 h1;have hpost:=MR (l:=l) hp;have hpl:=JG l s;unfold Ox at h;dsimp only at h;generalize GY l s=i at *;have hsp:s.take i++s.drop i=s:=fE i s;split at h
 ·cases h
  have e0:(ku 0).v=0:=R.EG (a:=((0:Int):Rat)) (ET (by decide));refine⟨fun f _ a b=>?_,?_⟩
  ·conv=>rhs;rw [←hsp]
   simp only [P8,OB,Rat.add_zero]
   grind
  rw [e0]
  conv=>rhs;rw [←hsp]
  simp only [zO,tot]
  grind
 rename_i hc;split at h
 ·rename_i hg
  cases h
  have hi:i<s.length:=by
   rcases dD i s.length with k|k
   ·exact k
   exact absurd (.inl (by omega)) hc
  have hd:s.drop i=s.getD i default::s.drop (i+1):=by
   rw [bH hi,aj,au hi];rfl
  have hx0:=hpost (s.getD i default) (by rw [hd];simp);have hxl:kM l (s.getD i default)=false:=by
   cases hq:kM l (s.getD i default)
   ·rfl
   exact absurd (.inr hq) hc
  have hsm:=getD_mem (l:=s) hi;generalize s.getD i default=x at *;obtain⟨ea,eb⟩:=JJ hx0 hxl;obtain⟨m1,m2,m3,m4⟩:=ajn (hv x hsm) h2 hg;have hpa:(RY x l).a=x.a:=rfl;have hpb:(RY x l).b=x.b:=rfl;refine⟨fun f hf a b=>?_,?_⟩
  ·have hm:f (RY x l)=f x+f l:=by rcases hf with rfl|rfl|rfl<;>assumption
   conv=>rhs;rw [←hsp,hd]
   simp only [P8,OB,Rat.add_zero,hpa,hpb,←ea,←eb];split
   ·rw [hm];grind
   grind
  conv=>rhs;rw [←hsp,hd]
  simp only [zO,tot]
  grind
 cases h
theorem LK{f:Lk→Rat}{i j:Int}:∀{S:List Lk},(∀y∈S,¬(y.a=i∧y.b=j))→OB f i j S=0
 | [],_=>rfl
 |
  y::S,h=>by
  simp only [OB];rw [if_neg (h y (by simp)),LK fun z hz=>h z (by simp [hz]),Rat.zero_add]
theorem YQ{f:Lk→Rat}{x:Lk}:∀{S:List Lk},(S.Pairwise fun k l=>kM k l=true)→x∈S→OB f x.a x.b S=f x
 | [],_,h=>by cases h
 |
  y::S,hp,h=>by
  rw [dJ]at hp;simp only [OB];rcases aH.1 h with rfl|h
  ·rw [if_pos ⟨rfl,rfl⟩,LK fun z hz hh=>?_,Rat.add_zero];have:=hp.1 z hz;rw [uD]at this;omega
  have:=hp.1 x h;rw [uD]at this;rw [if_neg (by omega),YQ hp.2 h,Rat.zero_add]
theorem ajo:∀{l m:List Lk},(l.Pairwise fun k l=>kM k l=true)→(m.Pairwise fun k l=>kM k l=true)→(∀a,a∈l↔a∈m)→l=m
 | [],[],_,_,_=>rfl
 | [],y::m,_,_,h=>absurd ((h y).2 (by simp)) (by simp)
 |x::l,[],_,_,h=>absurd ((h x).1 (by simp)) (by simp)
 |
  x::l,y::m,hl,hm,h=>by
  rw [dJ]at hl hm;have e:x=y:=by
   rcases aH.1 ((h x).1 (by simp))with h1|h1
   ·exact h1
   rcases aH.1 ((h y).2 (by simp))with h2|h2
   ·exact h2.symm
   have a1:=hl.1 y h2;have a2:=hm.1 x h1;have:=FQ a1 a2;rw [Oz]at this;cases this
  subst e
  congr 1
  refine ajo hl.2 hm.2 fun a=>?_;constructor
  ·intro ha;rcases aH.1 ((h a).1 (by simp [ha]))with h1|h1
   ·have:=hl.1 a ha;rw [h1,Oz]at this;cases this
   exact h1
  intro ha;rcases aH.1 ((h a).2 (by simp [ha]))with h1|h1
  ·have:=hm.1 a ha;rw [h1,Oz]at this;cases this
  exact h1
theorem R.ajp{r s:R}(hr:r.ok=true)(hs:s.ok=true)(h:r.v=s.v):r=s:=aqz (tV hr) (tV hs) (by rw [R.wK hr,R.wK hs,h])
theorem aeA{S S':List Lk}(h:kN S=true)(h':kN S'=true)(hm:∀f,(f=mW∨f=mX∨f=mY)→∀i j,OB f i j S=OB f i j S'):∀x∈S,x∈S':=by
 obtain⟨hv,hp⟩:=qB.1 h;obtain⟨hv',hp'⟩:=qB.1 h';intro x hx;have hpos:=aaT (hv x hx);have w1:=hm mW (.inl rfl) x.a x.b;rw [YQ hp hx]at w1;have:∃y∈S',y.a=x.a∧y.b=x.b:=by
  refine Classical.byContradiction fun hne=>?_;rw [LK fun y hy hh=>hne ⟨y,hy,hh⟩]at w1;unfold mW at w1;rw [w1]at hpos;exact absurd hpos (Rat.lt_irrefl)
 obtain⟨y,hy,ha,hb⟩:=this;have azM:=hv' y hy;have at':=fun f=>YQ (f:=f) hp' hy;rw [ha,hb]at at';rw [at']at w1;have w2:=hm mX (.inr (.inl rfl)) x.a x.b;have w3:=hm mY (.inr (.inr rfl)) x.a x.b;rw [YQ hp hx,at']at w2 w3;unfold mW at w1;unfold mX at w2;unfold mY at w3;have k1:=zM (hv x hx);have k2:=zM azM;rw [←w1]at w2 w3;have hne:x.w.v≠0:=fun e=>by rw [e]at hpos;exact absurd hpos Rat.lt_irrefl
 have c2:x.dx.v=y.dx.v:=by grind
 have c3:x.dy.v=y.dy.v:=by grind
 have e:x=y:=Lk.ext' ha.symm hb.symm (R.ajp k1.1 k2.1 w1) (R.ajp k1.2.1 k2.2.1 c2) (R.ajp k1.2.2.1 k2.2.2.1 c3);rw [e];exact hy
theorem anf{S S':List Lk}(h:kN S=true)(h':kN S'=true)(hm:∀f,(f=mW∨f=mX∨f=mY)→∀i j,OB f i j S=OB f i j S'):S=S' :=
 ajo (qB.1 h).2 (qB.1 h').2 fun a=>⟨aeA h h' hm a,aeA h' h (fun f hf i j=>(hm f hf i j).symm) a⟩
theorem aeB{l:List Lk}:∀{k:Nat} {S:List Lk} {e:R},k≤l.length→KE l k=some (S,e)→e.ok=true →
  (∀f,(f=mW∨f=mX∨f=mY)→∀i j,OB f i j S=OB f i j (l.take k))∧tot mZ S+e.v=tot mZ (l.take k)
 |
  0,S,e,_,h,_=>by
  cases h
  have e0:(ku 0).v=0:=R.EG (a:=((0:Int):Rat)) (ET (by decide));rw [e0];exact⟨fun f _ i j=>by simp,by simp [tot,Rat.zero_add]⟩
 |
  k+1,S,e,hk,h,he=>by
  simp only [KE]at h
  cases hf:KE l k with
  |none=>rw [hf]at h;cases h
  |
   some p =>
   rw [hf]at h;dsimp only at h;split at h
   ·rename_i ho
    cases h
    obtain⟨o1,o2⟩:=EF he;obtain⟨m1,m2⟩:=aeB (k:=k) (S:=p.1) (e:=p.2) (by omega) hf o1;obtain⟨a1,a2,a3⟩:=ac1 ho;obtain⟨g1,g2,g3⟩:=JH a2 a3;have es:=take_snoc (l:=l) (i:=k) (by omega);generalize l.getD k default=x at *
    cases hr:Ox p.1 x with
    |none=>rw [hr]at g3;rw [g3]at ho;cases ho
    |
     some t =>
     rw [hr]at g1 g2;have g1:adV p.1 x=t.1:=g1;have g2:adE p.1 x=t.2:=g2;obtain⟨n1,n2⟩:=ane (t:=t.1) (e:=t.2) hr a2 a3;rw [g2]at o2 he ⊢;rw [g1,es];have ev:=R.EG (JM (R.wK o1) (R.wK o2) he);refine⟨fun f hf i j=>?_,?_⟩
     ·rw [n1 f hf,P8,m1 f hf]
     rw [ev,zO,←m2];simp only [tot,Rat.add_zero]
     grind
   cases h
theorem P9{l:List Lk}(h:Aw l=true):(∀f,(f=mW∨f=mX∨f=mY)→∀i j,OB f i j (uH l)=OB f i j l)∧tot mZ (uH l)+(MS l).v=tot mZ l∧(MS l).ok=true:=by
 unfold Aw at h
 cases hg:Qo l with
 |none=>rw [hg]at h;cases h
 |
  some p =>
  have e1:uH l=p.1:=by unfold uH;rw [hg];rfl
  have e2:MS l=p.2:=by unfold MS;rw [hg];rfl
  rw [e1,e2];unfold Qo at hg
  cases hf:KE l l.length with
  |none=>rw [hf]at hg;cases hg
  |
   some q =>
   rw [hf]at hg;dsimp only at hg;split at hg
   ·rename_i ho
    cases hg
    have:=aeB (S:=p.1) (e:=p.2) (aJ _) hf ho;rw [bM]at this;exact⟨this.1,this.2,ho⟩
   cases hg
theorem aq0{l:List Lk}(h:Aw l=true)(h':Aw l.reverse=true):uH l=uH l.reverse∧MS l=MS l.reverse:=by
 obtain⟨a1,a2,a3⟩:=P9 h;obtain⟨b1,b2,b3⟩:=P9 h';have e:=anf (JK (l:=l)).2.2.2 (JK (l:=l.reverse)).2.2.2 fun f hf i j=>by rw [a1 f hf,b1 f hf,aey]
 refine⟨e,R.ajp a3 b3 ?_⟩;rw [aez,←a2,←e]at b2
 grind
theorem aeC{s:List Lk}{l:Lk}(h1:kN s=true)(h2:nD l=true)(hm:∀x∈s,x.a=l.a→x.b=l.b→QZ x l=true) :
  ∃t e,Ox s l=some (t,e)∧(((∀y∈t,y∈s∨y=l)∧e=ku 0)∨∃x∈s,x.a=l.a∧x.b=l.b∧(∀y∈t,y∈s∨y=RY x l)∧e=PV x l):=by
 obtain⟨hv,hp⟩:=qB.1 h1;have hpost:=MR (l:=l) hp;have hpl:=JG l s;unfold Ox;dsimp only;generalize GY l s=i at *;by_cases hc:i=s.length∨kM l (s.getD i default)=true
 ·rw [if_pos hc];refine⟨_,_,rfl,.inl ⟨fun y hy=>?_,rfl⟩⟩;simp only [aK,aH]at hy;rcases hy with hy|rfl|hy
  ·exact .inl (bZ hy)
  ·exact .inr rfl
  exact .inl (eF hy)
 rw [if_neg hc];have hi:i<s.length:=by
  rcases dD i s.length with k|k
  ·exact k
  exact absurd (.inl (by omega)) hc
 have hd:s.drop i=s.getD i default::s.drop (i+1):=by
  rw [bH hi,aj,au hi];rfl
 have hx0:=hpost (s.getD i default) (by rw [hd];simp);have hxl:kM l (s.getD i default)=false:=by
  cases hq:kM l (s.getD i default)
  ·rfl
  exact absurd (.inr hq) hc
 have hsm:=getD_mem (l:=s) hi;generalize s.getD i default=x at *;obtain⟨ea,eb⟩:=JJ hx0 hxl;rw [if_pos (hm x hsm ea eb)];refine⟨_,_,rfl,.inr ⟨x,hsm,ea,eb,fun y hy=>?_,rfl⟩⟩;simp only [aK,aH]at hy;rcases hy with hy|rfl|hy
 ·exact .inl (bZ hy)
 ·exact .inr rfl
 exact .inl (eF hy)
structure Jn (B:Int) (x:Lk):Prop where
 ex:∃n p q:Int,(1≤n∧n≤9*B)∧(-(180*B)≤p∧p≤180*B)∧(-(180*B)≤q∧q≤180*B)∧x.w.q=some (n:Rat)∧x.dx.q=some ((p:Rat) / (n:Rat))∧x.dy.q=some ((q:Rat) / (n:Rat))
theorem Jn.mono{B C:Int}{x:Lk}(h:Jn B x)(hl:B≤C):Jn C x:=by
 obtain⟨n,p,q,h1,h2,h3,h4⟩:=h.ex;exact⟨n,p,q,by omega,by omega,by omega,h4⟩
theorem aeD{p n:Int}{N:Nat}(hp:p.natAbs≤N)(hn:1≤n)(h:n≤N):Ht ((p:Rat) / (n:Rat)) N:=by
 obtain⟨e,rfl⟩:∃e:Nat,n=(e:Int):=⟨n.toNat,by omega⟩;rw [←Rat.divInt_eq_div];show Ht (mkRat p e) N;unfold mkRat
 rw [dif_neg (by omega)];exact FU _ hp (by omega)
theorem YR{r:R}{n:Int}(e:r=ku n)(h:n.natAbs<1000000000 ^ 24):r.q=some (n:Rat):=by rw [e];exact ET h
theorem Jn.of{n:Int}{l:Lk}(h:YO n l):Jn 1 l:=by
 obtain⟨w,hw,ew⟩:=h.w;obtain⟨x,hx,ex⟩:=h.dx;obtain⟨y,hy,ey⟩:=h.dy;have hne:(w:Rat)≠0:=fun e=>by have:=Rat.intCast_eq_zero_iff.1 e;omega
 have b1 : -180≤w*x∧w*x≤180:=by
  constructor
  ·have:w*(-20)≤w*x:=Int.mul_le_mul_of_nonneg_left hx.1 (by omega);omega
  have:w*x≤w*20:=Int.mul_le_mul_of_nonneg_left hx.2 (by omega);omega
 have b2 : -180≤w*y∧w*y≤180:=by
  constructor
  ·have:w*(-20)≤w*y:=Int.mul_le_mul_of_nonneg_left hy.1 (by omega);omega
  have:w*y≤w*20:=Int.mul_le_mul_of_nonneg_left hy.2 (by omega);omega
 refine⟨w,w*x,w*y,by omega,by omega,by omega,YR ew (by omega),?_,?_⟩
 ·rw [YR ex (by omega),Rat.intCast_mul];congr 1;grind
 rw [YR ey (by omega),Rat.intCast_mul];congr 1;grind
theorem Qa{n:Int}{l:Lk}(hn:n≤9)(h:YO n l):nD l=true:=by
 obtain⟨w,hw,ew⟩:=h.w;obtain⟨x,hx,ex⟩:=h.dx;obtain⟨y,hy,ey⟩:=h.dy;have kw:Rv l.w (w:Rat) 9:=(LH (by omega) (by omega)).of_eq ew;have kx:Rv l.dx (x:Rat) 20:=(LH (by omega) (by omega)).of_eq ex;have ky:Rv l.dy (y:Rat) 20:=(LH (by omega) (by omega)).of_eq ey;exact anc ⟨h.ab.1,h.ab.2.1,by have:=h.ab.2.2;omega⟩ kw (Rat.intCast_pos.2 (by omega)) kx.ok ky.ok
theorem ajq(n p m d:Rat)(h0:n≠0)(h:n+m≠0):(n*(p / n)+m*d) / (n+m)=(p+m*d) / (n+m):=by grind
theorem ajr{B N:Int}{x l:Lk}(hB:B≤6)(hx:Jn B x)(hl:YO N l):QZ x l=true∧Jn (B+1) (RY x l)∧∃a,Rv (PV x l) a (10 ^ 26):=by
 obtain⟨n,p,q,hn,hp,hq,en,ep,eq⟩:=hx.ex;obtain⟨m,hm,em⟩:=hl.w;obtain⟨d,hd,ed⟩:=hl.dx;obtain⟨c,hc,ec⟩:=hl.dy;have kw:Rv x.w (n:Rat) 63:=⟨en,ajj (by omega) (by omega)⟩;have kx:Rv x.dx ((p:Rat) / (n:Rat)) 1260:=⟨ep,aeD (by omega) hn.1 (by omega)⟩;have ky:Rv x.dy ((q:Rat) / (n:Rat)) 1260:=⟨eq,aeD (by omega) hn.1 (by omega)⟩;have lw:Rv l.w (m:Rat) 9:=(LH (by omega) (by omega)).of_eq em;have lx:Rv l.dx (d:Rat) 20:=(LH (by omega) (by omega)).of_eq ed;have ly:Rv l.dy (c:Rat) 20:=(LH (by omega) (by omega)).of_eq ec;have hn0:(n:Rat)≠0:=fun e=>by have:=Rat.intCast_eq_zero_iff.1 e;omega
 have h0:(n:Rat)+(m:Rat)≠0:=by
  rw [←Rat.intCast_add];intro e;have:=Rat.intCast_eq_zero_iff.1 e;omega
 have rW:Rv (qj x l) _ _:=kw.add lw;have rX:Rv (F6 x l) _ _:=((kw.mul kx).add (lw.mul lx)).div rW h0;have rY:Rv (KH x l) _ _:=((kw.mul ky).add (lw.mul ly)).div rW h0;have sx:=kx.sub lx;have sy:=ky.sub ly;have rE:Rv (PV x l) _ _:=((kw.mul lw).div rW h0).mul ((sx.mul sx).add (sy.mul sy));have b1 : -180≤m*d∧m*d≤180:=by
  constructor
  ·have:m*(-20)≤m*d:=Int.mul_le_mul_of_nonneg_left hd.1 (by omega);omega
  have:m*d≤m*20:=Int.mul_le_mul_of_nonneg_left hd.2 (by omega);omega
 have b2 : -180≤m*c∧m*c≤180:=by
  constructor
  ·have:m*(-20)≤m*c:=Int.mul_le_mul_of_nonneg_left hc.1 (by omega);omega
  have:m*c≤m*20:=Int.mul_le_mul_of_nonneg_left hc.2 (by omega);omega
 refine⟨by unfold QZ;rw [rW.ok,rX.ok,rY.ok,rE.ok];rfl,⟨n+m,p+m*d,q+m*c,by omega,by omega,by omega,?_,?_,?_⟩,_,rE.q,rE.h.mono (by decide)⟩
 ·show (qj x l).q=_;rw [rW.q,Rat.intCast_add]
 ·show (F6 x l).q=_;rw [rX.q,Rat.intCast_add,Rat.intCast_add,Rat.intCast_mul,ajq _ _ _ _ hn0 h0]
 show (KH x l).q=_;rw [rY.q,Rat.intCast_add,Rat.intCast_add,Rat.intCast_mul,ajq _ _ _ _ hn0 h0]
def Eb:Nat→Nat
 |0=>1
 |k+1=>2*(Eb k*10 ^ 26)
theorem avt:∀k,k≤7→Eb k<1000000000 ^ 24:=by decide +kernel
theorem Vh{N:Int}{L:List Lk}(hN:N≤9)(hl:L.length≤7)(hs:∀l∈L,YO N l):∀k,k≤L.length→∃S e a,KE L k=some (S,e)∧(∀x∈S,Jn k x)∧Rv e a (Eb k)
 |0,_=>⟨[],ku 0,((0:Int):Rat),rfl,by simp,LH (by decide) (by decide)⟩
 |
  k+1,hk=>by
  obtain⟨S,e,a,hf,hj,he⟩:=Vh hN hl hs k (by omega);have hx:=hs _ (getD_mem (l:=L) (i:=k) (by omega));have i1:=(Tz hf).1;dsimp only at i1;generalize hxe:L.getD k default=x at hx;have hxo:=Qa hN hx;have hmg:=fun y (hy:y∈S)=>ajr (by omega:(k:Int)≤6) (hj y hy) hx;obtain⟨t,e',hr,hc⟩:=aeC i1 hxo fun y hy _ _=>(hmg y hy).1;obtain⟨g1,g2,g3⟩:=JH i1 hxo;rw [hr]at g1 g2 g3;have g1:adV S x=t:=g1;have g2:adE S x=e':=g2;have g3:SL S x=true:=g3;have hE:=avt (k+1) (by omega);refine⟨t,mG e e',?_⟩;have hb:∃b,Rv e' b (10 ^ 26):=by
   rcases hc with ⟨_,rfl⟩|⟨y,hy,_,_,_,rfl⟩
   ·exact⟨((0:Int):Rat),LH (by decide) (by decide)⟩
   exact(hmg y hy).2.2
  obtain⟨b,hb⟩:=hb;refine⟨a+b,by simp only [KE,hf,hxe,g3,if_true,g1,g2],fun y hy=>?_,he.add hb hE⟩;have ec:((k+1:Nat):Int)=(k:Int)+1:=by omega
  rw [ec];rcases hc with ⟨h,_⟩|⟨z,hz,_,_,h,_⟩
  ·rcases h y hy with h|rfl
   ·exact(hj y h).mono (by omega)
   exact(Jn.of hx).mono (by omega)
  rcases h y hy with h|rfl
  ·exact(hj y h).mono (by omega)
  exact(hmg z hz).2.1
theorem XG{N:Int}{L:List Lk}(hN:N≤9)(hl:L.length≤7)(hs:∀l∈L,YO N l):Aw L=true:=by
 obtain⟨S,e,a,hf,_,he⟩:=Vh hN hl hs L.length (aJ _);unfold Aw Qo;rw [hf];dsimp only;rw [if_pos he.ok];rfl
theorem Vj{n:Nat}{L:List Lk}(h:Vg n L):Aw L=true∧Aw L.reverse=true∧uH L=uH L.reverse∧MS L=MS L.reverse:=by
 have h1:=h.rn;have h2:=h.len;have o1:=XG (N:=(n:Int)+1) (by omega) (by omega) h.sm;have o2:=XG (N:=(n:Int)+1) (L:=L.reverse) (by omega) (by simp;omega) fun l hl=>h.sm l (List.mem_reverse.1 hl);exact⟨o1,o2,aq0 o1 o2⟩
abbrev nbA(s:List Lk)(x:Int):List Int:=nbI s x s.length
inductive Rch (s:List Lk) (v:Int):Int→Prop
 |base:Rch s v v
 |step {a b:Int}:Rch s v a→b∈nbA s a→Rch s v b
theorem anh{s:List Lk}{x b:Int}:b∈nbA s x↔∃l∈s,acP x l=some b:=by
 unfold nbA nbI;rw [bM,List.mem_filterMap]
theorem aq1{s:List Lk}(h:kN s=true){x b:Int}(hb:b∈nbA s x):0≤b∧b<10∧0≤x∧x<10:=by
 obtain⟨l,hl,e⟩:=anh.1 hb;have:=qJ (pW h hl);unfold acP at e;split at e
 ·cases e;omega
 split at e
 ·cases e;omega
 cases e
theorem ajs{s:List Lk}(h:kN s=true){v b:Int}(hr:Rch s v b):b=v∨(0≤b∧b<10∧0≤v∧v<10):=by
 induction hr with
 |base=>exact .inl rfl
 |
  step ha hb ih =>
  have:=aq1 h hb;rcases ih with rfl|ih
  ·exact .inr ⟨this.1,this.2.1,this.2.2⟩
  exact .inr ⟨this.1,this.2.1,ih.2.2⟩
theorem aeE{s:List Lk}(h:kN s=true){v:Int}{l:List Int}(hn:l.Nodup)(hl:∀a∈l,Rch s v a):l.length≤10:=by
 by_cases hv:0≤v∧v<10
 ·have:=Bo (a:=l) (b:=[0,1,2,3,4,5,6,7,8,9]) hn fun a ha=>by
   have hb:0≤a∧a<10:=by
    rcases ajs h (hl a ha)with rfl|k
    ·exact hv
    exact⟨k.1,k.2.1⟩
   simp only [aH,bP,or_false];omega
  simpa using this
 have:=Bo (a:=l) (b:=[v]) hn fun a ha=>by
  rcases ajs h (hl a ha)with rfl|k
  ·simp
  exact absurd k.2.2 hv
 simp at this;omega
def aeF(s:List Lk)(out:List Int)(x:Int):List Int:=(nbA s x).foldl QX out
def ani(s:List Lk)(out:List Int):List Int:=out.foldl (aeF s) out
def Ws(s:List Lk)(v:Int):Nat→List Int
 |0=>[v]
 |n+1=>ani s (Ws s v n)
theorem aaU:∀(l out:List Int) (a:Int),a∈l.foldl QX out↔a∈out∨a∈l
 | [],out,a=>by simp
 |
  x::l,out,a=>by
  rw [fJ,aaU l,U1,aH];constructor
  ·rintro((h|h)|h)
   ·exact .inr (.inl h)
   ·exact .inl h
   exact .inr (.inr h)
  rintro(h|h|h)
  ·exact .inl (.inr h)
  ·exact .inl (.inl h)
  exact .inr h
theorem aaV:∀(l out:List Int),Asc out→Asc (l.foldl QX out)
 | [],out,h=>h
 |x::l,out,h=>aaV l _ (PN h)
theorem MW{s:List Lk}:∀(l out:List Int) (a:Int),a∈l.foldl (aeF s) out↔a∈out∨∃x∈l,a∈nbA s x
 | [],out,a=>by simp
 |
  x::l,out,a=>by
  rw [fJ,MW l];unfold aeF;rw [aaU,or_assoc];simp only [aH,exists_eq_or_imp]
theorem aeG{s:List Lk}:∀(l out:List Int),Asc out→Asc (l.foldl (aeF s) out)
 | [],out,h=>h
 |x::l,out,h=>aeG l _ (aaV _ _ h)
theorem TF(s:List Lk)(v:Int):∀n,Asc (Ws s v n)
 |0=>by unfold Asc Ws;simp
 |n+1=>aeG _ _ (TF s v n)
theorem TG(s:List Lk)(v:Int):∀n,∀a∈Ws s v n,Rch s v a
 |0,a,h=>by simp [Ws]at h;subst h;exact .base
 |
  n+1,a,h=>by
  rcases(MW _ _ _).1 h with h|⟨x,hx,h⟩
  ·exact TG s v n a h
  exact .step (TG s v n x hx) h
theorem aaW(s:List Lk)(v:Int):∀n,v∈Ws s v n
 |0=>by simp [Ws]
 |n+1=>(MW _ _ _).2 (.inl (aaW s v n))
theorem anj{s:List Lk}(h:kN s=true)(v:Int)(n:Nat):(Ws s v n).length≤10:=aeE h (F5 (TF s v n)) (TG s v n)
def Closed(s:List Lk)(l:List Int):Prop:=∀a∈l,∀b∈nbA s a,b∈l
theorem aaX{s:List Lk}(v:Int):∀n,Closed s (Ws s v n)∨n+1≤(Ws s v n).length
 |0=>.inr (by simp [Ws])
 |
  n+1=>by
  have hsub:∀a∈Ws s v n,a∈Ws s v (n+1):=fun a ha=>(MW _ _ _).2 (.inl ha);rcases Classical.em (Closed s (Ws s v n))with hc|hc
  ·left;intro a ha b hb;have ha':a∈Ws s v n:=by
    rcases(MW _ _ _).1 ha with h|⟨x,hx,h⟩
    ·exact h
    exact hc x hx a h
   exact hsub b (hc a ha' b hb)
  right;have hl:=(aaX v n).resolve_left hc;have:∃a∈Ws s v n,∃b∈nbA s a,b∉Ws s v n:=by
   refine Classical.byContradiction fun hne=>hc fun a ha b hb=>Classical.byContradiction fun hnb=>hne ⟨a,ha,b,hb,hnb⟩
  obtain⟨a,ha,b,hb,hnb⟩:=this;have:=Bo (a:=b::Ws s v n) (b:=Ws s v (n+1)) (gI.2 ⟨hnb,F5 (TF s v n)⟩) fun x hx=>by
   rcases aH.1 hx with rfl|hx
   ·exact(MW _ _ _).2 (.inr ⟨a,ha,hb⟩)
   exact hsub x hx
  simp only [ak]at this;omega
theorem ac7{s:List Lk}(h:kN s=true)(v:Int):Closed s (Ws s v 10):=by
 rcases aaX (s:=s) v 10 with hc|hc
 ·exact hc
 have:=anj h v 10;omega
def cpV(s:List Lk)(v:Int):List Int:=Ws s v 10
theorem ank{s:List Lk}(h:kN s=true){v a:Int}:a∈cpV s v↔Rch s v a:=by
 constructor
 ·exact TG s v 10 a
 intro hr
 induction hr with
 |base=>exact aaW s v 10
 |step _ hb ih=>exact ac7 h v _ ih _ hb
theorem agn{l:List Int}(hn:l.Nodup):Asc (Rx l):=by
 have h1:(Rx l).Pairwise fun a b=>(decide (a≤b))=true:=by
  unfold Rx;exact List.pairwise_mergeSort (fun a b c h1 h2=>by simp at *;omega) (fun a b=>by simp;omega) l
 have h2:(Rx l).Nodup:=(List.mergeSort_perm l _).nodup_iff.2 hn;unfold Asc;refine(h1.and h2).imp fun ⟨h,hne⟩=>?_;have:_≤_:=of_decide_eq_true h;omega
theorem agp{l:List Int}{a:Int}:a∈Rx l↔a∈l:=(List.mergeSort_perm l _).mem_iff
theorem anl{s:List Lk}(h:kN s=true){v:Int}{l:List Int}(hn:l.Nodup)(hv:v∈l)(hr:∀a∈l,Rch s v a)(hc:Closed s l):Rx l=cpV s v:=by
 refine YD (agn hn) (TF s v 10) fun a=>?_;rw [agp,ank h];constructor
 ·exact hr a
 intro hra
 induction hra with
 |base=>exact hv
 |step _ hb ih=>exact hc _ ih _ hb
def addN(l:List Int)(u:Int):List Int:=if u∈l then l else l++[u]
theorem ajt{l:List Int}{u a:Int}:a∈addN l u↔a∈l∨a=u:=by
 unfold addN;split
 ·rename_i h;constructor
  ·exact .inl
  rintro(k|rfl)
  ·exact k
  exact h
 simp
theorem anm{l:List Int}{u:Int}(h:l.Nodup):(addN l u).Nodup:=by
 unfold addN;split
 ·exact h
 rename_i hu;rw [aZ];exact⟨h,by simp,fun a ha b hb e=>by simp at hb;subst hb;exact hu (e▸ha)⟩
theorem aaY:∀(us l:List Int) (a:Int),a∈us.foldl addN l↔a∈l∨a∈us
 | [],l,a=>by simp
 |
  u::us,l,a=>by
  rw [fJ,aaY us,ajt,aH,or_assoc]
theorem aeH:∀(us l:List Int),l.Nodup→(us.foldl addN l).Nodup
 | [],l,h=>h
 |u::us,l,h=>aeH us _ (anm h)
theorem aaZ:∀(us l:List Int),∃r,us.foldl addN l=l++r
 | [],l=>⟨[],by simp⟩
 |
  u::us,l=>by
  obtain⟨r,e⟩:=aaZ us (addN l u);rw [fJ,e];unfold addN;split
  ·exact⟨r,rfl⟩
  exact⟨u::r,by simp⟩
structure Bfs (s:List Lk) (v:Int) (i:Nat) (l:List Int):Prop where
 nd:l.Nodup
 mem:v∈l
 rch:∀a∈l,Rch s v a
 le:i≤l.length
 cl:∀j,j<i→∀b∈nbA s (l.getD j 0),b∈l
theorem Bfs.start(s:List Lk)(v:Int):Bfs s v 0 [v]:=⟨by simp,by simp,fun a h=>by simp at h;subst h;exact .base,by simp,fun j h=>absurd h (gG _)⟩
theorem Bfs.next{s:List Lk}{v:Int}{i:Nat}{l:List Int}(h:Bfs s v i l)(hi:i<l.length):Bfs s v (i+1) ((nbA s (l.getD i 0)).foldl addN l):=by
 obtain⟨r,e⟩:=aaZ (nbA s (l.getD i 0)) l;have hm:=aaY (nbA s (l.getD i 0)) l;have hli:l.getD i 0∈l:=by rw [aj,au hi];exact fD hi
 refine⟨aeH _ _ h.nd,(hm v).2 (.inl h.mem),fun a ha=>?_,by rw [e,aO];omega,fun j hj b hb=>?_⟩
 ·rcases(hm a).1 ha with ha|ha
  ·exact h.rch a ha
  exact .step (h.rch _ hli) ha
 have hjl:j<l.length:=by omega
 have ej:((nbA s (l.getD i 0)).foldl addN l).getD j 0=l.getD j 0:=by
  rw [e,aj,aj,bf hjl]
 rw [ej]at hb;by_cases hji:j=i
 ·subst hji;exact(hm b).2 (.inr hb)
 exact(hm b).2 (.inl (h.cl j (by omega) b hb))
theorem Bfs.len{s:List Lk}(hk:kN s=true){v:Int}{i:Nat}{l:List Int}(h:Bfs s v i l):l.length≤10:=aeE hk h.nd h.rch
theorem Bfs.fin{s:List Lk}(hk:kN s=true){v:Int}{l:List Int}(h:Bfs s v l.length l):Rx l=cpV s v :=
 anl hk h.nd h.mem h.rch fun a ha b hb=>by
  obtain⟨j,hj⟩:=bD.1 ha;have hjl:=(aN.1 hj).1;exact h.cl j hjl b (by rw [aj,hj];exact hb)
theorem ac8{i j:Int}:∀{L:List Lk},(∀x∈L,nD x=true)→0≤OB mW i j L∧((∃x∈L,x.a=i∧x.b=j)→0<OB mW i j L)
 | [],_=>⟨by simp [OB],fun ⟨x,hx,_⟩=>by cases hx⟩
 |
  y::L,h=>by
  have ih:=ac8 (i:=i) (j:=j) (L:=L) fun x hx=>h x (by simp [hx]);have hy:0<mW y:=aaT (h y (by simp));simp only [OB];by_cases e:y.a=i∧y.b=j
  ·rw [if_pos e];have h1:=ih.1;have:0<mW y+OB mW i j L:=by grind
   exact⟨by grind,fun _=>this⟩
  rw [if_neg e,Rat.zero_add];refine⟨ih.1,fun ⟨x,hx,hh⟩=>ih.2 ⟨x,?_,hh⟩⟩;rcases aH.1 hx with rfl|hx
  ·exact absurd hh e
  exact hx
theorem TI{L:List Lk}(hok:Aw L=true)(hL:∀x∈L,nD x=true)(i j:Int):(∃x∈uH L,x.a=i∧x.b=j)↔∃x∈L,x.a=i∧x.b=j:=by
 have hm:=(P9 hok).1 mW (.inl rfl) i j;have hS:=qB.1 (JK (l:=L)).2.2.2;have p1:=ac8 (i:=i) (j:=j) hS.1;have p2:=ac8 (i:=i) (j:=j) hL;constructor
 ·intro h;refine Classical.byContradiction fun hne=>?_;have e:=LK (f:=mW) (i:=i) (j:=j) (S:=L) fun y hy hh=>hne ⟨y,hy,hh⟩;have:=p1.2 h;rw [hm,e]at this;exact absurd this Rat.lt_irrefl
 intro h;refine Classical.byContradiction fun hne=>?_;have e:=LK (f:=mW) (i:=i) (j:=j) (S:=uH L) fun y hy hh=>hne ⟨y,hy,hh⟩;have:=p2.2 h;rw [←hm,e]at this;exact absurd this Rat.lt_irrefl
theorem aq2{n:Int}{l:Lk}(h:YO n l):(l.w.cn∧l.dx.cn∧l.dy.cn)∧l.wf:=by
 obtain⟨_,⟨a,ha,e1⟩,⟨b,hb,e2⟩,⟨c,hc,e3⟩⟩:=h;unfold Lk.wf;rw [e1,e2,e3];have h1:=vS (n:=a) (by omega);have h2:=vS (n:=b) (by omega);have h3:=vS (n:=c) (by omega);exact⟨⟨h1,h2,h3⟩,rP h1,rP h2,rP h3⟩
structure Qb (n:Nat) (S:List Lk):Prop where
 L:∃L,Vg n L∧S=uH L
 ok:kN S=true
 cn:∀x∈S,x.w.cn∧x.dx.cn∧x.dy.cn
 len:S.length≤101
 ab:∀x∈S,0≤x.a∧x.a<x.b∧x.b≤(n:Int)+1
 base:∀k,k<n→∃x∈S,x.a≤(k:Int)∧x.b=(k:Int)+1
 rn:1≤n∧n≤4
theorem Qb.wf{n:Nat}{S:List Lk}(h:Qb n S):IQ Lk.wf S:=Ri h.cn h.len
theorem Qb.sz{n:Nat}{S:List Lk}(h:Qb n S):Qn Lk.sz S≤20000:=Rh h.cn h.len
theorem avu{n:Nat}{L:List Lk}(h:Vg n L):Qb n (uH L):=by
 obtain⟨hok,_⟩:=Vj h;have hc:=JK (l:=L);have hrn:=h.rn;have avv:∀x∈L,nD x=true:=fun x hx=>Qa (n:=(n:Int)+1) (by omega) (h.sm x hx);refine⟨⟨L,h,rfl⟩,hc.2.2.2,hc.1,hc.2.2.1,fun x hx=>?_,fun k hk=>?_,h.rn⟩
 ·obtain⟨y,hy,h1,h2⟩:=(TI hok avv x.a x.b).1 ⟨x,hx,rfl,rfl⟩;have:=(h.sm y hy).ab;omega
 have hl:=h.len;have hm:=getD_mem (l:=L) (i:=k) (by omega);have hb:=h.base k hk;generalize L.getD k default=y at hm hb;obtain⟨x,hx,h1,h2⟩:=(TI hok avv y.a y.b).2 ⟨y,hm,rfl,rfl⟩;have:=(h.sm y hm).ab;exact⟨x,hx,by omega,by omega⟩
end Go.Ml
end
