/- Contracts of functions. -/
import Derived.Test.YtbccjdlcbhknoabGreatPart3
set_option linter.unusedSimpArgs false
set_option linter.unusedVariables false
set_option maxRecDepth 100000
set_option maxHeartbeats 16000000
section
namespace Go.Ml
def onR(b:Nat):List (List V):=(List.range 10).map fun i=>[.kP (b+i) 0 10]
theorem UM(b:Nat):(onR b).length=10:=by simp [onR]
theorem Ri{b j:Nat}(hj:j<10):(onR b)[j]? = some [.kP (b+j) 0 10]:=by
 rw [onR,bG,dw hj];rfl
def UN(g:Gd):Store:=some ⟨1,[[.kP 1 0 10]]⟩::some ⟨1,onR 2⟩::(List.range 10).map fun a=>some ⟨1,grow g a⟩
theorem XU(g:Gd):(UN g).length=12:=by simp [UN]
structure oM (s:Store) (b:Nat) (g:Gd):Prop where
 p:jH s b=some ⟨1,[[.kP (b+1) 0 10]]⟩
 on:jH s (b+1)=some ⟨1,onR (b+2)⟩
 row:∀a,a<10→jH s (b+2+a)=some ⟨1,grow g a⟩
theorem XV{g:Gd}{a:Nat}(ha:a<10):jH (UN g) (2+a)=some ⟨1,grow g a⟩:=by
 rw [Nat.add_comm];show ((List.range 10).map fun a=>some (⟨1,grow g a⟩:Obj))[a]?.getD none=_;rw [bG,dw ha];rfl
theorem am7(g:Gd):oM (UN g) 0 g:=⟨rfl,rfl,fun a ha=>by rw [aN];exact XV ha⟩
theorem oM.lt{s:Store}{b:Nat}{g:Gd}(h:oM s b g):b+12≤s.length:=by
 have:=kK (h.row 9 (by omega));omega
theorem oM.frame{s s2:Store}{b:Nat}{g:Gd}(h:oM s b g)(hs:∀q,b≤q→q<b+12→jH s2 q=jH s q):oM s2 b g :=
 ⟨(hs _ (by omega) (by omega)).trans h.p,(hs _ (by omega) (by omega)).trans h.on,fun a ha=>(hs _ (by omega) (by omega)).trans (h.row a ha)⟩
theorem oM.set{s:Store}{b:Nat}{g:Gd}(h:oM s b g){i j:Nat}{x:Bool}(hi:i<10)(hj:j<10):oM (s.set (b+2+i) (some ⟨1,(grow g i).set j [.bool x]⟩)) b (DL g i j x):=by
 have hl:=h.lt;refine⟨(jV (by omega)).trans h.p,(jV (by omega)).trans h.on,fun a ha=>?_⟩;by_cases e:a=i
 ·subst e;rw [kT (by omega),am6]
 rw [jV (by omega),h.row a ha,acH e]
theorem Zm{f:Nat→Option Nat}{v:V}(h:v.still=true):lD f v=v:=by
 cases v<;>simp_all [V.still,lD]
theorem acI{ρ:Nat→Option Nat}{b b':Nat}(h:∀i,i<10→ρ (b+i)=some (b'+i)):qK ρ ⟨1,onR b⟩=⟨1,onR b'⟩:=by
 unfold qK onR
 congr 1
 rw [fK]
 apply fE
 intro i hi;simp [lD,h i (eF.1 hi)]
theorem V4(f:Nat→Option Nat)(g:Gd)(a:Nat):qK f ⟨1,grow g a⟩=⟨1,grow g a⟩:=by
 unfold qK
 congr 1
theorem am8{s:Store}{g:Gd}:oM (zo s (UN g)) s.length g:=by
 refine⟨?_,?_,fun a ha=>?_⟩
 ·rw [pR,if_neg (by omega),jd];rfl
 ·rw [pR,if_neg (by omega),show s.length+1-s.length=1 by omega];refine congrArg some (acI fun i hi=>?_);simp only [mV,aC];omega
 rw [pR,if_neg (by omega),show s.length+2+a-s.length=2+a by omega,XV ha];simp only [bY,V4]
theorem Rj{T:Tb}{f:Nat}{as:List Src}{dst:Option Nat}{env:Nat→V}{σ:Store}{kp bs:Nat}{rs ms:List Nat}{k:St→Prop}{as':List V}{r:V}{σ':Store}
  (h:Run T (.fn f as' []) (.fn r σ')) (ha:NM env σ as (· = as')) (hr:nO env σ as=[]) (hk:k ⟨oL env dst (lD (mV σ.length) r),zo σ σ',kp,bs,rs,ms⟩):Ro T f as dst ⟨env,σ,kp,bs,rs,ms⟩ k:=by
 obtain⟨as2,e,rfl⟩:=zZ ha;exact⟨_,.own e h (R:=[]) (by split;rfl;exact hr.symm),hk⟩
theorem ML{b j:Nat}:∀n,j<n→place ((List.range n).map (b + ·)) (b+j)=some j:=by
 intro n hj;have h1:((List.range n).map (b + ·))[j]? = some (b+j):=by rw [bG,dw hj];rfl
 have h2:((List.range n).map (b + ·)).Nodup:=by
  refine iR.2 (List.nodup_range.imp fun hne e=>hne (by omega))
 exact QS h2 h1
theorem V5{b q n:Nat}(h:q<b∨b+n≤q):place ((List.range n).map (b + ·)) q=none:=by
 cases e:place ((List.range n).map (b + ·)) q with
 |none=>rfl
 |
  some j =>
  have:=qF e;rw [bG]at this
  cases hr:(List.range n)[j]? with
  |none=>rw [hr]at this;cases this
  |
   some m =>
   rw [hr]at this;simp only [bY,aC]at this;have hm:=eF.1 (aS hr);omega
def g12(b:Nat):List Nat:=(List.range 12).map (b + ·)
theorem am9(b:Nat):(g12 b).Nodup:=iR.2 (List.nodup_range.imp fun hne e=>hne (by omega))
theorem aqx{b o:Nat}:o∈g12 b↔b≤o∧o<b+12:=by
 simp only [g12,bM,eF];constructor
 ·rintro⟨a,h,rfl⟩;omega
 intro h;exact⟨o-b,by omega,by omega⟩
theorem ako(g:Gd):UN g=(List.range 12).map fun j=>jH (UN g) j:=by
 apply fF
 intro n;rw [bG];by_cases h:n<12
 ·rw [dw h];simp only [bY,jH];rw [aB (by rw [XU];exact h)];rfl
 rw [bn (by rw [XU];omega),bn (by simp;omega)];rfl
theorem ae8{ρ:Nat→Option Nat}{o o':Nat}(h:ρ o=some o'){s l:Nat}:qK ρ ⟨1,[[.kP o s l]]⟩=⟨1,[[.kP o' s l]]⟩:=by
 simp [qK,lD,h]
theorem oM.gc{s:Store}{b:Nat}{g:Gd}(h:oM s b g):NH (g12 b) s=UN g:=by
 rw [ako g];unfold NH;rw [g12,fK]
 apply fE
 intro j hj;have hj:=eF.1 hj;show (jH s (b+j)).map (qK (place ((List.range 12).map (b + ·))))=jH (UN g) j;by_cases h0:j=0
 ·subst h0;rw [gy,h.p];exact congrArg some (ae8 (ML 12 (by omega:1<12)))
 by_cases h1:j=1
 ·subst h1;rw [h.on];refine congrArg some (acI fun i hi=>?_);rw [show b+2+i=b+(2+i) by omega];exact ML 12 (by omega)
 obtain⟨a,rfl⟩:∃a,j=2+a:=⟨j-2,by omega⟩;rw [←gu,h.row a (by omega),XV (by omega)];exact congrArg some (V4 _ _ _)
theorem ana{b n j:Nat}(hj:j<12):back (g12 b) n j=some (b+j):=by
 unfold back;rw [if_pos (by simpa [g12]using hj),g12,bG,dw hj];rfl
theorem akp{s:Store}{b:Nat}{g g':Gd}(h:oM s b g):oM (ql (g12 b) s (UN g')) b g'∧(∀q,q<b∨b+12≤q→q<s.length→jH (ql (g12 b) s (UN g')) q=jH s q)∧(ql (g12 b) s (UN g')).length=s.length:=by
 have hl:=h.lt;have key:∀q,q<s.length→jH (ql (g12 b) s (UN g')) q=match place (g12 b) q with
   |some j=>(jH (UN g') j).map (qK (back (g12 b) s.length))
   |none=>jH s q:=by
  intro q hq;show ((ql (g12 b) s (UN g'))[q]?).getD none=_;unfold ql;rw [bH (by simpa using hq),jI,aB hq];simp only [bY,gZ]
  cases place (g12 b) q with
  |none=>simp [jH,aB hq]
  |some j=>rfl
 have at_:∀j,j<12→jH (ql (g12 b) s (UN g')) (b+j)=(jH (UN g') j).map (qK (back (g12 b) s.length)):=by
  intro j hj;rw [key _ (by omega),g12,ML 12 hj]
 refine⟨⟨?_,?_,fun a ha=>?_⟩,fun q hq hlt=>?_,?_⟩
 ·have:=at_ 0 (by omega);rw [gy]at this;rw [this];exact congrArg some (ae8 (ana (by omega)))
 ·rw [at_ 1 (by omega)];refine congrArg some (acI fun i hi=>?_);rw [ana (by omega),gu]
 ·rw [gu,at_ (2+a) (by omega),XV ha];exact congrArg some (V4 _ _ _)
 ·rw [key q hlt,g12,V5 hq]
 simp [ql,g12,XU]
theorem abr{T:Tb}{f:Nat}{as:List Src}{dst:Option Nat}{env:Nat→V}{σ:Store}{kp bs:Nat}{rs ms:List Nat}{k:St→Prop}{b:Nat}{g g':Gd}{v n:Int}(hG:oM σ b g)
  (hr:Run T (.fn f [.ptr 0 0 0,iv v] (UN g)) (.fn (iv n) (UN g'))) (ha:(as.map fun s=>s.ev env)=[.ptr b 0 0,iv v])
  (hk:∀σ2,oM σ2 b g'→(∀q,q<b∨b+12≤q→q<σ.length→jH σ2 q=jH σ q)→σ2.length=σ.length→k ⟨oL env dst (iv n),σ2,kp,bs,rs,ms⟩):Ro T f as dst ⟨env,σ,kp,bs,rs,ms⟩ k:=by
 obtain⟨h1,h2,h3⟩:=akp (g':=g') hG;have e:(as.map fun s=>lD (place (g12 b)) (s.ev env))=[.ptr 0 0 0,iv v]:=by
  have:(as.map fun s=>lD (place (g12 b)) (s.ev env))=(as.map fun s=>s.ev env).map (lD (place (g12 b))):=by rw [fK];rfl
  rw [this,ha];have:=ML (b:=b) 12 (by omega:0<12);simp only [bC,fZ,lD];rw [show place (g12 b) b=some 0 from this]
 refine⟨_,.ref (g12 b) (am9 b) (fun o ho=>?_) (r:=iv n) (σ':=UN g') (by rw [hG.gc,e];exact hr),hk _ h1 h2 h3⟩;obtain⟨h4,h5⟩:=aqx.1 ho;by_cases h0:o=b
 ·rw [h0,hG.p];rfl
 by_cases h1:o=b+1
 ·rw [h1,hG.on];rfl
 have:=hG.row (o-b-2) (by omega);rw [show b+2+(o-b-2)=o by omega]at this;rw [this];rfl
def gfz(g:Gd):V:=.oZ [.sl 1 ((List.range 10).map fun a=>[.sl 1 (grow g a)])] 0
theorem mapM_some{α β:Type}{f:α→Option β}{h:α→β}:∀{l:List α},(∀a∈l,f a=some (h a))→l.mapM f=some (l.map h)
 | [],_=>rfl
 |
  a::l,k=>by
  rw [bD,k a (by simp),mapM_some fun x hx=>k x (by simp [hx])];rfl
theorem Jh{s:Store}{o n m:Nat}{rows:List (List V)}(h:jH s o=some ⟨m,rows⟩)(hs:l7 rows):resolve s (n+2) (.kP o 0 rows.length)=some (.sl m rows):=by
 rw [resolve];simp only [h,aN,aP,if_true,bZ,bQ];rw [zA hs];rfl
theorem Fq{s:Store}{b:Nat}{g:Gd}(h:oM s b g):resolve s FD (.ptr b 0 0)=some (gfz g):=by
 show resolve s (11+1) (.ptr b 0 0)=_;rw [resolve];simp only [h.p,iW];have h2:resolve s (10+1) (.kP (b+1) 0 10)=some (.sl 1 ((List.range 10).map fun a=>[.sl 1 (grow g a)])):=by
  rw [resolve];simp only [h.on,UM,aN,aP,if_true,bZ];rw [show List.take 10 (onR (b+2))=onR (b+2)from aY (by rw [UM];omega)];have:((onR (b+2)).mapM fun (r:List V)=>r.mapM (resolve s 10))=some ((List.range 10).map fun a=>[.sl 1 (grow g a)]):=by
   unfold onR;rw [List.mapM_map];refine mapM_some fun a ha=>?_;have ha:=eF.1 ha;have h3:=Jh (n:=8) (h.row a ha) (aho g a);rw [Oe]at h3;simp only [Function.comp,bD,List.mapM_nil];rw [h3];rfl
  rw [this];rfl
 simp only [bD,List.mapM_nil];rw [h2];rfl
end Go.Ml
namespace Go.Ml
theorem vG{T:Tb}(rf:Nat→Nat→Bool){c:C}{Q:Ex→St→Prop}{st:St}(hk:c.okC=true)(h:wp T rf c (fun e st'=>abU e (Pm T c Q st') (Q e st')) st):Pm T c Q st:=by
 obtain⟨e,st1,h1,h2⟩:=Bd hk h
 cases e with
 |
  normal =>
  obtain⟨e,st2,h4,h5⟩:=h2;exact⟨e,st2,.akW h1 h4,h5⟩
 |exit id=>exact⟨_,_,.adH (by simp) h1,h2⟩
 |ret=>exact⟨_,_,.adH (by simp) h1,h2⟩
theorem aqy{T:Tb}{c:C}{Q:Ex→St→Prop}{env:Nat→V}{objs:Store}{bs:Nat}{rs ms:List Nat}(ρ:List Nat)(hn:ρ.Nodup)(h:Pm T c Q ⟨gcE ρ env,NH ρ objs,0,bs,rs,ms⟩):Pm T c Q ⟨env,objs,0,bs,rs,ms⟩:=by
 obtain⟨e,st',h1,h2⟩:=h;exact⟨e,st',.gc ρ hn (fun i hi=>absurd hi (iG _)) h1,h2⟩
theorem I4{T:Tb}{c:C}{Q:Ex→St→Prop}{st st2:St}(hf:Fg st2 st)(h:Pm T c Q st2):Pm T c Q st:=by
 obtain⟨e,st',h1,h2⟩:=h;exact⟨e,st',hf.run h1,h2⟩
theorem aiB{T:Tb}{f:Nat}{as:List V}{r:V}{σ σ':Store}{g:Gd}(h:Run T (.fn f as σ) (.fn r σ'))(hs:σ.length≤12)(hG:oM σ' 0 g):Run T (.fn f as σ) (.fn (lD (place (g12 0)) r) (UN g)):=by
 rw [←hG.gc];refine .gcF (g12 0) (am9 0) (fun i hi=>?_) h;rw [g12,bG,dw (by omega)];simp
def I5:Fn:=⟨1,20,[.tmp 2],(sr [oN 2 mN] (.seq (rf 1 [oN 6 (.ny 11 D6 0 []),oK 3 1 (oV 6)]) (.seq (sr [oW 7 0,oN 8 (ln 7),oN 9 (.mM (cI 0))] (.block 0 (.loop (sr [oN 10 (bt .lss 9 8)] (.seq (cd 10 .skip (.exit 0)) (.seq (.block 1 (.seq (rf 1 [oK 11 1 (ix 11 7 9),oK 12 1 (lT 11 11),oN 5 (.alloc D6),⟨none,none,1,.store 11 (.t 5) (.t 12),[]⟩]) (rf 2 [oK 13 2 (oV 3),oK 14 2 (lT 11 5),oK 15 2 (cl 197 [14]),oN 16 (.ny 11 D6 1 [(0,(.t 15))]),oK 17 1 (.app 11 184 (.t 13) (.t 16)),oK 3 2 (oV 17)]))) (rg [oN 18 (bc .add 9 1),oW 9 18]))))))) (sr [oW 19 3,oW 2 19] .ret))))⟩
structure Nw (T:Tb):Prop where
 hT:T 194=some I5
 qJ:xg T
def uT:Fn:=⟨2,86,[.tmp 4,.cell 5 3 true,.tmp 6],(.seq (rf 2 [oN 3 (.box (.t 1)),oK 4 2 mN,oK 5 1 (.alloc qL),oK 6 2 mF]) (.seq (sr [oW 13 0,oN 14 (cl 193 [13]),oN 15 (nt 14),oW 16 15,oG 16 false 17 (lT 11 3),oG 16 false 18 (cl 83 [17]),oG 16 false 19 (nt 18),oN 20 (.pick (.t 16) (.c (.bool true)) (.t 19))] (cd 20 (sr [oN 21 (.build qL []),oN 4 mN,oS (.store 3 (.t 5) (.t 21)),oN 6 mF] .ret) .skip)) (sr [oW 22 0,oN 23 (cl 194 [22]),oW 7 23] (sr [oN 8 (.mM (cI 0))] (.seq (.block 0 (.loop (.seq (.seq (rt 0 [oW 24 8,oW 25 7,oA 26 0 (ln 25) [1],oA 27 0 (bt .lss 24 26) [0,2],oA 28 0 (oV 27) [3],oH 28 true 29 0 (oV 7) [4],oH 28 true 30 0 (oV 8) [4],oH 28 true 31 0 (ix 11 29 30) [5,6,4],oH 28 true 32 0 (lT 11 31) [7,4],oH 28 true 33 0 (lT 11 3) [4],oH 28 true 34 0 (cl 195 [32,33]) [8,9,4,4],oA 35 0 (.pick (.t 28) (.t 34) (.c (.bool false))) [4,10]]) (cd 35 .skip (.exit 0))) (.block 1 (rg [oW 36 8,oN 37 (bc .add 36 1),oW 8 37]))))) (.seq (.seq (rt 0 [oW 38 8,oW 39 7,oA 40 0 (ln 39) [1],oA 41 0 (bt .lss 38 40) [0,2],oA 42 0 (oV 41) [3],oH 42 true 43 0 (lT 11 3) [4],oH 42 true 44 0 (oV 7) [4],oH 42 true 45 0 (oV 8) [4],oH 42 true 46 0 (ix 11 44 45) [6,7,4],oH 42 true 47 0 (lT 11 46) [8,4],oH 42 true 48 0 (cl 195 [43,47]) [5,9,4,4],oH 42 true 49 0 (nt 48) [10,4],oA 50 0 (.pick (.t 42) (.t 49) (.c (.bool false))) [4,11]]) (cd 50 (.seq (rt 2 [oK 52 2 (oV 7),oK 53 2 (oV 8),oA 54 2 (ix 11 52 53) [0,1],oA 55 2 (lT 11 54) [2],oK 56 2 (lT 11 3),oA 57 2 (cl 196 [55,56]) [3,4],oA 51 2 (oV 57) [5],oA 58 2 (ex 0 51) [6],oA 59 2 (ex 1 51) [6],oA 60 2 (ex 2 51) [6],oN 9 (.alloc D6),oK 10 1 (.alloc qL),⟨none,none,2,.store 11 (.t 9) (.t 58),[10,7,5,0,1,2,3,4,5,6,7,10,11]⟩,⟨none,none,2,.store 3 (.t 10) (.t 59),[11,8,12,0,1,2,3,4,5,6,7,8,10,11,12]⟩,oA 11 2 (oV 60) [9,13,0,1,2,3,4,5,6,7,8,9,10,11,12,13]]) (.seq (sr [oW 61 11,oN 62 (nt 61)] (cd 62 (sr [oN 63 (.build qL []),oN 4 mN,oS (.store 3 (.t 5) (.t 63)),oN 6 mF] .ret) .skip)) (sr [oW 64 7,oW 65 8,oN 66 (lT 11 9),oN 67 (ix 11 64 65),oS (.store 11 (.t 67) (.t 66))] (.seq (rt 0 [oW 68 7,oN 69 (lT 3 10),oA 4 0 (oV 68) [0,0],⟨none,none,0,.store 3 (.t 5) (.t 69),[1,2,0,1,2]⟩,oA 6 0 mT [3,0,1,2,3]]) .ret)))) .skip)) (.seq (rf 2 [oN 70 (.ny 11 D6 0 []),oK 71 2 (oV 7),oK 72 2 (oV 8),oK 73 2 (.slice 11 (.t 71) none (some (.t 72))),oK 74 1 (.app 11 184 (.t 70) (.t 73)),oK 12 2 (oV 74)]) (.seq (rf 2 [oK 75 2 (oV 12),oK 76 2 (lT 11 3),oK 77 2 (cl 197 [76]),oN 78 (.ny 11 D6 1 [(0,(.t 77))]),oK 79 1 (.app 11 184 (.t 75) (.t 78)),oK 12 2 (oV 79)]) (.seq (rf 1 [oK 80 1 (oV 12),oK 81 1 (oV 7),oK 82 1 (oV 8),oK 83 1 (.slice 11 (.t 81) (some (.t 82)) none),oN 84 (.app 11 184 (.t 80) (.t 83)),oK 85 1 (.call 36 [(cI 0)]),oK 4 1 (oV 84),⟨none,none,1,.store 3 (.t 5) (.t 85),[]⟩,oK 6 1 mT]) .ret)))))))))⟩
structure Lr (T:Tb):Prop where
 hT:T 188=some uT
 kZ:nU T
 qo:uO T
 lZ:o8 T
 aav:Nw T
 Eu:Et T
 UO:Fh T
 qJ:xg T
def Fv:Fn:=⟨2,77,[.tmp 4,.cell 5 3 true,.tmp 6],(.seq (rf 2 [oN 3 (.box (.t 1)),oK 4 2 mN,oK 5 1 (.alloc qL),oK 6 2 mF]) (sr [oN 7 (.mM (cI 0))] (.seq (.block 0 (.loop (.seq (.seq (rt 0 [oW 12 7,oW 13 0,oA 14 0 (ln 13) [1],oA 15 0 (bt .lss 12 14) [0,2],oA 16 0 (oV 15) [3],oH 16 true 17 0 (oV 0) [4],oH 16 true 18 0 (oV 7) [4],oH 16 true 19 0 (ix 11 17 18) [5,6,4],oH 16 true 20 0 (lT 11 19) [7,4],oH 16 true 21 0 (lT 11 3) [4],oH 16 true 22 0 (cl 111 [20,21]) [8,9,4,4],oA 23 0 (.pick (.t 16) (.t 22) (.c (.bool false))) [4,10]]) (cd 23 .skip (.exit 0))) (.block 1 (rg [oW 24 7,oN 25 (bc .add 24 1),oW 7 25]))))) (.seq (rf 2 [oN 26 (.ny 11 D6 0 []),oK 27 2 (oV 0),oK 28 2 (oV 7),oK 29 2 (.slice 11 (.t 27) none (some (.t 28))),oK 30 1 (.app 11 184 (.t 26) (.t 29)),oK 8 2 (oV 30)]) (.seq (.seq (rt 0 [oW 31 7,oW 32 0,oA 33 0 (ln 32) [1],oA 34 0 (bt .eql 31 33) [0,2],oA 35 0 (oV 34) [3],oH 35 false 36 0 (lT 11 3) [4],oH 35 false 37 0 (oV 0) [4],oH 35 false 38 0 (oV 7) [4],oH 35 false 39 0 (ix 11 37 38) [6,7,4],oH 35 false 40 0 (lT 11 39) [8,4],oH 35 false 41 0 (cl 111 [36,40]) [5,9,4,4],oA 42 0 (.pick (.t 35) (.c (.bool true)) (.t 41)) [4,10]]) (cd 42 (.seq (rf 2 [oK 43 2 (oV 8),oK 44 2 (lT 11 3),oN 45 (.ny 11 D6 1 [(0,(.t 44))]),oK 46 1 (.app 11 184 (.t 43) (.t 45)),oK 8 2 (oV 46)]) (.seq (rf 1 [oK 47 1 (oV 8),oK 48 1 (oV 0),oK 49 1 (oV 7),oK 50 1 (.slice 11 (.t 48) (some (.t 49)) none),oN 51 (.app 11 184 (.t 47) (.t 50)),oK 52 1 (.call 39 [(cI 0)]),oK 4 1 (oV 51),⟨none,none,1,.store 3 (.t 5) (.t 52),[]⟩,oK 6 1 mT]) .ret)) .skip)) (.seq (rt 2 [oK 54 2 (oV 0),oK 55 2 (oV 7),oA 56 2 (ix 11 54 55) [0,1],oA 57 2 (lT 11 56) [2],oK 58 2 (lT 11 3),oA 59 2 (cl 140 [57,58]) [3,4],oA 53 2 (oV 59) [5],oA 60 2 (ex 0 53) [6],oA 61 2 (ex 1 53) [6],oA 62 2 (ex 2 53) [6],oN 9 (.alloc D6),oK 10 1 (.alloc qL),⟨none,none,2,.store 11 (.t 9) (.t 60),[10,7,5,0,1,2,3,4,5,6,7,10,11]⟩,⟨none,none,2,.store 3 (.t 10) (.t 61),[11,8,12,0,1,2,3,4,5,6,7,8,10,11,12]⟩,oA 11 2 (oV 62) [9,13,0,1,2,3,4,5,6,7,8,9,10,11,12,13]]) (.seq (sr [oW 63 11,oN 64 (nt 63)] (cd 64 (sr [oN 65 (.build qL []),oN 4 mN,oS (.store 3 (.t 5) (.t 65)),oN 6 mF] .ret) .skip)) (.seq (rf 2 [oK 66 2 (oV 8),oK 67 2 (lT 11 9),oN 68 (.ny 11 D6 1 [(0,(.t 67))]),oK 69 1 (.app 11 184 (.t 66) (.t 68)),oK 8 2 (oV 69)]) (.seq (rt 1 [oK 70 1 (oV 8),oK 71 1 (oV 0),oK 72 1 (oV 7),oA 73 1 (bc .add 72 1) [2],oA 74 1 (.slice 11 (.t 71) (some (.t 73)) none) [1,3],oA 75 0 (.app 11 184 (.t 70) (.t 74)) [0,4],oK 76 1 (lT 3 10),oA 4 1 (oV 75) [5,5,0,1,2,3,4,5],⟨none,none,1,.store 3 (.t 5) (.t 76),[6,7,0,1,2,3,4,5,6,7]⟩,oA 6 1 mT [8,0,1,2,3,4,5,6,7,8]]) .ret)))))))))⟩
structure Ls (T:Tb):Prop where
 hT:T 130=some Fv
 lG:oP T
 xQ:xP T
 MN:Fj T
def JD(l:Lk):List Lk→Nat
 | []=>0
 |x::xs=>if l9 x l=true then JD l xs+1 else 0
theorem UQ(l:Lk):∀s:List Lk,JD l s≤s.length
 | []=>aP _
 |
  x::xs=>by
  have:=UQ l xs;unfold JD;split<;>simp<;>omega
theorem acJ{l:Lk}:∀{s:List Lk} {i:Nat},i≤JD l s→i<s.length→l9 (s.getD i default) l=decide (i<JD l s)
 | [],i,_,h=>absurd h (iG _)
 |
  x::xs,0,h,_=>by
  unfold JD
  cases hx:l9 x l
  ·simp [hx]
  simp [hx]
 |
  x::xs,i+1,h,hi=>by
  unfold JD at h ⊢;split at h
  ·rename_i hx;have:=acJ (s:=xs) (i:=i) (l:=l) (by omega) (by simpa using hi);rw [jO,this,if_pos hx];simp
  omega
def Tt(s:List Lk)(l:Lk):Option (List Lk×R) :=
 let i:=JD l s
 if i=s.length∨l9 l (s.getD i default)=true then some (s.take i++l::s.drop i,kR 0)
 else if UL (s.getD i default) l=true then some (s.take i++mgL (s.getD i default) l::s.drop (i+1),UK (s.getD i default) l)else none
def V6(s:List Lk)(l:Lk):Bool:=lH s&&qm l&&(Tt s l).isSome
def adV(s:List Lk)(l:Lk):List Lk:=if lH s=true∧qm l=true then((Tt s l).map (·.1)).getD []else []
def adE(s:List Lk)(l:Lk):R:=if lH s=true∧qm l=true then((Tt s l).map (·.2)).getD R0 else R0
theorem ahp{s:List Lk}{l:Lk}(h:¬(lH s=true∧qm l=true)):adV s l=[]∧adE s l=R0∧V6 s l=false:=by
 refine⟨if_neg h,if_neg h,?_⟩;unfold V6
 cases h1:lH s
 ·rfl
 cases h2:qm l
 ·rfl
 exact absurd ⟨h1,h2⟩ h
theorem XW{s:List Lk}{l:Lk}(h1:lH s=true)(h2:qm l=true):adV s l=((Tt s l).map (·.1)).getD []∧adE s l=((Tt s l).map (·.2)).getD R0∧V6 s l=(Tt s l).isSome :=
 ⟨if_pos ⟨h1,h2⟩,if_pos ⟨h1,h2⟩,by unfold V6;rw [h1,h2];rfl⟩
theorem anc{T:Tb}(h:Nw T){l:List Lk}(hz:Dy Lk.sz l≤1048576):Run T (.fn 194 [kY l] []) (.fn (slV l.length) (VH 11 (l.map Lk.cells))):=by
 have hl:l.length≤1048576:=by have:=vY Lk.sz l;omega
 have:∃r σ',Run T (.fn 194 [kY l] []) (.fn r σ')∧(r=slV l.length∧σ'=VH 11 (l.map Lk.cells)):=by
  refine run_end nR h.hT ?_;simp only [I5,Lz,St.enter,aj,au,aN];refine ew ?_;refine kG (fun _ _=>false) (α:=Nat×List Lk) (fun q=>⟨kX [.any,.any,.any,slV q.2.length,.any,.any,.any,kY l,iv (l.length:Nat),iv (q.1:Nat)],VH 11 (q.2.map Lk.cells),0,0,[],[]⟩) (fun q=>q.1≤l.length∧q.2=l.take q.1) (fun q=>l.length-q.1) rfl (0,[]) ?_ ?_ ?_
  ·exact⟨by omega,by simp⟩
  ·exact ais
  rintro⟨i,xs⟩ ⟨hi,hx0⟩;dsimp only at hi hx0;have hx:xs.length≤1048576:=by rw [hx0];simp;omega
  by_cases hc:(i:Int)<(l.length:Nat)
  ·have hil:i<l.length:=by omega
   have es:l.take (i+1)=l.take i++[l.getD i default]:=by
    rw [dD,aB hil,ak,aB hil];rfl
   rw [←hx0]at es;have hys:=KY (f:=Lk.sz) hz (getD_mem hil);obtain⟨y,hy⟩:∃y,l.getD i default=y:=⟨_,rfl⟩;rw [hy]at es hys;have cc:=Kw h.qJ hys
   (rcases xs with _|⟨x,xs⟩<;>simp only [au,aj,qX,qH,fZ,bC,aek,aa8]at hx ⊢)
   ·refine vW @hc @mg @hy ?_;refine jy cc ?_;refine ew ?_;exact⟨by omega,(i+1,([])++[y]),by dsimp only;omega,⟨by dsimp only;omega,es.symm⟩,by (simp only [List.map_append,List.map_cons,List.map_nil];refine JQ (k:=2) (by simp only [XP,Uy,XO,and_true,true_and];(repeat' (first|exact DV _|exact amG _|refine⟨?_,?_⟩))) rfl ?_;(try (refine ew ?_;try with_reducible exact True.intro));(repeat' (first|exact True.intro|omega|exact Ac (by simp) (by simp) (by simp)|refine⟨?_,?_⟩|exact lY rfl (by simp))))⟩
   refine vW @hc @mg @hy ?_;refine jy cc ?_;refine ew ?_;exact⟨by omega,(i+1,(x::xs)++[y]),by dsimp only;omega,⟨by dsimp only;omega,es.symm⟩,by (simp only [List.map_append,List.map_cons,List.map_nil];refine JQ (k:=3) (by simp only [XP,Uy,XO,and_true,true_and];(repeat' (first|exact DV _|exact amG _|refine⟨?_,?_⟩))) rfl ?_;(try (refine ew ?_;try with_reducible exact True.intro));(repeat' (first|exact True.intro|omega|exact Ac (by simp) (by simp) (by simp)|refine⟨?_,?_⟩|exact lY rfl (by simp))))⟩
  have hie:i=l.length:=by omega
  rw [hie,bQ]at hx0;have hx1:l=xs:=hx0.symm;subst hx1;clear hx0 hie;rcases l with _|⟨x,xs⟩<;>simp only [au,aj,qX,qH,fZ,bC,aek,aa8]at hc ⊢
  ·(refine qj @hc ?_;try with_reducible exact True.intro)
  (refine qj @hc ?_;try with_reducible exact True.intro)
 obtain⟨r,σ',h1,rfl,rfl⟩:=this;exact h1
theorem O1:lW (.nK [kY [],kN R0,.bool false]) (.nK [.jL,.agg [.bool false,.jL,.jL],.bool false]):=by
 simp only [lW,uG];exact⟨_,rfl,_,_,rfl,.inl ⟨rfl,.inl rfl⟩,_,_,rfl,qN,_,_,rfl,rfl,rfl⟩
theorem aqA{n m:Nat}{s:Store}{rows:List (List V)}(h:l7 rows)(hs:s.length=m):zo s [some ⟨n,rows⟩]=s++[some ⟨n,rows⟩]:=by
 unfold zo;simp only [bC,fZ,bY,qK]
 congr 4
 have:∀r∈rows,r.map (lD (mV s.length))=r:=fun r hr=>by
  conv=>rhs;rw [←List.map_id r]
  apply fE
  intro v hv;exact Zm (h r hr v hv)
 conv=>rhs;rw [←List.map_id rows]
 apply fE
 intro r hr;exact this r hr
theorem acK{σ:Store}{rows:List (List V)}{L:List Lk}{n:Nat}{r:R}{b:Bool}{t:V}(hrow:rows=L.map Lk.cells)(hn:n=L.length)(ht:t=.nK [kY L,kN r,.bool b]) :
  nY (Option.map V.nK (match Uf σ 0 n (some ⟨11,rows⟩)with
   |
    some d=>(match (match resolve σ 11 (.agg r.cells)with
    |some d=>some [d,V.bool b]
    |none=>none)with
    |some ds=>some (d::ds)
    |none=>none)
   |none=>none)) (lW t):=by
 subst hrow hn ht;have h1:Uf σ 0 L.length (some ⟨11,L.map Lk.cells⟩)=some (.sl 11 (L.map Lk.cells)):=by
  rw [Ug (DV L) (by simp),bZ,aY (by simp)]
 have h2:resolve σ 11 (.agg r.cells)=some (.agg r.cells):=by
  show resolve σ (10+1) (.agg r.cells)=_;rw [resolve,zy (n:=9) (fun v hv=>aei [r] _ (by simp) v hv)];rfl
 rw [h1,h2];exact kE _
theorem ahq{T:Tb}(h:Lr T){s:List Lk}{l:Lk}(hw:Bg Lk.wf s:=by exact lX)(hl:l.wf:=by exact wfA)(hz:Dy Lk.sz s≤1048576:=by exact lX)(hz2:l.sz≤1048576:=by exact lX):PF T 188 [kY s,QV l] (.nK [kY (adV s l),kN (adE s l),.bool (V6 s l)]):=by
 have hll:s.length≤1048576:=by have:=vY Lk.sz s;omega
 have ci:=vO h.lZ hw;have cl:=zJ h.qo hl
 cases h1:lH s
 ·rw [h1]at ci;obtain⟨e1,e2,e3⟩:=ahp (s:=s) (l:=l) (by rw [h1];simp);rw [e1,e2,e3];refine kH nR h.hT ?_;simp only [uT,Lz];refine ev ?_;refine jy ci ?_;refine ev ?_;exact O1
 rw [h1]at ci
 cases h2:qm l
 ·rw [h2]at cl;obtain⟨e1,e2,e3⟩:=ahp (s:=s) (l:=l) (by rw [h2];simp);rw [e1,e2,e3];refine kH nR h.hT ?_;simp only [uT,Lz];refine ev ?_;refine jy ci ?_;refine ev ?_;refine jy cl ?_;refine ev ?_;exact O1
 rw [h2]at cl;have ra:=anc h.aav hz;obtain⟨e1,e2,e3⟩:=XW h1 h2;rw [e1,e2,e3];clear e1 e2 e3;have hst:=DV s;rcases s with _|⟨s0,s⟩
 ·have ra:Run T (.fn 194 [kY []] []) (.fn .jL []):=ra;have c6:=Kw h.qJ hz2;have c0:=uw h.kZ (n:=0) (by omega);refine kH (fun x d=>x == 194) h.hT ?_;simp only [uT,Lz];refine ew ?_;refine jy ci ?_;refine ew ?_;refine jy cl ?_;refine ew ?_;refine Rj ra (by (refine ew ?_;try with_reducible exact True.intro)) (by (refine ew ?_;try with_reducible exact True.intro)) ?_;rw [show ∀s:Store,zo s []=s from fun s=>by simp [zo]];rw [show ∀g,lD g .jL=.jL from fun g=>rfl];refine ew ?_;refine vG (fun x d=>x == 194) rfl ?_;have h00:((0:Int)<((0:Nat):Int))=False:=by simp
  refine qj @h00 ?_;refine jy c6 ?_;refine ew ?_;refine⟨by omega,?_⟩;refine jy c0 ?_;refine ew ?_;have ae9:Tt [] l=some ([l],kR 0):=by
   unfold Tt JD;exact if_pos (.inl rfl)
  rw [ae9];exact kE _
 simp only [aj,qH,bC,aa8]at ra;generalize hS:s0::s=S at *;have hSl:S.length=s.length+1:=by rw [←hS];rfl
 have hSm:s0.cells::s.map Lk.cells=S.map Lk.cells:=by rw [←hS];rfl
 rw [hSm,←hSl]at ra;refine kH (fun x d=>x == 194) h.hT ?_;simp only [uT,Lz];refine ew ?_;refine jy ci ?_;refine ew ?_;refine jy cl ?_;refine ew ?_;refine Rj ra (by (refine ew ?_;try with_reducible exact True.intro)) (by (refine ew ?_;try with_reducible exact True.intro)) ?_;rw [aqA hst (m:=2) rfl];rw [show lD (mV ([some ⟨11,[l.cells]⟩,some ⟨3,[[.bool false,.jL,.jL]]⟩]:Store).length) (.kP 0 0 S.length)=.kP 2 0 S.length from rfl];refine ew ?_;have hpl:=UQ l S;refine kG (fun x d=>x == 194) (α:=Nat) (fun i=>⟨kX [.any,.any,.any,.ptr 0 0 0,.any,.ptr 1 0 0,.any,.kP 2 0 S.length,iv (i:Nat)],[some ⟨11,[l.cells]⟩,some ⟨3,[[.bool false,.jL,.jL]]⟩,some ⟨11,S.map Lk.cells⟩],0,0,[],[]⟩) (fun i=>i≤JD l S) (fun i=>JD l S-i) rfl 0 ?_ ?_ ?_
 ·omega
 ·(refine jW ?_;exact qw)
 intro i hi;have hT:∀k,List.take k (S.map Lk.cells)=(S.take k).map Lk.cells:=fun k=>List.map_take.symm;have hD:∀k,List.drop k (S.map Lk.cells)=(S.drop k).map Lk.cells:=fun k=>jr.symm;have hap:(∀A,A.map Lk.cells++[l.cells]=(A++[l]).map Lk.cells)∧∀A B:List Lk,A.map Lk.cells++B.map Lk.cells=(A++B).map Lk.cells:=⟨fun A=>by simp,fun A B=>by simp⟩;by_cases hc:(i:Int)<(S.length:Nat)
 ·have hil:i<S.length:=by omega
  have hpa:=acJ hi hil;have hrow:=mg? (f:=Lk.cells) hil;generalize hx:S.getD i default=x at hpa hrow;have cl1:=VN h.Eu (k:=x) (l:=l);rw [hpa]at cl1;refine uh @hc @hrow ?_;refine jy cl1 ?_;by_cases hip:i<JD l S
  ·rw [decide_eq_true hip];refine ew ?_;exact⟨i+1,by omega,by omega,by (refine jW ?_;exact qw)⟩
  rw [decide_eq_false hip];have hie:i=JD l S:=by omega
  have cl2:=VN h.Eu (k:=l) (l:=x);refine uh @hc @hrow ?_;refine jy cl2 ?_;have c6:=Kw h.qJ hz2;have c0:=uw h.kZ (n:=0) (by omega);have ae9:l9 l x=true→Tt S l=some (S.take i++l::S.drop i,kR 0):=fun h=>by
   unfold Tt;dsimp only;rw [←hie,hx];exact if_pos (.inr h)
  cases hlx:l9 l x
  ·refine uh @hc @hrow ?_;have hxo:qm x=true:=hx▸tK h1 hil;have hxw:x.wf:=by
    have:=hw.2 x (by rw [←hx,ak,aB hil];exact dP hil);exact this
   have hab:x.a=l.a∧x.b=l.b:=by
    rw [decide_eq_false hip]at hpa;unfold l9 at hpa hlx;simp at hpa hlx;omega
   have hP:mgP x l=true:=by unfold mgP;rw [hxo,h2,decide_eq_true hab.1,decide_eq_true hab.2];rfl
   have ane:Tt S l=if UL x l=true then some (S.take i++mgL x l::S.drop (i+1),UK x l)else none:=by
    unfold Tt;dsimp only;rw [←hie,hx,if_neg (by rw [hlx];simp;omega)]
   have cm:=aau h.UO hxw hl;have e1:Zj x l=UL x l:=by unfold Zj;rw [hP,bU]
   have e2:ahj x l=if UL x l=true then mgL x l else Lk0:=by unfold ahj;rw [e1]
   have e3:ahk x l=if UL x l=true then UK x l else R0:=by unfold ahk;rw [e1]
   rw [e1,e2,e3]at cm;rw [ane]
   cases hg:UL x l
   ·rw [hg,if_neg (by simp),if_neg (by simp)]at cm;refine jy cm ?_;refine ew ?_;refine⟨by unfold pz;decide +kernel,?_⟩;exact O1
   rw [hg,if_pos rfl,if_pos rfl]at cm;generalize mgL x l=mm at cm ⊢;generalize UK x l=me at cm ⊢;refine jy cm ?_;refine ew ?_;have hset:(List.map Lk.cells S).set i mm.cells=List.map Lk.cells (S.take i++mm::S.drop (i+1)):=by
    rw [iI,if_pos (by simpa using hil),bK,bC,List.map_take,jr]
   refine⟨by unfold pz;decide +kernel,?_⟩;have hLl:(S.take i++mm::S.drop (i+1)).length=S.length:=by simp;omega
   generalize S.take i++mm::S.drop (i+1)=L' at hset hLl ⊢;have htk:List.take S.length L'=L':=aY (by omega);refine vW @hrow @hset @htk ?_;refine⟨by unfold pz;decide +kernel,?_⟩;refine qj @htk ?_;exact acK rfl hLl.symm rfl
  rw [ae9 hlx];have hd:(List.map Lk.cells (List.drop i S)=[])=False:=eq_false (by intro e;have:=congrArg List.length e;rw [aV,iL]at this;have h9:([]:List (List V)).length=0:=rfl;omega);have hl1:(List.drop i S).length≤1048576:=by rw [iL];omega
  have hl2:(List.take i S).length≤1048576:=by rw [dS];omega
  rcases iH i with h0|h0
  ·have hn:(List.map Lk.cells (List.take i S)=[])=True:=eq_true (by rw [h0];rfl);refine zK @hc @hrow @hT @hD @hn @hd ?_;refine jy c6 ?_;refine DF @hT @hD @hn @hd ?_;refine⟨by omega,?_⟩;refine⟨by omega,?_⟩;refine jy c0 ?_;refine DF @hT @hD @hn @hd ?_;exact acK (L:=S.take i++l::S.drop i) (by rw [h0];simp) (by rw [h0];simp;omega) rfl
  have hn:(List.map Lk.cells (List.take i S)=[])=False:=eq_false (by intro e;have:=congrArg List.length e;rw [aV,dS]at this;have h9:([]:List (List V)).length=0:=rfl;omega);refine zK @hc @hrow @hT @hD @hn @hd ?_;refine⟨by omega,?_⟩;refine jy c6 ?_;refine Df @hT @hD @hn @hd @hap ?_;refine⟨by omega,?_⟩;refine⟨by simp only [aJ,aj,au];omega,?_⟩;refine jy c0 ?_;refine Df @hT @hD @hn @hd @hap ?_;exact acK (L:=S.take i++l::S.drop i) (by simp) (by simp;omega) rfl
 have hie:i=S.length:=by omega
 have c6:=Kw h.qJ hz2;have c0:=uw h.kZ (n:=0) (by omega);have ae9:Tt S l=some (S++[l],kR 0):=by
  unfold Tt;dsimp only;have hpe:JD l S=S.length:=by omega
  rw [hpe,if_pos (.inl rfl),bQ,fO]
 rw [ae9];have hS1:(List.map Lk.cells S=[])=False:=eq_false (by intro e;have:=congrArg List.length e;rw [aV]at this;have h9:([]:List (List V)).length=0:=rfl;omega);refine DF @hc @hT @hD @hS1 ?_;refine⟨by omega,?_⟩;refine jy c6 ?_;have hd:(List.map Lk.cells (List.drop i S)=[])=True:=eq_true (by rw [dB (by omega)];rfl);refine Df @hT @hD @hS1 @hap @hd ?_;refine⟨by omega,?_⟩;refine jy c0 ?_;refine Df @hT @hD @hS1 @hap @hd ?_;exact acK (L:=S++[l]) (by simp) (by simp) rfl
theorem XY{σ:Store}{p n:Nat}{L:List Lk}(h:jH σ p=some ⟨11,L.map Lk.cells⟩)(hn:n=L.length):resolve σ FD (.kP p 0 n)=some (kY L):=by
 have:=Jh (n:=10) h (DV L);rw [aV]at this;rw [hn];exact this
theorem abt(env:Nat→V)(n:Nat)(x:Src)(lo hi:Option Src):I.reads env (.slice n x lo hi)=qV (x.ev env):=by simp [I.reads,I.xB]
theorem abu{σ:Store}{v u e t:V}{b:Bool}{os:List Nat}(hr:resolve σ FD v=some u)(h:lM σ e t os)(hn:os.Nodup):agR σ (.nK [v,e,.bool b]) [(false,u),(true,t),(false,.bool b)]:=by
 refine⟨[v,e,.bool b],os,kE _,?_,hn⟩;simp only [XL,if_true,aX,if_false];exact⟨v,[e,.bool b],[],os,rfl,rfl,⟨hr,rfl⟩,e,[.bool b],os,[],rfl,by simp,h,.bool b,[],[],[],rfl,rfl,⟨rfl,rfl⟩,rfl,rfl⟩
theorem acL{σ:Store}:agR σ (.nK [.jL,.agg [.bool false,.jL,.jL],.bool false]) [(false,kY []),(true,kN R0),(false,.bool false)]:=by
 refine⟨[.sl 11 [],kN R0,.bool false],[],?_,?_,.nil⟩
 ·exact O1
 simp only [XL,if_true,aX,if_false];refine⟨_,_,[],[],rfl,rfl,⟨rfl,rfl⟩,_,_,[],[],rfl,rfl,?_,_,[],[],[],rfl,rfl,⟨rfl,rfl⟩,rfl,rfl⟩;exact nN (nS (oC (o1:=[]) mQ (oC (o1:=[]) mQ nM)))
theorem acM{σ:Store}{p n:Nat}{A B:List Lk}{m:Lk}{y:R}{c3 c4 c6 c7 c9 c10 e1 e2:V}{os:List Nat}(C:Cs σ [iv m.a,iv m.b,.bool m.w.neg,c3,c4,.bool m.dx.neg,c6,c7,.bool m.dy.neg,c9,c10,.bool y.neg,e1,e2] (m.cells++y.cells) os)
  (h:jH σ p=some ⟨11,A.map Lk.cells++([iv m.a,iv m.b,.bool m.w.neg,c3,c4,.bool m.dx.neg,c6,c7,.bool m.dy.neg,c9,c10]::B.map Lk.cells)⟩) (hn:n=A.length+(B.length+1)) :
  agR σ (.nK [.kP p 0 n,.agg [.bool y.neg,e1,e2],.bool true]) [(false,kY (A++m::B)),(true,kN y),(false,.bool true)]:=by
 obtain⟨a1,a2,o1,o2,e,rfl,k1,k2⟩:=pq C.ow;obtain⟨rfl,rfl⟩:=dZ (show [iv m.a,iv m.b,.bool m.w.neg,c3,c4,.bool m.dx.neg,c6,c7,.bool m.dy.neg,c9,c10]++[.bool y.neg,e1,e2]=a1++a2 from e) k1.len.symm;have nd:=(bg.1 C.nd);refine abu ?_ (nN k2) nd.2.1;have hm:resolve σ 12 (.agg [iv m.a,iv m.b,.bool m.w.neg,c3,c4,.bool m.dx.neg,c6,c7,.bool m.dy.neg,c9,c10])=some (.agg m.cells):=OL 12 (nN k1) (aug 9 m);rw [resolve]at hm;have hr:[iv m.a,iv m.b,.bool m.w.neg,c3,c4,.bool m.dx.neg,c6,c7,.bool m.dy.neg,c9,c10].mapM (resolve σ 11)=some m.cells:=by
  obtain⟨w,hw,e⟩:=aI.1 hm;rw [hw];exact congrArg some (V.agg.inj e)
 show resolve σ (11+1) _=_;rw [resolve];have hl:(A.map Lk.cells++([iv m.a,iv m.b,.bool m.w.neg,c3,c4,.bool m.dx.neg,c6,c7,.bool m.dy.neg,c9,c10]::B.map Lk.cells)).length=n:=by simp;omega
 simp only [h,aN,hl,aP,if_true,bZ];rw [aY (by omega),List.mapM_append,bD,hr,zA (DV A),zA (DV B)];simp
def adT(s:List Lk)(l:Lk):List (Bool×V):=[(false,kY (((Tt s l).map (·.1)).getD [])),(true,kN (((Tt s l).map (·.2)).getD R0)),(false,.bool (Tt s l).isSome)]
theorem ahr{T:Tb}(h:Ls T){S:List Lk}{l:Lk}(hw:Bg Lk.wf S)(h1:lH S=true)(h2:qm l=true)(hz:S.length≤1048576):PX T 130 [kY S,QV l] (adT S l):=by
 unfold adT;have hpl:=UQ l S;refine Uz (fun x d=>(x == 39&&d == 52)||(x == 140&&d == 59)) h.hT ?_;simp only [Fv,Lz,St.enter,aj,au,aN];refine ew ?_;refine kG (fun x d=>(x == 39&&d == 52)||(x == 140&&d == 59)) (α:=Nat) (fun i=>⟨kX [kY S,.any,.any,.ptr 0 0 0,.any,.ptr 1 0 0,.any,iv (i:Nat)],[some ⟨11,[l.cells]⟩,some ⟨3,[[.bool false,.jL,.jL]]⟩],0,0,[],[]⟩) (fun i=>i≤JD l S) (fun i=>JD l S-i) rfl 0 ?_ ?_ ?_
 ·omega
 ·(refine jW ?_;exact qw)
 intro i hi;have hT:∀k,List.take k (S.map Lk.cells)=(S.take k).map Lk.cells:=fun k=>List.map_take.symm;have hD:∀k,List.drop k (S.map Lk.cells)=(S.drop k).map Lk.cells:=fun k=>jr.symm;have hap:(∀A,A.map Lk.cells++[l.cells]=(A++[l]).map Lk.cells)∧∀A B:List Lk,A.map Lk.cells++B.map Lk.cells=(A++B).map Lk.cells:=⟨fun A=>by simp,fun A B=>by simp⟩;have hl2:(List.take i S).length≤1048576:=by rw [dS];omega
 have hl1:(List.drop i S).length≤1048576:=by rw [iL];omega
 have hnT:i=0→(List.map Lk.cells (List.take i S)=[])=True:=fun h0=>eq_true (by rw [h0];rfl);have hnF:0<i→(List.map Lk.cells (List.take i S)=[])=False:=fun h0=>eq_false (by intro e;have:=congrArg List.length e;rw [aV,dS]at this;have h9:([]:List (List V)).length=0:=rfl;omega);by_cases hc:(i:Int)<(S.length:Nat)
 ·have hil:i<S.length:=by omega
  have hne:¬(i:Int)=(S.length:Nat):=by omega
  have hpa:=acJ hi hil;have hrow:=mg (f:=Lk.cells) hil;have hdF:(List.map Lk.cells (List.drop i S)=[])=False:=eq_false (by intro e;have:=congrArg List.length e;rw [aV,iL]at this;have h9:([]:List (List V)).length=0:=rfl;omega);generalize hx:S.getD i default=x at hpa hrow;have cl1:=Nl h.xQ (k:=x) (l:=l);rw [hpa]at cl1;refine uh @hc @hrow ?_;refine jy cl1 ?_;by_cases hip:i<JD l S
  ·rw [decide_eq_true hip];refine ew ?_;exact⟨i+1,by omega,by omega,by (refine jW ?_;exact qw)⟩
  rw [decide_eq_false hip];have hie:i=JD l S:=by omega
  have cl2:=Nl h.xQ (k:=l) (l:=x);have ae9:l9 l x=true→Tt S l=some (S.take i++l::S.drop i,kR 0):=fun h=>by
   unfold Tt;dsimp only;rw [←hie,hx];exact if_pos (.inr h)
  rcases iH i with h0|h0
  ·have hn:=hnT h0;refine Df @hc @hrow @hT @hn @hne ?_;refine jy cl2 ?_
   cases hlx:l9 l x
   ·refine Df @hc @hrow @hT @hn @hne ?_;have hxo:qm x=true:=hx▸tK h1 hil;have hab:x.a=l.a∧x.b=l.b:=by
     rw [decide_eq_false hip]at hpa;unfold l9 at hpa hlx;simp at hpa hlx;omega
    have ane:Tt S l=if UL x l=true then some (S.take i++mgL x l::S.drop (i+1),UK x l)else none:=by
     unfold Tt;dsimp only;rw [←hie,hx,if_neg (by rw [hlx];simp;omega)]
    rw [ane];have po:=RQ h.MN (OV hxo) (OV h2);refine qx po (by (refine ew ?_;try with_reducible exact True.intro)) (by (refine ew ?_;try with_reducible exact True.intro)) ?_
    cases hg:UL x l
    ·intro r q os G;obtain⟨c3,c4,c6,c7,c9,c10,e1,e2,rfl,hO⟩:=G.aiA;rw [if_neg (by decide),if_neg (by decide)]at hO ⊢;have L3:=hO.leaf (by rfl);simp only [dh,fB,dK,aG]at L3;have gl:6≤q.length:=by have:=G.len;simp at this;omega
     have O0:=(G.old 1 (by simp)).trans rfl;refine uh @L3 @O0 ?_;refine⟨by unfold pz;decide +kernel,?_⟩;exact .inl acL
    intro r q os G;obtain⟨c3,c4,c6,c7,c9,c10,e1,e2,rfl,hO⟩:=G.aiA;rw [if_pos rfl,if_pos rfl]at hO ⊢;have L3:=hO.leaf (by rfl);simp only [dh,fB,dK,aG]at L3;have gl:6≤q.length:=by have:=G.len;simp at this;omega
    have O0:=(G.old 1 (by simp)).trans rfl;refine uh @L3 @O0 ?_;refine⟨by unfold pz;decide +kernel,?_⟩;have hl3:(List.drop (i+1) S).length≤1048576:=by rw [iL];omega
    have hln:(List.drop (i+1) S).length=S.length-(i+1):=by rw [iL]
    have hb1:((i:Int)+1≤(S.length:Nat))=True:=eq_true (by omega);have hb0:(0≤(i:Int)+1)=True:=eq_true (by omega);have ht1:((i:Int)+1).toNat=i+1:=by omega
    have TD:=ah @abt (ah (ah hT hD) (ah hb1 (ah hb0 ht1)));have hti:(List.take i S).length=i:=by rw [dS];omega
    by_cases hde:List.map Lk.cells (List.drop (i+1) S)=[]
    ·have hdz:(List.drop (i+1) S).length=0:=by have:=congrArg List.length hde;rw [aV]at this;exact this
     refine vW @hde @O0 @TD ?_;refine⟨by (try simp only [aJ,aV,aj,au]);omega,?_⟩;refine vW @hde @O0 @TD ?_;rw [if_pos (by rw [L3.2.2.2.2.2.2.2.2.2.2.2.2.1,L3.2.2.2.2.2.2.2.2.2.2.2.2.2];rfl)];refine⟨?_,?_⟩
     ·have hn0:6≤List.length q:=gl;generalize List.length q=m at hn0 ⊢
      revert m
      refine zM _ _ 6 (fun n hn=>?_) (fun n hn=>?_) ?_
      ·simp only [sh];split<;>omega
      ·simp [Z5,sh];try omega
      unfold pz;decide +kernel
     have hlt:=hO.lt;have hfr:=G.fresh;refine .inl (acM (A:=S.take i) (B:=S.drop (i+1)) (Cs.frame (⟨hO,G.nd⟩:Cs q _ _ os) fun o ho=>?_) ?_ ?_)
     ·have k1:=hlt o ho;have k2:=hfr o ho;simp only [aj,au]at k2;simp (disch:=first|omega|(simp;done)|(simp;omega)) only [jV,kJ]
     ·simp (disch:=first|omega|(simp;done)|(simp;omega)) only [jV,kT,kJ];rw [show List.map Lk.cells (List.take i S)=[]from of_eq_true hn];first|rfl|(rw [hde];rfl)|simp
     (try simp only [aJ,aV,aj,au]);omega
    refine vW @hde @O0 @TD ?_;refine⟨by (try simp only [aJ,aV,aj,au]);omega,?_⟩;refine vW @hde @O0 @TD ?_;refine⟨by (try simp only [aJ,aV,aj,au]);omega,?_⟩;rw [if_pos (by rw [L3.2.2.2.2.2.2.2.2.2.2.2.2.1,L3.2.2.2.2.2.2.2.2.2.2.2.2.2];rfl)];refine⟨?_,?_⟩
    ·have hn0:6≤List.length q:=gl;generalize List.length q=m at hn0 ⊢
     revert m
     refine zM _ _ 6 (fun n hn=>?_) (fun n hn=>?_) ?_
     ·simp only [sh];split<;>omega
     ·simp [Z5,sh];try omega
     unfold pz;decide +kernel
    have hlt:=hO.lt;have hfr:=G.fresh;refine .inl (acM (A:=S.take i) (B:=S.drop (i+1)) (Cs.frame (⟨hO,G.nd⟩:Cs q _ _ os) fun o ho=>?_) ?_ ?_)
    ·have k1:=hlt o ho;have k2:=hfr o ho;simp only [aj,au]at k2;simp (disch:=first|omega|(simp;done)|(simp;omega)) only [jV,kJ]
    ·simp (disch:=first|omega|(simp;done)|(simp;omega)) only [jV,kT,kJ];rw [show List.map Lk.cells (List.take i S)=[]from of_eq_true hn];first|rfl|(rw [hde];rfl)|simp
    (try simp only [aJ,aV,aj,au]);omega
   rw [ae9 hlx];refine zK @hrow @hT @hD @hn @hdF @hap ?_;refine⟨by omega,by omega,?_⟩;refine kU (uy h.lG (n:=0)) (by (refine ew ?_;try with_reducible exact True.intro)) ?_;intro r q os G;have gl:7≤q.length:=by have:=G.len;simp at this;omega
   have hop:jH q 6=some ⟨11,l.cells::List.map Lk.cells (List.drop i S)⟩:=(G.old 6 (by simp)).trans rfl;have ho1:=(G.old 1 (by simp)).trans rfl;have n1:1∉os:=fun hm=>by have:=G.fresh 1 hm;simp at this
   obtain⟨_,rfl,hQ⟩:=G.ow.kV;obtain⟨y1,y2,rfl⟩:=hQ.rat
   have E:Ep q [.bool (kR 0).neg,y1,y2] [.bool (kR 0).neg,ints (kR 0).mag,ints (kR 0).den] os []:=⟨⟨hQ,G.nd⟩,by simp⟩;have LF:=ah (E.leaf 1 rfl rfl) (E.leaf 2 rfl rfl);have C:=E.c.set (o:=1) (x:=some ⟨3,[[.bool (kR 0).neg,y1,y2]]⟩) n1;refine uh @LF @ho1 ?_;refine .inl (abu (XY (L:=S.take i++l::S.drop i) ?_ ?_) (nN C.ow) C.nd)
   ·rw [jV (by decide)];refine hop.trans ?_;rw [h0];simp
   rw [h0];simp;omega
  have hn:=hnF h0;refine Df @hc @hrow @hT @hn @hne ?_;refine zK @hrow @hT @hD @hn @hdF @hap ?_;refine⟨by omega,?_⟩;refine jy cl2 ?_
  cases hlx:l9 l x
  ·refine qj @hrow ?_;have hxo:qm x=true:=hx▸tK h1 hil;have hab:x.a=l.a∧x.b=l.b:=by
    rw [decide_eq_false hip]at hpa;unfold l9 at hpa hlx;simp at hpa hlx;omega
   have ane:Tt S l=if UL x l=true then some (S.take i++mgL x l::S.drop (i+1),UK x l)else none:=by
    unfold Tt;dsimp only;rw [←hie,hx,if_neg (by rw [hlx];simp;omega)]
   rw [ane];have po:=RQ h.MN (OV hxo) (OV h2);refine qx po (by (refine ew ?_;try with_reducible exact True.intro)) (by (refine ew ?_;try with_reducible exact True.intro)) ?_
   cases hg:UL x l
   ·intro r q os G;obtain⟨c3,c4,c6,c7,c9,c10,e1,e2,rfl,hO⟩:=G.aiA;rw [if_neg (by decide),if_neg (by decide)]at hO ⊢;have L3:=hO.leaf (by rfl);simp only [dh,fB,dK,aG]at L3;have gl:6≤q.length:=by have:=G.len;simp at this;omega
    have O0:=(G.old 1 (by simp)).trans rfl;have O3:jH q 3=some ⟨11,List.map Lk.cells (List.take i S)⟩:=(G.old 3 (by simp)).trans rfl;refine uh @L3 @O0 ?_;refine⟨by unfold pz;decide +kernel,?_⟩;exact .inl acL
   intro r q os G;obtain⟨c3,c4,c6,c7,c9,c10,e1,e2,rfl,hO⟩:=G.aiA;rw [if_pos rfl,if_pos rfl]at hO ⊢;have L3:=hO.leaf (by rfl);simp only [dh,fB,dK,aG]at L3;have gl:6≤q.length:=by have:=G.len;simp at this;omega
   have O0:=(G.old 1 (by simp)).trans rfl;have O3:jH q 3=some ⟨11,List.map Lk.cells (List.take i S)⟩:=(G.old 3 (by simp)).trans rfl;refine uh @L3 @O0 ?_;refine⟨by unfold pz;decide +kernel,?_⟩;have hl3:(List.drop (i+1) S).length≤1048576:=by rw [iL];omega
   have hln:(List.drop (i+1) S).length=S.length-(i+1):=by rw [iL]
   have hb1:((i:Int)+1≤(S.length:Nat))=True:=eq_true (by omega);have hb0:(0≤(i:Int)+1)=True:=eq_true (by omega);have ht1:((i:Int)+1).toNat=i+1:=by omega
   have TD:=ah @abt (ah (ah hT hD) (ah hb1 (ah hb0 ht1)));have hti:(List.take i S).length=i:=by rw [dS];omega
   by_cases hde:List.map Lk.cells (List.drop (i+1) S)=[]
   ·have hdz:(List.drop (i+1) S).length=0:=by have:=congrArg List.length hde;rw [aV]at this;exact this
    refine vW @hde ((ah O0 O3)) @TD ?_;refine⟨by (try simp only [aJ,aV,aj,au]);omega,?_⟩;refine vW @hde ((ah O0 O3)) @TD ?_;rw [if_pos (by rw [L3.2.2.2.2.2.2.2.2.2.2.2.2.1,L3.2.2.2.2.2.2.2.2.2.2.2.2.2];rfl)];refine⟨?_,?_⟩
    ·have hn0:6≤List.length q:=gl;generalize List.length q=m at hn0 ⊢
     revert m
     refine zM _ _ 6 (fun n hn=>?_) (fun n hn=>?_) ?_
     ·simp only [sh];split<;>omega
     ·simp [Z5,sh];try omega
     unfold pz;decide +kernel
    have hlt:=hO.lt;have hfr:=G.fresh;refine .inl (acM (A:=S.take i) (B:=S.drop (i+1)) (Cs.frame (⟨hO,G.nd⟩:Cs q _ _ os) fun o ho=>?_) ?_ ?_)
    ·have k1:=hlt o ho;have k2:=hfr o ho;simp only [aj,au]at k2;simp (disch:=first|omega|(simp;done)|(simp;omega)) only [jV,kJ]
    ·simp (disch:=first|omega|(simp;done)|(simp;omega)) only [jV,kT,kJ]
     first|rfl|(rw [hde];rfl)|(simp;done)|(simp;omega)
    (try simp only [aJ,aV,aj,au]);omega
   refine vW @hde ((ah O0 O3)) @TD ?_;refine⟨by (try simp only [aJ,aV,aj,au]);omega,?_⟩;refine vW @hde ((ah O0 O3)) @TD ?_;refine⟨by (try simp only [aJ,aV,aj,au]);omega,?_⟩;rw [if_pos (by rw [L3.2.2.2.2.2.2.2.2.2.2.2.2.1,L3.2.2.2.2.2.2.2.2.2.2.2.2.2];rfl)];refine⟨?_,?_⟩
   ·have hn0:6≤List.length q:=gl;generalize List.length q=m at hn0 ⊢
    revert m
    refine zM _ _ 6 (fun n hn=>?_) (fun n hn=>?_) ?_
    ·simp only [sh];split<;>omega
    ·simp [Z5,sh];try omega
    unfold pz;decide +kernel
   have hlt:=hO.lt;have hfr:=G.fresh;refine .inl (acM (A:=S.take i) (B:=S.drop (i+1)) (Cs.frame (⟨hO,G.nd⟩:Cs q _ _ os) fun o ho=>?_) ?_ ?_)
   ·have k1:=hlt o ho;have k2:=hfr o ho;simp only [aj,au]at k2;simp (disch:=first|omega|(simp;done)|(simp;omega)) only [jV,kJ]
   ·simp (disch:=first|omega|(simp;done)|(simp;omega)) only [jV,kT,kJ]
    first|rfl|(rw [hde];rfl)|(simp;done)|(simp;omega)
   (try simp only [aJ,aV,aj,au]);omega
  rw [ae9 hlx];refine zK @hrow @hT @hD @hn @hdF @hap ?_;refine⟨by omega,by simp only [aJ,aj,au];omega,?_⟩;refine kU (uy h.lG (n:=0)) (by (refine ew ?_;try with_reducible exact True.intro)) ?_;intro r q os G;have gl:7≤q.length:=by have:=G.len;simp at this;omega
  have hop:jH q 6=some ⟨11,List.map Lk.cells (List.take i S++[l]++List.drop i S)⟩:=(G.old 6 (by simp)).trans rfl;have ho1:=(G.old 1 (by simp)).trans rfl;have n1:1∉os:=fun hm=>by have:=G.fresh 1 hm;simp at this
  obtain⟨_,rfl,hQ⟩:=G.ow.kV;obtain⟨y1,y2,rfl⟩:=hQ.rat
  have E:Ep q [.bool (kR 0).neg,y1,y2] [.bool (kR 0).neg,ints (kR 0).mag,ints (kR 0).den] os []:=⟨⟨hQ,G.nd⟩,by simp⟩;have LF:=ah (E.leaf 1 rfl rfl) (E.leaf 2 rfl rfl);have C:=E.c.set (o:=1) (x:=some ⟨3,[[.bool (kR 0).neg,y1,y2]]⟩) n1;refine uh @LF @ho1 ?_;refine .inl (abu (XY (L:=S.take i++l::S.drop i) ?_ ?_) (nN C.ow) C.nd)
  ·rw [jV (by decide)];refine hop.trans ?_;simp
  simp;omega
 have hie:i=S.length:=by omega
 have hpe:JD l S=S.length:=by omega
 have aDr:Tt S l=some (S++[l],kR 0):=by
  unfold Tt;dsimp only;rw [hpe,if_pos (.inl rfl),bQ,fO]
 have hde:List.map Lk.cells (List.drop i S)=[]:=by rw [dB (by omega)];rfl
 have htk:List.take i S=S:=aY (by omega);have hci:((i:Int)=(S.length:Nat))=True:=eq_true (by omega);rw [aDr];have hd0:(List.drop i (List.map Lk.cells S)=[])=True:=eq_true (by rw [dB (by simp;omega)]);rcases iH i with h0|h0
 ·have hn:(List.map Lk.cells S=[])=True:=eq_true (by have:=of_eq_true (hnT h0);rw [htk]at this;exact this);refine DF @hc @hci @hn @hd0 ?_;refine⟨by omega,?_⟩;refine DF @hc @hci @hn @hd0 ?_;refine kU (uy h.lG (n:=0)) (by (refine ew ?_;try with_reducible exact True.intro)) ?_;intro r q os G;have gl:6≤q.length:=by have:=G.len;simp at this;omega
  have hop:jH q 5=some ⟨11,[l.cells]⟩:=(G.old 5 (by simp)).trans rfl;have ho1:=(G.old 1 (by simp)).trans rfl;have n1:1∉os:=fun hm=>by have:=G.fresh 1 hm;simp at this
  obtain⟨_,rfl,hQ⟩:=G.ow.kV;obtain⟨y1,y2,rfl⟩:=hQ.rat
  have E:Ep q [.bool (kR 0).neg,y1,y2] [.bool (kR 0).neg,ints (kR 0).mag,ints (kR 0).den] os []:=⟨⟨hQ,G.nd⟩,by simp⟩;have LF:=ah (E.leaf 1 rfl rfl) (E.leaf 2 rfl rfl);have C:=E.c.set (o:=1) (x:=some ⟨3,[[.bool (kR 0).neg,y1,y2]]⟩) n1;refine uh @LF @ho1 ?_;refine .inl (abu (XY (L:=S++[l]) ?_ ?_) (nN C.ow) C.nd)
  ·rw [jV (by decide)];refine hop.trans ?_;rw [bK,of_eq_true hn];rfl
  have:=congrArg List.length (of_eq_true hn);simp at this ⊢;simp [this]
 have hn:(List.map Lk.cells S=[])=False:=eq_false (by have:=of_eq_false (hnF h0);rw [htk]at this;exact this);refine DF @hc @hci @hn @hd0 ?_;refine⟨by omega,?_⟩;refine DF @hc @hci @hn @hd0 ?_;refine⟨by (try simp only [aJ,aV,aj,au]);omega,?_⟩;refine kU (uy h.lG (n:=0)) (by (refine ew ?_;try with_reducible exact True.intro)) ?_;intro r q os G;have gl:6≤q.length:=by have:=G.len;simp at this;omega
 have hop:jH q 5=some ⟨11,List.map Lk.cells S++[l.cells]⟩:=(G.old 5 (by simp)).trans rfl;have ho1:=(G.old 1 (by simp)).trans rfl;have n1:1∉os:=fun hm=>by have:=G.fresh 1 hm;simp at this
 obtain⟨_,rfl,hQ⟩:=G.ow.kV;obtain⟨y1,y2,rfl⟩:=hQ.rat
 have E:Ep q [.bool (kR 0).neg,y1,y2] [.bool (kR 0).neg,ints (kR 0).mag,ints (kR 0).den] os []:=⟨⟨hQ,G.nd⟩,by simp⟩;have LF:=ah (E.leaf 1 rfl rfl) (E.leaf 2 rfl rfl);have C:=E.c.set (o:=1) (x:=some ⟨3,[[.bool (kR 0).neg,y1,y2]]⟩) n1;refine uh @LF @ho1 ?_;refine .inl (abu (XY (L:=S++[l]) ?_ ?_) (nN C.ow) C.nd)
 ·rw [jV (by decide)];refine hop.trans ?_;rw [bK];rfl
 simp
theorem Zn{α:Type}{f:α→Nat}{k:Nat}:∀{l:List α},(∀x∈l,f x≤k)→Dy f l≤l.length*(k+1)
 | [],_=>by simp [Dy]
 |
  x::l,h=>by
  have h1:=h x (by simp);have h2:=Zn (f:=f) (k:=k) (l:=l) fun y hy=>h y (by simp [hy]);unfold Dy at h2 ⊢;simp only [aj,bC,jU];rw [gQ];omega
theorem abv{l:List Lk}(h:lH l=true):∀i,i<l.length→(i:Int)≤10*(l.getD i default).a+(l.getD i default).b
 |
  0,hi=>by
  have:=uY (tK h hi);omega
 |
  i+1,hi=>by
  have k1:=abv h i (by omega);have k2:=abq h hi;have k3:=uY (tK h hi);have k4:=uY (tK h (show i<l.length by omega));unfold l9 at k2;simp only [fA,aG,decide_eq_true_eq]at k2;omega
theorem Og{l:List Lk}(h:lH l=true):l.length≤100:=by
 rcases fG 100 l.length with hl|hl
 ·have k1:=abv h (l.length-1) (by omega);have k3:=uY (tK h (show l.length-1<l.length by omega));omega
 exact hl
theorem aqB{s:List Lk}{l:Lk}{t:List Lk}{e:R}(h:Tt s l=some (t,e))(h1:lH s=true)(h2:qm l=true):(∀x∈t,x.w.cn∧x.dx.cn∧x.dy.cn)∧e.cn∧t.length≤s.length+1:=by
 unfold Tt at h;dsimp only at h;have hp:=UQ l s;have hs:∀x∈s,x.w.cn∧x.dx.cn∧x.dy.cn:=fun x hx=>OV (Ar h1 hx);split at h
 ·cases h
  refine⟨fun x hx=>?_,Ef (by decide),by simp;omega⟩;simp only [aO,aH]at hx;rcases hx with hx|rfl|hx
  ·exact hs x (cO hx)
  ·exact OV h2
  exact hs x (fV hx)
 rename_i hc;split at h
 ·cases h
  refine⟨fun x hx=>?_,ahi _ _,by simp;omega⟩;simp only [aO,aH]at hx;rcases hx with hx|rfl|hx
  ·exact hs x (cO hx)
  ·exact⟨VZ _ _,ahg _ _,ahh _ _⟩
  exact hs x (fV hx)
 cases h
theorem anf{x:Lk}(h:x.w.cn∧x.dx.cn∧x.dy.cn):x.sz≤144:=by
 have a:=Qr h.1;have b:=Qr h.2.1;have c:=Qr h.2.2;unfold Lk.sz R.sz;omega
theorem ahs(s:List Lk)(l:Lk):(∀x∈adV s l,x.w.cn∧x.dx.cn∧x.dy.cn)∧(adE s l).cn∧(adV s l).length≤101:=by
 by_cases h:lH s=true∧qm l=true
 ·obtain⟨e1,e2,_⟩:=XW h.1 h.2;have hl:=Og h.1;rw [e1,e2]
  cases hr:Tt s l with
  |none=>exact⟨by simp,YT,by simp⟩
  |
   some p =>
   obtain⟨k1,k2,k3⟩:=aqB (t:=p.1) (e:=p.2) hr h.1 h.2;exact⟨k1,k2,by simp only [bY,gZ];omega⟩
 obtain⟨e1,e2,_⟩:=ahp h;rw [e1,e2];exact⟨by simp,YT,by simp⟩
theorem mapM_mono{σ σ2:Store}{n:Nat}(ih:∀v t:V,resolve σ n v=some t→resolve σ2 n v=some t):∀(l l':List V),l.mapM (resolve σ n)=some l'→l.mapM (resolve σ2 n)=some l'
 | [],l',h=>h
 |
  x::l,l',h=>by
  rw [bD]at h ⊢
  cases hx:resolve σ n x with
  |none=>rw [hx]at h;cases h
  |
   some y =>
   rw [hx]at h;rw [ih _ _ hx]
   cases hl:l.mapM (resolve σ n)with
   |none=>rw [hl]at h;cases h
   |some ys=>rw [hl]at h;rw [mapM_mono ih _ _ hl];exact h
theorem Zo{σ σ2:Store}{n:Nat}(ih:∀v t:V,resolve σ n v=some t→resolve σ2 n v=some t):∀(l:List (List V)) (l':List (List V)),(l.mapM fun (r:List V)=>r.mapM (resolve σ n))=some l'→(l.mapM fun (r:List V)=>r.mapM (resolve σ2 n))=some l'
 | [],l',h=>h
 |
  x::l,l',h=>by
  rw [bD]at h ⊢
  cases hx:x.mapM (resolve σ n)with
  |none=>rw [hx]at h;cases h
  |
   some y =>
   rw [hx]at h;rw [mapM_mono ih _ _ hx]
   cases hl:l.mapM fun (r:List V)=>r.mapM (resolve σ n)with
   |none=>rw [hl]at h;cases h
   |some ys=>rw [hl]at h;rw [Zo ih _ _ hl];exact h
theorem afa{σ σ2:Store}(hs:∀o ob,jH σ o=some ob→jH σ2 o=some ob):∀(n:Nat) (v t:V),resolve σ n v=some t→resolve σ2 n v=some t
 |0,_,_,h=>by simp [resolve]at h
 |
  n+1,v,t,h=>by
  have ih:=afa hs n
  cases v with
  |
   kP o s l =>
   simp only [resolve]at h ⊢
   cases ho:jH σ o with
   |none=>rw [ho]at h;cases h
   |
    some ob =>
    rw [ho]at h;rw [hs _ _ ho];dsimp only at h ⊢;split at h
    ·rename_i hl;rw [if_pos hl];obtain⟨rows,h1,rfl⟩:=aI.1 h;rw [Zo ih _ _ h1];rfl
    cases h
  |
   ptr o r off =>
   simp only [resolve]at h ⊢
   cases ho:jH σ o with
   |none=>rw [ho]at h;cases h
   |
    some ob =>
    rw [ho]at h;rw [hs _ _ ho];dsimp only at h ⊢
    cases hr:ob.rows[r]? with
    |none=>rw [hr]at h;cases h
    |
     some row =>
     rw [hr]at h;dsimp only at h ⊢;obtain⟨rows,h1,rfl⟩:=aI.1 h;rw [mapM_mono ih _ _ h1];rfl
  |
   agg cs =>
   simp only [resolve]at h ⊢;obtain⟨rows,h1,rfl⟩:=aI.1 h;rw [mapM_mono ih _ _ h1];rfl
  |
   nK cs =>
   simp only [resolve]at h ⊢;obtain⟨rows,h1,rfl⟩:=aI.1 h;rw [mapM_mono ih _ _ h1];rfl
  |_=>simpa only [resolve]using h
theorem Ji{σ:Store}{n k:Nat}{w:V}{rows:List (List V)}(h:resolve σ (n+1) w=some (.sl k rows)):w.leaf=true:=by
 cases w with
 |kP=>rfl
 |sl=>rfl
 |ptr o r off=>obtain⟨_,_,e⟩:=ah6 h;cases e
 |agg cs=>simp only [resolve]at h;obtain⟨_,_,e⟩:=aI.1 h;cases e
 |nK cs=>simp only [resolve]at h;obtain⟨_,_,e⟩:=aI.1 h;cases e
 |_=>simp only [resolve]at h;cases h
theorem aiC{σ:Store}:Fin σ (.nK [.jL,.agg [.bool false,.jL,.jL],.bool false]) (.nK [kY [],kN R0,.bool false]) :=
 ⟨.nK [.sl 11 [],kN R0,.bool false],[],O1,IE (oC (o1:=[]) (by simp [lM]) (oC (o1:=[]) (nN (nS (oC (o1:=[]) mQ (oC (o1:=[]) mQ nM)))) (nS nM))),.nil⟩
theorem Tv{α:Type} [Inhabited α] {f:α→Prop} {l:List α} (h:Bg f l) {k:Nat} (hk:k<l.length):f (l.getD k default):=by
 refine h.2 _ ?_;rw [ak,aB hk];exact dP hk
theorem Ep.renew{s s1 σ2:Store}{cs ts rs trs:List V}{os os2:List Nat}{L:List (Nat×Obj)}(E:Ep s cs ts os L)(h1:∀o,o<s.length→jH s1 o=jH s o)(hl:s.length≤s1.length)(ho:nI σ2 rs trs os2)(hn:os2.Nodup)(hf:∀o∈os2,s1.length≤o)
  (old:∀o,o<s1.length→jH σ2 o=jH s1 o):Ep σ2 rs trs os2 L :=
 ⟨⟨ho,hn⟩,fun q hq=>⟨(old _ (aU (E.lt q hq) hl)).trans ((h1 _ (E.lt q hq)).trans (E.l q hq).1),fun hm=>by have:=hf _ hm;have:=E.lt q hq;omega⟩⟩
def Au:Fn:=⟨1,41,[.tmp 2,.cell 3 3 true,.tmp 4],(.seq (rf 1 [oK 2 1 mN,oN 3 (.alloc qL),oK 4 1 mF]) (.seq (rf 1 [oN 12 (.ny 11 D6 0 []),oK 5 1 (oV 12)]) (.seq (rf 1 [oK 13 1 (.call 36 [(cI 0)]),oN 6 (.alloc qL),⟨none,none,1,.store 3 (.t 6) (.t 13),[]⟩]) (.seq (sr [oW 14 0,oN 15 (ln 14),oN 16 (.mM (cI 0))] (.block 0 (.loop (sr [oN 17 (bt .lss 16 15)] (.seq (cd 17 .skip (.exit 0)) (.seq (.block 1 (.seq (rf 1 [oK 18 1 (ix 11 14 16),oK 19 1 (lT 11 18),oN 8 (.alloc D6),⟨none,none,1,.store 11 (.t 8) (.t 19),[]⟩]) (.seq (rf 1 [oK 21 1 (oV 5),oK 22 1 (lT 11 8),oK 23 1 (cl 188 [21,22]),oK 20 1 (oV 23),oK 24 1 (ex 0 20),oK 25 1 (ex 1 20),oK 26 1 (ex 2 20),oN 10 (.alloc qL),oK 9 1 (oV 24),⟨none,none,1,.store 3 (.t 10) (.t 25),[]⟩,oK 11 1 (oV 26)]) (.seq (sr [oW 27 11,oN 28 (nt 27)] (cd 28 (sr [oN 29 (.build qL []),oN 2 mN,oS (.store 3 (.t 3) (.t 29)),oN 4 mF] .ret) .skip)) (sr [oW 30 9,oW 5 30] (rg [oN 31 (lT 3 6),oN 32 (lT 3 10),oN 33 (cl 189 [31,32]),oS (.store 3 (.t 6) (.t 33))])))))) (rg [oN 34 (bc .add 16 1),oW 16 34]))))))) (.seq (sr [oN 35 (lT 3 6),oN 36 (cl 100 [35]),oN 37 (nt 36)] (cd 37 (sr [oN 38 (.build qL []),oN 2 mN,oS (.store 3 (.t 3) (.t 38)),oN 4 mF] .ret) .skip)) (.seq (rt 0 [oW 39 5,oN 40 (lT 3 6),oA 2 0 (oV 39) [0,0],⟨none,none,0,.store 3 (.t 3) (.t 40),[1,2,0,1,2]⟩,oA 4 0 mT [3,0,1,2,3]]) .ret))))))⟩
structure Aw (T:Tb):Prop where
 hT:T 179=some Au
 kZ:nU T
 kS:oz T
 Zp:Lr T
 lJ:pY T
def y9:Fn:=⟨1,15,[.tmp 2],(sr [oN 2 mF] (.seq (sr [oW 5 0,oN 6 (ln 5),oN 7 (.mM (cI 0))] (.block 0 (.loop (sr [oN 8 (bt .lss 7 6)] (.seq (cd 8 .skip (.exit 0)) (.seq (.block 1 (.seq (rf 1 [oK 9 1 (ix 11 5 7),oK 10 1 (lT 11 9),oN 4 (.alloc D6),⟨none,none,1,.store 11 (.t 4) (.t 10),[]⟩]) (sr [oN 11 (lT 11 4),oN 12 (cl 84 [11]),oN 13 (nt 12)] (cd 13 (sr [oN 2 mF] .ret) .skip)))) (rg [oN 14 (bc .add 7 1),oW 7 14]))))))) (sr [oN 2 mT] .ret)))⟩
structure Fz (T:Tb):Prop where
 hT:T 108=some y9
 uP:uN T
def Az:Fn:=⟨1,42,[.tmp 2,.cell 3 3 true,.tmp 4],(.seq (rf 1 [oK 2 1 mN,oN 3 (.alloc qL),oK 4 1 mF]) (.seq (rf 1 [oN 12 (.ny 11 D6 0 []),oK 5 1 (oV 12)]) (.seq (rf 1 [oK 13 1 (.call 39 [(cI 0)]),oN 6 (.alloc qL),⟨none,none,1,.store 3 (.t 6) (.t 13),[]⟩]) (.seq (sr [oW 14 0,oN 15 (ln 14),oN 16 (.mM (cI 0))] (.block 0 (.loop (sr [oN 17 (bt .lss 16 15)] (.seq (cd 17 .skip (.exit 0)) (.seq (.block 1 (.seq (rf 1 [oK 18 1 (ix 11 14 16),oK 19 1 (lT 11 18),oN 8 (.alloc D6),⟨none,none,1,.store 11 (.t 8) (.t 19),[]⟩]) (.seq (rf 1 [oK 21 1 (oV 5),oK 22 1 (lT 11 8),oK 23 1 (cl 130 [21,22]),oK 20 1 (oV 23),oK 24 1 (ex 0 20),oK 25 1 (ex 1 20),oK 26 1 (ex 2 20),oN 10 (.alloc qL),oK 9 1 (oV 24),⟨none,none,1,.store 3 (.t 10) (.t 25),[]⟩,oK 11 1 (oV 26)]) (sr [oN 27 (lT 3 6),oN 28 (lT 3 10),oN 29 (cl 131 [27,28]),oS (.store 3 (.t 6) (.t 29))] (.seq (sr [oW 30 11,oN 31 (nt 30),oW 32 31,oG 32 false 33 (lT 3 6),oG 32 false 34 (cl 132 [33]),oG 32 false 35 (nt 34),oN 36 (.pick (.t 32) (.c (.bool true)) (.t 35))] (cd 36 (sr [oN 37 (.build qL []),oN 2 mN,oS (.store 3 (.t 3) (.t 37)),oN 4 mF] .ret) .skip)) (rg [oW 38 9,oW 5 38])))))) (rg [oN 39 (bc .add 16 1),oW 16 39]))))))) (.seq (rt 0 [oW 40 5,oN 41 (lT 3 6),oA 2 0 (oV 40) [0,0],⟨none,none,0,.store 3 (.t 3) (.t 41),[1,2,0,1,2]⟩,oA 4 0 mT [3,0,1,2,3]]) .ret)))))⟩
structure AA (T:Tb):Prop where
 hT:T 109=some Az
 lG:oP T
 Zq:Ls T
 lC:nJ T
 kL:oJ T
def xq:Fn:=⟨1,24,[.tmp 2,.cell 3 3 true,.tmp 4],(.seq (rf 1 [oK 2 1 mN,oN 3 (.alloc qL),oK 4 1 mF]) (.seq (sr [oW 8 0,oN 9 (cl 108 [8]),oN 10 (nt 9)] (cd 10 (sr [oN 11 (.build qL []),oN 2 mN,oS (.store 3 (.t 3) (.t 11)),oN 4 mF] .ret) .skip)) (.seq (rf 1 [oK 13 1 (oV 0),oK 14 1 (cl 109 [13]),oK 12 1 (oV 14),oK 15 1 (ex 0 12),oK 16 1 (ex 1 12),oK 17 1 (ex 2 12),oN 6 (.alloc qL),oK 5 1 (oV 15),⟨none,none,1,.store 3 (.t 6) (.t 16),[]⟩,oK 7 1 (oV 17)]) (.seq (sr [oW 18 7,oN 19 (nt 18)] (cd 19 (sr [oN 20 (.build qL []),oN 2 mN,oS (.store 3 (.t 3) (.t 20)),oN 4 mF] .ret) .skip)) (.seq (rt 0 [oW 21 5,oA 22 0 (cl 110 [21]) [0],oN 23 (lT 3 6),oA 2 0 (oV 22) [1,1,0,1],⟨none,none,0,.store 3 (.t 3) (.t 23),[2,3,0,1,2,3]⟩,oA 4 0 mT [4,0,1,2,3,4]]) .ret)))))⟩
structure GK (T:Tb):Prop where
 hT:T 88=some xq
 UR:Fz T
 GL:AA T
 V7:Gx T
theorem DZ{l:List Lk}:lH l=true↔(∀x∈l,qm x=true)∧l.Pairwise fun k l=>l9 k l=true:=by
 constructor
 ·intro h;exact⟨fun x hx=>Ar h hx,(ae3 h).imp fun h=>h.1⟩
 rintro⟨h1,h2⟩;unfold lH;refine agG fun i hi=>?_;have a:=h1 (l.getD i default) (getD_mem hi);unfold MG;rw [gV]at h2;rcases iH i with h0|h0
 ·subst h0;rw [a,decide_eq_true rfl];rfl
 have:=h2 (i-1) i (by omega) hi (by omega);have e1:l.getD (i-1) default=l[i-1]:=by rw [ak,aB];rfl
 have e2:l.getD i default=l[i]:=by rw [ak,aB];rfl
 rw [←e1,←e2]at this;rw [a,this,Bool.or_true];rfl
theorem aht{k l:Lk}(h1:l9 k l=false)(h2:l9 l k=false):k.a=l.a∧k.b=l.b:=by
 unfold l9 at h1 h2;simp at h1 h2;omega
theorem acN{k l m:Lk}(ha:l.a=m.a)(hb:l.b=m.b):l9 k l=l9 k m∧l9 l k=l9 m k:=by
 unfold l9;rw [ha,hb];exact⟨rfl,rfl⟩
theorem afb{l:Lk}:∀{s:List Lk} {x:Lk},x∈s.take (JD l s)→l9 x l=true
 | [],x,h=>by simp [JD]at h
 |
  y::s,x,h=>by
  unfold JD at h;split at h
  ·rename_i hy;rw [jm]at h;rcases aH.1 h with rfl|h
   ·exact hy
   exact afb h
  simp at h
theorem akq{l:Lk}{s:List Lk}(h:s.Pairwise fun k l=>l9 k l=true):∀x∈s.drop (JD l s),l9 x l=false:=by
 induction s with
 |nil=>intro x hx;simp at hx
 |
  cons y s ih =>
  rw [dW]at h;intro x hx;unfold JD at hx;split at hx
  ·rw [List.drop_succ_cons]at hx;exact ih h.2 x hx
  rename_i hy;rw [bZ]at hx;have hy:l9 y l=false:=by simpa using hy
  rcases aH.1 hx with rfl|hx
  ·exact hy
  cases hxl:l9 x l
  ·rfl
  have:=OZ (h.1 x hx) hxl;rw [this]at hy;cases hy
theorem ang{A B:List Lk}{m:Lk}(h:(A++B).Pairwise fun k l=>l9 k l=true)(h1:∀x∈A,l9 x m=true)(h2:∀x∈B,l9 m x=true):(A++m::B).Pairwise fun k l=>l9 k l=true:=by
 rw [iK]at h ⊢;refine⟨h.1,dW.2 ⟨h2,h.2.1⟩,fun x hx y hy=>?_⟩;rcases aH.1 hy with rfl|hy
 ·exact h1 x hx
 exact h.2.2 x hx y hy
theorem aun{s:List Lk}{l:Lk}{t:List Lk}{e:R}(h:Tt s l=some (t,e))(h1:lH s=true)(h2:qm l=true):lH t=true:=by
 obtain⟨hv,hp⟩:=DZ.1 h1;have hpl:=UQ l s;have hpre:=@afb l s;have hpost:=akq (l:=l) hp;unfold Tt at h;dsimp only at h;generalize JD l s=i at *;have hsp:s.take i++s.drop i=s:=fH i s;split at h
 ·rename_i hc
  cases h
  refine DZ.2 ⟨fun x hx=>?_,ang (by rw [hsp];exact hp) (fun x hx=>hpre hx) fun x hx=>?_⟩
  ·simp only [aO,aH]at hx;rcases hx with hx|rfl|hx
   ·exact hv x (cO hx)
   ·exact h2
   exact hv x (fV hx)
  rcases hc with hc|hc
  ·rw [hc,fO]at hx;cases hx
  by_cases hi:i<s.length
  ·have hd:s.drop i=s.getD i default::s.drop (i+1):=by
    rw [bT hi,ak,aB hi];rfl
   rw [hd]at hx;rcases aH.1 hx with rfl|hx
   ·exact hc
   have hpd:=hp.drop (i:=i);rw [hd,dW]at hpd;exact OZ hc (hpd.1 x hx)
  rw [dB (by omega)]at hx;cases hx
 rename_i hc;split at h
 ·rename_i hg
  cases h
  have hi:i<s.length:=by
   rcases fG i s.length with k|k
   ·exact k
   exact absurd (.inl (by omega)) hc
  have hd:s.drop i=s.getD i default::s.drop (i+1):=by
   rw [bT hi,ak,aB hi];rfl
  have hx0:=hpost (s.getD i default) (by rw [hd];simp);have hxl:l9 l (s.getD i default)=false:=by
   cases hq:l9 l (s.getD i default)
   ·rfl
   exact absurd (.inr hq) hc
  have hsm:=getD_mem (l:=s) hi;generalize s.getD i default=x at *;obtain⟨ea,eb⟩:=aht hx0 hxl;have hP:mgP x l=true:=by unfold mgP;rw [hv x hsm,h2,decide_eq_true ea,decide_eq_true eb];rfl
  have hm:qm (mgL x l)=true:=by
   rw [ae6 hP];unfold UL at hg;simp only [aG]at hg ⊢;exact hg.1
  have hcg:=fun k=>acN (k:=k) (l:=mgL x l) (m:=x) rfl rfl;have hp2:(s.take i++x::s.drop (i+1)).Pairwise fun k l=>l9 k l=true:=by rw [←hd,hsp];exact hp
  rw [iK]at hp2;refine DZ.2 ⟨fun y hy=>?_,ang ?_ (fun y hy=>?_) fun y hy=>?_⟩
  ·simp only [aO,aH]at hy;rcases hy with hy|rfl|hy
   ·exact hv y (cO hy)
   ·exact hm
   exact hv y (fV hy)
  ·rw [iK];exact⟨hp2.1,(dW.1 hp2.2.1).2,fun a ha b hb=>hp2.2.2 a ha b (jh _ hb)⟩
  ·rw [(hcg y).1];exact hp2.2.2 y hy x (by simp)
  rw [(hcg y).2];exact(dW.1 hp2.2.1).1 y hy
 cases h
theorem auo{s:List Lk}{l:Lk}(h:V6 s l=true):lH (adV s l)=true∧lH s=true∧qm l=true:=by
 unfold V6 at h;simp only [aG]at h;obtain⟨⟨h1,h2⟩,h3⟩:=h;refine⟨?_,h1,h2⟩;rw [(XW h1 h2).1]
 cases hr:Tt s l with
 |none=>rw [hr]at h3;cases h3
 |some p=>exact aun (t:=p.1) (e:=p.2) hr h1 h2
def UU(l:List Lk):Nat→Option (List Lk×R)
 |0=>some ([],kR 0)
 |
  k+1=>match UU l k with
  |none=>none
  |some p=>if V6 p.1 (l.getD k default)=true then some (adV p.1 (l.getD k default),pI p.2 (adE p.1 (l.getD k default)))else none
def Z7(l:List Lk):Option (List Lk×R):=match UU l l.length with
 |none=>none
 |some p=>if p.2.ok=true then some p else none
def GN(l:List Lk):Bool:=(Z7 l).isSome
def zn(l:List Lk):List Lk:=((Z7 l).map (·.1)).getD []
def V8(l:List Lk):R:=((Z7 l).map (·.2)).getD R0
theorem afc{l:List Lk}{k:Nat}(h:UU l k=none):∀n,k≤n→UU l n=none
 |0,hn=>by rw [Nat.le_zero.1 hn]at h;exact h
 |
  n+1,hn=>by
  rcases fG k (n+1)with hk|hk
  ·simp only [UU,afc h n (by omega)]
  rw [show n+1=k by omega];exact h
theorem afd{r s:R}(h:r.ok=false):(pI r s).ok=false:=by
 rw [wE,amm,wE.1 h,aex]
theorem aiD{l:List Lk}{k:Nat}{p:List Lk×R}(h:UU l k=some p)(hb:p.2.ok=false):∀n,k≤n→∀q,UU l n=some q→q.2.ok=false
 |0,hn,q,hq=>by rw [Nat.le_zero.1 hn]at h;rw [h]at hq;cases hq;exact hb
 |
  n+1,hn,q,hq=>by
  rcases fG k (n+1)with hk|hk
  ·simp only [UU]at hq
   cases hf:UU l n with
   |none=>rw [hf]at hq;cases hq
   |
    some r =>
    rw [hf]at hq;dsimp only at hq;split at hq
    ·cases hq
     exact afd (aiD h hb n (by omega) r hf)
    cases hq
  rw [show n+1=k by omega]at hq;rw [h]at hq;cases hq;exact hb
theorem acO{l:List Lk}:∀{k:Nat} {p:List Lk×R},UU l k=some p→lH p.1=true∧p.2.cn∧(∀x∈p.1,x.w.cn∧x.dx.cn∧x.dy.cn)∧p.1.length≤101
 |0,p,h=>by cases h;exact⟨by decide,Ef (by decide),by simp,by simp⟩
 |
  k+1,p,h=>by
  simp only [UU]at h
  cases hf:UU l k with
  |none=>rw [hf]at h;cases h
  |
   some r =>
   rw [hf]at h;dsimp only at h;split at h
   ·rename_i hk
    cases h
    have:=ahs r.1 (l.getD k default);exact⟨(auo hk).1,vK _ _,this.1,this.2.2⟩
   cases h
theorem BX{l:List Lk}(h:Z7 l=none):zn l=[]∧V8 l=R0∧GN l=false:=by
 unfold zn V8 GN;rw [h];exact⟨rfl,rfl,rfl⟩
theorem QB{l:List Lk}{k:Nat}(h:UU l k=none)(hk:k≤l.length):Z7 l=none:=by
 unfold Z7;rw [afc h l.length hk]
theorem ahu{l:List Lk}{k:Nat}{p:List Lk×R}(h:UU l k=some p)(hb:p.2.ok=false)(hk:k≤l.length):Z7 l=none:=by
 unfold Z7
 cases hf:UU l l.length with
 |none=>rfl
 |some q=>dsimp only;rw [if_neg (by rw [aiD h hb _ hk q hf];simp)]
theorem V9{l:List Lk}:(∀x∈zn l,x.w.cn∧x.dx.cn∧x.dy.cn)∧(V8 l).cn∧(zn l).length≤101∧lH (zn l)=true:=by
 cases hg:Z7 l with
 |
  none =>
  obtain⟨e1,e2,_⟩:=BX hg;rw [e1,e2];exact⟨by simp,YT,by simp,by decide⟩
 |
  some p =>
  have e1:zn l=p.1:=by unfold zn;rw [hg];rfl
  have e2:V8 l=p.2:=by unfold V8;rw [hg];rfl
  rw [e1,e2];unfold Z7 at hg
  cases hf:UU l l.length with
  |none=>rw [hf]at hg;cases hg
  |
   some q =>
   rw [hf]at hg;dsimp only at hg;split at hg
   ·cases hg
    obtain⟨a,b,c,d⟩:=acO hf;exact⟨c,b,d,a⟩
   cases hg
theorem Tz{s:List Lk}(h:∀x∈s,x.w.cn∧x.dx.cn∧x.dy.cn)(hl:s.length≤101):Dy Lk.sz s≤20000:=by
 have:=Zn (f:=Lk.sz) (k:=144) fun x hx=>anf (h x hx);omega
theorem Wh{s:List Lk}(h:∀x∈s,x.w.cn∧x.dx.cn∧x.dy.cn)(hl:s.length≤101):Bg Lk.wf s :=
 ⟨by omega,fun x hx=>⟨mP (h x hx).1,mP (h x hx).2.1,mP (h x hx).2.2⟩⟩
theorem Zr(σ:Store)(r:R):resolve σ 11 (.agg r.cells)=some (.agg r.cells):=by
 show resolve σ (10+1) (.agg r.cells)=_;rw [resolve,zy (n:=9) (fun v hv=>aei [r] _ (by simp) v hv)];rfl
theorem UW{T:Tb}(h:Aw T){l:List Lk}(hw:Bg Lk.wf l:=by exact lX)(hz:Dy Lk.sz l≤1048576:=by exact lX):PF T 179 [kY l] (.nK [kY (zn l),kN (V8 l),.bool (GN l)]):=by
 have hl:l.length≤1048576:=by have:=vY Lk.sz l;omega
 refine kH nR h.hT ?_;simp only [Au,Lz];refine ev ?_;refine jy (uw h.kZ (n:=0)) ?_;refine ev ?_;refine kG (fun _ _=>false) (α:=Nat×List Lk×R) (fun q=>⟨kX [kY l,.any,.any,.ptr 0 0 0,.any,kY q.2.1,.ptr 1 0 0,.any,.any,.any,.any,.any,.any,.any,kY l,iv (l.length:Nat),iv (q.1:Nat)],[some ⟨3,[[.bool false,.jL,.jL]]⟩,some ⟨3,[q.2.2.cells]⟩],0,0,[],[]⟩) (fun q=>q.1≤l.length∧UU l q.1=some (q.2.1,q.2.2)) (fun q=>l.length-q.1) rfl (0,[],kR 0) ?_ ?_ ?_
 ·exact⟨by omega,rfl⟩
 ·(refine KH [(0,_),(2,_)] (by simp) (by intro p hp;simp only [aH,bV,or_false]at hp;rcases hp with rfl|rfl<;>refine⟨rfl,?_⟩<;>first|exact pF _|simp [l7,V.still]) rfl ?_)<;>(try (refine ev ?_;try with_reducible exact True.intro))<;>(repeat' (first|exact True.intro|omega|exact nP rfl (by simp)|refine⟨?_,?_⟩|exact of_eq_true (tH _ _ _)|exact lY rfl (by simp;done)|exact lY rfl rfl|(refine mW rfl ?_ rfl;simp [kF];done)|(refine mW rfl ?_ rfl;simp [kF];omega)|(refine tJ ?_ ?_;(focus ((refine ev ?_;try with_reducible exact True.intro);done));(intro q hq k s0 l0;simp;done))))
 rintro⟨k,S,e⟩ ⟨hk,hf⟩;dsimp only at hk hf;obtain⟨i1,i2,i3,i4⟩:=acO hf;dsimp only at i1 i2 i3 i4;by_cases hc:(k:Int)<(l.length:Nat)
 ·have hkl:k<l.length:=by omega
  have hxw:=Tv hw hkl;have hxz:=KY (f:=Lk.sz) hz (getD_mem hkl);have hs:UU l (k+1)=if V6 S (l.getD k default)=true then some (adV S (l.getD k default),pI e (adE S (l.getD k default)))else none:=by simp only [UU,hf]
  have hmx:(l.map Lk.cells).getD k []=(l.getD k default).cells:=mg hkl;have hbad:UU l (k+1)=none→Z7 l=none:=fun h=>QB h (by omega);generalize l.getD k default=x at hs hxw hxz hmx;have ca:=ahq h.Zp (s:=S) (l:=x) (Wh i3 i4) hxw (by have:=Tz i3 i4;omega) hxz;have hac:=ahs S x
  cases ho:V6 S x
  ·rw [ho]at hs ca;obtain⟨e1,e2,e3⟩:=BX (hbad hs);rw [e1,e2,e3];refine qW @hc @hmx ?_;refine jy ca ?_;refine ev ?_;exact O1
  rw [ho,if_pos rfl]at hs;rw [ho]at ca;generalize adV S x=S' at hs ca hac;generalize adE S x=e' at hs ca hac;refine qW @hc @hmx ?_;refine jy ca ?_;refine ev ?_;refine jy (vw h.lJ (mP i2) (mP hac.2.1)) ?_;refine ev ?_;exact⟨(k+1,S',pI e e'),by dsimp only;omega,⟨by dsimp only;omega,hs⟩,by exact agK⟩
 have hie:k=l.length:=by omega
 have hg:Z7 l=if e.ok=true then some (S,e)else none:=by unfold Z7;rw [←hie,hf]
 have co:=pG h.kS (mP i2)
 cases hb:e.ok
 ·rw [hb]at co hg;obtain⟨e1,e2,e3⟩:=BX hg;rw [e1,e2,e3];refine ev1 @hc ?_;refine jy co ?_;refine ev ?_;exact O1
 rw [hb,if_pos rfl]at hg;have e1:zn l=S:=by unfold zn;rw [hg];rfl
 have e2:V8 l=e:=by unfold V8;rw [hg];rfl
 have e3:GN l=true:=by unfold GN;rw [hg];rfl
 rw [e1,e2,e3];rw [hb]at co;refine ev1 @hc ?_;refine jy co ?_;refine ev ?_;refine⟨by unfold pz;decide +kernel,?_⟩;rw [Zr];exact kE _
def Lu(l:List Lk)(a b:Int):Lk:=if lH l=true then(aat l a b).getD Lk0 else Lk0
def anh(l:List Lk)(a b:Int):Bool:=lH l&&(aat l a b).isSome
theorem aqC{l:List Lk}{a b:Int}(h:Bg Lk.wf l):(Lu l a b).wf:=by
 have h0:Lk0.wf:=by simp [Lk.wf,R.wf]
 unfold Lu;split
 ·cases hf:aat l a b with
  |none=>exact h0
  |some x=>exact h.2 x (ae5 hf)
 exact h0
theorem akr{T:Tb}(h:Nv T){l:List Lk}{a b:Int}(hw:Bg Lk.wf l:=by exact lX)(hz:Dy Lk.sz l≤1048576:=by exact lX):PF T 225 [kY l,iv a,iv b] (.nK [QV (Lu l a b),.bool (anh l a b)]):=by
 have hl:l.length≤1048576:=by have:=vY Lk.sz l;omega
 have ci:=vO h.lZ hw;unfold Lu anh
 cases hb:lH l
 ·rw [hb]at ci;refine kH nR h.hT ?_;simp only [BQ,Lz];refine ev ?_;refine jy ci ?_;refine ev ?_;exact ae4 VY
 rw [hb]at ci;simp only [bU,if_true];refine kH nR h.hT ?_;simp only [BQ,Lz];refine ev ?_;refine jy ci ?_;refine ev ?_;refine kG (fun _ _=>false) (α:=Nat) (fun i=>⟨kX [.any,iv a,iv b,.any,.any,.any,.ptr 0 0 0,.any,.any,.any,.any,.any,.any,.any,kY l,iv (l.length:Nat),iv (i:Nat)],[some ⟨11,[[iv 0,iv 0,.bool false,.jL,.jL,.bool false,.jL,.jL,.bool false,.jL,.jL]]⟩],0,0,[],[]⟩) (fun i=>i≤l.length∧∀j,j<i→lkP a b (l.getD j default)=false) (fun i=>l.length-i) rfl 0 ?_ ?_ ?_
 ·exact⟨by omega,fun j hj=>absurd hj (by omega)⟩
 ·(refine jW ?_;exact zX)
 rintro i ⟨hi,hj⟩;by_cases hc:(i:Int)<(l.length:Nat)
 ·have hil:i<l.length:=by omega
  have hys:=KY (f:=Lk.sz) hz (getD_mem hil);obtain⟨y,hy⟩:∃y,l.getD i default=y:=⟨_,rfl⟩;rw [hy]at hys;have cc:=Kw h.qJ hys;refine zl @hc @mg @hy ?_
  repeat' ((refine amF (fun hb=>?_) fun hb=>?_)<;>(try (refine ev1 @hb ?_;try with_reducible exact True.intro)))
  all_goals simp only [eq_iff_iff,iff_true,iff_false]at *
  all_goals first
   |(exfalso;omega)
   |(
     have
       hn:∀j,j<i+1→lkP a b (l.getD j default)=false:=fun j hj'=>by
       by_cases e:j=i
       ·rw [e,hy];simp only [lkP,Bool.or_eq_false_iff,jc,decide_eq_false_iff_not];omega
       exact hj j (by omega)
     exact⟨i+1,by omega,⟨by omega,hn⟩,by exact VI⟩)
   |(
     have hm:lkP a b (l.getD i default)=true:=by rw [hy];simp only [lkP,fA,aG,decide_eq_true_eq];omega
     rw [auk hil hj hm,hy];simp only [gZ,Option.isSome_some];refine jy cc ?_;refine ev ?_;exact kE _)
 have:i=l.length:=by omega
 subst this;rw [aul hj];refine ev1 @hc ?_;simp only [dO,jB];exact ae4 VY
def abw(v:Int)(l:Lk):Option Pa:=if l.a=v then some ⟨l.b,l.w,negR l.dx,negR l.dy⟩else if l.b=v then some ⟨l.a,l.w,l.dx,l.dy⟩else none
def Ny(S:List Lk)(v:Int)(k:Nat):List Pa:=(S.take k).filterMap (abw v)
def yU(S:List Lk)(v:Int):List Pa:=Ny S v S.length
theorem aup(S:List Lk)(v:Int):Ny S v 0=[]:=by simp [Ny]
theorem auq(S:List Lk)(v:Int){i:Nat}(h:i<S.length):Ny S v (i+1)=Ny S v i++(match abw v (S.getD i default)with|some n=>[n]|none=>[]):=by
 unfold Ny;rw [take_snoc h,List.filterMap_append,List.filterMap_cons]
 cases abw v (S.getD i default)<;>rfl
theorem afe(S:List Lk)(v:Int)(k:Nat):(Ny S v k).length≤k:=by
 unfold Ny;exact cZ (List.length_filterMap_le _ _) (by simp;omega)
def zT(A:List Pa):R:=LX A A.length
def AB(t:R)(a:Pa):Pa:=⟨a.node,DC a.share t,a.dx,a.dy⟩
def qg(v:Int)(A:List Pa):Cd:=⟨v,zT A,A.map (AB (zT A))⟩
def QC(t:R)(a b:Pa):Lk:=⟨a.node,b.node,DC (mulR a.share b.share) t,NZ a.dx b.dx,NZ a.dy b.dy⟩
def xu(A:List Pa)(i j:Nat):List Lk:=((A.drop (i+1)).take j).map (QC (zT A) (A.getD i default))
def qR(A:List Pa):Nat→List Lk
 |0=>[]
 |i+1=>qR A i++xu A i (A.length-(i+1))
def Oh(A:List Pa):List Lk:=qR A A.length
theorem Zt(A:List Pa):(zT A).cn:=MH _ _
theorem aiE(t:R)(a b:Pa):(QC t a b).w.cn∧(QC t a b).dx.cn∧(QC t a b).dy.cn:=⟨MC _ _,XH _ _,XH _ _⟩
theorem XZ(A:List Pa)(i:Nat):xu A i 0=[]:=by simp [xu]
theorem acP(A:List Pa){i j:Nat}(h:i+1+j<A.length):xu A i (j+1)=xu A i j++[QC (zT A) (A.getD i default) (A.getD (i+1+j) default)]:=by
 unfold xu;rw [dD,bK]
 congr 1
 rw [dA,aB (by omega),ak (i:=i+1+j),aB (by omega)];rfl
theorem Wi(A:List Pa)(i j:Nat):(xu A i j).length≤j:=by unfold xu;simp;omega
theorem LC(A:List Pa):∀i,(qR A i).length≤i*A.length
 |0=>dY _
 |
  i+1=>by
  have h1:=LC A i;have h2:=Wi A i (A.length-(i+1));show (qR A i++xu A i (A.length-(i+1))).length≤(i+1)*A.length;rw [aJ,gQ];omega
theorem abx{A:List Pa}{i j:Nat}{x:Lk}(h:x∈xu A i j):∃k,i<k∧k<A.length∧x=QC (zT A) (A.getD i default) (A.getD k default):=by
 unfold xu at h;obtain⟨b,hb,rfl⟩:=bM.1 h;have hb:=cO hb;obtain⟨q,hq⟩:=bF.1 hb;rw [dA]at hq;have hl:=(aK.1 hq).1;exact⟨i+1+q,by omega,hl,by rw [ak (i:=i+1+q),hq];rfl⟩
theorem TA{A:List Pa}{x:Lk}:∀{i:Nat},x∈qR A i→∃p k,p<i∧p<k∧k<A.length∧x=QC (zT A) (A.getD p default) (A.getD k default)
 |0,h=>by cases h
 |
  i+1,h=>by
  rcases aO.1 h with h|h
  ·obtain⟨p,k,h1,h2⟩:=TA h;exact⟨p,k,by omega,h2⟩
  obtain⟨k,h1,h2,h3⟩:=abx h;exact⟨i,k,by omega,h1,h2,h3⟩
theorem aiF{A:List Pa}:∀x∈Oh A,x.w.cn∧x.dx.cn∧x.dy.cn:=fun x hx=>by
 obtain⟨p,k,_,_,_,rfl⟩:=TA hx;exact aiE _ _ _
def ani(A:List Pa):Prop:=∀i j,i<j→j<A.length→(A.getD i default).node<(A.getD j default).node
theorem aiG{A:List Pa}(h:∀i,i+1<A.length→(A.getD i default).node<(A.getD (i+1) default).node):ani A
 |i,0,hij,_=>absurd hij (iG _)
 |
  i,j+1,hij,hj=>by
  by_cases e:i=j
  ·subst e;exact h i hj
  exact Int.lt_trans (aiG h i j (by omega) (by omega)) (h j hj)
theorem aff{A:List Pa}(h:ani A){i:Nat}:∀j,i+1+j≤A.length→(xu A i j).Pairwise fun k l=>l9 k l=true
 |0,_=>by rw [XZ];exact .nil
 |
  j+1,hj=>by
  rw [acP A (by omega),iK];refine⟨aff h j (by omega),by simp,fun x hx y hy=>?_⟩;rw [aT.1 hy];unfold xu at hx;obtain⟨b,hb,rfl⟩:=bM.1 hx;obtain⟨q,hq⟩:=bF.1 hb;rw [List.getElem?_take]at hq;split at hq
  ·rw [dA]at hq;have e:b=A.getD (i+1+q) default:=by rw [ak,hq];rfl
   rw [GI];refine .inr ⟨rfl,?_⟩;rw [e];exact h _ _ (by omega) (by omega)
  cases hq
theorem aby{A:List Pa}(h:ani A):∀i,i≤A.length→(qR A i).Pairwise fun k l=>l9 k l=true
 |0,_=>.nil
 |
  i+1,hi=>by
  show (qR A i++xu A i (A.length-(i+1))).Pairwise _;rw [iK];refine⟨aby h i (by omega),aff h _ (by omega),fun x hx y hy=>?_⟩;obtain⟨p,k,h1,_,_,rfl⟩:=TA hx;obtain⟨q,_,_,rfl⟩:=abx hy;rw [GI];exact .inl (h _ _ h1 (by omega))
theorem X0{v:Int}{A:List Pa}{i:Nat}(h:i<A.length):(qg v A).ps.getD i default=AB (zT A) (A.getD i default):=by
 show (A.map _).getD i default=_;rw [ak,bG,aB h,ak,aB h];rfl
theorem anj{v:Int}{A:List Pa}(h:rD (qg v A)=true):ani A:=by
 have hl:(qg v A).ps.length=A.length:=aV ..;unfold rD at h;simp only [aG,decide_eq_true_eq]at h;refine aiG fun i hi=>?_;have:=h.1.1.1.1 (i+1) (by rw [hl];exact hi);unfold Ew at this;rw [X0 hi,Nat.add_sub_cancel,X0 (by omega)]at this;simp only [aG,fA,decide_eq_true_eq]at this;rcases this.1.1.1.2 with e|e
 ·omega
 exact e
theorem aur{v:Int}{A:List Pa}(h:rD (qg v A)=true):lH (Oh A)=(Oh A).all qm:=by
 cases ha:(Oh A).all qm
 ·cases hb:lH (Oh A)
  ·rfl
  rw [aZ.2 (DZ.1 hb).1]at ha;cases ha
 exact DZ.2 ⟨aZ.1 ha,aby (anj h) _ (aP _)⟩
def TS(S:List Lk)(v:Int):Bool:=lH S&&inB v 1 9&&rD (qg v (yU S v))&&(Oh (yU S v)).all qm
def elC(S:List Lk)(v:Int):Cd:=if TS S v=true then qg v (yU S v)else⟨0,R0,[]⟩
def elM(S:List Lk)(v:Int):List Lk:=if TS S v=true then Oh (yU S v)else []
theorem aaw{S:List Lk}{v:Int}(h:TS S v=false):elC S v=⟨0,R0,[]⟩∧elM S v=[]:=by
 unfold elC elM;rw [h];exact⟨rfl,rfl⟩
theorem ank{S:List Lk}{v:Int}(h:TS S v=true):elC S v=qg v (yU S v)∧elM S v=Oh (yU S v):=by
 unfold elC elM;rw [h];exact⟨rfl,rfl⟩
theorem ahv{S:List Lk}(h:lH S=true){v:Int}{a:Pa}{k:Nat}(ha:a∈Ny S v k):a.share.ok=true∧a.dx.cn∧a.dy.cn∧0≤a.node∧a.node≤9:=by
 unfold Ny at ha;obtain⟨l,hl,e⟩:=List.mem_filterMap.1 ha;have hk:=Ar h (cO hl);have h1:=UD hk;have h2:=uY hk;unfold abw at e;split at e
 ·cases e;exact⟨h1.1,aci _,aci _,by dsimp only;omega,by dsimp only;omega⟩
 split at e
 ·cases e;exact⟨h1.1,zH h1.2.1,zH h1.2.2.1,by dsimp only;omega,by dsimp only;omega⟩
 cases e
def UY(S:List Lk)(v n:Int):Pa:=if (Lu S n v).a=v then⟨n,(Lu S n v).w,negR (Lu S n v).dx,negR (Lu S n v).dy⟩else⟨n,(Lu S n v).w,(Lu S n v).dx,(Lu S n v).dy⟩
theorem aqD{S:List Lk}(h:lH S=true){x y:Lk}(hx:x∈S)(hy:y∈S)(ha:x.a=y.a)(hb:x.b=y.b):x=y:=by
 have hp:=(DZ.1 h).2;rw [gV]at hp;obtain⟨i,hi⟩:=bF.1 hx;obtain⟨j,hj⟩:=bF.1 hy;obtain⟨hil,hie⟩:=aK.1 hi;obtain⟨hjl,hje⟩:=aK.1 hj;rcases Nat.lt_trichotomy i j with k|k|k
 ·have:=hp i j hil hjl k;rw [hie,hje,GI]at this;omega
 ·subst k;rw [←hie,←hje]
 have:=hp j i hjl hil k;rw [hie,hje,GI]at this;omega
theorem aiH{S:List Lk}(h:lH S=true){x:Lk}(hx:x∈S){a b:Int}(hp:lkP a b x=true):aat S a b=some x:=by
 cases hf:aat S a b with
 |
  none =>
  have:=List.find?_eq_none.1 hf x hx;exact absurd hp this
 |
  some y =>
  have hy:=ae5 hf;have hq:lkP a b y=true:=List.find?_some hf;have n1:=uY (Ar h hx);have n2:=uY (Ar h hy);unfold lkP at hp hq;simp only [fA,aG,decide_eq_true_eq]at hp hq;rw [aqD h hy hx (by omega) (by omega)]
theorem afg{α β:Type}{f g:α→Option β}:∀{l:List α},(∀x∈l,f x=g x)→l.filterMap f=l.filterMap g
 | [],_=>rfl
 |x::l,h=>by rw [List.filterMap_cons,List.filterMap_cons,h x (by simp),afg fun y hy=>h y (by simp [hy])]
theorem aqE{S:List Lk}(h:lH S=true)(v:Int):((nbI S v S.length).map (UY S v))=yU S v:=by
 unfold nbI yU Ny;rw [bQ,List.map_filterMap];refine afg fun l hl=>?_;have n1:=uY (Ar h hl);unfold aha abw;by_cases e1:l.a=v
 ·have hf:Lu S l.b v=l:=by
   unfold Lu;rw [if_pos h,aiH h hl (by unfold lkP;simp only [fA,aG,decide_eq_true_eq];exact .inr ⟨e1,trivial⟩)];rfl
  rw [if_pos e1,if_pos e1];show some (UY S v l.b)=_;unfold UY;rw [hf,if_pos e1]
 rw [if_neg e1,if_neg e1];by_cases e2:l.b=v
 ·have hf:Lu S l.a v=l:=by
   unfold Lu;rw [if_pos h,aiH h hl (by unfold lkP;simp only [fA,aG,decide_eq_true_eq];exact .inl ⟨trivial,e2⟩)];rfl
  rw [if_pos e2,if_pos e2];show some (UY S v l.a)=_;unfold UY;rw [hf,if_neg e1]
 rw [if_neg e2,if_neg e2];rfl
def Dp:Fn:=⟨1,11,[.tmp 2],(.seq (rf 1 [oN 1 (.box (.t 0)),oK 2 1 mF]) (sr [oN 3 (fd 0 1),oN 4 (lT 3 3),oN 5 (cl 100 [4]),oW 6 5,oG 6 true 7 (fd 3 1),oG 6 true 8 (lT 3 7),oG 6 true 9 (cl 100 [8]),oN 10 (.pick (.t 6) (.t 9) (.c (.bool false))),oW 2 10] .ret))⟩
structure JE (T:Tb):Prop where
 hT:T 342=some Dp
 kS:oz T
def qy:Fn:=⟨2,67,[.cell 4 6 true,.tmp 5],(.seq (rf 2 [oN 2 (.box (.t 0)),oK 4 1 (.alloc zz6),oK 5 2 mF]) (.seq (sr [oN 9 (lT 5 2),oN 10 (cl 294 [9]),oN 11 (nt 10)] (cd 11 (sr [oN 12 (.build zz6 []),oS (.store 6 (.t 4) (.t 12)),oN 5 mF] .ret) .skip)) (.seq (rf 1 [oK 13 1 (.call 36 [(cI 0)]),oK 14 1 (.call 36 [(cI 0)]),oK 15 1 (.build zz6 [(0,3,(.t 13)),(3,3,(.t 14))]),oN 6 (.alloc zz6),⟨none,none,1,.store 6 (.t 6) (.t 15),[]⟩]) (.seq (sr [oN 16 (fd 4 2),oN 17 (lF 1 16),oN 18 (ln 17),oN 19 (.mM (cI 0))] (.block 0 (.loop (sr [oN 20 (bt .lss 19 18)] (.seq (cd 20 .skip (.exit 0)) (.seq (.block 1 (.seq (rf 1 [oK 21 1 (ix 10 17 19),oK 22 1 (lT 10 21),oN 8 (.alloc VG),⟨none,none,1,.store 10 (.t 8) (.t 22),[]⟩]) (.seq (sr [oN 23 (fd 0 8),oN 24 (lF 1 23),oW 25 1,oN 26 (ln 25),oN 27 (bt .geq 24 26)] (cd 27 (sr [oN 28 (.build zz6 []),oS (.store 6 (.t 4) (.t 28)),oN 5 mF] .ret) .skip)) (.seq (rt 0 [oN 29 (fd 0 6),oA 30 0 (lT 3 29) [0],oN 31 (fd 1 8),oA 32 0 (lT 3 31) [2],oW 33 1,oN 34 (fd 0 8),oA 35 0 (lF 1 34) [5],oA 36 0 (ix 6 33 35) [4,6],oA 37 0 (fd 0 36) [7],oA 38 0 (lT 3 37) [8],oN 39 (fd 4 8),oA 40 0 (lT 3 39) [10],oA 41 0 (cl 189 [38,40]) [9,11],oA 42 0 (cl 201 [32,41]) [3,12,12],oA 43 0 (cl 189 [30,42]) [1,13,13],oA 44 0 (fd 0 6) [0,1,2,3,4,5,6,7,8,9,10,11,12,13,14],⟨none,none,0,.store 3 (.t 44) (.t 43),[15,14,14,0,1,2,3,4,5,6,7,8,9,10,11,12,13,14]⟩]) (rt 0 [oN 45 (fd 3 6),oA 46 0 (lT 3 45) [0],oN 47 (fd 1 8),oA 48 0 (lT 3 47) [2],oW 49 1,oN 50 (fd 0 8),oA 51 0 (lF 1 50) [5],oA 52 0 (ix 6 49 51) [4,6],oA 53 0 (fd 3 52) [7],oA 54 0 (lT 3 53) [8],oN 55 (fd 7 8),oA 56 0 (lT 3 55) [10],oA 57 0 (cl 189 [54,56]) [9,11],oA 58 0 (cl 201 [48,57]) [3,12,12],oA 59 0 (cl 189 [46,58]) [1,13,13],oA 60 0 (fd 3 6) [0,1,2,3,4,5,6,7,8,9,10,11,12,13,14],⟨none,none,0,.store 3 (.t 60) (.t 59),[15,14,14,0,1,2,3,4,5,6,7,8,9,10,11,12,13,14]⟩]))))) (rg [oN 61 (bc .add 19 1),oW 19 61]))))))) (.seq (sr [oN 62 (lT 6 6),oN 63 (cl 342 [62]),oN 64 (nt 63)] (cd 64 (sr [oN 65 (.build zz6 []),oS (.store 6 (.t 4) (.t 65)),oN 5 mF] .ret) .skip)) (sr [oN 66 (lT 6 6),oS (.store 6 (.t 4) (.t 66)),oN 5 mT] .ret))))))⟩
structure xw (T:Tb):Prop where
 hT:T 366=some qy
 kZ:nU T
 lJ:pY T
 nV:yH T
 pO:pK T
 Xl:JE T
def AL:Fn:=⟨0,4,[.cell 0 6 true],(.seq (rf 1 [oN 0 (.alloc zz6)]) (sr [oN 1 (.call 39 [(cI 0)]),oN 2 (.call 39 [(cI 0)]),oN 3 (.build zz6 [(0,3,(.t 1)),(3,3,(.t 2))]),oS (.store 6 (.t 0) (.t 3))] .ret))⟩
structure AO (T:Tb):Prop where
 hT:T 186=some AL
 lG:oP T
def qA:Fn:=⟨2,72,[.cell 4 6 true,.tmp 5],(.seq (rf 2 [oN 2 (.box (.t 0)),oK 4 1 (.alloc zz6),oK 5 2 mF]) (.seq (sr [oN 9 (lT 5 2),oN 10 (cl 185 [9]),oN 11 (nt 10)] (cd 11 (sr [oN 12 (.build zz6 []),oS (.store 6 (.t 4) (.t 12)),oN 5 mF] .ret) .skip)) (.seq (rf 1 [oK 13 1 (.call 186 []),oN 6 (.alloc zz6),⟨none,none,1,.store 6 (.t 6) (.t 13),[]⟩]) (.seq (sr [oN 14 (fd 4 2),oN 15 (lF 1 14),oN 16 (ln 15),oN 17 (.mM (cI 0))] (.block 0 (.loop (sr [oN 18 (bt .lss 17 16)] (.seq (cd 18 .skip (.exit 0)) (.seq (.block 1 (.seq (rf 1 [oK 19 1 (ix 10 15 17),oK 20 1 (lT 10 19),oN 8 (.alloc VG),⟨none,none,1,.store 10 (.t 8) (.t 20),[]⟩]) (.seq (sr [oN 21 (fd 0 8),oN 22 (lF 1 21),oW 23 1,oN 24 (ln 23),oN 25 (bt .geq 22 24)] (cd 25 (sr [oN 26 (.build zz6 []),oS (.store 6 (.t 4) (.t 26)),oN 5 mF] .ret) .skip)) (.seq (rt 0 [oN 27 (fd 0 6),oA 28 0 (lT 3 27) [0],oN 29 (fd 1 8),oA 30 0 (lT 3 29) [2],oW 31 1,oN 32 (fd 0 8),oA 33 0 (lF 1 32) [5],oA 34 0 (ix 6 31 33) [4,6],oA 35 0 (fd 0 34) [7],oA 36 0 (lT 3 35) [8],oN 37 (fd 4 8),oA 38 0 (lT 3 37) [10],oA 39 0 (cl 178 [36,38]) [9,11],oA 40 0 (cl 157 [30,39]) [3,12,12],oA 41 0 (cl 131 [28,40]) [1,13,13],oA 42 0 (fd 0 6) [0,1,2,3,4,5,6,7,8,9,10,11,12,13,14],⟨none,none,0,.store 3 (.t 42) (.t 41),[15,14,14,0,1,2,3,4,5,6,7,8,9,10,11,12,13,14]⟩]) (rt 0 [oN 43 (fd 3 6),oA 44 0 (lT 3 43) [0],oN 45 (fd 1 8),oA 46 0 (lT 3 45) [2],oW 47 1,oN 48 (fd 0 8),oA 49 0 (lF 1 48) [5],oA 50 0 (ix 6 47 49) [4,6],oA 51 0 (fd 3 50) [7],oA 52 0 (lT 3 51) [8],oN 53 (fd 7 8),oA 54 0 (lT 3 53) [10],oA 55 0 (cl 178 [52,54]) [9,11],oA 56 0 (cl 157 [46,55]) [3,12,12],oA 57 0 (cl 131 [44,56]) [1,13,13],oA 58 0 (fd 3 6) [0,1,2,3,4,5,6,7,8,9,10,11,12,13,14],⟨none,none,0,.store 3 (.t 58) (.t 57),[15,14,14,0,1,2,3,4,5,6,7,8,9,10,11,12,13,14]⟩]))))) (rg [oN 59 (bc .add 17 1),oW 17 59]))))))) (.seq (sr [oN 60 (fd 0 6),oN 61 (lT 3 60),oN 62 (cl 132 [61]),oN 63 (nt 62),oW 64 63,oG 64 false 65 (fd 3 6),oG 64 false 66 (lT 3 65),oG 64 false 67 (cl 132 [66]),oG 64 false 68 (nt 67),oN 69 (.pick (.t 64) (.c (.bool true)) (.t 68))] (cd 69 (sr [oN 70 (.build zz6 []),oS (.store 6 (.t 4) (.t 70)),oN 5 mF] .ret) .skip)) (sr [oN 71 (lT 6 6),oS (.store 6 (.t 4) (.t 71)),oN 5 mT] .ret))))))⟩
structure xA (T:Tb):Prop where
 hT:T 176=some qA
 lC:nJ T
 kL:oJ T
 nX:rM T
 RS:Nk T
 og:pJ T
 GR:AO T
def Zu(p:Pa)(x d:R):R:=mulR p.share (pI x d)
def zY(c:Cd)(at':List Pt):Nat→R
 |0=>kR 0
 |k+1=>pI (zY c at' k) (Zu (c.ps.getD k default) (at'.getD (c.ps.getD k default).node.toNat default).x (c.ps.getD k default).dx)
def Oq(c:Cd)(at':List Pt):Nat→R
 |0=>kR 0
 |k+1=>pI (Oq c at' k) (Zu (c.ps.getD k default) (at'.getD (c.ps.getD k default).node.toNat default).y (c.ps.getD k default).dy)
def acG(c:Cd)(n:Nat):Bool:=c.ps.all fun p=>decide (p.node<n)
def FB(c:Cd)(at':List Pt):Bool:=rD c&&(acG c at'.length&&((zY c at' c.ps.length).ok&&(Oq c at' c.ps.length).ok))
def acV(c:Cd)(at':List Pt):Pt:=if FB c at'=true then⟨zY c at' c.ps.length,Oq c at' c.ps.length⟩else⟨R0,R0⟩
theorem ahw(c:Cd)(at':List Pt):∀k,(zY c at' k).cn
 |0=>Ef (by decide)
 |k+1=>vK _ _
theorem ahx(c:Cd)(at':List Pt):∀k,(Oq c at' k).cn
 |0=>Ef (by decide)
 |k+1=>vK _ _
theorem acQ(p:Pa)(x d:R):(Zu p x d).cn:=Un _ _
theorem aus(c:Cd)(at':List Pt):(acV c at').x.cn∧(acV c at').y.cn:=by
 unfold acV;split
 ·exact⟨ahw _ _ _,ahx _ _ _⟩
 exact⟨YT,YT⟩
theorem aiI{c:Cd}{n k:Nat}(hk:k<c.ps.length)(h:¬(c.ps.getD k default).node<n):acG c n=false:=by
 unfold acG;rw [jG];refine⟨c.ps.getD k default,?_,by simpa using h⟩;rw [ak,aB hk];exact dP hk
theorem afh{c:Cd}{n:Nat}(h:∀k,k<c.ps.length→(c.ps.getD k default).node<n):acG c n=true:=by
 unfold acG;rw [aZ];intro x hx;obtain⟨k,hk⟩:=bF.1 hx;have:=h k (aK.1 hk).1;rw [ak,hk]at this;exact decide_eq_true this
theorem acR{c:Cd}{at':List Pt}(h:FB c at'=false):acV c at'=⟨R0,R0⟩:=by
 unfold acV;rw [h];rfl
theorem aiJ{c:Cd}(h:rD c=true){k:Nat}(hk:k<c.ps.length):0≤(c.ps.getD k default).node∧(c.ps.getD k default).share.ok=true:=by
 unfold rD at h;simp only [aG,decide_eq_true_eq]at h;have:=h.1.1.1.1 k hk;unfold Ew inB at this;simp only [aG,decide_eq_true_eq]at this;exact⟨this.1.1.1.1.1.1,XJ this.1.1.2⟩
theorem ahy{T:Tb}(h:JE T){p:Pt}(hp:p.wf):PF T 342 [ptV p] (.bool (p.x.ok&&p.y.ok)):=by
 have c1:=pG h.kS hp.1;have c2:=pG h.kS hp.2;refine kH nR h.hT ?_;simp only [Dp,Lz];refine ev ?_;refine jy c1 ?_
 cases p.x.ok
 ·refine ev ?_;exact kE _
 refine ev ?_;refine jy c2 ?_
 cases p.y.ok<;>((refine ev ?_;try with_reducible exact True.intro);exact kE _)
section
variable {s s1 σ2 : Store} {a b ta tb rs trs : List V} {os os2 : List Nat} {L : List (Nat × Obj)}
theorem Ep.ahz(E:Ep s (a++b) (ta++tb) os L)(hla:a.length=ta.length)(h1:∀o,o<s.length→jH s1 o=jH s o)(hl:s.length≤s1.length)(ho:nI σ2 rs trs os2)(hn:os2.Nodup)(hf:∀o∈os2,s1.length≤o)
  (old:∀o,o<s1.length→jH σ2 o=jH s1 o):∃os',Ep σ2 (rs++b) (trs++tb) os' L∧∀o∈os',o∈os∨s1.length≤o:=by
 obtain⟨a1,a2,oa,ob,e,rfl,k1,k2⟩:=pq E.c.ow;obtain⟨rfl,rfl⟩:=dZ e (by rw [hla];exact k1.len.symm);have hlt:=fun o (h:o∈oa++ob)=>E.c.lt o h;have nd:=bg.1 E.c.nd;refine⟨os2++ob,⟨⟨mD ho (k2.frame fun o h=>?_),?_⟩,fun q hq=>⟨(old _ (aU (E.lt q hq) hl)).trans ((h1 _ (E.lt q hq)).trans (E.l q hq).1),fun hm=>?_⟩⟩,fun o h=>?_⟩
 ·have:=hlt o (dU _ h);rw [old o (by omega),h1 o this]
 ·rw [bg];refine⟨hn,nd.2.1,fun x hx y hy e=>?_⟩;have:=hf x hx;have:=hlt y (dU _ hy);omega
 ·rcases aO.1 hm with hm|hm
  ·have:=hf _ hm;have:=E.lt q hq;omega
  exact(E.l q hq).2 (dU _ hm)
 rcases aO.1 h with h|h
 ·exact .inr (hf o h)
 exact .inl (dU _ h)
theorem Ep.anl(E:Ep s (a++b) (ta++tb) os L)(hla:a.length=ta.length)(h1:∀o,o<s.length→jH s1 o=jH s o)(hl:s.length≤s1.length)(ho:nI σ2 rs trs os2)(hn:os2.Nodup)(hf:∀o∈os2,s1.length≤o)
  (old:∀o,o<s1.length→jH σ2 o=jH s1 o):∃os',Ep σ2 (a++rs) (ta++trs) os' L∧∀o∈os',o∈os∨s1.length≤o:=by
 obtain⟨a1,a2,oa,ob,e,rfl,k1,k2⟩:=pq E.c.ow;obtain⟨rfl,rfl⟩:=dZ e (by rw [hla];exact k1.len.symm);have hlt:=fun o (h:o∈oa++ob)=>E.c.lt o h;have nd:=bg.1 E.c.nd;refine⟨oa++os2,⟨⟨mD (k1.frame fun o h=>?_) ho,?_⟩,fun q hq=>⟨(old _ (aU (E.lt q hq) hl)).trans ((h1 _ (E.lt q hq)).trans (E.l q hq).1),fun hm=>?_⟩⟩,fun o h=>?_⟩
 ·have:=hlt o (gq _ h);rw [old o (by omega),h1 o this]
 ·rw [bg];refine⟨nd.1,hn,fun x hx y hy e=>?_⟩;have:=hf y hy;have:=hlt x (gq _ hx);omega
 ·rcases aO.1 hm with hm|hm
  ·exact(E.l q hq).2 (gq _ hm)
  have:=hf _ hm;have:=E.lt q hq;omega
 rcases aO.1 h with h|h
 ·exact .inl (gq _ h)
 exact .inr (hf o h)
end
theorem Ep.sub{s:Store}{cs ts:List V}{os:List Nat}{L L':List (Nat×Obj)}(E:Ep s cs ts os L)(h:∀q∈L',q∈L):Ep s cs ts os L':=⟨E.c,fun q hq=>E.l q (h q hq)⟩
theorem Zv{σ:Store}:Fin σ (.agg [.bool false,.jL,.jL,.bool false,.jL,.jL]) (ptV ⟨R0,R0⟩) :=
 ⟨ptV ⟨R0,R0⟩,[],by simp only [lW,uG];exact⟨_,rfl,_,_,rfl,rfl,_,_,rfl,of_eq_true (mX 1),_,_,rfl,of_eq_true (mX 1),_,_,rfl,rfl,_,_,rfl,of_eq_true (mX 1),_,_,rfl,of_eq_true (mX 1),rfl⟩,
  nN (nS (oC (o1:=[]) mQ (oC (o1:=[]) mQ (nS (oC (o1:=[]) mQ (oC (o1:=[]) mQ nM)))))),.nil⟩
theorem UZ{T:Tb}(h:AO T):PO T 186 [] (ptV ⟨kR 0,kR 0⟩):=by
 refine kW (fun x d=>x == 39) h.hT ?_;simp only [AL,Lz,St.enter,aj,au,aN];refine ew ?_;refine kU (uy h.lG (n:=0)) (by (refine ew ?_;try with_reducible exact True.intro)) ?_;intro r q1 o1 G;have gl:1≤q1.length:=by simpa using G.len
 obtain⟨_,rfl,Zk⟩:=G.ow.kV;obtain⟨x1,x2,rfl⟩:=Zk.rat
 have E:Ep [some ⟨6,[[.bool false,.jL,.jL,.bool false,.jL,.jL]]⟩] [] [] [] [(0,⟨6,[[.bool false,.jL,.jL,.bool false,.jL,.jL]]⟩)]:=⟨Np,by simp [jH]⟩;have E1:=E.got (fun q hq=>rfl) (aP _) Zk G.nd G.fresh G.old;clear G E;refine ew ?_;refine kU (uy h.lG (n:=0)) (by (refine ew ?_;try with_reducible exact True.intro)) ?_;intro r q2 o2 G;have gl2:q1.length≤q2.length:=G.len;obtain⟨_,rfl,hQ2⟩:=G.ow.kV;obtain⟨x3,x4,rfl⟩:=hQ2.rat
 have E2:=E1.got (fun q hq=>rfl) (aP _) hQ2 G.nd G.fresh G.old;clear G E1;have E:Ep q2 [.bool (kR 0).neg,x1,x2,.bool (kR 0).neg,x3,x4] [.bool (kR 0).neg,ints (kR 0).mag,ints (kR 0).den,.bool (kR 0).neg,ints (kR 0).mag,ints (kR 0).den] _ [(0,⟨6,[[.bool false,.jL,.jL,.bool false,.jL,.jL]]⟩)]:=E2;clear E2;have L0:=E.at0 (p:=0) (ob:=⟨6,[[.bool false,.jL,.jL,.bool false,.jL,.jL]]⟩) (by simp);have LF:=ah (ah (E.leaf 1 rfl rfl) (E.leaf 2 rfl rfl)) (ah (E.leaf 4 rfl rfl) (E.leaf 5 rfl rfl));refine uh @L0 @LF ?_;have n0:=(E.l (0,⟨6,[[.bool false,.jL,.jL,.bool false,.jL,.jL]]⟩) (by simp)).2;have C:=E.c.set (o:=0) (x:=some ⟨6,[[.bool (kR 0).neg,x1,x2,.bool (kR 0).neg,x3,x4]]⟩) n0;exact rE (nN C.ow) C.nd
theorem QD{T:Tb}(h:xA T){c:Cd}{at':List Pt}(hw:c.wf:=by exact lX)(hp:Bg Pt.wf at':=by exact lX)(hl:c.ps.length≤1048576:=by exact lX)(hl2:at'.length≤1048576:=by exact lX):PO T 176 [TQ c,D5 at'] (.nK [ptV (acV c at'),.bool (FB c at')]):=by
 have ci:=uV h.og hw
 cases hb:rD c
 ·rw [hb]at ci;have e1:FB c at'=false:=by unfold FB;rw [hb];rfl
  rw [acR e1,e1];refine kW (fun x d=>(x == 186&&d == 13)||(x == 131&&d == 41)||(x == 131&&d == 57)) h.hT ?_;simp only [qA,Lz,St.enter,aj,au,aN];refine ew ?_;refine jy ci ?_;refine ew ?_;exact Zv.PW
 rw [hb]at ci;have bad:∀k,k<c.ps.length→¬(c.ps.getD k default).node<at'.length→∀σ,Fin σ (.nK [.agg [.bool false,.jL,.jL,.bool false,.jL,.jL],.bool false]) (.nK [ptV (acV c at'),.bool (FB c at')]):=fun k hk h σ=>by
  have e1:FB c at'=false:=by unfold FB;rw [aiI hk h,hb];rfl
  rw [acR e1,e1];exact Zv.PW
 have hpa:=fun k hk=>aiJ hb (k:=k) hk;refine kW (fun x d=>(x == 186&&d == 13)||(x == 131&&d == 41)||(x == 131&&d == 57)) h.hT ?_;simp only [qA,Lz,St.enter,aj,au,aN];refine ew ?_;refine jy ci ?_;refine ew ?_;refine kU (UZ h.GR) (by (refine ew ?_;try with_reducible exact True.intro)) ?_;intro r q1 o1 G;have gl:3≤q1.length:=by simpa using G.len
 obtain⟨_,rfl,Zk⟩:=G.ow.kV;obtain⟨x1,x2,x3,x4,rfl⟩:=Zk.pt;have E:Ep [some ⟨5,[c.cells]⟩,some ⟨6,[[.bool false,.jL,.jL,.bool false,.jL,.jL]]⟩] [] [] [] [(0,⟨5,[c.cells]⟩),(1,⟨6,[[.bool false,.jL,.jL,.bool false,.jL,.jL]]⟩)]:=⟨Np,by simp [jH]⟩;have E2:=E.got (s1:=[some ⟨5,[c.cells]⟩,some ⟨6,[[.bool false,.jL,.jL,.bool false,.jL,.jL]]⟩]++[none]) (fun q hq=>lQ hq) (by simp) Zk G.nd G.fresh G.old;have F0:=E.free (s1:=[some ⟨5,[c.cells]⟩,some ⟨6,[[.bool false,.jL,.jL,.bool false,.jL,.jL]]⟩]++[none]) (p:=2) G.fresh (by simp) (by simp);clear E G;have E:Ep q1 [.bool (kR 0).neg,x1,x2,.bool (kR 0).neg,x3,x4] [.bool (kR 0).neg,ints (kR 0).mag,ints (kR 0).den,.bool (kR 0).neg,ints (kR 0).mag,ints (kR 0).den] _ [(0,⟨5,[c.cells]⟩),(1,⟨6,[[.bool false,.jL,.jL,.bool false,.jL,.jL]]⟩)]:=E2;clear E2
 replace E:=E.EF (p:=2) (ob:=⟨6,[[.bool (kR 0).neg,x1,x2,.bool (kR 0).neg,x3,x4]]⟩) (L':=[(0,⟨5,[c.cells]⟩),(1,⟨6,[[.bool false,.jL,.jL,.bool false,.jL,.jL]]⟩),(2,⟨6,[[.bool (kR 0).neg,x1,x2,.bool (kR 0).neg,x3,x4]]⟩)]) F0 (by omega) (by simp)
 have LF:=ah (ah (E.leaf 1 rfl rfl) (E.leaf 2 rfl rfl)) (ah (E.leaf 4 rfl rfl) (E.leaf 5 rfl rfl));have L0:=E.at0 (p:=0) (ob:=⟨5,[c.cells]⟩) (by simp);have hqe:jH q1 0=some ⟨5,[c.cells]⟩:=by have:=L0.1;rwa [jV (by omega)]at this
 refine vW @LF @List.set_set.{0} @hqe ?_;clear LF L0 hqe;refine kG (fun x d=>(x == 186&&d == 13)||(x == 131&&d == 41)||(x == 131&&d == 57)) (α:=Nat×Store×V×V×V×V×List Nat) (fun q=>⟨kX [.any,D5 at',.any,.any,.ptr 1 0 0,.any,.ptr 2 0 0,.any,.any,.any,.any,.any,.any,.any,.any,xJ c.ps,iv (c.ps.length:Nat),iv (q.1:Nat)],q.2.1,0,0,[],[]⟩) (fun q=>(q.1≤c.ps.length∧∀k,k<q.1→(c.ps.getD k default).node<at'.length)∧Ep q.2.1 [.bool (zY c at' q.1).neg,q.2.2.1,q.2.2.2.1,.bool (Oq c at' q.1).neg,q.2.2.2.2.1,q.2.2.2.2.2.1] [.bool (zY c at' q.1).neg,ints (zY c at' q.1).mag,ints (zY c at' q.1).den,.bool (Oq c at' q.1).neg,ints (Oq c at' q.1).mag,ints (Oq c at' q.1).den] q.2.2.2.2.2.2 [(0,⟨5,[c.cells]⟩),(1,⟨6,[[.bool false,.jL,.jL,.bool false,.jL,.jL]]⟩),(2,⟨6,[[.bool (zY c at' q.1).neg,q.2.2.1,q.2.2.2.1,.bool (Oq c at' q.1).neg,q.2.2.2.2.1,q.2.2.2.2.2.1]]⟩)]) (fun q=>c.ps.length-q.1) rfl (0,(q1.set 2 (some ⟨6,[[.bool (kR 0).neg,x1,x2,.bool (kR 0).neg,x3,x4]]⟩)),x1,x2,x3,x4,[]++o1) ?_ ?_ ?_
 ·exact⟨⟨by omega,by intro k hk;omega⟩,E⟩
 ·(refine jW ?_;exact qw)
 clear E;rintro⟨i,s,x1,x2,x3,x4,os⟩ ⟨⟨hi,hg⟩,E⟩;dsimp only at hi hg E;have ex:zY c at' (i+1)=pI (zY c at' i) (Zu (c.ps.getD i default) (at'.getD (c.ps.getD i default).node.toNat default).x (c.ps.getD i default).dx):=rfl;have ey:Oq c at' (i+1)=pI (Oq c at' i) (Zu (c.ps.getD i default) (at'.getD (c.ps.getD i default).node.toNat default).y (c.ps.getD i default).dy):=rfl;have hxc:=ahw c at' i;have hyc:=ahx c at' i;have hbad:=bad i;have hpa:=hpa i;have hfx:i=c.ps.length→zY c at' c.ps.length=zY c at' i:=fun e=>by rw [e]
 have hfy:i=c.ps.length→Oq c at' c.ps.length=Oq c at' i:=fun e=>by rw [e]
 generalize hX:zY c at' i=X at ex hxc hfx E;generalize hY:Oq c at' i=Y at ey hyc hfy E;have L1:=E.at0 (p:=1) (ob:=⟨6,[[.bool false,.jL,.jL,.bool false,.jL,.jL]]⟩) (by simp);have L2:=E.at0 (p:=2) (ob:=⟨6,[[.bool X.neg,x1,x2,.bool Y.neg,x3,x4]]⟩) (by simp);by_cases hc:(i:Int)<(c.ps.length:Nat)
 ·have hil:i<c.ps.length:=by omega
  have hxw:=Tv hw.2 hil;have hbad:=hbad hil;obtain⟨hp0,hp1⟩:=hpa hil;have hgs:(c.ps.getD i default).node<at'.length→∀k,k<i+1→(c.ps.getD k default).node<at'.length:=fun h k hk=>by
   by_cases e:k=i
   ·subst e;exact h
   exact hg k (by omega)
  have hmx:(c.ps.map Pa.cells).getD i []=(c.ps.getD i default).cells:=mg hil;generalize c.ps.getD i default=p at ex ey hbad hxw hgs hp0 hp1 hmx;by_cases hn:p.node<at'.length
  ·have hn1:¬p.node≥(at'.length:Nat):=by omega
   have hgs:=hgs hn;have wp:=Tv hp (k:=p.node.toNat) (by omega);have g1:(at'.map Pt.cells).getD p.node.toNat []=(at'.getD p.node.toNat default).cells:=mg (by omega);generalize at'.getD p.node.toNat default=q at ex ey wp g1;have hsc:=zH hp1;refine zK @hc @hmx @L1 @L2 @hn1 @g1 ?_;refine jy (abe h.RS wp.1 hxw.2.1) ?_;obtain⟨pi,hpi⟩:∃pi,s.length=pi:=⟨_,rfl⟩;obtain⟨s1,hs1⟩:∃s1,s++[some ⟨10,[p.cells]⟩]=s1:=⟨_,rfl⟩;have E1:=E.push (ob:=⟨10,[p.cells]⟩);rw [hs1,hpi]at E1;have hl1:s1.length=pi+1:=by rw [←hs1,←hpi];simp
   have hpi2:3≤pi:=by have:=L2.2;omega
   clear E;simp only [hs1];simp only [hpi];have MP:=E1.at0 (p:=pi) (ob:=⟨10,[p.cells]⟩) (by simp);have M1:=E1.at0 (p:=1) (ob:=⟨6,[[.bool false,.jL,.jL,.bool false,.jL,.jL]]⟩) (by simp);have M2:=E1.at0 (p:=2) (ob:=⟨6,[[.bool X.neg,x1,x2,.bool Y.neg,x3,x4]]⟩) (by simp);have R:=ah (E1.res1 1 rfl rfl (jS _ _)) (E1.res1 2 rfl rfl (jS _ _));refine ew7 @MP @M1 @M2 @g1 @R @jT @kM ?_;refine jy (yK h.nX hsc (vK _ _)) ?_;refine ew7 @MP @M1 @M2 @g1 @R @jT @kM ?_;refine DY (fun o=>o∈os) (show PO T 131 [kN X,kN (Zu p q.x p.dx)] (kN (pI X (Zu p q.x p.dx)))from Gv h.lC hxc (acQ _ _ _)) (by (refine vW @R @jT @kM ?_;try with_reducible exact True.intro);rfl) ?_ ?_
   ·intro o ho;have ho:o∈reach s1 (11+1) (.agg [.bool X.neg,x1,x2])++(reach s1 FD (kN (Zu p q.x p.dx))++[]):=ho;rw [show reach s1 FD (kN (Zu p q.x p.dx))=[]from by (refine ew ?_;try with_reducible exact True.intro),aQ,aQ]at ho;obtain⟨c,hc,ho⟩:=Am.1 ho;rcases aH.1 hc with e|hc
    ·rw [e]at ho;simp [reach]at ho
    rcases aH.1 hc with e|hc
    ·rw [e]at ho;exact E1.reach 1 rfl rfl _ o ho
    rw [aT.1 hc]at ho;exact E1.reach 2 rfl rfl _ o ho
   intro Rr r q2 oq2 hRr G;obtain⟨_,rfl,hQ⟩:=G.ow.kV;obtain⟨y1,y2,rfl⟩:=hQ.rat
   obtain⟨os2,E0,hos⟩:=Ep.ahz (a:=[.bool X.neg,x1,x2]) (b:=[.bool Y.neg,x3,x4]) (ta:=[.bool X.neg,ints X.mag,ints X.den]) (tb:=[.bool Y.neg,ints Y.mag,ints Y.den]) E1 rfl (s1:=s1) (fun q hq=>rfl) (aP _) hQ G.nd G.fresh G.old;have gl:=G.len;have n2:2∉os2:=fun hm=>by
    rcases hos 2 hm with h|h
    ·exact(E1.l (2,⟨6,[[.bool X.neg,x1,x2,.bool Y.neg,x3,x4]]⟩) (by simp)).2 h
    omega
   clear hos hRr G hQ E1 R MP M1 M2;rw [←ex]at E0;have E2:Ep q2 [.bool (zY c at' (i+1)).neg,y1,y2,.bool Y.neg,x3,x4] [.bool (zY c at' (i+1)).neg,ints (zY c at' (i+1)).mag,ints (zY c at' (i+1)).den,.bool Y.neg,ints Y.mag,ints Y.den] os2 [(0,⟨5,[c.cells]⟩),(1,⟨6,[[.bool false,.jL,.jL,.bool false,.jL,.jL]]⟩),(2,⟨6,[[.bool X.neg,x1,x2,.bool Y.neg,x3,x4]]⟩),(pi,⟨10,[p.cells]⟩)]:=E0;clear E0;have MP:=E2.at0 (p:=pi) (ob:=⟨10,[p.cells]⟩) (by simp);have M1:=E2.at0 (p:=1) (ob:=⟨6,[[.bool false,.jL,.jL,.bool false,.jL,.jL]]⟩) (by simp);have M2:=E2.at0 (p:=2) (ob:=⟨6,[[.bool X.neg,x1,x2,.bool Y.neg,x3,x4]]⟩) (by simp);have LF:=ah (ah (E2.leaf 1 rfl rfl) (E2.leaf 2 rfl rfl)) (ah (E2.leaf 4 rfl rfl) (E2.leaf 5 rfl rfl));refine ew8 @MP @M1 @M2 @g1 @LF @jT @kM @List.set_set.{0} ?_;refine⟨by unfold pz;rfl,?_⟩
   try rw [←ex]
   obtain⟨s3,hs⟩:∃s,q2.set 2 (some ⟨6,[[.bool (zY c at' (i+1)).neg,y1,y2,.bool Y.neg,x3,x4]]⟩)=s:=⟨_,rfl⟩;have E5:=E2.EF (p:=2) (ob:=⟨6,[[.bool (zY c at' (i+1)).neg,y1,y2,.bool Y.neg,x3,x4]]⟩) (L':=[(0,⟨5,[c.cells]⟩),(1,⟨6,[[.bool false,.jL,.jL,.bool false,.jL,.jL]]⟩),(2,⟨6,[[.bool (zY c at' (i+1)).neg,y1,y2,.bool Y.neg,x3,x4]]⟩),(pi,⟨10,[p.cells]⟩)]) n2 M2.2 (by simp;try omega);have hl2:q2.length=s3.length:=by rw [←hs];simp
   rw [hs]at E5;simp only [hs]
   try simp only [hl2]
   rw [hl2]at gl;clear E2 MP M1 M2 LF hs hl2 n2;have MP:=E5.at0 (p:=pi) (ob:=⟨10,[p.cells]⟩) (by simp);have M1:=E5.at0 (p:=1) (ob:=⟨6,[[.bool false,.jL,.jL,.bool false,.jL,.jL]]⟩) (by simp);have M2:=E5.at0 (p:=2) (ob:=⟨6,[[.bool (zY c at' (i+1)).neg,y1,y2,.bool Y.neg,x3,x4]]⟩) (by simp);have R:=ah (E5.res1 4 rfl rfl (jS _ _)) (E5.res1 5 rfl rfl (jS _ _));refine jy (abe h.RS wp.2 hxw.2.2) ?_;refine ew7 @MP @M1 @M2 @g1 @R @jT @kM ?_;refine jy (yK h.nX hsc (vK _ _)) ?_;refine ew7 @MP @M1 @M2 @g1 @R @jT @kM ?_;refine DY (fun o=>o∈os2) (show PO T 131 [kN Y,kN (Zu p q.y p.dy)] (kN (pI Y (Zu p q.y p.dy)))from Gv h.lC hyc (acQ _ _ _)) (by (refine vW @R @jT @kM ?_;try with_reducible exact True.intro);rfl) ?_ ?_
   ·intro o ho;have ho:o∈reach s3 (11+1) (.agg [.bool Y.neg,x3,x4])++(reach s3 FD (kN (Zu p q.y p.dy))++[]):=ho;rw [show reach s3 FD (kN (Zu p q.y p.dy))=[]from by (refine ew ?_;try with_reducible exact True.intro),aQ,aQ]at ho;obtain⟨c,hc,ho⟩:=Am.1 ho;rcases aH.1 hc with e|hc
    ·rw [e]at ho;simp [reach]at ho
    rcases aH.1 hc with e|hc
    ·rw [e]at ho;exact E5.reach 4 rfl rfl _ o ho
    rw [aT.1 hc]at ho;exact E5.reach 5 rfl rfl _ o ho
   intro Rr r q4 oq4 hRr G;obtain⟨_,rfl,hQ⟩:=G.ow.kV;obtain⟨y3,y4,rfl⟩:=hQ.rat
   obtain⟨os4,E0,hos⟩:=Ep.anl (a:=[.bool (zY c at' (i+1)).neg,y1,y2]) (b:=[.bool Y.neg,x3,x4]) (ta:=[.bool (zY c at' (i+1)).neg,ints (zY c at' (i+1)).mag,ints (zY c at' (i+1)).den]) (tb:=[.bool Y.neg,ints Y.mag,ints Y.den]) E5 rfl (s1:=s3) (fun q hq=>rfl) (aP _) hQ G.nd G.fresh G.old;have gl:=G.len;have n2:2∉os4:=fun hm=>by
    rcases hos 2 hm with h|h
    ·exact(E5.l (2,⟨6,[[.bool (zY c at' (i+1)).neg,y1,y2,.bool Y.neg,x3,x4]]⟩) (by simp)).2 h
    omega
   clear hos hRr G hQ E5 R MP M1 M2;rw [←ey]at E0;have E4:Ep q4 [.bool (zY c at' (i+1)).neg,y1,y2,.bool (Oq c at' (i+1)).neg,y3,y4] [.bool (zY c at' (i+1)).neg,ints (zY c at' (i+1)).mag,ints (zY c at' (i+1)).den,.bool (Oq c at' (i+1)).neg,ints (Oq c at' (i+1)).mag,ints (Oq c at' (i+1)).den] os4 [(0,⟨5,[c.cells]⟩),(1,⟨6,[[.bool false,.jL,.jL,.bool false,.jL,.jL]]⟩),(2,⟨6,[[.bool (zY c at' (i+1)).neg,y1,y2,.bool Y.neg,x3,x4]]⟩),(pi,⟨10,[p.cells]⟩)]:=E0;clear E0;have MP:=E4.at0 (p:=pi) (ob:=⟨10,[p.cells]⟩) (by simp);have M1:=E4.at0 (p:=1) (ob:=⟨6,[[.bool false,.jL,.jL,.bool false,.jL,.jL]]⟩) (by simp);have M2:=E4.at0 (p:=2) (ob:=⟨6,[[.bool (zY c at' (i+1)).neg,y1,y2,.bool Y.neg,x3,x4]]⟩) (by simp);have LF:=ah (ah (E4.leaf 1 rfl rfl) (E4.leaf 2 rfl rfl)) (ah (E4.leaf 4 rfl rfl) (E4.leaf 5 rfl rfl));refine ew8 @MP @M1 @M2 @g1 @LF @jT @kM @List.set_set.{0} ?_;refine⟨by unfold pz;rfl,?_⟩
   try rw [←ey]
   obtain⟨s5,hs⟩:∃s,q4.set 2 (some ⟨6,[[.bool (zY c at' (i+1)).neg,y1,y2,.bool (Oq c at' (i+1)).neg,y3,y4]]⟩)=s:=⟨_,rfl⟩;have E5:=E4.EF (p:=2) (ob:=⟨6,[[.bool (zY c at' (i+1)).neg,y1,y2,.bool (Oq c at' (i+1)).neg,y3,y4]]⟩) (L':=[(0,⟨5,[c.cells]⟩),(1,⟨6,[[.bool false,.jL,.jL,.bool false,.jL,.jL]]⟩),(2,⟨6,[[.bool (zY c at' (i+1)).neg,y1,y2,.bool (Oq c at' (i+1)).neg,y3,y4]]⟩),(pi,⟨10,[p.cells]⟩)]) n2 M2.2 (by simp;try omega);have hl2:q4.length=s5.length:=by rw [←hs];simp
   rw [hs]at E5;simp only [hs]
   try simp only [hl2]
   rw [hl2]at gl;clear E4 MP M1 M2 LF hs hl2 n2;refine⟨(i+1,s5,y1,y2,y3,y4,os4),by dsimp only;omega,⟨⟨by dsimp only;omega,hgs⟩,E5.sub (by intro q hq;simp only [List.mem_cons,List.not_mem_nil,or_false]at hq ⊢;rcases hq with h|h|h<;>simp [h])⟩,?_⟩;dsimp only
   (refine jW ?_;exact qw)
  have hn1:p.node≥(at'.length:Nat):=by omega
  refine Df @hc @hmx @L1 @L2 @hn1 ?_;exact hbad hn _
 have hie:i=c.ps.length:=by omega
 have hG:=afh (c:=c) (n:=at'.length) fun k hk=>hg k (by omega);have e1:FB c at'=((zY c at' c.ps.length).ok&&(Oq c at' c.ps.length).ok):=by unfold FB;rw [hb,hG,bU,bU]
 unfold acV;rw [e1,hfx hie,hfy hie];have c1:=J3 h.kL hxc;have c2:=J3 h.kL hyc;have LF:=ah (ah (E.leaf 1 rfl rfl) (E.leaf 2 rfl rfl)) (ah (E.leaf 4 rfl rfl) (E.leaf 5 rfl rfl));have R:=ah (ah (E.res1 1 rfl rfl (jS _ _)) (E.res1 2 rfl rfl (jS _ _))) (ah (E.res1 4 rfl rfl (jS _ _)) (E.res1 5 rfl rfl (jS _ _)));refine zK @hc @L1 @L2 @R @jT @kM ?_;refine jy c1 ?_
 cases h1:X.ok
 ·refine vW @L1 @L2 @LF ?_;exact Zv.PW
 refine Df @L1 @L2 @R @jT @kM ?_;refine jy c2 ?_
 cases h2:Y.ok
 ·refine vW @L1 @L2 @LF ?_;exact Zv.PW
 refine vW @L1 @L2 @LF ?_;have n1:=(E.l (1,⟨6,[[.bool false,.jL,.jL,.bool false,.jL,.jL]]⟩) (by simp)).2;have C:=E.c.set (o:=1) (x:=some ⟨6,[[.bool X.neg,x1,x2,.bool Y.neg,x3,x4]]⟩) n1;have hf:Fin (s.set 1 (some ⟨6,[[.bool X.neg,x1,x2,.bool Y.neg,x3,x4]]⟩)) (.agg [.bool X.neg,x1,x2,.bool Y.neg,x3,x4]) (ptV ⟨X,Y⟩):=rE (nN C.ow) C.nd;exact hf.PW
end Go.Ml
end
section
namespace Go.Ml
section
variable {s s1 S σ2 : Store} {a b c ta tb tc rs trs cs ts : List V} {os os2 : List Nat} {L L' : List (Nat × Obj)}
theorem Ep.to(E:Ep s cs ts os L)(ho:∀o∈os,jH S o=jH s o)(hL:∀q∈L',(q∈L∧jH S q.1=jH s q.1)∨(jH S q.1=some q.2∧q.1∉os)):Ep S cs ts os L':=by
 refine⟨E.c.frame ho,fun q hq=>?_⟩;rcases hL q hq with ⟨h1,h2⟩|h
 ·exact⟨h2.trans (E.l q h1).1,(E.l q h1).2⟩
 exact h
theorem Ep.aax(E:Ep s cs ts os L):∀o∈os,o<s.length:=fun o h=>E.c.lt o h
theorem Ep.auv(E:Ep s (a++(b++c)) (ta++(tb++tc)) os L)(hla:a.length=ta.length)(hlb:b.length=tb.length)(h1:∀o,o<s.length→jH s1 o=jH s o)(hl:s.length≤s1.length)(ho:nI σ2 rs trs os2)(hn:os2.Nodup)(hf:∀o∈os2,s1.length≤o)
  (old:∀o,o<s1.length→jH σ2 o=jH s1 o):∃os',Ep σ2 (a++(rs++c)) (ta++(trs++tc)) os' L∧∀o∈os',o∈os∨s1.length≤o:=by
 obtain⟨a1,a2,oa,obc,e,rfl,k1,k2⟩:=pq E.c.ow;obtain⟨rfl,rfl⟩:=dZ e (by rw [hla];exact k1.len.symm);obtain⟨b1,b2,ob,oc,e,rfl,k3,k4⟩:=pq k2;obtain⟨rfl,rfl⟩:=dZ e (by rw [hlb];exact k3.len.symm);have hlt:=fun o (h:o∈oa++(ob++oc))=>E.c.lt o h;have nd:=bg.1 E.c.nd;have nd2:=bg.1 nd.2.1;have fr:∀o∈oa++(ob++oc),jH σ2 o=jH s o:=fun o h=>by
  have:=hlt o h;rw [old o (by omega),h1 o this]
 refine⟨oa++(os2++oc),⟨⟨mD (k1.frame fun o h=>fr o (by simp [h])) (mD ho (k4.frame fun o h=>fr o (by simp [h]))),?_⟩,fun q hq=>⟨(old _ (aU (E.lt q hq) hl)).trans ((h1 _ (E.lt q hq)).trans (E.l q hq).1),fun hm=>?_⟩⟩,fun o h=>?_⟩
 ·rw [bg,bg];refine⟨nd.1,⟨hn,nd2.2.1,fun x hx y hy e=>?_⟩,fun x hx y hy e=>?_⟩
  ·have:=hf x hx;have:=hlt y (by simp [hy]);omega
  rcases aO.1 hy with hy|hy
  ·have:=hf y hy;have:=hlt x (by simp [hx]);omega
  exact nd.2.2 x hx y (dU _ hy) e
 ·simp only [aO]at hm;rcases hm with hm|hm|hm
  ·exact(E.l q hq).2 (by simp [hm])
  ·have:=hf _ hm;have:=E.lt q hq;omega
  exact(E.l q hq).2 (by simp [hm])
 simp only [aO]at h;rcases h with h|h|h
 ·exact .inl (by simp [h])
 ·exact .inr (hf o h)
 exact .inl (by simp [h])
theorem Ep.upd{p:Nat}{ob ob0:Obj}(E:Ep s (a++(b++c)) (ta++(tb++tc)) os L)(hp:(p,ob0)∈L)(hla:a.length=ta.length)(hlb:b.length=tb.length)(h1:∀o,o<s.length→jH s1 o=jH s o)(hl:s.length≤s1.length)(ho:nI σ2 rs trs os2)(hn:os2.Nodup)(hf:∀o∈os2,s1.length≤o)
  (old:∀o,o<s1.length→jH σ2 o=jH s1 o) (hL:∀q∈L',(q.1≠p∧q∈L)∨q=(p,ob)) (hs:s1.length≤σ2.length):∃os',Ep (σ2.set p (some ob)) (a++(rs++c)) (ta++(trs++tc)) os' L':=by
 obtain⟨os',E2,_⟩:=E.auv hla hlb h1 hl ho hn hf old;have hpl:=E.lt _ hp;exact⟨os',E2.EF (E2.l _ hp).2 (by dsimp only at hpl;omega) hL⟩
theorem Ep.cut(E:Ep s (a++(b++c)) (ta++(tb++tc)) os L)(hla:a.length=ta.length)(hlb:b.length=tb.length):∃os',Ep s (a++c) (ta++tc) os' L∧∀o∈os',o∈os:=by
 obtain⟨a1,a2,oa,obc,e,rfl,k1,k2⟩:=pq E.c.ow;obtain⟨rfl,rfl⟩:=dZ e (by rw [hla];exact k1.len.symm);obtain⟨b1,b2,ob,oc,e,rfl,k3,k4⟩:=pq k2;obtain⟨rfl,rfl⟩:=dZ e (by rw [hlb];exact k3.len.symm);have nd:=bg.1 E.c.nd;have nd2:=bg.1 nd.2.1;refine⟨oa++oc,⟨⟨mD k1 k4,?_⟩,fun q hq=>⟨(E.l q hq).1,fun hm=>(E.l q hq).2 ?_⟩⟩,fun o h=>?_⟩
 ·rw [bg];exact⟨nd.1,nd2.2.1,fun x hx y hy e=>nd.2.2 x hx y (dU _ hy) e⟩
 ·rcases aO.1 hm with h|h<;>simp [h]
 rcases aO.1 h with h|h<;>simp [h]
theorem Ep.swap(E:Ep s (a++(b++c)) (ta++(tb++tc)) os L)(hla:a.length=ta.length)(hlb:b.length=tb.length):∃os',Ep s (b++(a++c)) (tb++(ta++tc)) os' L∧∀o,o∈os'↔o∈os:=by
 obtain⟨a1,a2,oa,obc,e,rfl,k1,k2⟩:=pq E.c.ow;obtain⟨rfl,rfl⟩:=dZ e (by rw [hla];exact k1.len.symm);obtain⟨b1,b2,ob,oc,e,rfl,k3,k4⟩:=pq k2;obtain⟨rfl,rfl⟩:=dZ e (by rw [hlb];exact k3.len.symm);have nd:=bg.1 E.c.nd;have nd2:=bg.1 nd.2.1;have hm:∀o,o∈ob++(oa++oc)↔o∈oa++(ob++oc):=fun o=>by simp only [aO];constructor<;>rintro(h|h|h)<;>simp [h]
 refine⟨ob++(oa++oc),⟨⟨mD k3 (mD k1 k4),?_⟩,fun q hq=>⟨(E.l q hq).1,fun h=>(E.l q hq).2 ((hm _).1 h)⟩⟩,hm⟩;rw [bg,bg];refine⟨nd2.1,⟨nd.1,nd2.2.1,fun x hx y hy e=>nd.2.2 x hx y (dU _ hy) e⟩,fun x hx y hy e=>?_⟩;rcases aO.1 hy with hy|hy
 ·exact nd.2.2 y hy x (gq _ hx) e.symm
 exact nd2.2.2 x hx y hy e
end
theorem afi{σ:Store}{k:Nat}:∀{A T:List (List V)} {os:List Nat},(∀r∈A,r.length=k)→(∀r∈T,r.length=k)→A.length=T.length→nI σ A.flatten T.flatten os→uX σ A T os
 |
  [],[],os,_,_,_,h=>by
  simp only [List.flatten_nil,nI]at h;simp only [uX];exact h
 | [],t::T,_,_,_,h,_=>by simp at h
 |a::A,[],_,_,_,h,_=>by simp at h
 |
  a::A,t::T,os,ha,ht,hl,h=>by
  simp only [dI]at h;obtain⟨v1,v2,o1,o2,e,rfl,h1,h2⟩:=pq h;have hlen:=h1.len;have e1:=ha a (by simp);have e2:=ht t (by simp);obtain⟨rfl,rfl⟩:=dZ e (by omega);simp only [uX];exact⟨a,A,o1,o2,rfl,rfl,h1,afi (fun r hr=>ha r (by simp [hr])) (fun r hr=>ht r (by simp [hr])) (by simpa using hl) h2⟩
section
variable {s : Store} {A T : List (List V)} {a c ta tc : List V} {os : List Nat} {L : List (Nat × Obj)} {n p k : Nat}
theorem Ep.close(E:Ep s (A.flatten++c) (T.flatten++tc) os L)(hp:(p,⟨n,A⟩)∈L)(ha:∀r∈A,r.length=k)(ht:∀r∈T,r.length=k)(hl:A.length=T.length) :
  ∃os',Ep s (.kP p 0 A.length::c) (.sl n T::tc) os' (L.filter fun q=>q.1 != p):=by
 have hfl:A.flatten.length=T.flatten.length:=by
  have e1:∀(X:List (List V)),(∀r∈X,r.length=k)→X.flatten.length=X.length*k:=fun X=>by
   induction X with
   |nil=>intro _;simp
   |
    cons x X ih =>
    intro h;rw [dI,aJ,ih fun r hr=>h r (by simp [hr]),h x (by simp),aj,gQ];omega
  rw [e1 A ha,e1 T ht,hl]
 obtain⟨v1,v2,o1,o2,e,rfl,h1,h2⟩:=pq E.c.ow;obtain⟨rfl,rfl⟩:=dZ e (by rw [hfl];exact h1.len.symm);have hR:=afi ha ht hl h1;have hpo:=E.l _ hp;have nd:=bg.1 E.c.nd;have hv:lM s (.kP p 0 A.length) (.sl n T) (p::o1):=by
  simp only [lM];exact .inr ⟨p,A,o1,by rw [hl],hpo.1,rfl,hR⟩
 refine⟨(p::o1)++o2,⟨⟨oC hv h2,?_⟩,fun q hq=>?_⟩⟩
 ·simp only [bP,fC];exact⟨hpo.2,E.c.nd⟩
 obtain⟨hq1,hq2⟩:=iT.1 hq;have hne:q.1≠p:=by simpa using hq2
 refine⟨(E.l q hq1).1,fun hm=>?_⟩;simp only [bP,aH]at hm;rcases hm with hm|hm
 ·exact hne hm
 exact(E.l q hq1).2 hm
theorem Ep.X3(E:Ep s (A.flatten++c) (T.flatten++tc) os L)(hp:(p,⟨n,A⟩)∈L)(ha:∀r∈A,r.length=k)(ht:∀r∈T,r.length=k)(hl:A.length=T.length)(m:Nat)(hd:nZ m (.sl n T)):resolve s m (.kP p 0 A.length)=some (.sl n T):=by
 obtain⟨os',E2⟩:=E.close hp ha ht hl;obtain⟨v,vs,o1,o2,e,_,h1,h2⟩:=E2.c.ow.inv;simp only [List.cons.injEq]at e;obtain⟨rfl,rfl⟩:=e;exact OL m h1 hd
end
end Go.Ml
end
section
namespace Go.Ml
def Rd2(s:Store)(v w:V)(X Y:List R):Prop :=
 (X=[]∧Y=[]∧v=.jL∧w=.jL)∨∃p q,p≠q∧v=.kP p 0 X.length∧w=.kP q 0 Y.length∧jH s p=some ⟨3,X.map R.cells⟩∧jH s q=some ⟨3,Y.map R.cells⟩
theorem Rd2.fr{s s2:Store}{v w:V}{X Y:List R}(h:Rd2 s v w X Y)(hf:∀p,p<s.length→jH s2 p=jH s p):Rd2 s2 v w X Y:=by
 rcases h with h|⟨p,q,h1,h2,h3,h4,h5⟩
 ·exact .inl h
 exact .inr ⟨p,q,h1,h2,h3,(hf p (kK h4)).trans h4,(hf q (kK h5)).trans h5⟩
def LAt(n:Nat)(v:V)(A:List (List V))(M:List (Nat×Obj)):Prop:=(A=[]∧v=.jL∧M=[])∨∃p,v=.kP p 0 A.length∧M=[(p,⟨n,A⟩)]
def anm(x:Nat×List R):List V:=[.kP x.1 0 x.2.length]
def ahA(s:Store)(v:V)(Z:List (Nat×List R)):Prop:=((Z=[]∧v=.jL)∨∃q,v=.kP q 0 Z.length∧jH s q=some ⟨1,Z.map anm⟩)∧∀x∈Z,jH s x.1=some ⟨3,x.2.map R.cells⟩
theorem ahA.fr{s s2:Store}{v:V}{Z:List (Nat×List R)}(h:ahA s v Z)(hf:∀p,p<s.length→jH s2 p=jH s p):ahA s2 v Z :=
 ⟨h.1.imp id fun ⟨q,e,hq⟩=>⟨q,e,(hf q (kK hq)).trans hq⟩,fun x hx=>(hf _ (kK (h.2 x hx))).trans (h.2 x hx)⟩
theorem ahA.map{s:Store}{m:Nat}:∀{Z:List (Nat×List R)},(∀x∈Z,jH s x.1=some ⟨3,x.2.map R.cells⟩)→((Z.map anm).mapM fun r=>r.mapM (resolve s (m+2)))=some ((Z.map (·.2)).map fun r=>[KI r])
 | [],_=>rfl
 |
  x::Z,h=>by
  have hx:=h x (by simp);have e:resolve s (m+2) (.kP x.1 0 x.2.length)=some (KI x.2):=by
   have h2:=aei x.2;unfold resolve;simp only [hx];rw [if_pos (by simp),bZ,aY (by simp),zA (n:=m) h2];rfl
  have ih:=ahA.map (m:=m) (Z:=Z) fun y hy=>h y (by simp [hy]);rw [bC,bD,ih];have:(anm x).mapM (resolve s (m+2))=some [KI x.2]:=by
   unfold anm;rw [bD,e];rfl
  rw [this];rfl
theorem ahA.res{s:Store}{q:Nat}{Z:List (Nat×List R)}(h:∀x∈Z,jH s x.1=some ⟨3,x.2.map R.cells⟩)(hq:jH s q=some ⟨1,Z.map anm⟩):resolve s FD (.kP q 0 Z.length)=some (SG (Z.map (·.2))):=by
 show resolve s (9+2+1) _=_;unfold resolve;simp only [hq];rw [if_pos (by simp),bZ,aY (by simp),ahA.map h];rfl
def auw(s:Store)(n0:Nat)(v:V)(L:List R):Prop:=(L=[]∧v=.jL)∨∃p,v=.kP p 0 L.length∧n0≤p∧jH s p=some ⟨3,L.map R.cells⟩
theorem auw.fr{s s2:Store}{v:V}{n0:Nat}{L:List R}(h:auw s n0 v L)(hf:∀p,p<s.length→jH s2 p=jH s p):auw s2 n0 v L :=
 h.imp id fun ⟨q,e,hn,hq⟩=>⟨q,e,hn,(hf q (kK hq)).trans hq⟩
abbrev nbA(s:List Lk)(x:Int):List Int:=nbI s x s.length
inductive Rch (s:List Lk) (v:Int):Int→Prop
 |base:Rch s v v
 |step {a b:Int}:Rch s v a→b∈nbA s a→Rch s v b
theorem aqG{s:List Lk}{x b:Int}:b∈nbA s x↔∃l∈s,aha x l=some b:=by
 unfold nbA nbI;rw [bQ,List.mem_filterMap]
theorem auy{s:List Lk}(h:lH s=true){x b:Int}(hb:b∈nbA s x):0≤b∧b<10∧0≤x∧x<10:=by
 obtain⟨l,hl,e⟩:=aqG.1 hb;have:=uY (Ar h hl);unfold aha at e;split at e
 ·cases e;omega
 split at e
 ·cases e;omega
 cases e
theorem ano{s:List Lk}(h:lH s=true){v b:Int}(hr:Rch s v b):b=v∨(0≤b∧b<10∧0≤v∧v<10):=by
 induction hr with
 |base=>exact .inl rfl
 |
  step ha hb ih =>
  have:=auy h hb;rcases ih with rfl|ih
  ·exact .inr ⟨this.1,this.2.1,this.2.2⟩
  exact .inr ⟨this.1,this.2.1,ih.2.2⟩
theorem aiK{s:List Lk}(h:lH s=true){v:Int}{l:List Int}(hn:l.Nodup)(hl:∀a∈l,Rch s v a):l.length≤10:=by
 by_cases hv:0≤v∧v<10
 ·have:=Oa (a:=l) (b:=[0,1,2,3,4,5,6,7,8,9]) hn fun a ha=>by
   have hb:0≤a∧a<10:=by
    rcases ano h (hl a ha)with rfl|k
    ·exact hv
    exact⟨k.1,k.2.1⟩
   simp only [aH,bV,or_false];omega
  simpa using this
 have:=Oa (a:=l) (b:=[v]) hn fun a ha=>by
  rcases ano h (hl a ha)with rfl|k
  ·simp
  exact absurd k.2.2 hv
 simp at this;omega
def aiL(s:List Lk)(out:List Int)(x:Int):List Int:=(nbA s x).foldl Jf out
def aqH(s:List Lk)(out:List Int):List Int:=out.foldl (aiL s) out
def cpS(s:List Lk)(v:Int):Nat→List Int
 |0=>[v]
 |n+1=>aqH s (cpS s v n)
theorem afj:∀(l out:List Int) (a:Int),a∈l.foldl Jf out↔a∈out∨a∈l
 | [],out,a=>by simp
 |
  x::l,out,a=>by
  rw [dX,afj l,KZ,aH];constructor
  ·rintro((h|h)|h)
   ·exact .inr (.inl h)
   ·exact .inl h
   exact .inr (.inr h)
  rintro(h|h|h)
  ·exact .inl (.inr h)
  ·exact .inl (.inl h)
  exact .inr h
theorem afk:∀(l out:List Int),Asc out→Asc (l.foldl Jf out)
 | [],out,h=>h
 |x::l,out,h=>afk l _ (N9 h)
theorem Rk{s:List Lk}:∀(l out:List Int) (a:Int),a∈l.foldl (aiL s) out↔a∈out∨∃x∈l,a∈nbA s x
 | [],out,a=>by simp
 |
  x::l,out,a=>by
  rw [dX,Rk l];unfold aiL;rw [afj,or_assoc];simp only [aH,exists_eq_or_imp]
theorem aiM{s:List Lk}:∀(l out:List Int),Asc out→Asc (l.foldl (aiL s) out)
 | [],out,h=>h
 |x::l,out,h=>aiM l _ (afk _ _ h)
theorem X4(s:List Lk)(v:Int):∀n,Asc (cpS s v n)
 |0=>by unfold Asc cpS;simp
 |n+1=>aiM _ _ (X4 s v n)
theorem X5(s:List Lk)(v:Int):∀n,∀a∈cpS s v n,Rch s v a
 |0,a,h=>by simp [cpS]at h;subst h;exact .base
 |
  n+1,a,h=>by
  rcases(Rk _ _ _).1 h with h|⟨x,hx,h⟩
  ·exact X5 s v n a h
  exact .step (X5 s v n x hx) h
theorem afl(s:List Lk)(v:Int):∀n,v∈cpS s v n
 |0=>by simp [cpS]
 |n+1=>(Rk _ _ _).2 (.inl (afl s v n))
theorem aqI{s:List Lk}(h:lH s=true)(v:Int)(n:Nat):(cpS s v n).length≤10:=aiK h (Kv (X4 s v n)) (X5 s v n)
def Closed(s:List Lk)(l:List Int):Prop:=∀a∈l,∀b∈nbA s a,b∈l
theorem afm{s:List Lk}(v:Int):∀n,Closed s (cpS s v n)∨n+1≤(cpS s v n).length
 |0=>.inr (by simp [cpS])
 |
  n+1=>by
  have hsub:∀a∈cpS s v n,a∈cpS s v (n+1):=fun a ha=>(Rk _ _ _).2 (.inl ha);rcases Classical.em (Closed s (cpS s v n))with hc|hc
  ·left;intro a ha b hb;have ha':a∈cpS s v n:=by
    rcases(Rk _ _ _).1 ha with h|⟨x,hx,h⟩
    ·exact h
    exact hc x hx a h
   exact hsub b (hc a ha' b hb)
  right;have hl:=(afm v n).resolve_left hc;have:∃a∈cpS s v n,∃b∈nbA s a,b∉cpS s v n:=by
   refine Classical.byContradiction fun hne=>hc fun a ha b hb=>Classical.byContradiction fun hnb=>hne ⟨a,ha,b,hb,hnb⟩
  obtain⟨a,ha,b,hb,hnb⟩:=this;have:=Oa (a:=b::cpS s v n) (b:=cpS s v (n+1)) (fC.2 ⟨hnb,Kv (X4 s v n)⟩) fun x hx=>by
   rcases aH.1 hx with rfl|hx
   ·exact(Rk _ _ _).2 (.inr ⟨a,ha,hb⟩)
   exact hsub x hx
  simp only [aj]at this;omega
theorem ahB{s:List Lk}(h:lH s=true)(v:Int):Closed s (cpS s v 10):=by
 rcases afm (s:=s) v 10 with hc|hc
 ·exact hc
 have:=aqI h v 10;omega
def cpV(s:List Lk)(v:Int):List Int:=cpS s v 10
theorem aqJ{s:List Lk}(h:lH s=true){v a:Int}:a∈cpV s v↔Rch s v a:=by
 constructor
 ·exact X5 s v 10 a
 intro hr
 induction hr with
 |base=>exact afl s v 10
 |step _ hb ih=>exact ahB h v _ ih _ hb
theorem akt{l:List Int}(hn:l.Nodup):Asc (WH l):=by
 have h1:(WH l).Pairwise fun a b=>(decide (a≤b))=true:=by
  unfold WH;exact List.pairwise_mergeSort (fun a b c h1 h2=>by simp at *;omega) (fun a b=>by simp;omega) l
 have h2:(WH l).Nodup:=(List.mergeSort_perm l _).nodup_iff.2 hn;unfold Asc;refine(h1.and h2).imp fun ⟨h,hne⟩=>?_;have:_≤_:=of_decide_eq_true h;omega
theorem aku{l:List Int}{a:Int}:a∈WH l↔a∈l:=(List.mergeSort_perm l _).mem_iff
theorem aqK{s:List Lk}(h:lH s=true){v:Int}{l:List Int}(hn:l.Nodup)(hv:v∈l)(hr:∀a∈l,Rch s v a)(hc:Closed s l):WH l=cpV s v:=by
 refine XQ (akt hn) (X4 s v 10) fun a=>?_;rw [aku,aqJ h];constructor
 ·exact hr a
 intro hra
 induction hra with
 |base=>exact hv
 |step _ hb ih=>exact hc _ ih _ hb
def addN(l:List Int)(u:Int):List Int:=if u∈l then l else l++[u]
theorem anp{l:List Int}{u a:Int}:a∈addN l u↔a∈l∨a=u:=by
 unfold addN;split
 ·rename_i h;constructor
  ·exact .inl
  rintro(k|rfl)
  ·exact k
  exact h
 simp
theorem aqL{l:List Int}{u:Int}(h:l.Nodup):(addN l u).Nodup:=by
 unfold addN;split
 ·exact h
 rename_i hu;rw [bg];exact⟨h,by simp,fun a ha b hb e=>by simp at hb;subst hb;exact hu (e▸ha)⟩
theorem afn:∀(us l:List Int) (a:Int),a∈us.foldl addN l↔a∈l∨a∈us
 | [],l,a=>by simp
 |
  u::us,l,a=>by
  rw [dX,afn us,anp,aH,or_assoc]
theorem aiN:∀(us l:List Int),l.Nodup→(us.foldl addN l).Nodup
 | [],l,h=>h
 |u::us,l,h=>aiN us _ (aqL h)
theorem afo:∀(us l:List Int),∃r,us.foldl addN l=l++r
 | [],l=>⟨[],by simp⟩
 |
  u::us,l=>by
  obtain⟨r,e⟩:=afo us (addN l u);rw [dX,e];unfold addN;split
  ·exact⟨r,rfl⟩
  exact⟨u::r,by simp⟩
structure Bfs (s:List Lk) (v:Int) (i:Nat) (l:List Int):Prop where
 nd:l.Nodup
 mem:v∈l
 rch:∀a∈l,Rch s v a
 le:i≤l.length
 cl:∀j,j<i→∀b∈nbA s (l.getD j 0),b∈l
theorem Bfs.start(s:List Lk)(v:Int):Bfs s v 0 [v]:=⟨by simp,by simp,fun a h=>by simp at h;subst h;exact .base,by simp,fun j h=>absurd h (iG _)⟩
theorem Bfs.next{s:List Lk}{v:Int}{i:Nat}{l:List Int}(h:Bfs s v i l)(hi:i<l.length):Bfs s v (i+1) ((nbA s (l.getD i 0)).foldl addN l):=by
 obtain⟨r,e⟩:=afo (nbA s (l.getD i 0)) l;have hm:=afn (nbA s (l.getD i 0)) l;have hli:l.getD i 0∈l:=by rw [ak,aB hi];exact dP hi
 refine⟨aiN _ _ h.nd,(hm v).2 (.inl h.mem),fun a ha=>?_,by rw [e,aJ];omega,fun j hj b hb=>?_⟩
 ·rcases(hm a).1 ha with ha|ha
  ·exact h.rch a ha
  exact .step (h.rch _ hli) ha
 have hjl:j<l.length:=by omega
 have ej:((nbA s (l.getD i 0)).foldl addN l).getD j 0=l.getD j 0:=by
  rw [e,ak,ak,bH hjl]
 rw [ej]at hb;by_cases hji:j=i
 ·subst hji;exact(hm b).2 (.inr hb)
 exact(hm b).2 (.inl (h.cl j (by omega) b hb))
theorem Bfs.len{s:List Lk}(hk:lH s=true){v:Int}{i:Nat}{l:List Int}(h:Bfs s v i l):l.length≤10:=aiK hk h.nd h.rch
theorem Bfs.fin{s:List Lk}(hk:lH s=true){v:Int}{l:List Int}(h:Bfs s v l.length l):WH l=cpV s v :=
 aqK hk h.nd h.mem h.rch fun a ha b hb=>by
  obtain⟨j,hj⟩:=bF.1 ha;have hjl:=(aK.1 hj).1;exact h.cl j hjl b (by rw [ak,hj];exact hb)
def LnA(s:Store)(v:V)(L:List Lk):Prop:=(L=[]∧v=.jL)∨∃p,v=.kP p 0 L.length∧jH s p=some ⟨11,L.map Lk.cells⟩
theorem LnA.fr{s s2:Store}{v:V}{L:List Lk}(h:LnA s v L)(hf:∀p,p<s.length→jH s2 p=jH s p):LnA s2 v L :=
 h.imp id fun ⟨q,e,hq⟩=>⟨q,e,(hf q (kK hq)).trans hq⟩
abbrev MF:=Nat→List R
def elF(M:MF)(i j:Nat):R:=(M i).getD j default
def rrP(M:MF)(k:Nat):Nat→Nat→Nat
 |0,p=>p
 |f+1,p=>if BH (elF M p k)=0 then rrP M k f (p+1)else p
def aqN(n:Nat)(M:MF)(k:Nat):Nat:=rrP M k (n-k) k
def QE(M:MF)(k p:Nat):MF:=fun i=>if i=p then M k else if i=k then M p else M i
def aiO(r:List R)(k:Nat):List R:=r.map fun x=>DC x (r.getD k default)
def aiP(r b:List R)(f:R):List R:=(List.range r.length).map fun j=>NZ (r.getD j default) (mulR (b.getD j default) f)
def anq(n:Nat)(M:MF)(k:Nat):MF:=QE M k (aqN n M k)
def aiQ(n:Nat)(M:MF)(k:Nat):MF:=fun i=>if i=k then aiO (anq n M k k) k else anq n M k i
def aiR(M:MF)(k:Nat):MF:=fun i=>if i=k then M k else aiP (M i) (M k) (elF M i k)
def ayq(n:Nat)(M:MF):Bool:=allB n fun i=>(M i).all R.ok
def anr(n:Nat)(M:MF)(k:Nat):Option MF :=
 if (decide (aqN n M k<n)&&ayq n (aiR (aiQ n M k) k))=true then some (aiR (aiQ n M k) k)else none
def OkM(n c:Nat)(M:MF):Prop:=∀i,i<n→(M i).length=c∧∀x∈M i,x.cn
theorem OkM.el{n c:Nat}{M:MF}(h:OkM n c M){i j:Nat}(hi:i<n)(hj:j<c):(elF M i j).cn:=(h i hi).2 _ (getD_mem (by rw [(h i hi).1];exact hj))
theorem akv(r:List R)(k:Nat):(aiO r k).length=r.length:=by unfold aiO;simp
theorem akw(r b:List R)(f:R):(aiP r b f).length=r.length:=by unfold aiP;simp
theorem ant(r:List R)(k:Nat):∀x∈aiO r k,x.cn:=fun x hx=>by
 obtain⟨y,_,rfl⟩:=bM.1 hx;exact MC _ _
theorem anu(r b:List R)(f:R):∀x∈aiP r b f,x.cn:=fun x hx=>by
 obtain⟨y,_,rfl⟩:=bM.1 hx;exact XH _ _
theorem OkM.swap{n c:Nat}{M:MF}(h:OkM n c M){k p:Nat}(hk:k<n)(hp:p<n):OkM n c (QE M k p):=fun i hi=>by
 unfold QE;split
 ·exact h k hk
 split
 ·exact h p hp
 exact h i hi
theorem OkM.one{n c:Nat}{M:MF}(h:OkM n c M){k:Nat}(hk:k<n)(hp:aqN n M k<n):OkM n c (anq n M k):=h.swap hk hp
theorem OkM.two{n c:Nat}{M:MF}(h:OkM n c M){k:Nat}(hk:k<n)(hp:aqN n M k<n):OkM n c (aiQ n M k):=fun i hi=>by
 unfold aiQ;split
 ·exact⟨by rw [akv];exact(h.one hk hp k hk).1,ant _ _⟩
 exact h.one hk hp i hi
theorem OkM.tri{n c:Nat}{M:MF}(h:OkM n c M){k:Nat}(hk:k<n):OkM n c (aiR M k):=fun i hi=>by
 unfold aiR;split
 ·exact h k hk
 exact⟨by rw [akw];exact(h i hi).1,anu _ _ _⟩
theorem OkM.step{n c:Nat}{M M':MF}(h:OkM n c M){k:Nat}(hk:k<n)(e:anr n M k=some M'):OkM n c M':=by
 unfold anr at e;split at e
 ·rename_i hc;simp only [aG,decide_eq_true_eq]at hc
  cases e
  exact(h.two hk hc.1).tri hk
 cases e
def TB{α:Type}(a b:List α)(j:Nat):List α:=a.take j++b.drop j
theorem auA{α:Type}(a b:List α):TB a b 0=b:=by simp [TB]
theorem anv{α:Type}(a b:List α)(h:b.length≤a.length)(h2:a.length≤b.length):TB a b b.length=a:=by
 unfold TB;rw [fO,aQ,aY h2]
theorem anw{α:Type}{a b:List α}{j:Nat}(h:a.length=b.length):(TB a b j).length=b.length:=by simp [TB];omega
theorem anx{α:Type}{a b:List α}{j:Nat}{x d:α}(h:a.length=b.length)(hj:j<b.length)(hx:a.getD j d=x):(TB a b j).set j x=TB a b (j+1):=by
 have e:(a.take j).length=j:=by simp;omega
 have hja:j<a.length:=by omega
 unfold TB;rw [gG _ _ (by omega),e,jd,bT hj,gU];have e2:a.take (j+1)=a.take j++[a[j]]:=by rw [dD,aB hja];rfl
 have e3:x=a[j]:=by rw [←hx,ak,aB hja];rfl
 rw [e2,bJ,e3];rfl
def DN(s:Store)(v:V)(l:List Int):Prop:=v=ints l∨∃o,v=.kP o 0 l.length∧jH s o=some ⟨1,kF l⟩
def JF(s:Store)(c:List V)(x:R):Prop:=∃v1 v2,c=[.bool x.neg,v1,v2]∧DN s v1 x.mag∧DN s v2 x.den
def Oi(s:Store)(A:List (List V))(r:List R):Prop:=A.length=r.length∧∀j,j<r.length→JF s (A.getD j []) (r.getD j default)
def Kp(s s2:Store):Prop:=∀o l,jH s o=some ⟨1,kF l⟩→jH s2 o=jH s o
theorem Kp.refl(s:Store):Kp s s:=fun _ _ _=>rfl
theorem Kp.trans{a b c:Store}(h:Kp a b)(k:Kp b c):Kp a c:=fun o l e=>(k o l ((h o l e).trans e)).trans (h o l e)
theorem Kp.old{s s2:Store}(h:∀o,o<s.length→jH s2 o=jH s o):Kp s s2:=fun o l e=>h o (kK e)
theorem DN.fr{s s2:Store}{v:V}{l:List Int}(h:DN s v l)(k:Kp s s2):DN s2 v l:=h.imp id fun ⟨o,e,ho⟩=>⟨o,e,(k o l ho).trans ho⟩
theorem JF.fr{s s2:Store}{c:List V}{x:R}(h:JF s c x)(k:Kp s s2):JF s2 c x:=by
 obtain⟨v1,v2,e,h1,h2⟩:=h;exact⟨v1,v2,e,h1.fr k,h2.fr k⟩
theorem Oi.fr{s s2:Store}{A:List (List V)}{r:List R}(h:Oi s A r)(k:Kp s s2):Oi s2 A r:=⟨h.1,fun j hj=>(h.2 j hj).fr k⟩
theorem DN.leaf{s:Store}{v:V}{l:List Int}(h:DN s v l):v.leaf=true:=by
 rcases h with rfl|⟨o,rfl,_⟩<;>rfl
theorem DN.res{s:Store}{v:V}{l:List Int}(h:DN s v l)(n:Nat):resolve s (n+3) v=some (ints l):=by
 rcases h with rfl|⟨o,rfl,ho⟩
 ·rfl
 have:=Jh (n:=n+1) ho (pF l)
 rwa [zB]at this
theorem afq{s:Store}(l:List Int):DN s (ints l) l:=.inl rfl
theorem anz{s:Store}(x:R):JF s x.cells x:=⟨_,_,rfl,afq _,afq _⟩
theorem aqO{s:Store}(r:List R):Oi s (r.map R.cells) r:=⟨by simp,fun j hj=>by rw [mg hj];exact anz _⟩
theorem JF.mm{s:Store}{c:List V}{x:R}(h:JF s c x)(n:Nat):c.mapM (resolve s (n+3))=some x.cells:=by
 obtain⟨v1,v2,rfl,h1,h2⟩:=h;simp only [bD,List.mapM_nil,h1.res,h2.res];rfl
theorem JF.res{s:Store}{c:List V}{x:R}(h:JF s c x):resolve s FD (.agg c)=some (kN x):=by
 show resolve s (8+3+1) _=_;rw [resolve,h.mm 8];rfl
theorem Oi.mm{s:Store}{A:List (List V)}{r:List R}(h:Oi s A r)(n:Nat):(A.mapM fun (c:List V)=>c.mapM (resolve s (n+3)))=some (r.map R.cells):=by
 obtain⟨hl,h⟩:=h
 induction r generalizing A with
 |
  nil =>
  have:A=[]:=bf hl;subst this;rfl
 |
  cons x r ih =>
  rcases A with _|⟨a,A⟩
  ·simp at hl
  have h0:=h 0 (by simp);simp only [List.getD_cons_zero]at h0;rw [bD,h0.mm n,ih (by simpa using hl) fun j hj=>by simpa using h (j+1) (by simpa using hj)];rfl
theorem Oi.aqP{s:Store}{A:List (List V)}{r:List R}{p:Nat}(h:Oi s A r)(hp:jH s p=some ⟨3,A⟩)(n:Nat):resolve s (n+4) (.kP p 0 r.length)=some (KI r):=by
 rw [resolve];simp only [hp];rw [if_pos (by rw [h.1];omega),bZ,aY (by rw [h.1];omega),h.mm n];rfl
theorem Oi.res{s:Store}{A:List (List V)}{r:List R}{p:Nat}(h:Oi s A r)(hp:jH s p=some ⟨3,A⟩):resolve s FD (.kP p 0 r.length)=some (KI r):=h.aqP hp 8
theorem aiS{s:Store}{v:V}{l:List Int}{os:List Nat}(h:lM s v (ints l) os):DN s v l∧∀o∈os,∃l,jH s o=some ⟨1,kF l⟩:=by
 rcases h.wX with ⟨rfl,rfl,rfl⟩|⟨o,rfl,ho,rfl⟩
 ·exact⟨.inl rfl,by simp⟩
 exact⟨.inr ⟨o,rfl,ho⟩,fun q hq=>by rw [aT.1 hq];exact⟨_,ho⟩⟩
theorem aqQ{s:Store}{c:List V}{x:R}{os:List Nat}(h:nI s c x.cells os):JF s c x∧∀o∈os,∃l,jH s o=some ⟨1,kF l⟩:=by
 obtain⟨cs,rfl,b⟩:=h.vP;obtain⟨v1,cs,o1,o2,rfl,rfl,c,d⟩:=b.inv;obtain⟨v2,cs,o3,o4,rfl,rfl,e,f⟩:=d.inv;obtain⟨rfl,rfl⟩:=f.C9;have k1:=aiS c;have k2:=aiS e;refine⟨⟨v1,v2,rfl,k1.1,k2.1⟩,fun o ho=>?_⟩;rcases aO.1 ho with ho|ho
 ·exact k1.2 o ho
 exact k2.2 o (by simpa using ho)
theorem acS{s:Store}:∀{r:List R} {A:List (List V)} {os:List Nat},uX s A (r.map R.cells) os→Oi s A r∧∀o∈os,∃l,jH s o=some ⟨1,kF l⟩
 |
  [],A,os,h=>by
  simp only [fZ,uX]at h;obtain⟨rfl,rfl⟩:=h;exact⟨⟨rfl,by simp⟩,by simp⟩
 |
  x::r,A,os,h=>by
  simp only [bC,uX]at h;obtain⟨v,vs',o1,o2,rfl,rfl,h1,h2⟩:=h;have k1:=aqQ h1;have k2:=acS h2;refine⟨⟨by simp [k2.1.1],fun j hj=>?_⟩,fun o ho=>?_⟩
  ·cases j with
   |zero=>exact k1.1
   |succ j=>simpa using k2.1.2 j (by simpa using hj)
  rcases aO.1 ho with ho|ho
  ·exact k1.2 o ho
  exact k2.2 o ho
def TF(n c:Nat)(rp:Nat→Nat):List (List V):=(List.range n).map fun i=>[.kP (rp i) 0 c]
theorem U0(n c:Nat)(rp:Nat→Nat):(TF n c rp).length=n:=by simp [TF]
theorem aqR{n c:Nat}{rp:Nat→Nat}{i:Nat}(h:i<n):(TF n c rp)[i]? = some [.kP (rp i) 0 c]:=by
 unfold TF;rw [bG,dw h];rfl
theorem afr{n c:Nat}{rp:Nat→Nat}{i p:Nat}:(TF n c rp).set i [.kP p 0 c]=TF n c fun x=>if x=i then p else rp x:=by
 apply fF
 intro x;unfold TF;rw [eX];simp only [aV,jF,bG];by_cases h:i=x
 ·subst h;by_cases hn:i<n
  ·simp [hn]
  rw [if_pos rfl,if_neg hn,bn (by simpa using hn)];rfl
 rw [if_neg h];by_cases hn:x<n
 ·rw [dw hn];simp only [bY];rw [if_neg fun e:x=i=>h e.symm]
 rw [bn (by simpa using hn)];rfl
structure WZ (s:Store) (q n c:Nat) (rp:Nat→Nat) (A:Nat→List (List V)) (M:MF):Prop where
 inj:∀i j,i<n→j<n→rp i=rp j→i=j
 out:jH s q=some ⟨1,TF n c rp⟩
 row:∀i,i<n→jH s (rp i)=some ⟨3,A i⟩
 cel:∀i,i<n→Oi s (A i) (M i)
theorem WZ.lt{s:Store}{q n c:Nat}{rp:Nat→Nat}{A:Nat→List (List V)}{M:MF}(h:WZ s q n c rp A M):q<s.length∧∀i,i<n→rp i<s.length:=⟨kK h.out,fun i hi=>kK (h.row i hi)⟩
theorem WZ.ne{s:Store}{q n c:Nat}{rp:Nat→Nat}{A:Nat→List (List V)}{M:MF}(h:WZ s q n c rp A M){i:Nat}(hi:i<n):rp i≠q:=fun e=>by
 have:=h.row i hi;rw [e,h.out]at this;cases this
theorem WZ.fr{s s2:Store}{q n c:Nat}{rp:Nat→Nat}{A:Nat→List (List V)}{M:MF}(h:WZ s q n c rp A M)(hf:∀p,p<s.length→jH s2 p=jH s p):WZ s2 q n c rp A M :=
 ⟨h.inj,(hf _ h.lt.1).trans h.out,fun i hi=>(hf _ (h.lt.2 i hi)).trans (h.row i hi),fun i hi=>(h.cel i hi).fr (.old hf)⟩
theorem WZ.res{s:Store}{q n c:Nat}{rp:Nat→Nat}{A:Nat→List (List V)}{M:MF}(h:WZ s q n c rp A M)(hl:∀i,i<n→(M i).length=c):resolve s FD (.kP q 0 n)=some (SG ((List.range n).map M)):=by
 show resolve s (11+1) _=_;rw [resolve];simp only [h.out];rw [if_pos (by rw [U0];omega),bZ,aY (by rw [U0];omega)];have:((TF n c rp).mapM fun (r:List V)=>r.mapM (resolve s 11))=some ((List.range n).map fun i=>[KI (M i)]):=by
  unfold TF;rw [List.mapM_map];refine mapM_some fun i hi=>?_;have hi:=eF.1 hi;have h1:=(h.cel i hi).aqP (h.row i hi) 7;rw [hl i hi]at h1;simp only [Function.comp,bD,List.mapM_nil];rw [h1];rfl
 rw [this,bY];unfold SG;rw [fK];rfl
theorem WZ.put{s s2:Store}{q n c k:Nat}{rp:Nat→Nat}{A:Nat→List (List V)}{M:MF}{A2:List (List V)}{r:List R}(h:WZ s q n c rp A M)(hk:k<n)(hr:jH s2 (rp k)=some ⟨3,A2⟩)(ho:∀o,o<s.length→o≠rp k→jH s2 o=jH s o)(hok:Oi s2 A2 r) :
  WZ s2 q n c rp (fun i=>if i=k then A2 else A i) (fun i=>if i=k then r else M i):=by
 have kp:Kp s s2:=fun o l e=>ho o (kK e) fun e2=>by rw [e2,h.row k hk]at e;cases e
 refine⟨h.inj,(ho _ h.lt.1 fun e=>h.ne hk e.symm).trans h.out,fun i hi=>?_,fun i hi=>?_⟩
 ·by_cases e:i=k
  ·subst e;rw [if_pos rfl];exact hr
  rw [if_neg e];exact(ho _ (h.lt.2 i hi) fun e2=>e (h.inj i k hi hk e2)).trans (h.row i hi)
 by_cases e:i=k
 ·subst e;rw [if_pos rfl,if_pos rfl];exact hok
 rw [if_neg e,if_neg e];exact(h.cel i hi).fr kp
theorem WZ.ext{s:Store}{q n c:Nat}{rp:Nat→Nat}{A:Nat→List (List V)}{M M2:MF}(h:WZ s q n c rp A M)(e:∀i,i<n→M i=M2 i):WZ s q n c rp A M2 :=
 ⟨h.inj,h.out,h.row,fun i hi=>e i hi▸h.cel i hi⟩
theorem Zw{n c:Nat}{rp:Nat→Nat}(hn:0<n)(l:List Int):TF n c rp≠kF l:=fun e=>by
 have h1:=aqR (c:=c) (rp:=rp) hn;rw [e]at h1
 cases l with
 |nil=>simp [kF]at h1
 |cons x l=>simp [kF]at h1
theorem WZ.swap{s:Store}{q n c k p:Nat}{rp:Nat→Nat}{A:Nat→List (List V)}{M:MF}(h:WZ s q n c rp A M)(hk:k<n)(hp:p<n){rows:List (List V)}(hrows:rows=((TF n c rp).set k [.kP (rp p) 0 c]).set p [.kP (rp k) 0 c]){s2:Store}(hq:jH s2 q=some ⟨1,rows⟩)(ho:∀o,o≠q→o<s.length→jH s2 o=jH s o) :
  WZ s2 q n c (fun x=>if x=p then rp k else if x=k then rp p else rp x) (fun x=>if x=p then A k else if x=k then A p else A x) (QE M k p):=by
 have kp:Kp s s2:=fun o l e=>ho o (fun e2=>by
  rw [e2,h.out]at e
  injection e with e
  injection e with _ e
  exact Zw (by omega) l e) (kK e)
 have hr:=fun i hi=>(ho _ (h.ne hi) (h.lt.2 i hi)).trans (h.row i hi);have hc:=fun i hi=>(h.cel i hi).fr kp;refine⟨fun i j hi hj e=>?_,?_,fun i hi=>?_,fun i hi=>?_⟩
 ·have inj:=h.inj;by_cases a1:i=p<;>by_cases b1:j=p
  ·omega
  ·rw [if_pos a1,if_neg b1]at e;by_cases b2:j=k
   ·rw [if_pos b2]at e;have:=inj k p hk hp e;omega
   rw [if_neg b2]at e;have:=inj k j hk hj e;omega
  ·rw [if_neg a1,if_pos b1]at e;by_cases b2:i=k
   ·rw [if_pos b2]at e;have:=inj p k hp hk e;omega
   rw [if_neg b2]at e;have:=inj i k hi hk e;omega
  rw [if_neg a1,if_neg b1]at e;by_cases a2:i=k<;>by_cases b2:j=k
  ·omega
  ·rw [if_pos a2,if_neg b2]at e;have:=inj p j hp hj e;omega
  ·rw [if_neg a2,if_pos b2]at e;have:=inj i p hi hp e;omega
  rw [if_neg a2,if_neg b2]at e;exact inj i j hi hj e
 ·rw [hq,hrows,afr,afr]
 ·split
  ·exact hr k hk
  split
  ·exact hr p hp
  exact hr i hi
 unfold QE;split
 ·exact hc k hk
 split
 ·exact hc p hp
 exact hc i hi
structure OwF (s:Store) (A:Nat→List (List V)) (M:MF) (f:Nat→List Nat) (S:Nat→Prop):Prop where
 ow:∀i,S i→uX s (A i) ((M i).map R.cells) (f i)
 nd:∀i,S i→(f i).Nodup
 ap:∀i j,S i→S j→i≠j→∀o∈f i,o∉f j
theorem OwF.kp{s s2:Store}{A:Nat→List (List V)}{M:MF}{f:Nat→List Nat}{S:Nat→Prop}(h:OwF s A M f S)(k:Kp s s2):OwF s2 A M f S :=
 ⟨fun i hi=>(h.ow i hi).frame fun o ho=>by obtain⟨l,hl⟩:=(acS (h.ow i hi)).2 o ho;exact k o l hl,h.nd,h.ap⟩
theorem OwF.put{s s2:Store}{A:Nat→List (List V)}{M:MF}{f:Nat→List Nat}{S:Nat→Prop}{k:Nat}{A2:List (List V)}{r:List R}{os:List Nat}(h:OwF s A M f S)(kp:Kp s s2)(ho:uX s2 A2 (r.map R.cells) os)(hn:os.Nodup)(hf:∀o∈os,s.length≤o) :
  OwF s2 (fun i=>if i=k then A2 else A i) (fun i=>if i=k then r else M i) (fun i=>if i=k then os else f i) (fun i=>S i∨i=k):=by
 have h2:=h.kp kp;have lt:∀i,S i→∀o∈f i,o<s.length:=fun i hi=>(h.ow i hi).lt;refine⟨fun i hi=>?_,fun i hi=>?_,fun i j hi hj hne o h1 h3=>?_⟩
 ·by_cases e:i=k
  ·subst e;rw [if_pos rfl,if_pos rfl,if_pos rfl];exact ho
  rw [if_neg e,if_neg e,if_neg e];exact h2.ow i (hi.resolve_right e)
 ·by_cases e:i=k
  ·subst e;rw [if_pos rfl];exact hn
  rw [if_neg e];exact h.nd i (hi.resolve_right e)
 by_cases e:i=k
 ·by_cases e2:j=k
  ·omega
  rw [if_pos e]at h1;rw [if_neg e2]at h3;have:=hf o h1;have:=lt j (hj.resolve_right e2) o h3;omega
 rw [if_neg e]at h1;by_cases e2:j=k
 ·rw [if_pos e2]at h3;have:=hf o h3;have:=lt i (hi.resolve_right e) o h1;omega
 rw [if_neg e2]at h3;exact h.ap i j (hi.resolve_right e) (hj.resolve_right e2) hne o h1 h3
theorem OwF.ext{s:Store}{A:Nat→List (List V)}{M M2:MF}{f:Nat→List Nat}{S S2:Nat→Prop}(h:OwF s A M f S)(e:∀i,S2 i→S i∧M i=M2 i):OwF s A M2 f S2 :=
 ⟨fun i hi=>(e i hi).2▸h.ow i (e i hi).1,fun i hi=>h.nd i (e i hi).1,fun i j hi hj=>h.ap i j (e i hi).1 (e j hj).1⟩
theorem OwF.fin{s:Store}{q n c:Nat}{rp:Nat→Nat}{A:Nat→List (List V)}{M:MF}{f:Nat→List Nat}(h:WZ s q n c rp A M)(ho:OwF s A M f fun i=>i<n)(hc:0<c)(hl:∀i,i<n→(M i).length=c):Fin s (.kP q 0 n) (SG ((List.range n).map M)):=by
 have key:∀m,m≤n→∃os,uX s ((List.range m).map fun i=>[.kP (rp i) 0 c]) (((List.range m).map M).map fun r=>[KI r]) os∧os.Nodup∧∀o∈os,∃i,i<m∧(o=rp i∨o∈f i):=by
  intro m
  induction m with
  |zero=>intro _;exact⟨[],by simp [uX],.nil,by simp⟩
  |
   succ m ih =>
   intro hm;obtain⟨os,k1,k2,k3⟩:=ih (by omega);have hm':m<n:=by omega
   have kinds:∀i,i<n→∀o∈f i,∃l,jH s o=some ⟨1,kF l⟩:=fun i hi=>(acS (ho.ow i hi)).2;have hnf:∀i j,i<n→j<n→rp i∉f j:=fun i j hi hj hm=>by
    obtain⟨l,hl⟩:=kinds j hj _ hm;rw [h.row i hi]at hl;cases hl
   have hv:lM s (.kP (rp m) 0 c) (KI (M m)) (rp m::f m):=by
    unfold KI;simp only [lM];exact .inr ⟨rp m,A m,f m,by rw [aV,hl m hm'],h.row m hm',rfl,ho.ow m hm'⟩
   refine⟨os++(rp m::f m),?_,?_,fun o ho'=>?_⟩
   ·rw [iZ,bK,bK,bK];exact KQ k1 (ain (abj hv))
   ·rw [bg,fC];refine⟨k2,⟨hnf m m hm' hm',ho.nd m hm'⟩,fun x hx y hy e=>?_⟩;subst e;obtain⟨i,hi,hi2⟩:=k3 x hx;rcases aH.1 hy with hy|hy
    ·rcases hi2 with hi2|hi2
     ·have:=h.inj i m (by omega) hm' (hi2.symm.trans hy);omega
     rw [hy]at hi2;exact hnf m i hm' (by omega) hi2
    rcases hi2 with hi2|hi2
    ·rw [hi2]at hy;exact hnf i m (by omega) hm' hy
    exact ho.ap i m (by omega) hm' (by omega) x hi2 hy
   rcases aO.1 ho' with ho'|ho'
   ·obtain⟨i,hi,k⟩:=k3 o ho';exact⟨i,by omega,k⟩
   rcases aH.1 ho' with rfl|ho'
   ·exact⟨m,by omega,.inl rfl⟩
   exact⟨m,by omega,.inr ho'⟩
 obtain⟨os,k1,k2,k3⟩:=key n (aP _);refine rE (os:=q::os) ?_ (fC.2 ⟨fun hm=>?_,k2⟩)
 ·unfold SG;simp only [lM];exact .inr ⟨q,_,os,by simp,h.out,rfl,k1⟩
 obtain⟨i,hi,e|e⟩:=k3 q hm
 ·exact h.ne hi e.symm
 obtain⟨l,hl⟩:=(acS (ho.ow i hi)).2 _ e;rw [h.out]at hl
 injection hl with hl
 injection hl with _ hl
 exact Zw (by omega) l hl
def Zx(g:Nat→Nat)(a:Acc):Acc:=⟨a.i,a.R.map g,a.W.map g,a.n⟩
section
variable {g : Nat → Nat} {L L0 : Nat} (hinj : ∀ x y,g x = g y ↔ x = y) (hlt : ∀ x,g x < L ↔ x < L0)
include hinj in
theorem acU(l:List Nat)(p:Nat):(l.map g).contains (g p)=l.contains p:=by
 rw [jk,jE,jE,bM];constructor
 ·rintro⟨q,h1,h2⟩;rw [(hinj _ _).1 h2]at h1;exact h1
 exact fun h=>⟨p,h,rfl⟩
include hlt in
theorem abA(a b:Acc):AQ L (Zx g a) (Zx g b)=AQ L0 a b:=by
 unfold AQ Zx;simp only [jl,Function.comp_def];simp only [hlt]
include hinj hlt in
theorem akx(d e:qh)(a b:Acc):vX L d e (Zx g a) (Zx g b)=vX L0 d e a b:=by
 unfold vX;rw [abA hlt,abA hlt];simp only [Zx,jl,Function.comp_def];simp only [acU hinj]
 congr 6
 congr 1
 funext p
 congr 2
 funext q
 rw [bne,bne]
 congr 1
 rw [jk,beq_iff_eq,beq_iff_eq];exact hinj _ _
include hinj hlt in
theorem aiU{B:Nat→List Nat}{ops:List qh}:∀l:List Acc,okA L B ops (l.map (Zx g))=okA L0 B ops l
 | []=>rfl
 |
  a::l=>by
  simp only [bC,okA,jl,Function.comp_def];rw [aiU l]
  congr 2
  funext b
  have h1:(Zx g a).i=a.i:=rfl;have h2:(Zx g b).i=b.i:=rfl;rw [akx hinj hlt,h1,h2]
include hinj hlt in
theorem aqS{ops:List qh}{l l0:List Acc}(he:l=l0.map (Zx g))(hk:pz L0 ops l0):pz L ops l:=by
 unfold pz at hk ⊢;rw [he,←List.map_reverse,aiU hinj hlt];exact hk
end
def gN(l:List Nat)(L x:Nat):Nat:=match l[x]? with
 |some y=>y
 |none=>L+x
theorem anA{l:List Nat}{L:Nat}(hl:∀o∈l,o<L)(x:Nat):gN l L x<L↔x<l.length:=by
 unfold gN
 cases h:l[x]? with
 |
  none =>
  have:=List.getElem?_eq_none_iff.1 h;simp only [];omega
 |
  some y =>
  have h1:=(aK.1 h).1;have h2:=hl y (aS h);simp only [];omega
theorem auB{l:List Nat}{L:Nat}(hl:∀o∈l,o<L)(hn:l.Nodup)(x y:Nat):gN l L x=gN l L y↔x=y:=by
 constructor
 ·intro e;have hx:=anA hl x;have hy:=anA hl y;by_cases h:x<l.length
  ·have h2:y<l.length:=hy.1 (e▸hx.2 h);unfold gN at e;rw [aB h,aB h2]at e;exact(List.getElem_inj hn).1 e
  have h2:¬y<l.length:=fun k=>h (hx.1 (e▸hy.2 k));unfold gN at e;rw [bn (by omega),bn (by omega)]at e;simp only []at e;omega
 rintro rfl;rfl
theorem nd2{a b:Nat}(h:a≠b):[a,b].Nodup:=by simp [h]
theorem nd3{a b c:Nat}(h:a≠b)(h2:a≠c)(h3:b≠c):[a,b,c].Nodup:=by simp [h,h2,h3]
theorem nd4{a b c d:Nat}(h:a≠b)(h2:a≠c)(h3:a≠d)(h4:b≠c)(h5:b≠d)(h6:c≠d):[a,b,c,d].Nodup:=by simp [h,h2,h3,h4,h5,h6]
theorem lt2{a b L:Nat}(h:a<L)(h2:b<L):∀o∈[a,b],o<L:=by simp [h,h2]
end Go.Ml
end
section
namespace Go.Ml
structure acW (s0 s:Store) (ri:Nat) (box:Obj) (A:List (List V)) (Z:List R) (j:Nat) (N:List (List V)) (os:List Nat):Prop where
 row:jH s ri=some ⟨3,N++A.drop j⟩
 nl:N.length=j
 ow:uX s N ((Z.take j).map R.cells) os
 nd:os.Nodup
 fr:∀o∈os,s0.length≤o
 old:∀o,o<s0.length→o≠ri→jH s o=jH s0 o
 bx:jH s s0.length=some box
 len:s0.length<s.length
section
variable {s0 s : Store} {ri : Nat} {box : Obj} {A : List (List V)} {Z : List R} {j : Nat} {N : List (List V)} {os : List Nat}
theorem acW.kp(I:acW s0 s ri box A Z j N os)(hi:jH s0 ri=some ⟨3,A⟩):Kp s0 s:=fun o l e=>I.old o (kK e) fun e2=>by rw [e2,hi]at e;cases e
theorem acW.at(I:acW s0 s ri box A Z j N os)(hj:j<A.length):(N++A.drop j)[j]? = some (A.getD j []):=by
 rw [bI (by rw [I.nl];exact aP _),I.nl,jd,dA,gy,ak,aB hj];rfl
theorem acW.step(I:acW s0 s ri box A Z j N os)(hri:ri<s0.length)(hj:j<A.length)(hjZ:j<Z.length){z:R}(hz:Z.getD j default=z){q3:Store}{c:List V}{o3:List Nat}(old:∀o,o<s.length→jH q3 o=jH s o)(len:s.length≤q3.length)
  (ho:nI q3 c z.cells o3) (nd3:o3.Nodup) (fr3:∀o∈o3,s.length≤o):acW s0 (q3.set ri (some ⟨3,(N++A.drop j).set j c⟩)) ri box A Z (j+1) (N++[c]) (os++o3):=by
 have hl:=I.len;have ne:∀o,ri≠o→jH (q3.set ri (some ⟨3,(N++A.drop j).set j c⟩)) o=jH q3 o:=fun o h=>jV fun e=>h e.symm;have e1:(N++A.drop j).set j c=(N++[c])++A.drop (j+1):=by
  rw [gG _ _ (by rw [I.nl];exact aP _),I.nl,jd,bT hj,gU,bJ];rfl
 refine⟨?_,by simp [I.nl],?_,?_,fun o h=>?_,fun o h1 h2=>?_,?_,by simp;omega⟩
 ·rw [kT (by omega),e1]
 ·rw [take_snoc hjZ,bK,hz];refine KQ (I.ow.frame fun o h=>?_) (ain (ho.frame fun o h=>?_))
  ·have h1:=I.fr o h;rw [ne o (by omega),old o (I.ow.lt o h)]
  have:=fr3 o h;rw [ne o (by omega)]
 ·rw [bg];refine⟨I.nd,nd3,fun x hx y hy e=>?_⟩;have:=I.ow.lt x hx;have:=fr3 y hy;omega
 ·rcases aO.1 h with h|h
  ·exact I.fr o h
  have:=fr3 o h;omega
 ·rw [ne o (fun e=>h2 e.symm),old o (by omega),I.old o h1 h2]
 rw [ne _ (by omega),old _ (by omega),I.bx]
theorem acW.fin(I:acW s0 s ri box A Z j N os)(h1:j=A.length)(h2:j=Z.length):jH s ri=some ⟨3,N⟩∧uX s N (Z.map R.cells) os:=by
 have a:=I.row;have b:=I.ow;rw [h1,fO,aQ]at a;rw [h2,bQ]at b;exact⟨a,b⟩
end
theorem DN.rch{s:Store}{v:V}{l:List Int}(h:DN s v l):∀n,∀o∈reach s n v,∃l,jH s o=some ⟨1,kF l⟩:=by
 intro n o ho;rcases h with rfl|⟨q,rfl,hq⟩
 ·cases n<;>simp [reach]at ho
 cases n with
 |zero=>simp [reach]at ho
 |
  succ n =>
  simp only [reach,hq,aH,dV]at ho;rcases ho with rfl|⟨r,hr,c,hc,ho⟩
  ·exact⟨_,hq⟩
  have hs:=pF l r hr c hc
  cases n with
  |zero=>simp [reach]at ho
  |succ n=>rw [DU hs]at ho;cases ho
theorem JF.rch{s:Store}{c:List V}{x:R}(h:JF s c x):∀n,∀o∈reach s n (.agg c),∃l,jH s o=some ⟨1,kF l⟩:=by
 intro n o ho;obtain⟨v1,v2,rfl,h1,h2⟩:=h
 cases n with
 |zero=>simp [reach]at ho
 |
  succ n =>
  rw [Am]at ho;obtain⟨c,hc,ho⟩:=ho;simp only [aH,bV,or_false]at hc;rcases hc with rfl|rfl|rfl
  ·cases n<;>simp [reach]at ho
  ·exact h1.rch n o ho
  exact h2.rch n o ho
end Go.Ml
end
section
namespace Go.Ml
theorem aDu{α:Type}{l:List (List α)}{j:Nat}(h:j<l.length):l[j]? = some (l.getD j []):=by
 rw [ak,aB h];rfl
theorem WZ.cell{s:Store}{q n c:Nat}{rp:Nat→Nat}{A:Nat→List (List V)}{M:MF}(h:WZ s q n c rp A M)(hl:∀i,i<n→(M i).length=c){i j:Nat}(hi:i<n)(hj:j<c):∃a1 a2,(A i)[j]? = some [.bool (elF M i j).neg,a1,a2]∧DN s a1 (elF M i j).mag∧DN s a2 (elF M i j).den:=by
 have hr:=h.cel i hi;have hjl:j<(M i).length:=by rw [hl i hi];exact hj
 obtain⟨a1,a2,e,k1,k2⟩:=hr.2 j hjl;exact⟨a1,a2,by rw [aDu (by rw [hr.1];exact hjl),e];rfl,k1,k2⟩
def Zy(s:Store)(q n c:Nat)(rp:Nat→Nat)(M:MF):Prop:=WZ s q n c rp (fun x=>(M x).map R.cells) M
def auC(M:MF)(i:Nat)(r:List R):MF:=fun x=>if x=i then r else M x
theorem Zy.put{s s2:Store}{q n c k:Nat}{rp:Nat→Nat}{M:MF}{r:List R}(h:Zy s q n c rp M)(hk:k<n)(hr:jH s2 (rp k)=some ⟨3,r.map R.cells⟩)(ho:∀o,o<s.length→o≠rp k→jH s2 o=jH s o):Zy s2 q n c rp (auC M k r):=by
 have:=WZ.put h hk hr ho (aqO r);have e:(fun i=>if i=k then r.map R.cells else(M i).map R.cells)=fun x=>(auC M k r x).map R.cells:=by
  funext i;unfold auC;split<;>rfl
 rw [e]at this;exact this
theorem Zy.swap{s:Store}{q n c k p:Nat}{rp:Nat→Nat}{M:MF}(h:Zy s q n c rp M)(hk:k<n)(hp:p<n){rows:List (List V)}(hrows:rows=((TF n c rp).set k [.kP (rp p) 0 c]).set p [.kP (rp k) 0 c]){s2:Store}(hq:jH s2 q=some ⟨1,rows⟩)(ho:∀o,o≠q→o<s.length→jH s2 o=jH s o) :
  Zy s2 q n c (fun x=>if x=p then rp k else if x=k then rp p else rp x) (QE M k p):=by
 have:=WZ.swap h hk hp hrows hq ho;have e:(fun x=>if x=p then(M k).map R.cells else if x=k then(M p).map R.cells else(M x).map R.cells)=fun x=>(QE M k p x).map R.cells:=by
  funext i;unfold QE;split
  ·rfl
  split<;>rfl
 rw [e]at this;exact this
theorem Zy.ext{s:Store}{q n c:Nat}{rp:Nat→Nat}{M M2:MF}(h:Zy s q n c rp M)(e:∀i,i<n→M i=M2 i):Zy s q n c rp M2 :=
 ⟨h.inj,h.out,fun i hi=>by rw [←e i hi];exact h.row i hi,fun i hi=>by rw [←e i hi];exact h.cel i hi⟩
theorem Zy.cell{s:Store}{q n c:Nat}{rp:Nat→Nat}{M:MF}(h:Zy s q n c rp M)(hl:∀i,i<n→(M i).length=c){i j:Nat}(hi:i<n)(hj:j<c):((M i).map R.cells)[j]? = some (elF M i j).cells:=by
 have hjl:j<(M i).length:=by rw [hl i hi];exact hj
 rw [mg? hjl];rfl
theorem WZ.aqP{s:Store}{q n c:Nat}{rp:Nat→Nat}{A:Nat→List (List V)}{M:MF}(h:WZ s q n c rp A M)(hl:∀i,i<n→(M i).length=c)(k:Nat):resolve s (k+5) (.kP q 0 n)=some (SG ((List.range n).map M)):=by
 rw [resolve];simp only [h.out];rw [if_pos (by rw [U0];omega),bZ,aY (by rw [U0];omega)];have:((TF n c rp).mapM fun (r:List V)=>r.mapM (resolve s (k+4)))=some ((List.range n).map fun i=>[KI (M i)]):=by
  unfold TF;rw [List.mapM_map];refine mapM_some fun i hi=>?_;have hi:=eF.1 hi;have h1:=(h.cel i hi).aqP (h.row i hi) k;rw [hl i hi]at h1;simp only [Function.comp,bD,List.mapM_nil];rw [h1];rfl
 rw [this,bY];unfold SG;rw [fK];rfl
theorem afs{σ:Store}:∀(n:Nat) {A T:List (List V)} {os:List Nat},uX σ A T os→∃os',uX σ (A.drop n) (T.drop n) os'∧os'.Sublist os
 |0,A,T,os,h=>⟨os,h,List.Sublist.refl _⟩
 |
  n+1,A,[],os,h=>by
  simp only [uX]at h;obtain⟨rfl,rfl⟩:=h;exact⟨[],by simp [uX],List.Sublist.refl _⟩
 |
  n+1,A,t::T,os,h=>by
  simp only [uX]at h;obtain⟨v,vs',o1,o2,rfl,rfl,h1,h2⟩:=h;obtain⟨os',k1,k2⟩:=afs n h2;exact⟨os',k1,k2.trans (List.sublist_append_right _ _)⟩
theorem OwF.drop{s:Store}{A:Nat→List (List V)}{M:MF}{f:Nat→List Nat}{n:Nat}(ho:OwF s A M f fun i=>i<n)(d:Nat):∃f',OwF s (fun i=>(A i).drop d) (fun i=>(M i).drop d) f' (fun i=>i<n)∧∀i,i<n→∀o∈f' i,o∈f i:=by
 have h:∀i,∃os',i<n→uX s ((A i).drop d) (((M i).drop d).map R.cells) os'∧os'.Sublist (f i):=fun i=>by
  by_cases hi:i<n
  ·obtain⟨os',k1,k2⟩:=afs d (ho.ow i hi);rw [←jr]at k1;exact⟨os',fun _=>⟨k1,k2⟩⟩
  exact⟨[],fun h=>absurd h hi⟩
 refine⟨fun i=>Classical.choose (h i),⟨fun i hi=>?_,fun i hi=>?_,fun i j hi hj hne o h1 h2=>?_⟩,fun i hi o h1=>?_⟩
 ·exact(Classical.choose_spec (h i) hi).1
 ·exact(ho.nd i hi).sublist (Classical.choose_spec (h i) hi).2
 ·exact ho.ap i j hi hj hne o ((Classical.choose_spec (h i) hi).2.subset h1) ((Classical.choose_spec (h j) hj).2.subset h2)
 exact(Classical.choose_spec (h i) hi).2.subset h1
theorem O4{ops:List qh}{L:Nat}{acc:List Acc}(l:List Nat)(l0:List Acc)(hn:l.Nodup)(hl:∀o∈l,o<L)(he:acc=l0.map (Zx (gN l L)))(h:pz l.length ops l0):pz L ops acc:=aqS (auB hl hn) (anA hl) he h
def I7:Fn:=⟨2,10,[.tmp 4],(sr [oN 4 (.mM (cI 0))] (.seq (sr [oW 5 0,oW 6 1,oN 7 (bt .gtr 5 6)] (cd 7 (sr [oW 8 0,oW 4 8] .ret) .skip)) (sr [oW 9 1,oW 4 9] .ret)))⟩
structure Nz (T:Tb):Prop where
 hT:T 396=some I7
def yu:Fn:=⟨1,60,[.tmp 2,.tmp 3],(sr [oN 2 mN,oN 3 mF] (.seq (sr [oW 11 0,oN 12 (cl 305 [11]),oN 13 (nt 12)] (cd 13 (sr [oN 2 mN,oN 3 mF] .ret) .skip)) (sr [oN 4 (.mM (cI 0))] (.seq (sr [oW 14 0,oN 15 (ln 14),oN 16 (.mM (cI 0))] (.block 0 (.loop (sr [oN 17 (bt .lss 16 15)] (.seq (cd 17 .skip (.exit 0)) (.seq (.block 1 (.seq (rf 1 [oK 18 1 (ix 5 14 16),oK 19 1 (lT 5 18),oN 6 (.alloc QW),⟨none,none,1,.store 5 (.t 6) (.t 19),[]⟩]) (rg [oW 20 4,oN 21 (fd 0 6),oN 22 (lF 1 21),oN 23 (cl 396 [20,22]),oW 4 23]))) (rg [oN 24 (bc .add 16 1),oW 16 24]))))))) (.seq (rf 1 [oK 25 1 (oV 4),oK 26 1 (bc .add 25 1),oN 27 (.make zz6 112 (.t 26)),oK 7 1 (oV 27)]) (sr [oW 28 7,oN 29 (.call 36 [(cI 0)]),oN 30 (.call 36 [(cI 0)]),oN 31 (.build zz6 [(0,3,(.t 29)),(3,3,(.t 30))]),oN 32 (.idx 6 (.t 28) (cI 0)),oS (.store 6 (.t 32) (.t 31))] (.seq (sr [oW 33 0,oN 34 (ln 33),oN 35 (bc .sub 34 1),oW 8 35] (.block 2 (.loop (.seq (sr [oW 36 8,oN 37 (bc .geq 36 0)] (cd 37 .skip (.exit 2))) (.seq (.block 3 (.seq (rf 1 [oK 41 1 (oV 0),oK 42 1 (oV 8),oK 43 1 (ix 5 41 42),oK 44 1 (lT 5 43),oK 45 1 (oV 7),oK 46 1 (cl 366 [44,45]),oK 40 1 (oV 46),oK 47 1 (ex 0 40),oK 48 1 (ex 1 40),oN 9 (.alloc zz6),⟨none,none,1,.store 6 (.t 9) (.t 47),[]⟩,oK 10 1 (oV 48)]) (.seq (sr [oW 49 10,oN 50 (nt 49)] (cd 50 (sr [oN 2 mN,oN 3 mF] .ret) .skip)) (rt 0 [oW 51 7,oW 52 0,oW 53 8,oA 54 0 (ix 5 52 53) [1,2],oA 55 0 (fd 0 54) [3],oA 56 0 (lF 1 55) [4],oN 57 (lT 6 9),oA 58 0 (ix 6 51 56) [0,5,0,1,2,3,4,5,6],⟨none,none,0,.store 6 (.t 58) (.t 57),[7,6,0,1,2,3,4,5,6]⟩])))) (rg [oW 38 8,oN 39 (bc .sub 38 1),oW 8 39])))))) (sr [oW 59 7,oW 2 59,oN 3 mT] .ret))))))))⟩
structure JG (T:Tb):Prop where
 hT:T 384=some yu
 kZ:nU T
 acZ:OX T
 Oj:xw T
 aaz:Nz T
def yw:Fn:=⟨1,58,[.tmp 2,.tmp 3],(sr [oN 2 mN,oN 3 mF] (.seq (sr [oW 11 0,oN 12 (cl 273 [11]),oN 13 (nt 12)] (cd 13 (sr [oN 2 mN,oN 3 mF] .ret) .skip)) (sr [oN 4 (.mM (cI 0))] (.seq (sr [oW 14 0,oN 15 (ln 14),oN 16 (.mM (cI 0))] (.block 0 (.loop (sr [oN 17 (bt .lss 16 15)] (.seq (cd 17 .skip (.exit 0)) (.seq (.block 1 (.seq (rf 1 [oK 18 1 (ix 5 14 16),oK 19 1 (lT 5 18),oN 6 (.alloc QW),⟨none,none,1,.store 5 (.t 6) (.t 19),[]⟩]) (rg [oW 20 4,oN 21 (fd 0 6),oN 22 (lF 1 21),oN 23 (.max (.t 20) (.t 22)),oW 4 23]))) (rg [oN 24 (bc .add 16 1),oW 16 24]))))))) (.seq (rf 1 [oK 25 1 (oV 4),oK 26 1 (bc .add 25 1),oN 27 (.make zz6 112 (.t 26)),oK 7 1 (oV 27)]) (sr [oW 28 7,oN 29 (.call 186 []),oN 30 (.idx 6 (.t 28) (cI 0)),oS (.store 6 (.t 30) (.t 29))] (.seq (sr [oW 31 0,oN 32 (ln 31),oN 33 (bc .sub 32 1),oW 8 33] (.block 2 (.loop (.seq (sr [oW 34 8,oN 35 (bc .geq 34 0)] (cd 35 .skip (.exit 2))) (.seq (.block 3 (.seq (rf 1 [oK 39 1 (oV 0),oK 40 1 (oV 8),oK 41 1 (ix 5 39 40),oK 42 1 (lT 5 41),oK 43 1 (oV 7),oK 44 1 (cl 176 [42,43]),oK 38 1 (oV 44),oK 45 1 (ex 0 38),oK 46 1 (ex 1 38),oN 9 (.alloc zz6),⟨none,none,1,.store 6 (.t 9) (.t 45),[]⟩,oK 10 1 (oV 46)]) (.seq (sr [oW 47 10,oN 48 (nt 47)] (cd 48 (sr [oN 2 mN,oN 3 mF] .ret) .skip)) (rt 0 [oW 49 7,oW 50 0,oW 51 8,oA 52 0 (ix 5 50 51) [1,2],oA 53 0 (fd 0 52) [3],oA 54 0 (lF 1 53) [4],oN 55 (lT 6 9),oA 56 0 (ix 6 49 54) [0,5,0,1,2,3,4,5,6],⟨none,none,0,.store 6 (.t 56) (.t 55),[7,6,0,1,2,3,4,5,6]⟩])))) (rg [oW 36 8,oN 37 (bc .sub 36 1),oW 8 37])))))) (sr [oW 57 7,oW 2 57,oN 3 mT] .ret))))))))⟩
structure JH (T:Tb):Prop where
 hT:T 272=some yw
 Ol:xA T
 GR:AO T
 ac0:OW T
def svC(l:List Cd)(k:Nat):Cd:=l.getD (l.length-1-k) default
def Wj(l:List Cd):Nat→Nat
 |0=>0
 |k+1=>max (Wj l k) (l.getD k default).node.toNat
def svP(m:Nat):List Pt:=(List.replicate (m+1) ⟨R0,R0⟩).set 0 ⟨kR 0,kR 0⟩
def LM(l:List Cd):Nat→List Pt
 |0=>svP (Wj l l.length)
 |k+1=>(LM l k).set (svC l k).node.toNat (acV (svC l k) (LM l k))
noncomputable def svG(l:List Cd):Bool:=JL l&&(List.range l.length).all fun k=>FB (svC l k) (LM l k)
noncomputable def svV(l:List Cd):List Pt:=if svG l=true then LM l l.length else []
theorem U1{l:List Cd}(h:svG l=false):svV l=[]:=by unfold svV;rw [h];rfl
theorem Zz{l:List Cd}(h:svG l=true):svV l=LM l l.length:=by unfold svV;rw [if_pos h]
theorem U2{l:List Cd}(h:JL l=false):svG l=false:=by unfold svG;rw [h];rfl
theorem anB{l:List Cd}{k:Nat}(hk:k<l.length)(h:FB (svC l k) (LM l k)=false):svG l=false:=by
 unfold svG;rw [jG.2 ⟨k,eF.2 hk,by rw [h];simp⟩,ku]
theorem aiV{l:List Cd}(hn:JL l=true)(h:∀k,k<l.length→FB (svC l k) (LM l k)=true):svG l=true:=by
 unfold svG;rw [hn,bU,aZ];intro k hk;exact h k (eF.1 hk)
theorem O5{l:List Cd}(h:JL l=true){i:Nat}(hi:i<l.length):1≤(l.getD i default).node∧(l.getD i default).node≤9:=by
 have h1:=(of_decide_eq_true h i hi).1;unfold rD inB at h1;simp only [aG,decide_eq_true_eq]at h1;exact h1.1.1.1.2
theorem ac1{l:List Cd}(h:JL l=true):∀k,k≤l.length→Wj l k≤9
 |0,_=>dY _
 |
  k+1,hk=>by
  have:=ac1 h k (by omega);have:=O5 h (i:=k) (by omega);unfold Wj;omega
theorem anC{l:List Cd}:∀k,∀i,i<k→(l.getD i default).node.toNat≤Wj l k
 |0,i,hi=>by omega
 |
  k+1,i,hi=>by
  unfold Wj;by_cases e:i=k
  ·subst e;omega
  have:=anC (l:=l) k i (by omega);omega
theorem X6(l:List Cd):∀k,(LM l k).length=Wj l l.length+1
 |0=>by unfold LM svP;simp
 |k+1=>by unfold LM;rw [aW,X6 l k]
theorem ac2(l:List Cd):∀k,∀q∈LM l k,q.x.cn∧q.y.cn
 |
  0,q,hq=>by
  unfold LM svP at hq;rcases fP hq with hq|rfl
  ·rw [(List.mem_replicate.1 hq).2];exact⟨YT,YT⟩
  exact⟨Ef (by decide),Ef (by decide)⟩
 |
  k+1,q,hq=>by
  unfold LM at hq;rcases fP hq with hq|rfl
  ·exact ac2 l k q hq
  exact aus _ _
theorem ahC{l:List Pt}(h:∀q∈l,q.x.cn∧q.y.cn)(hl:l.length≤1048576):Bg Pt.wf l:=⟨by omega,fun q hq=>⟨mP (h q hq).1,mP (h q hq).2⟩⟩
theorem afv{l:List Cd}(h:JL l=true){k:Nat}(hk:k<l.length):1≤(svC l k).node∧(svC l k).node.toNat≤Wj l l.length:=by
 unfold svC;exact⟨(O5 h (by omega)).1,anC l.length _ (by omega)⟩
theorem anD(l:List Cd):Dy Pt.sz (svV l)≤100000∧Bg Pt.wf (svV l):=by
 cases h:svG l
 ·rw [U1 h];exact⟨by simp [Dy],by simp [Bg]⟩
 rw [Zz h];have hn:JL l=true:=by
  cases hn:JL l
  ·rw [U2 hn]at h;cases h
  rfl
 have hm:=ac1 hn l.length (aP _);have hl:=X6 l l.length;have hc:=ac2 l l.length;refine⟨?_,ahC hc (by omega)⟩;have:=Zn (f:=Pt.sz) (k:=200) (l:=LM l l.length) fun q hq=>by
  have h1:=Qr (hc q hq).1;have h2:=Qr (hc q hq).2;unfold Pt.sz R.sz;omega
 omega
def ptz:List V:=[.bool false,.jL,.jL,.bool false,.jL,.jL]
theorem aqT(W:P6)(σ:Store):Gf W σ ptz (⟨R0,R0⟩:Pt).cells:=by
 simp only [ptz,Gf,xG,Pt.cells];exact⟨_,_,rfl,rfl,_,_,rfl,.inr ⟨1,rfl⟩,_,_,rfl,.inr ⟨1,rfl⟩,_,_,rfl,rfl,_,_,rfl,.inr ⟨1,rfl⟩,_,_,rfl,.inr ⟨1,rfl⟩,rfl⟩
theorem auD(m:Nat):(svP m).map Pt.cells=(⟨kR 0,kR 0⟩:Pt).cells::(List.replicate m (⟨R0,R0⟩:Pt).cells):=by
 simp [svP,gB]
theorem afw{W:P6}{σ:Store}{m:Nat}{c c2:List V}(hc:Gf W σ c c2)(i:Nat)(r r2:List V)(h1:(c::List.replicate m ptz)[i]? = some r)
  (h2:(c2::List.replicate m (⟨R0,R0⟩:Pt).cells)[i]? = some r2):Gf W σ r r2:=by
 cases i with
 |
  zero =>
  simp at h1 h2;subst h1;subst h2;exact hc
 |
  succ i =>
  simp [jq]at h1 h2;obtain⟨_,rfl⟩:=h1;obtain⟨_,rfl⟩:=h2;exact aqT W σ
theorem aiW{σ:Store}:Fin σ (.agg [.bool false,.jL]) (Oo ⟨false,[]⟩) :=
 ⟨.agg [.bool false,.sl 1 []],[],by simp only [NW,SK,SI,Ku,mX,true_and,and_true],nN (nS (oC (o1:=[]) mQ nM)),.nil⟩
theorem anE{σ:Store}{o:Nat}{l:List Int}{b:Bool}(h:jH σ o=some ⟨1,kF l⟩):Fin σ (.agg [.bool b,.kP o 0 l.length]) (Oo ⟨b,l⟩) :=
 rE (nN (nS (oC (Ez h) nM))) (by simp)
theorem TG{T:Tb}(h:sF T){neg:Bool}{n:Nat}(hl:(mk n).length≤60:=by exact lX):PO T 66 [.bool neg,ints (mk n)] (Oo (bi (sg neg n))):=by
 have ct:=aep h.RH (n:=n) (by omega);by_cases n0:n=0
 ·subst n0;rw [mk_zero]at *;rw [QY,acf];refine kW nR h.hT ?_;simp only [uK,Lz,St.enter,aj,au,aN];refine ew ?_;refine jy ct ?_
  cases neg
  ·refine ew ?_;exact⟨fun _=>aiW,fun e=>absurd rfl e⟩
  refine ew ?_;exact⟨fun _=>aiW,fun e=>absurd rfl e⟩
 have hp:=Eb.2 (iV n0);have ne:kF (mk n)≠[]:=by intro e;rw [←zB,e]at hp;simp at hp
 rw [aii neg n (by omega)];refine kW nR h.hT ?_;simp only [uK,Lz,St.enter,aj,au,aN];refine ew ?_;refine jy ct ?_
 cases neg
 ·refine qj @ne ?_;exact⟨by omega,anE rfl⟩
 have c1:(0:Int)<((mk n).length:Nat):=by omega
 refine uh @ne @c1 ?_;exact⟨by omega,anE rfl⟩
theorem Wn{σ:Store}{cs:List V}{b:Bool}{t:V}{o:List Nat}(h:nI σ cs [.bool b,t] o):∃z,cs=[.bool b,z]∧lM σ z t o:=by
 simp only [nI]at h;obtain⟨v,vs,o1,o2,rfl,rfl,h1,z,vs2,o3,o4,rfl,rfl,h2,rfl,rfl⟩:=h;simp only [lM]at h1;obtain⟨rfl,rfl⟩:=h1;exact⟨z,rfl,by simpa using h2⟩
theorem ac3{q:Store}{o:List Nat}{z:V}{b:Bool}{X Y:List Int}{x:Obj}(hz:lM q z (ints X) o)(fr:∀p∈o,3≤p)(lq:3≤q.length)(nd:o.Nodup) :
  Fin ((q.set 2 (some ⟨1,kF Y⟩)).set 0 (some x)) (.agg [.bool b,z,.kP 2 0 Y.length]) (kN ⟨b,X,Y⟩):=by
 have h1:lM ((q.set 2 (some ⟨1,kF Y⟩)).set 0 (some x)) z (ints X) o:=hz.frame fun p hp=>by
  have:=fr p hp;rw [jV (by omega),jV (by omega)]
 have h2:jH ((q.set 2 (some ⟨1,kF Y⟩)).set 0 (some x)) 2=some ⟨1,kF Y⟩:=by
  rw [jV (by omega)];exact kT (by omega)
 refine rE (Q8 h1 (Ez h2)) ?_;rw [bg];refine⟨nd,by simp,fun a ha c hc e=>?_⟩;have:=fr a ha;rw [aT.1 hc]at e;omega
theorem abB{T:Tb}(h:yE T){neg:Bool}{m n:Nat}(la:(mk m).length≤60:=by exact lX)(lb:(mk n).length≤60:=by exact lX) :
  PO T 206 [.bool neg,ints (mk m),ints (mk n)] (kN (Q.raw (Qm (sg neg m) n))):=by
 have ct1:=yB h.mY (l:=mk m) (by omega);have vV:=yB h.mY (l:=mk n) (by omega);rw [Ql (uI m)]at ct1;rw [Ql (uI n)]at vV;by_cases hn:n=0
 ·subst hn;have e:Qm (sg neg m) ((0:Nat):Int)=none:=rfl;rw [e];have c1:(((mk 0).length:Nat):Int)=0:=by rw [XF];rfl
  refine kW (fun x d=>x == 66) h.hT ?_;simp only [pX,Lz,St.enter,aj,au,aN];refine ew ?_;refine jy ct1 ?_;refine ew ?_;refine jy vV ?_;refine qj @c1 ?_;exact yT
 have hd:(n:Int)≠0:=by omega
 rw [XG hd];have hpos:¬((n:Int)<0):=by omega
 have e0:(decide (sg neg m<0) != decide ((n:Int)<0))=decide (sg neg m<0):=by simp [hpos]
 rw [e0,Gt,bW];have hg:0<Nat.gcd m n:=iD _ (by omega);have c1:¬(((mk n).length:Nat):Int)=0:=by have:=@agB n;omega
 have hz:m=0→m / Nat.gcd m n=0:=fun e=>by rw [e];simp
 rw [amo neg m _ hz];have fin:∀(u v:Nat),u=m / Nat.gcd m n→v=n / Nat.gcd m n→(mk u).length≤60∧(mk v).length≤60:=by
  intro u v hu hv;have l1:=Qp m (Nat.gcd m n);have l2:=Qp n (Nat.gcd m n);rw [hu,hv];omega
 have co:=Ed h.pW (n:=n);have cg:=YS h.Ik (m:=m) (n:=n) (by omega) (by omega);have lg:(mk (Nat.gcd m n)).length≤60:=cZ (Md (jX (by omega) (ji _ _))) lb;have co2:=Ed h.pW (n:=Nat.gcd m n);have cd1:=Qq h.yD (m:=m) hg (by omega) (by omega);have cd2:=Qq h.yD (m:=n) hg (by omega) (by omega);obtain⟨g,hgd⟩:∃g,Nat.gcd m n=g:=⟨_,rfl⟩;obtain⟨u,hu⟩:∃u,m / Nat.gcd m n=u:=⟨_,rfl⟩;obtain⟨v,hv⟩:∃v,n / Nat.gcd m n=v:=⟨_,rfl⟩;obtain⟨lu,lv⟩:=fin u v hu.symm hv.symm;have cm:=TG h.lN (neg:=neg) (n:=u) (by omega);have ecm:Oo (bi (sg neg u))=.agg [.bool (bi (sg neg u)).neg,ints (mk u)]:=by
  show V.agg [.bool (bi (sg neg u)).neg,ints (mk (sg neg u).natAbs)]=_;rw [Gt]
 rw [ecm]at cm;have un:n=1→u=m∧v=n:=by
  intro e;subst e;rw [Nat.gcd_one_right]at hu hv;simp at hu hv;omega
 have ug:g=1→u=m∧v=n:=by
  intro e;rw [hgd,e]at hu hv;simp at hu hv;omega
 rw [hu,hv];rw [hgd]at cg co2;rw [hu]at cd1;rw [hv]at cd2;rw [hgd]at cd1 cd2;have v0:v≠0:=by
  rw [←hv];exact Nat.ne_of_gt (Nat.div_pos (jX (by omega) (ji _ _)) hg)
 have ne:kF (mk v)≠[]:=by
  have hp:=Eb.2 (iV v0);intro e;rw [←zB,e]at hp;simp at hp
 clear fin hz hg e0 hpos hd hgd hu hv;by_cases n1:n=1
 ·rw [show decide (n=1)=true from decide_eq_true n1]at co;obtain⟨rfl,rfl⟩:=un n1;refine kW (fun x d=>x == 66) h.hT ?_;simp only [pX,Lz,St.enter,aj,au,aN];refine ew ?_;refine jy ct1 ?_;refine ew ?_;refine jy vV ?_;refine qj @c1 ?_;refine jy co ?_;refine ew ?_;by_cases k1:(24:Int)<((mk u).length:Nat)
  ·refine qj @k1 ?_;rw [if_neg (by omega)];exact yT
  by_cases k2:(24:Int)<((mk v).length:Nat)
  ·refine uh @k1 @k2 ?_;rw [if_neg (by omega)];exact yT
  refine uh @k1 @k2 ?_;refine kU cm (by (refine ew ?_;try with_reducible exact True.intro)) ?_;intro r q o G;obtain⟨cs,rfl,hQ⟩:=G.ow.kV;obtain⟨z,rfl,hz⟩:=Wn hQ;have B0:=G.old 0 (by simp);have lq:3≤q.length:=G.len;have fr:∀p∈o,3≤p:=G.fresh;have nd:=G.nd;have lz:=hz.leaf rfl;have fz:=KP lz;clear G hQ;refine Df @B0 @lq @lz @fz @ne ?_;rw [if_pos (by omega)];exact⟨by omega,ac3 hz fr lq nd⟩
 rw [show decide (n=1)=false from decide_eq_false n1]at co;by_cases g1:g=1
 ·rw [show decide (g=1)=true from decide_eq_true g1]at co2;obtain⟨rfl,rfl⟩:=ug g1;refine kW (fun x d=>x == 66) h.hT ?_;simp only [pX,Lz,St.enter,aj,au,aN];refine ew ?_;refine jy ct1 ?_;refine ew ?_;refine jy vV ?_;refine qj @c1 ?_;refine jy co ?_;refine ew ?_;refine jy cg ?_;refine ew ?_;refine jy co2 ?_;refine ew ?_;by_cases k1:(24:Int)<((mk u).length:Nat)
  ·refine qj @k1 ?_;rw [if_neg (by omega)];exact yT
  by_cases k2:(24:Int)<((mk v).length:Nat)
  ·refine uh @k1 @k2 ?_;rw [if_neg (by omega)];exact yT
  refine uh @k1 @k2 ?_;refine kU cm (by (refine ew ?_;try with_reducible exact True.intro)) ?_;intro r q o G;obtain⟨cs,rfl,hQ⟩:=G.ow.kV;obtain⟨z,rfl,hz⟩:=Wn hQ;have B0:=G.old 0 (by simp);have lq:3≤q.length:=G.len;have fr:∀p∈o,3≤p:=G.fresh;have nd:=G.nd;have lz:=hz.leaf rfl;have fz:=KP lz;clear G hQ;refine Df @B0 @lq @lz @fz @ne ?_;rw [if_pos (by omega)];exact⟨by omega,ac3 hz fr lq nd⟩
 rw [show decide (g=1)=false from decide_eq_false g1]at co2;refine kW (fun x d=>x == 66) h.hT ?_;simp only [pX,Lz,St.enter,aj,au,aN];refine ew ?_;refine jy ct1 ?_;refine ew ?_;refine jy vV ?_;refine qj @c1 ?_;refine jy co ?_;refine ew ?_;refine jy cg ?_;refine ew ?_;refine jy co2 ?_;refine ew ?_;refine jy cd1 ?_;refine ew ?_;refine jy cd2 ?_;refine ew ?_;by_cases k1:(24:Int)<((mk u).length:Nat)
 ·refine qj @k1 ?_;rw [if_neg (by omega)];exact yT
 by_cases k2:(24:Int)<((mk v).length:Nat)
 ·refine uh @k1 @k2 ?_;rw [if_neg (by omega)];exact yT
 refine uh @k1 @k2 ?_;refine kU cm (by (refine ew ?_;try with_reducible exact True.intro)) ?_;intro r q o G;obtain⟨cs,rfl,hQ⟩:=G.ow.kV;obtain⟨z,rfl,hz⟩:=Wn hQ;have B0:=G.old 0 (by simp);have lq:3≤q.length:=G.len;have fr:∀p∈o,3≤p:=G.fresh;have nd:=G.nd;have lz:=hz.leaf rfl;have fz:=KP lz;clear G hQ;refine Df @B0 @lq @lz @fz @ne ?_;rw [if_pos (by omega)];exact⟨by omega,ac3 hz fr lq nd⟩
theorem Wp{q:Store}{o:List Nat}{cs ts:List V}{K:Nat}{n:Nat}{x:Option Obj}(hQ:nI q cs ts o)(fr:∀p∈o,n≤p)(nd:o.Nodup)(hK:K<n):Fin (q.set K x) (.agg cs) (.agg ts) :=
 rE (nN (hQ.frame fun p hp=>by
  have:=fr p hp;rw [jV (by omega)])) nd
theorem aky{T:Tb}(h:BG T){a b:Rat}(ha:Q.ok (some a))(hb:Q.ok (some b)):PO T 198 [kN (Q.raw (some a)),kN (Q.raw (some b))] (kN (Q.raw (PU (some a) (some b)))):=by
 obtain⟨l1,l2⟩:=LV ha;obtain⟨l3,l4⟩:=LV hb;have e:PU (some a) (some b)=Qm (a.num*b.den+b.num*a.den) (a.den*b.den):=(XC a b).symm;rw [e,acj,acj];have o1:=Ed h.pW (n:=a.den);have o2:=Ed h.pW (n:=b.den);by_cases hd:a.den=1∧b.den=1
 ·have m1:mk 1=[1]:=mk_one (by omega) (by omega);have c1:=Ul h.Io (x:=a.num) (y:=b.num) (by omega) (by omega);have t1:=H6 a.num b.num;have c2:=abB h.uq (neg:=decide (a.num+b.num<0)) (m:=(a.num+b.num).natAbs) (n:=1) (by omega) (by rw [m1];simp);rw [XI,m1]at c2;have e2:Qm (a.num*b.den+b.num*a.den) (a.den*b.den)=Qm (a.num+b.num) ((1:Nat):Int):=by
   rw [hd.1,hd.2];simp
  rw [e2];rw [show decide (a.den=1)=true from decide_eq_true hd.1]at o1;rw [show decide (b.den=1)=true from decide_eq_true hd.2]at o2;refine kW (fun x d=>x == 206) h.hT ?_;simp only [rP,Lz,St.enter,aj,au,aN];refine ew ?_;refine jy o1 ?_;refine ew ?_;refine jy o2 ?_;refine ew ?_;refine jy c1 ?_;refine ew ?_;simp only [aij];refine ew ?_;refine kU c2 (by (refine ew ?_;try with_reducible exact True.intro)) ?_;intro r0 q o G;obtain⟨cs,rfl,hQ⟩:=G.ow.kV;obtain⟨z1,z2,rfl⟩:=hQ.rat
  have B:=G.old 2 (by simp);have lq:3≤q.length:=by have:=G.len;simp at this;omega
  have fr:∀p∈o,3≤p:=fun p hp=>by have:=G.fresh p hp;simp at this;omega
  have nd:=G.nd;have lz:=nI.leaf hQ rfl;simp only [dh,fB,dK,aG]at lz;clear G;refine vW @B @lq @lz ?_;exact Wp hQ fr nd (by omega)
 have c1:=xZ h.nC (m:=a.num.natAbs) (n:=b.den) (by omega) (by omega);have c2:=xZ h.nC (m:=b.num.natAbs) (n:=a.den) (by omega) (by omega);have c3:=xZ h.nC (m:=a.den) (n:=b.den) (by omega) (by omega);have t1:=Gs a.num.natAbs b.den;have t2:=Gs b.num.natAbs a.den;have t3:=Gs a.den b.den;have c4:=wS h.lN (neg:=decide (a.num<0)) (n:=a.num.natAbs*b.den) (by omega);have c5:=wS h.lN (neg:=decide (b.num<0)) (n:=b.num.natAbs*a.den) (by omega);have e4:∀(x:Int) (n:Nat),sg (decide (x<0)) (x.natAbs*n)=x*n:=by
  intro x n;have:=VJ x n;rw [show decide ((n:Int)<0)=false from decide_eq_false (by omega),Bool.bne_false,bW]at this;exact this
 rw [e4]at c4 c5;have t4:(mk (a.num*b.den).natAbs).length≤48:=by rw [jA,bW];omega
 have t5:(mk (b.num*a.den).natAbs).length≤48:=by rw [jA,bW];omega
 have c6:=Ul h.Io (x:=a.num*b.den) (y:=b.num*a.den) (by omega) (by omega);have t6:=H6 (a.num*b.den) (b.num*a.den);have c7:=abB h.uq (neg:=decide (a.num*b.den+b.num*a.den<0)) (m:=(a.num*b.den+b.num*a.den).natAbs) (n:=a.den*b.den) (by omega) (by omega);rw [XI,jY]at c7;clear t1 t2 t3 t4 t5 t6 e4 e l1 l2 l3 l4;have fin:∀{P:Prop},(a.den=1→¬b.den=1→P)→(¬a.den=1→P)→P:=by
  intro P p1 p2;by_cases k:a.den=1
  ·exact p1 k fun k2=>hd ⟨k,k2⟩
  exact p2 k
 refine fin (fun k1 k2=>?_) (fun k1=>?_)
 ·rw [show decide (a.den=1)=true from decide_eq_true k1]at o1;rw [show decide (b.den=1)=false from decide_eq_false k2]at o2;refine kW (fun x d=>x == 206) h.hT ?_;simp only [rP,Lz,St.enter,aj,au,aN];refine ew ?_;refine jy o1 ?_;refine ew ?_;refine jy o2 ?_;refine ew ?_;refine jy c1 ?_;refine ew ?_;refine jy c4 ?_;refine ew ?_;refine⟨by unfold pz;decide +kernel,?_⟩;refine jy c2 ?_;refine ew ?_;refine jy c5 ?_;refine ew ?_;refine⟨by unfold pz;decide +kernel,?_⟩;refine jy c6 ?_;refine ew ?_;refine jy c3 ?_;refine ew ?_;refine qx c7 (by (refine ew ?_;try with_reducible exact True.intro)) (by (refine ew ?_;try with_reducible exact True.intro)) ?_;intro r0 q o G;obtain⟨cs,rfl,hQ⟩:=G.ow.kV;obtain⟨z1,z2,rfl⟩:=hQ.rat
  have B:=G.old 2 (by simp);have lq:3≤q.length:=by have:=G.len;simp at this;omega
  have fr:∀p∈o,3≤p:=fun p hp=>by have:=G.fresh p hp;simp at this;omega
  have nd:=G.nd;have lz:=nI.leaf hQ rfl;simp only [dh,fB,dK,aG]at lz;clear G;refine vW @B @lq @lz ?_;exact⟨by unfold pz;rfl,Wp hQ fr nd (by omega)⟩
 rw [show decide (a.den=1)=false from decide_eq_false k1]at o1;refine kW (fun x d=>x == 206) h.hT ?_;simp only [rP,Lz,St.enter,aj,au,aN];refine ew ?_;refine jy o1 ?_;refine ew ?_;refine jy c1 ?_;refine ew ?_;refine jy c4 ?_;refine ew ?_;refine⟨by unfold pz;decide +kernel,?_⟩;refine jy c2 ?_;refine ew ?_;refine jy c5 ?_;refine ew ?_;refine⟨by unfold pz;decide +kernel,?_⟩;refine jy c6 ?_;refine ew ?_;refine jy c3 ?_;refine ew ?_;refine qx c7 (by (refine ew ?_;try with_reducible exact True.intro)) (by (refine ew ?_;try with_reducible exact True.intro)) ?_;intro r0 q o G;obtain⟨cs,rfl,hQ⟩:=G.ow.kV;obtain⟨z1,z2,rfl⟩:=hQ.rat
 have B:=G.old 2 (by simp);have lq:3≤q.length:=by have:=G.len;simp at this;omega
 have fr:∀p∈o,3≤p:=fun p hp=>by have:=G.fresh p hp;simp at this;omega
 have nd:=G.nd;have lz:=nI.leaf hQ rfl;simp only [dh,fB,dK,aG]at lz;clear G;refine vW @B @lq @lz ?_;exact⟨by unfold pz;rfl,Wp hQ fr nd (by omega)⟩
theorem ZA{T:Tb}(h:pY T){r s:R}(hr:r.wf:=by exact lX)(hs:s.wf:=by exact lX):PO T 189 [kN r,kN s] (kN (pI r s)):=by
 have o1:=pG h.kS hr;have o2:=pG h.kS hs
 cases hro:r.ok
 ·have e:pI r s=R0:=by unfold pI;rw [wE.1 hro];rfl
  rw [e];rw [hro]at o1;refine kW (fun x d=>x == 198) h.hT ?_;simp only [rQ,Lz,St.enter,aj,au,aN];refine ew ?_;refine jy o1 ?_;refine ew ?_;exact yT
 cases hso:s.ok
 ·have e:pI r s=R0:=by unfold pI;rw [wE.1 hso,Qs];rfl
  rw [e];rw [hro]at o1;rw [hso]at o2;refine kW (fun x d=>x == 198) h.hT ?_;simp only [rQ,Lz,St.enter,aj,au,aN];refine ew ?_;refine jy o1 ?_;refine ew ?_;refine jy o2 ?_;refine ew ?_;exact yT
 rw [hro]at o1;rw [hso]at o2;obtain⟨a,ha,rfl⟩:=Dw hro;obtain⟨b,hb,rfl⟩:=Dw hso;have e:pI (Q.raw (some a)) (Q.raw (some b))=Q.raw (PU (some a) (some b)):=by unfold pI;rw [Jd (q:=some a) ha,Jd (q:=some b) hb]
 have c:=aky h.Iu (a:=a) (b:=b) ha hb;rw [e];refine kW (fun x d=>x == 198) h.hT ?_;simp only [rQ,Lz,St.enter,aj,au,aN];refine ew ?_;refine jy o1 ?_;refine ew ?_;refine jy o2 ?_;refine ew ?_;refine kU c (by (refine ew ?_;try with_reducible exact True.intro)) ?_;intro r0 q o G;obtain⟨cs,rfl,hQ⟩:=G.ow.kV;obtain⟨z1,z2,rfl⟩:=hQ.rat
 have B:=G.old 2 (by simp);have lq:3≤q.length:=by have:=G.len;simp at this;omega
 have fr:∀p∈o,3≤p:=fun p hp=>by have:=G.fresh p hp;simp at this;omega
 have nd:=G.nd;have lz:=nI.leaf hQ rfl;simp only [dh,fB,dK,aG]at lz;clear G;refine vW @B @lq @lz ?_;exact Wp hQ fr nd (by omega)
theorem ac4{T:Tb}(h:CU T){n:Int}(hn : -1000000000000000000<n∧n<1000000000000000000:=by exact lX):PO T 53 [iv n] (Oo (bi n)):=by
 have hl:(mk n.natAbs).length≤2:=Ur (by omega);by_cases hneg:n<0
 ·have c1:=L9 h.qI (n:=-n) (by omega);have c2:=TG h.lN (neg:=true) (n:=n.natAbs) (by omega);rw [show (-n).toNat=n.natAbs by omega]at c1;rw [show sg true n.natAbs=n by simp only [sg,if_true];omega]at c2;have c0:¬n = -9223372036854775808:=by omega
  refine kW (fun x d=>x == 66) h.hT ?_;simp only [sW,Lz,St.enter,aj,au,aN];refine ew ?_;refine uh @c0 @hneg ?_;rw [show (0:Int)-n = -n by omega];refine jy c1 ?_;refine ew ?_;refine kU c2 (by (refine ew ?_;try with_reducible exact True.intro)) ?_;intro r0 q o G;obtain⟨cs,rfl,hQ⟩:=G.ow.kV;obtain⟨z1,rfl,_⟩:=Wn hQ;have B:=G.old 0 (by simp);have lq:1≤q.length:=by have:=G.len;simp at this;omega
  have fr:∀p∈o,1≤p:=fun p hp=>by have:=G.fresh p hp;simp at this;omega
  have nd:=G.nd;have lz:=nI.leaf hQ rfl;simp only [dh,fB,dK,aG]at lz;clear G;refine vW @B @lq @lz ?_;exact Wp hQ fr nd (by omega)
 have c1:=L9 h.qI (n:=n) (by omega);have c2:=TG h.lN (neg:=false) (n:=n.natAbs) (by omega);rw [show n.toNat=n.natAbs by omega]at c1;rw [show sg false n.natAbs=n by simp only [sg,aX,if_false];omega]at c2;have c0:¬n = -9223372036854775808:=by omega
 refine kW (fun x d=>x == 66) h.hT ?_;simp only [sW,Lz,St.enter,aj,au,aN];refine ew ?_;refine uh @c0 @hneg ?_;refine jy c1 ?_;refine ew ?_;refine kU c2 (by (refine ew ?_;try with_reducible exact True.intro)) ?_;intro r0 q o G;obtain⟨cs,rfl,hQ⟩:=G.ow.kV;obtain⟨z1,rfl,_⟩:=Wn hQ;have B:=G.old 0 (by simp);have lq:1≤q.length:=by have:=G.len;simp at this;omega
 have fr:∀p∈o,1≤p:=fun p hp=>by have:=G.fresh p hp;simp at this;omega
 have nd:=G.nd;have lz:=nI.leaf hQ rfl;simp only [dh,fB,dK,aG]at lz;clear G;refine vW @B @lq @lz ?_;exact Wp hQ fr nd (by omega)
theorem anF{q:Store}{o:List Nat}{z:V}{b:Bool}{X:List Int}{x:Obj}(hz:lM q z (ints X) o)(fr:∀p∈o,2≤p)(lq:2≤q.length)(nd:o.Nodup) :
  Fin ((q.set 1 (some ⟨1,[[.int .i64 1]]⟩)).set 0 (some x)) (.agg [.bool b,z,.kP 1 0 1]) (kN ⟨b,X,[1]⟩):=by
 have h1:lM ((q.set 1 (some ⟨1,[[.int .i64 1]]⟩)).set 0 (some x)) z (ints X) o:=hz.frame fun p hp=>by
  have:=fr p hp;rw [jV (by omega),jV (by omega)]
 have h2:jH ((q.set 1 (some ⟨1,[[.int .i64 1]]⟩)).set 0 (some x)) 1=some ⟨1,kF [1]⟩:=by
  rw [jV (by omega)];exact kT (by omega)
 refine rE (Q8 h1 (Ez h2)) ?_;rw [bg];refine⟨nd,by simp,fun a ha c hc e=>?_⟩;have:=fr a ha;rw [aT.1 hc]at e;omega
theorem FC{T:Tb}(h:nU T){n:Int}(hn : -1000000000000000000<n∧n<1000000000000000000:=by exact lX):PO T 36 [iv n] (kN (kR n)):=by
 have c:=ac4 h.Pz hn;rw [Us];refine kW (fun x d=>x == 53) h.hT ?_;simp only [vM,Lz,St.enter,aj,au,aN];refine ew ?_;refine kU c (by (refine ew ?_;try with_reducible exact True.intro)) ?_;intro r0 q o G;obtain⟨cs,rfl,hQ⟩:=G.ow.kV;obtain⟨z1,rfl,hz⟩:=Wn hQ;have B:=G.old 0 (by simp);have lq:2≤q.length:=by have:=G.len;simp at this;omega
 have fr:∀p∈o,2≤p:=fun p hp=>by have:=G.fresh p hp;simp at this;omega
 have nd:=G.nd;have lz:=nI.leaf hQ rfl;simp only [dh,fB,dK,aG]at lz;clear G;refine vW @B @lq @lz ?_;exact anF hz fr lq nd
theorem QF{T:Tb}(h:xw T){c:Cd}{at':List Pt}(hw:c.wf:=by exact lX)(hp:Bg Pt.wf at':=by exact lX)(hl:c.ps.length≤1048576:=by exact lX)(hl2:at'.length≤1048576:=by exact lX):PO T 366 [TQ c,D5 at'] (.nK [ptV (acV c at'),.bool (FB c at')]):=by
 have ci:=yS h.pO hw
 cases hb:rD c
 ·rw [hb]at ci;have e1:FB c at'=false:=by unfold FB;rw [hb];rfl
  rw [acR e1,e1];refine kW (fun x d=>(x == 36&&d == 13)||(x == 36&&d == 14)||(x == 189&&d == 43)||(x == 189&&d == 59)) h.hT ?_;simp only [qy,Lz,St.enter,aj,au,aN];refine ew ?_;refine jy ci ?_;refine ew ?_;exact Zv.PW
 rw [hb]at ci;have bad:∀k,k<c.ps.length→¬(c.ps.getD k default).node<at'.length→∀σ,Fin σ (.nK [.agg [.bool false,.jL,.jL,.bool false,.jL,.jL],.bool false]) (.nK [ptV (acV c at'),.bool (FB c at')]):=fun k hk h σ=>by
  have e1:FB c at'=false:=by unfold FB;rw [aiI hk h,hb];rfl
  rw [acR e1,e1];exact Zv.PW
 have hpa:=fun k hk=>aiJ hb (k:=k) hk;refine kW (fun x d=>(x == 36&&d == 13)||(x == 36&&d == 14)||(x == 189&&d == 43)||(x == 189&&d == 59)) h.hT ?_;simp only [qy,Lz,St.enter,aj,au,aN];refine ew ?_;refine jy ci ?_;refine ew ?_;refine kU (FC h.kZ (n:=0)) (by (refine ew ?_;try with_reducible exact True.intro)) ?_;intro r q0 o1 G;have gl0:3≤q0.length:=by simpa using G.len
 obtain⟨_,rfl,Zk⟩:=G.ow.kV;obtain⟨x1,x2,rfl⟩:=Zk.rat
 have E:Ep [some ⟨5,[c.cells]⟩,some ⟨6,[[.bool false,.jL,.jL,.bool false,.jL,.jL]]⟩] [] [] [] [(0,⟨5,[c.cells]⟩),(1,⟨6,[[.bool false,.jL,.jL,.bool false,.jL,.jL]]⟩)]:=⟨Np,by simp [jH]⟩;have E1:=E.got (s1:=[some ⟨5,[c.cells]⟩,some ⟨6,[[.bool false,.jL,.jL,.bool false,.jL,.jL]]⟩]++[none]) (fun q hq=>lQ hq) (by simp) Zk G.nd G.fresh G.old;have F1:=E.free (s1:=[some ⟨5,[c.cells]⟩,some ⟨6,[[.bool false,.jL,.jL,.bool false,.jL,.jL]]⟩]++[none]) (p:=2) G.fresh (by simp) (by simp);clear E G;have L0:=E1.at0 (p:=0) (ob:=⟨5,[c.cells]⟩) (by simp);refine qj @L0 ?_;clear L0;refine kU (FC h.kZ (n:=0)) (by (refine ew ?_;try with_reducible exact True.intro)) ?_;intro r q1 o2 G;have gl:3≤q1.length:=cZ gl0 G.len;obtain⟨_,rfl,hQ2⟩:=G.ow.kV;obtain⟨x3,x4,rfl⟩:=hQ2.rat
 have E2:=E1.got (fun q hq=>rfl) (aP _) hQ2 G.nd G.fresh G.old;have F0:2∉([]++o1)++o2:=fun hm=>by
  rcases aO.1 hm with hm|hm
  ·exact F1 hm
  have:=G.fresh 2 hm;omega
 clear E1 G F1;have E:Ep q1 [.bool (kR 0).neg,x1,x2,.bool (kR 0).neg,x3,x4] [.bool (kR 0).neg,ints (kR 0).mag,ints (kR 0).den,.bool (kR 0).neg,ints (kR 0).mag,ints (kR 0).den] _ [(0,⟨5,[c.cells]⟩),(1,⟨6,[[.bool false,.jL,.jL,.bool false,.jL,.jL]]⟩)]:=E2;clear E2
 replace E:=E.EF (p:=2) (ob:=⟨6,[[.bool (kR 0).neg,x1,x2,.bool (kR 0).neg,x3,x4]]⟩) (L':=[(0,⟨5,[c.cells]⟩),(1,⟨6,[[.bool false,.jL,.jL,.bool false,.jL,.jL]]⟩),(2,⟨6,[[.bool (kR 0).neg,x1,x2,.bool (kR 0).neg,x3,x4]]⟩)]) F0 (by omega) (by simp)
 have LF:=ah (ah (E.leaf 1 rfl rfl) (E.leaf 2 rfl rfl)) (ah (E.leaf 4 rfl rfl) (E.leaf 5 rfl rfl));have L0:=E.at0 (p:=0) (ob:=⟨5,[c.cells]⟩) (by simp);have hqe:jH q1 0=some ⟨5,[c.cells]⟩:=by have:=L0.1;rwa [jV (by omega)]at this
 refine DF @LF @List.set_set.{0} @hqe @gl ?_;clear LF L0 hqe;refine kG (fun x d=>(x == 36&&d == 13)||(x == 36&&d == 14)||(x == 189&&d == 43)||(x == 189&&d == 59)) (α:=Nat×Store×V×V×V×V×List Nat) (fun q=>⟨kX [.any,D5 at',.any,.any,.ptr 1 0 0,.any,.ptr 2 0 0,.any,.any,.any,.any,.any,.any,.any,.any,.any,.any,xJ c.ps,iv (c.ps.length:Nat),iv (q.1:Nat)],q.2.1,0,0,[],[]⟩) (fun q=>(q.1≤c.ps.length∧∀k,k<q.1→(c.ps.getD k default).node<at'.length)∧Ep q.2.1 [.bool (zY c at' q.1).neg,q.2.2.1,q.2.2.2.1,.bool (Oq c at' q.1).neg,q.2.2.2.2.1,q.2.2.2.2.2.1] [.bool (zY c at' q.1).neg,ints (zY c at' q.1).mag,ints (zY c at' q.1).den,.bool (Oq c at' q.1).neg,ints (Oq c at' q.1).mag,ints (Oq c at' q.1).den] q.2.2.2.2.2.2 [(0,⟨5,[c.cells]⟩),(1,⟨6,[[.bool false,.jL,.jL,.bool false,.jL,.jL]]⟩),(2,⟨6,[[.bool (zY c at' q.1).neg,q.2.2.1,q.2.2.2.1,.bool (Oq c at' q.1).neg,q.2.2.2.2.1,q.2.2.2.2.2.1]]⟩)]) (fun q=>c.ps.length-q.1) rfl (0,(q1.set 2 (some ⟨6,[[.bool (kR 0).neg,x1,x2,.bool (kR 0).neg,x3,x4]]⟩)),x1,x2,x3,x4,([]++o1)++o2) ?_ ?_ ?_
 ·exact⟨⟨by omega,by intro k hk;omega⟩,E⟩
 ·(refine jW ?_;exact qw)
 clear E;rintro⟨i,s,x1,x2,x3,x4,os⟩ ⟨⟨hi,hg⟩,E⟩;dsimp only at hi hg E;have ex:zY c at' (i+1)=pI (zY c at' i) (Zu (c.ps.getD i default) (at'.getD (c.ps.getD i default).node.toNat default).x (c.ps.getD i default).dx):=rfl;have ey:Oq c at' (i+1)=pI (Oq c at' i) (Zu (c.ps.getD i default) (at'.getD (c.ps.getD i default).node.toNat default).y (c.ps.getD i default).dy):=rfl;have hxc:=ahw c at' i;have hyc:=ahx c at' i;have hbad:=bad i;have hpa:=hpa i;have hfx:i=c.ps.length→zY c at' c.ps.length=zY c at' i:=fun e=>by rw [e]
 have hfy:i=c.ps.length→Oq c at' c.ps.length=Oq c at' i:=fun e=>by rw [e]
 generalize hX:zY c at' i=X at ex hxc hfx E;generalize hY:Oq c at' i=Y at ey hyc hfy E;have L1:=E.at0 (p:=1) (ob:=⟨6,[[.bool false,.jL,.jL,.bool false,.jL,.jL]]⟩) (by simp);have L2:=E.at0 (p:=2) (ob:=⟨6,[[.bool X.neg,x1,x2,.bool Y.neg,x3,x4]]⟩) (by simp);by_cases hc:(i:Int)<(c.ps.length:Nat)
 ·have hil:i<c.ps.length:=by omega
  have hxw:=Tv hw.2 hil;have hbad:=hbad hil;obtain⟨hp0,hp1⟩:=hpa hil;have hgs:(c.ps.getD i default).node<at'.length→∀k,k<i+1→(c.ps.getD k default).node<at'.length:=fun h k hk=>by
   by_cases e:k=i
   ·subst e;exact h
   exact hg k (by omega)
  have hmx:(c.ps.map Pa.cells).getD i []=(c.ps.getD i default).cells:=mg hil;generalize c.ps.getD i default=p at ex ey hbad hxw hgs hp0 hp1 hmx;by_cases hn:p.node<at'.length
  ·have hn1:¬p.node≥(at'.length:Nat):=by omega
   have hgs:=hgs hn;have wp:=Tv hp (k:=p.node.toNat) (by omega);have g1:(at'.map Pt.cells).getD p.node.toNat []=(at'.getD p.node.toNat default).cells:=mg (by omega);generalize at'.getD p.node.toNat default=q at ex ey wp g1;have hsc:=zH hp1;refine zK @hc @hmx @L1 @L2 @hn1 @g1 ?_;refine jy (vw h.lJ wp.1 hxw.2.1) ?_;obtain⟨pi,hpi⟩:∃pi,s.length=pi:=⟨_,rfl⟩;obtain⟨s1,hs1⟩:∃s1,s++[some ⟨10,[p.cells]⟩]=s1:=⟨_,rfl⟩;have E1:=E.push (ob:=⟨10,[p.cells]⟩);rw [hs1,hpi]at E1;have hl1:s1.length=pi+1:=by rw [←hs1,←hpi];simp
   have hpi2:3≤pi:=by have:=L2.2;omega
   clear E;simp only [hs1];simp only [hpi];have MP:=E1.at0 (p:=pi) (ob:=⟨10,[p.cells]⟩) (by simp);have M1:=E1.at0 (p:=1) (ob:=⟨6,[[.bool false,.jL,.jL,.bool false,.jL,.jL]]⟩) (by simp);have M2:=E1.at0 (p:=2) (ob:=⟨6,[[.bool X.neg,x1,x2,.bool Y.neg,x3,x4]]⟩) (by simp);have R:=ah (E1.res1 1 rfl rfl (jS _ _)) (E1.res1 2 rfl rfl (jS _ _));refine ew7 @MP @M1 @M2 @g1 @R @jT @kM ?_;refine jy (wV h.nV hxw.1 (mP (vK _ _))) ?_;refine ew7 @MP @M1 @M2 @g1 @R @jT @kM ?_;refine DY (fun o=>o∈os) (show PO T 189 [kN X,kN (Zu p q.x p.dx)] (kN (pI X (Zu p q.x p.dx)))from ZA h.lJ (mP hxc) (mP (acQ _ _ _))) (by (refine vW @R @jT @kM ?_;try with_reducible exact True.intro);rfl) ?_ ?_
   ·intro o ho;have ho:o∈reach s1 (11+1) (.agg [.bool X.neg,x1,x2])++(reach s1 FD (kN (Zu p q.x p.dx))++[]):=ho;rw [show reach s1 FD (kN (Zu p q.x p.dx))=[]from by (refine ew ?_;try with_reducible exact True.intro),aQ,aQ]at ho;obtain⟨c,hc,ho⟩:=Am.1 ho;rcases aH.1 hc with e|hc
    ·rw [e]at ho;simp [reach]at ho
    rcases aH.1 hc with e|hc
    ·rw [e]at ho;exact E1.reach 1 rfl rfl _ o ho
    rw [aT.1 hc]at ho;exact E1.reach 2 rfl rfl _ o ho
   intro Rr r q2 oq2 hRr G;obtain⟨_,rfl,hQ⟩:=G.ow.kV;obtain⟨y1,y2,rfl⟩:=hQ.rat
   obtain⟨os2,E0,hos⟩:=Ep.ahz (a:=[.bool X.neg,x1,x2]) (b:=[.bool Y.neg,x3,x4]) (ta:=[.bool X.neg,ints X.mag,ints X.den]) (tb:=[.bool Y.neg,ints Y.mag,ints Y.den]) E1 rfl (s1:=s1) (fun q hq=>rfl) (aP _) hQ G.nd G.fresh G.old;have gl:=G.len;have n2:2∉os2:=fun hm=>by
    rcases hos 2 hm with h|h
    ·exact(E1.l (2,⟨6,[[.bool X.neg,x1,x2,.bool Y.neg,x3,x4]]⟩) (by simp)).2 h
    omega
   clear hos hRr G hQ E1 R MP M1 M2;rw [←ex]at E0;have E2:Ep q2 [.bool (zY c at' (i+1)).neg,y1,y2,.bool Y.neg,x3,x4] [.bool (zY c at' (i+1)).neg,ints (zY c at' (i+1)).mag,ints (zY c at' (i+1)).den,.bool Y.neg,ints Y.mag,ints Y.den] os2 [(0,⟨5,[c.cells]⟩),(1,⟨6,[[.bool false,.jL,.jL,.bool false,.jL,.jL]]⟩),(2,⟨6,[[.bool X.neg,x1,x2,.bool Y.neg,x3,x4]]⟩),(pi,⟨10,[p.cells]⟩)]:=E0;clear E0;have MP:=E2.at0 (p:=pi) (ob:=⟨10,[p.cells]⟩) (by simp);have M1:=E2.at0 (p:=1) (ob:=⟨6,[[.bool false,.jL,.jL,.bool false,.jL,.jL]]⟩) (by simp);have M2:=E2.at0 (p:=2) (ob:=⟨6,[[.bool X.neg,x1,x2,.bool Y.neg,x3,x4]]⟩) (by simp);have LF:=ah (ah (E2.leaf 1 rfl rfl) (E2.leaf 2 rfl rfl)) (ah (E2.leaf 4 rfl rfl) (E2.leaf 5 rfl rfl));refine ew8 @MP @M1 @M2 @g1 @LF @jT @kM @List.set_set.{0} ?_;refine⟨by unfold pz;rfl,?_⟩
   try rw [←ex]
   obtain⟨s3,hs⟩:∃s,q2.set 2 (some ⟨6,[[.bool (zY c at' (i+1)).neg,y1,y2,.bool Y.neg,x3,x4]]⟩)=s:=⟨_,rfl⟩;have E5:=E2.EF (p:=2) (ob:=⟨6,[[.bool (zY c at' (i+1)).neg,y1,y2,.bool Y.neg,x3,x4]]⟩) (L':=[(0,⟨5,[c.cells]⟩),(1,⟨6,[[.bool false,.jL,.jL,.bool false,.jL,.jL]]⟩),(2,⟨6,[[.bool (zY c at' (i+1)).neg,y1,y2,.bool Y.neg,x3,x4]]⟩),(pi,⟨10,[p.cells]⟩)]) n2 M2.2 (by simp;try omega);have hl2:q2.length=s3.length:=by rw [←hs];simp
   rw [hs]at E5;simp only [hs]
   try simp only [hl2]
   rw [hl2]at gl;clear E2 MP M1 M2 LF hs hl2 n2;have MP:=E5.at0 (p:=pi) (ob:=⟨10,[p.cells]⟩) (by simp);have M1:=E5.at0 (p:=1) (ob:=⟨6,[[.bool false,.jL,.jL,.bool false,.jL,.jL]]⟩) (by simp);have M2:=E5.at0 (p:=2) (ob:=⟨6,[[.bool (zY c at' (i+1)).neg,y1,y2,.bool Y.neg,x3,x4]]⟩) (by simp);have R:=ah (E5.res1 4 rfl rfl (jS _ _)) (E5.res1 5 rfl rfl (jS _ _));refine jy (vw h.lJ wp.2 hxw.2.2) ?_;refine ew7 @MP @M1 @M2 @g1 @R @jT @kM ?_;refine jy (wV h.nV hxw.1 (mP (vK _ _))) ?_;refine ew7 @MP @M1 @M2 @g1 @R @jT @kM ?_;refine DY (fun o=>o∈os2) (show PO T 189 [kN Y,kN (Zu p q.y p.dy)] (kN (pI Y (Zu p q.y p.dy)))from ZA h.lJ (mP hyc) (mP (acQ _ _ _))) (by (refine vW @R @jT @kM ?_;try with_reducible exact True.intro);rfl) ?_ ?_
   ·intro o ho;have ho:o∈reach s3 (11+1) (.agg [.bool Y.neg,x3,x4])++(reach s3 FD (kN (Zu p q.y p.dy))++[]):=ho;rw [show reach s3 FD (kN (Zu p q.y p.dy))=[]from by (refine ew ?_;try with_reducible exact True.intro),aQ,aQ]at ho;obtain⟨c,hc,ho⟩:=Am.1 ho;rcases aH.1 hc with e|hc
    ·rw [e]at ho;simp [reach]at ho
    rcases aH.1 hc with e|hc
    ·rw [e]at ho;exact E5.reach 4 rfl rfl _ o ho
    rw [aT.1 hc]at ho;exact E5.reach 5 rfl rfl _ o ho
   intro Rr r q4 oq4 hRr G;obtain⟨_,rfl,hQ⟩:=G.ow.kV;obtain⟨y3,y4,rfl⟩:=hQ.rat
   obtain⟨os4,E0,hos⟩:=Ep.anl (a:=[.bool (zY c at' (i+1)).neg,y1,y2]) (b:=[.bool Y.neg,x3,x4]) (ta:=[.bool (zY c at' (i+1)).neg,ints (zY c at' (i+1)).mag,ints (zY c at' (i+1)).den]) (tb:=[.bool Y.neg,ints Y.mag,ints Y.den]) E5 rfl (s1:=s3) (fun q hq=>rfl) (aP _) hQ G.nd G.fresh G.old;have gl:=G.len;have n2:2∉os4:=fun hm=>by
    rcases hos 2 hm with h|h
    ·exact(E5.l (2,⟨6,[[.bool (zY c at' (i+1)).neg,y1,y2,.bool Y.neg,x3,x4]]⟩) (by simp)).2 h
    omega
   clear hos hRr G hQ E5 R MP M1 M2;rw [←ey]at E0;have E4:Ep q4 [.bool (zY c at' (i+1)).neg,y1,y2,.bool (Oq c at' (i+1)).neg,y3,y4] [.bool (zY c at' (i+1)).neg,ints (zY c at' (i+1)).mag,ints (zY c at' (i+1)).den,.bool (Oq c at' (i+1)).neg,ints (Oq c at' (i+1)).mag,ints (Oq c at' (i+1)).den] os4 [(0,⟨5,[c.cells]⟩),(1,⟨6,[[.bool false,.jL,.jL,.bool false,.jL,.jL]]⟩),(2,⟨6,[[.bool (zY c at' (i+1)).neg,y1,y2,.bool Y.neg,x3,x4]]⟩),(pi,⟨10,[p.cells]⟩)]:=E0;clear E0;have MP:=E4.at0 (p:=pi) (ob:=⟨10,[p.cells]⟩) (by simp);have M1:=E4.at0 (p:=1) (ob:=⟨6,[[.bool false,.jL,.jL,.bool false,.jL,.jL]]⟩) (by simp);have M2:=E4.at0 (p:=2) (ob:=⟨6,[[.bool (zY c at' (i+1)).neg,y1,y2,.bool Y.neg,x3,x4]]⟩) (by simp);have LF:=ah (ah (E4.leaf 1 rfl rfl) (E4.leaf 2 rfl rfl)) (ah (E4.leaf 4 rfl rfl) (E4.leaf 5 rfl rfl));refine ew8 @MP @M1 @M2 @g1 @LF @jT @kM @List.set_set.{0} ?_;refine⟨by unfold pz;rfl,?_⟩
   try rw [←ey]
   obtain⟨s5,hs⟩:∃s,q4.set 2 (some ⟨6,[[.bool (zY c at' (i+1)).neg,y1,y2,.bool (Oq c at' (i+1)).neg,y3,y4]]⟩)=s:=⟨_,rfl⟩;have E5:=E4.EF (p:=2) (ob:=⟨6,[[.bool (zY c at' (i+1)).neg,y1,y2,.bool (Oq c at' (i+1)).neg,y3,y4]]⟩) (L':=[(0,⟨5,[c.cells]⟩),(1,⟨6,[[.bool false,.jL,.jL,.bool false,.jL,.jL]]⟩),(2,⟨6,[[.bool (zY c at' (i+1)).neg,y1,y2,.bool (Oq c at' (i+1)).neg,y3,y4]]⟩),(pi,⟨10,[p.cells]⟩)]) n2 M2.2 (by simp;try omega);have hl2:q4.length=s5.length:=by rw [←hs];simp
   rw [hs]at E5;simp only [hs]
   try simp only [hl2]
   rw [hl2]at gl;clear E4 MP M1 M2 LF hs hl2 n2;refine⟨(i+1,s5,y1,y2,y3,y4,os4),by dsimp only;omega,⟨⟨by dsimp only;omega,hgs⟩,E5.sub (by intro q hq;simp only [List.mem_cons,List.not_mem_nil,or_false]at hq ⊢;rcases hq with h|h|h<;>simp [h])⟩,?_⟩;dsimp only
   (refine jW ?_;exact qw)
  have hn1:p.node≥(at'.length:Nat):=by omega
  refine Df @hc @hmx @L1 @L2 @hn1 ?_;exact hbad hn _
 have hie:i=c.ps.length:=by omega
 have hG:=afh (c:=c) (n:=at'.length) fun k hk=>hg k (by omega);have e1:FB c at'=((zY c at' c.ps.length).ok&&(Oq c at' c.ps.length).ok):=by unfold FB;rw [hb,hG,bU,bU]
 unfold acV;rw [e1,hfx hie,hfy hie];have co:=ahy h.Xl (p:=⟨X,Y⟩) ⟨mP hxc,mP hyc⟩;dsimp only at co;have LF:=ah (ah (E.leaf 1 rfl rfl) (E.leaf 2 rfl rfl)) (ah (E.leaf 4 rfl rfl) (E.leaf 5 rfl rfl));have R:=ah (ah (E.res1 1 rfl rfl (jS _ _)) (E.res1 2 rfl rfl (jS _ _))) (ah (E.res1 4 rfl rfl (jS _ _)) (E.res1 5 rfl rfl (jS _ _)));refine zK @hc @L1 @L2 @R @jT @kM ?_;refine jy co ?_
 cases hb2:(X.ok&&Y.ok)
 ·refine vW @L1 @L2 @LF ?_;exact Zv.PW
 refine vW @L1 @L2 @LF ?_;have n1:=(E.l (1,⟨6,[[.bool false,.jL,.jL,.bool false,.jL,.jL]]⟩) (by simp)).2;have C:=E.c.set (o:=1) (x:=some ⟨6,[[.bool X.neg,x1,x2,.bool Y.neg,x3,x4]]⟩) n1;have hf:Fin (s.set 1 (some ⟨6,[[.bool X.neg,x1,x2,.bool Y.neg,x3,x4]]⟩)) (.agg [.bool X.neg,x1,x2,.bool Y.neg,x3,x4]) (ptV ⟨X,Y⟩):=rE (nN C.ow) C.nd;exact hf.PW
def BZ(σ:Store)(p:Nat)(ob:Obj)(os:List Nat):Store:=(List.range σ.length).map fun k=>if k=p then some ob else if k∈os then jH σ k else none
def keepW(σ:Store)(p n:Nat)(os:List Nat):P6:=(List.range σ.length).map fun k=>if k=p then some (p,0,n)else if k∈os then(jH σ k).map (fun ob=>(k,0,ob.rows.length))else none
theorem Cb{σ:Store}{p:Nat}{ob:Obj}{os:List Nat}{k:Nat}(hk:k<σ.length):jH (BZ σ p ob os) k=if k=p then some ob else if k∈os then jH σ k else none:=by
 simp only [jH,BZ,bG,dw hk];rfl
theorem Cc{σ:Store}{p n:Nat}{os:List Nat}{k:Nat}(hk:k<σ.length):(keepW σ p n os)[k]? = some (if k=p then some (p,0,n)else if k∈os then(jH σ k).map (fun ob=>(k,0,ob.rows.length))else none):=by
 unfold keepW;rw [bG,dw hk];rfl
theorem Ky{σ:Store}{p n:Nat}{os:List Nat}{k o s l:Nat}(h:(keepW σ p n os)[k]? = some (some (o,s,l))):k<σ.length∧o=k∧s=0∧((k=p∧l=n)∨(k≠p∧k∈os∧∃ob,jH σ k=some ob∧l=ob.rows.length)):=by
 have hk:k<σ.length:=by
  have:=(aK.1 h).1;unfold keepW at this;simpa using this
 rw [Cc hk]at h;refine⟨hk,?_⟩;by_cases e:k=p
 ·rw [if_pos e]at h;simp only [aC,Prod.mk.injEq]at h;exact⟨by omega,h.2.1.symm,.inl ⟨e,h.2.2.symm⟩⟩
 rw [if_neg e]at h;by_cases m:k∈os
 ·rw [if_pos m]at h;simp only [aC,aI]at h;obtain⟨ob,h1,h2⟩:=h;simp only [Prod.mk.injEq]at h2;exact⟨h2.1.symm,h2.2.1.symm,.inr ⟨e,m,ob,h1,h2.2.2.symm⟩⟩
 rw [if_neg m]at h
 cases h
theorem ZB{p n:Nat}{vs:List V}{env:Nat→V}{σ:Store}{b1 b2:Nat}{r1 r2 m1 m2:List Nat}{A A':List (List V)}{os:List Nat}(h:jH σ p=some ⟨n,A⟩)(hl:A'.length=A.length)
  (hs:∀o∈os,∀ob,jH σ o=some ob→l7 ob.rows)
  (hr:∀(i:Nat) (r r2:List V),A[i]? = some r→A'[i]? = some r2→Gf (keepW σ p A.length os) σ r r2) (he:Jl (keepW σ p A.length os) σ vs 0 env) :
  Fg ⟨kX vs,BZ σ p ⟨n,A'⟩ os,0,b1,r1,m1⟩ ⟨env,σ,0,b2,r2,m2⟩:=by
 refine .re (keepW σ p A.length os) ⟨⟨by unfold BZ keepW;simp,?_,?_,?_⟩,rfl,fun i hi=>absurd hi (iG _),fun t=>by have:=he.at_ t;rwa [aN]at this⟩
 ·intro i j o s l s' l' hi hj;rw [←(Ky hi).2.1,←(Ky hj).2.1]
 ·intro k o s l hk;obtain⟨hlt,rfl,rfl,hk2⟩:=Ky hk;rcases hk2 with ⟨rfl,rfl⟩|⟨e,m,ob,h1,rfl⟩
  ·refine⟨_,⟨n,A'⟩,h,by simp,by show jH (BZ _ _ _ _) _=_;rw [Cb hlt,if_pos rfl],rfl,hl,fun i r r2 h1 h2=>hr i r r2 (by simpa using h1) h2⟩
  refine⟨ob,ob,h1,by simp,by show jH (BZ _ _ _ _) _=_;rw [Cb hlt,if_neg e,if_pos m,h1],rfl,rfl,fun i r r2 h2 h3=>?_⟩;rw [aN,h3]at h2;simp only [aC]at h2;subst h2;exact KG fun v hv=>hs o m ob h1 r2 (aS h3) v hv
 intro k hk;have hlt:k<σ.length:=by
  have:=(aK.1 hk).1;unfold keepW at this;simpa using this
 rw [Cc hlt]at hk;show jH (BZ _ _ _ _) _=_;rw [Cb hlt];by_cases e:k=p
 ·rw [if_pos e]at hk;cases hk
 rw [if_neg e]at hk ⊢;by_cases m:k∈os
 ·rw [if_pos m]at hk ⊢
  cases ho:jH σ k
  ·rfl
  rw [ho]at hk;cases hk
 rw [if_neg m]
theorem Ko{σ:Store}{v:V}{l:List Int}{os os2:List Nat}{p n:Nat}(h:lM σ v (ints l) os)(hm:∀o∈os,o∈os2∧o≠p):xG (keepW σ p n os2) σ v v:=by
 rcases h.wX with ⟨_,rfl,_⟩|⟨o,rfl,h1,rfl⟩
 ·exact xI rfl
 obtain⟨m1,m2⟩:=hm o (by simp);simp only [xG];refine .inl ⟨o,0,l.length,?_,dY _,by omega,by rw [Nat.sub_zero]⟩;rw [Cc (kK h1),if_neg m2,if_pos m1,h1];simp [zB]
theorem ZC{σ:Store}{b b2:Bool}{x1 x2 x3 x4:V}{l1 l2 l3 l4:List Int}{os:List Nat}(h:nI σ [.bool b,x1,x2,.bool b2,x3,x4] [.bool b,ints l1,ints l2,.bool b2,ints l3,ints l4] os) :
  ∃o1 o2 o3 o4,os=o1++(o2++(o3++o4))∧lM σ x1 (ints l1) o1∧lM σ x2 (ints l2) o2∧lM σ x3 (ints l3) o3∧lM σ x4 (ints l4) o4:=by
 simp only [nI]at h;obtain⟨_,_,_,_,e1,rfl,h1,_,_,_,_,e2,rfl,h2,_,_,_,_,e3,rfl,h3,_,_,_,_,e4,rfl,h4,_,_,_,_,e5,rfl,h5,_,_,_,_,e6,rfl,h6,e7,rfl⟩:=h;simp only [List.cons.injEq]at e1;obtain⟨rfl,rfl⟩:=e1;simp only [List.cons.injEq]at e2;obtain⟨rfl,rfl⟩:=e2;simp only [List.cons.injEq]at e3;obtain⟨rfl,rfl⟩:=e3;simp only [List.cons.injEq]at e4;obtain⟨rfl,rfl⟩:=e4;simp only [List.cons.injEq]at e5;obtain⟨rfl,rfl⟩:=e5;simp only [List.cons.injEq]at e6;obtain⟨rfl,rfl⟩:=e6;have kb:∀{b:Bool} {o:List Nat},lM σ (.bool b) (.bool b) o→o=[]:=fun h=>by simp only [lM]at h;exact h.2
 obtain rfl:=kb h1;obtain rfl:=kb h4;exact⟨_,_,_,_,by simp,h2,h3,h5,h6⟩
theorem FH{σ:Store}{v:V}{l:List Int}{os:List Nat}(h:lM σ v (ints l) os):∀o∈os,∀ob,jH σ o=some ob→l7 ob.rows:=by
 rcases h.wX with ⟨_,_,rfl⟩|⟨o,rfl,h1,rfl⟩
 ·intro o ho;cases ho
 intro q hq ob hob;rw [aT.1 hq,h1]at hob
 cases hob
 exact pF _
theorem U3{σ:Store}{b b2:Bool}{x1 x2 x3 x4:V}{l1 l2 l3 l4:List Int}{os:List Nat}(h:nI σ [.bool b,x1,x2,.bool b2,x3,x4] [.bool b,ints l1,ints l2,.bool b2,ints l3,ints l4] os):∀o∈os,∀ob,jH σ o=some ob→l7 ob.rows:=by
 obtain⟨o1,o2,o3,o4,rfl,h1,h2,h3,h4⟩:=ZC h;intro o ho;simp only [aO]at ho;rcases ho with ho|ho|ho|ho
 ·exact FH h1 o ho
 ·exact FH h2 o ho
 ·exact FH h3 o ho
 exact FH h4 o ho
theorem ZE{σ:Store}{b b2:Bool}{x1 x2 x3 x4:V}{l1 l2 l3 l4:List Int}{os os2:List Nat}{p n:Nat}(h:nI σ [.bool b,x1,x2,.bool b2,x3,x4] [.bool b,ints l1,ints l2,.bool b2,ints l3,ints l4] os)(hm:∀o∈os,o∈os2∧o≠p) :
  Gf (keepW σ p n os2) σ [.bool b,x1,x2,.bool b2,x3,x4] [.bool b,x1,x2,.bool b2,x3,x4]:=by
 obtain⟨o1,o2,o3,o4,rfl,h1,h2,h3,h4⟩:=ZC h;have k1:=Ko (n:=n) h1 fun o ho=>hm o (by simp [ho]);have k2:=Ko (n:=n) h2 fun o ho=>hm o (by simp [ho]);have k3:=Ko (n:=n) h3 fun o ho=>hm o (by simp [ho]);have k4:=Ko (n:=n) h4 fun o ho=>hm o (by simp [ho]);have kb:∀b:Bool,xG (keepW σ p n os2) σ (.bool b) (.bool b):=fun b=>xI rfl;simp only [Gf];exact⟨_,_,rfl,kb _,_,_,rfl,k1,_,_,rfl,k2,_,_,rfl,kb _,_,_,rfl,k3,_,_,rfl,k4,rfl⟩
theorem auE{σ:Store}:nI σ (⟨R0,R0⟩:Pt).cells (⟨R0,R0⟩:Pt).cells [] :=
 nS (oC (o1:=[]) mQ (oC (o1:=[]) mQ (nS (oC (o1:=[]) mQ (oC (o1:=[]) mQ nM)))))
theorem aiX{σ:Store}:∀m:Nat,nI σ (List.replicate m (⟨R0,R0⟩:Pt).cells).flatten (List.replicate m (⟨R0,R0⟩:Pt).cells).flatten []
 |0=>nM
 |
  m+1=>by
  rw [gB,dI];exact(mD auE (aiX m):nI σ _ _ ([]++[]))
theorem afx{σ:Store}{p m:Nat}{x1 x2 x3 x4:V}{os:List Nat}(h:nI σ [.bool (kR 0).neg,x1,x2,.bool (kR 0).neg,x3,x4] (⟨kR 0,kR 0⟩:Pt).cells os)(nd:os.Nodup)(hp:p∉os)(hl:p<σ.length) :
  Ep (BZ σ p ⟨6,[.bool (kR 0).neg,x1,x2,.bool (kR 0).neg,x3,x4]::List.replicate m (⟨R0,R0⟩:Pt).cells⟩ os)
   ([.bool (kR 0).neg,x1,x2,.bool (kR 0).neg,x3,x4]::List.replicate m (⟨R0,R0⟩:Pt).cells).flatten ((svP m).map Pt.cells).flatten os
   [(p,⟨6,[.bool (kR 0).neg,x1,x2,.bool (kR 0).neg,x3,x4]::List.replicate m (⟨R0,R0⟩:Pt).cells⟩)]:=by
 have hat:∀o∈os,jH (BZ σ p ⟨6,[.bool (kR 0).neg,x1,x2,.bool (kR 0).neg,x3,x4]::List.replicate m (⟨R0,R0⟩:Pt).cells⟩ os) o=jH σ o:=fun o ho=>by
  rw [Cb (h.lt o ho),if_neg (fun e=>hp (by rw [←e];exact ho)),if_pos ho]
 refine⟨⟨?_,nd⟩,fun q hq=>?_⟩
 ·rw [auD,dI,dI];have:=mD (h.frame hat) (aiX (σ:=BZ σ p ⟨6,[.bool (kR 0).neg,x1,x2,.bool (kR 0).neg,x3,x4]::List.replicate m (⟨R0,R0⟩:Pt).cells⟩ os) m)
  rwa [aQ]at this
 rw [aT.1 hq];exact⟨by rw [Cb hl,if_pos rfl],hp⟩
def GnA(n:Nat)(s:Store)(v:V)(A:List (List V)):Prop:=(A=[]∧v=.jL)∨∃p,v=.kP p 0 A.length∧jH s p=some ⟨n,A⟩∧3≤p∧0<A.length
theorem GnA.fr{n:Nat}{s s2:Store}{v:V}{A:List (List V)}(h:GnA n s v A)(hf:∀p,3≤p→p<s.length→jH s2 p=jH s p):GnA n s2 v A:=by
 rcases h with h|⟨p,h1,h2,h3⟩
 ·exact .inl h
 exact .inr ⟨p,h1,(hf p h3.1 (kK h2)).trans h2,h3⟩
def paZ(a:Pa):List V:=[iv a.node,.bool false,.jL,.jL]++a.dx.cells++a.dy.cells
def Pa.wc(a:Pa):List V:=a.share.cells
structure ElI (s:Store) (v:Int) (X:R) (pv wv:V) (P:List (List V)) (W:List (List V)):Prop where
 a0:jH s 0=some ⟨5,[[iv 0,.bool false,.jL,.jL,.jL]]⟩
 a1:jH s 1=some ⟨5,[[iv v,.bool X.neg,ints X.mag,ints X.den,pv]]⟩
 p:GnA 10 s pv P
 w:GnA 3 s wv W
theorem ElI.lt{s:Store}{v:Int}{X:R}{pv wv:V}{P W:List (List V)}(h:ElI s v X pv wv P W):2≤s.length:=kK h.a1
theorem I8{σ:Store}:nY (Option.map V.nK (match resolve σ 11 (V.agg [V.int .i64 0,V.bool false,V.jL,V.jL,V.jL])with|some d=>some [d,V.jL,V.bool false]|none=>none)) (lW (V.nK [TQ ⟨0,R0,[]⟩,kY [],V.bool false])):=by
 have e:resolve σ 11 (V.agg [V.int .i64 0,V.bool false,V.jL,V.jL,V.jL])=some (V.agg [V.int .i64 0,V.bool false,V.jL,V.jL,V.jL]):=by simp [resolve]
 rw [e];show lW _ _;simp only [lW,uG];exact⟨_,rfl,_,_,rfl,⟨_,rfl,_,_,rfl,rfl,_,_,rfl,rfl,_,_,rfl,.inl ⟨rfl,.inl rfl⟩,_,_,rfl,.inl ⟨rfl,.inl rfl⟩,_,_,rfl,.inl ⟨rfl,.inl rfl⟩,rfl⟩,_,_,rfl,.inl ⟨rfl,.inl rfl⟩,_,_,rfl,rfl,rfl⟩
theorem GU{σ:Store}{q n l:Nat}{rows:List (List V)}(h:jH σ q=some ⟨n,rows⟩)(hs:l7 rows):∀p∈reach σ FD (.kP q 0 l),p=q:=fun p hp=>by
 have hp:p∈reach σ (11+1) (.kP q 0 l):=hp;unfold reach at hp;rcases aH.1 hp with e|hp
 ·exact e
 exfalso;dsimp only at hp;rw [h]at hp;obtain⟨r,hr,hp⟩:=dV.1 hp;obtain⟨v,hv,hp⟩:=dV.1 hp;rw [show reach σ 11 v=[]from DU (hs r hr v hv)]at hp
 cases hp
theorem ZF{A:List Pa}{i:Nat}:∀{m:Nat},i≤m→∀x∈qR A i,x∈qR A m
 |0,h,x,hx=>by
           have:i=0:=by omega
           subst this;exact hx
 |
  m+1,h,x,hx=>by
  by_cases e:i=m+1
  ·subst e;exact hx
  exact aO.2 (.inl (ZF (m:=m) (by omega) x hx))
theorem anG{A:List Pa}{i k:Nat}(hi:i<k)(hk:k<A.length):QC (zT A) (A.getD i default) (A.getD k default)∈Oh A:=by
 refine ZF (i:=i+1) (by omega) _ (aO.2 (.inr ?_));unfold xu;rw [aY (by simp)];refine bM.2 ⟨A.getD k default,bF.2 ⟨k-(i+1),?_⟩,rfl⟩;rw [dA,show i+1+(k-(i+1))=k by omega,aB hk,ak,aB hk];rfl
theorem anH{A:List Pa}{i k:Nat}(hi:i<k)(hk:k<A.length)(h:qm (QC (zT A) (A.getD i default) (A.getD k default))=false):(Oh A).all qm=false :=
 jG.2 ⟨_,anG hi hk,by rw [h];simp⟩
theorem auF{s σ:Store}{c:Cd}{cs:List V}{mv:V}{M:List Lk}{o1:Obj}(he:c.cells=cs)(hst:∀v∈c.cells,v.still=true)(hL:LnA s mv M)(h1:jH σ 1=jH s 1)(hx:jH s 1=some o1)(hf:∀p,p≠0→jH σ p=jH s p)(h0:∃z,jH s 0=some ⟨5,z⟩) :
  nY (Option.map V.nK (match resolve σ 11 (V.agg cs)with|some d=>(match (match resolve σ 11 mv with|some d=>some [d,V.bool true]|none=>none)with|some ds=>some (d::ds)|none=>none)|none=>none)) (lW (V.nK [TQ c,kY M,V.bool true])):=by
 subst he;have e1:resolve σ 11 (V.agg c.cells)=some (TQ c):=by
  show (c.cells.mapM (resolve σ (9+1))).map _=_;rw [zy hst];rfl
 have e2:∃u,resolve σ 11 mv=some u∧lW (kY M) u:=by
  rcases hL with ⟨rfl,rfl⟩|⟨p,rfl,hp⟩
  ·exact⟨.jL,rfl,of_eq_true (mX 11)⟩
  have hp0:p≠0:=fun e=>by
   obtain⟨z,hz⟩:=h0;rw [e,hz]at hp;cases hp
  have:=Jh (n:=9) ((hf p hp0).trans hp) (DV M);rw [aV]at this;exact⟨_,this,kE _⟩
 obtain⟨u,e2,e3⟩:=e2;rw [e1,e2];have k:∀x y z:V,lW y z→lW (V.nK [x,y,V.bool true]) (V.nK [x,z,V.bool true]):=fun x y z h=>by
  simp only [lW,uG];exact⟨_,rfl,_,_,rfl,kE _,_,_,rfl,h,_,_,rfl,rfl,rfl⟩
 exact k _ _ _ e3
theorem O6(A:List Pa)(a:Pa):zT (A++[a])=pI (zT A) a.share:=by
 unfold zT LX;rw [bQ,bQ,iP];rfl
def sK:Fn:=⟨2,167,[.cell 4 5 true,.tmp 5,.tmp 6],(.seq (rf 1 [oN 4 (.alloc QW),oK 5 1 mN,oK 6 1 mF]) (.seq (sr [oW 18 1,oN 19 (bc .lss 18 1),oW 20 19,oG 20 false 21 (oV 1),oG 20 false 22 (bc .geq 21 10),oN 23 (.pick (.t 20) (.c (.bool true)) (.t 22))] (cd 23 (sr [oN 24 (.build QW []),oS (.store 5 (.t 4) (.t 24)),oN 5 mN,oN 6 mF] .ret) .skip)) (.seq (rf 1 [oK 25 1 (oV 1),oK 26 1 (.call 39 [(cI 0)]),oK 27 1 (.build QW [(0,1,(.t 25)),(1,3,(.t 26))]),oN 7 (.alloc QW),⟨none,none,1,.store 5 (.t 7) (.t 27),[]⟩]) (.seq (rf 1 [oN 28 (.ny 3 qL 0 []),oK 8 1 (oV 28)]) (.seq (sr [oW 29 0,oN 30 (ln 29),oN 31 (.mM (cI 0))] (.block 0 (.loop (sr [oN 32 (bt .lss 31 30)] (.seq (cd 32 .skip (.exit 0)) (.seq (.block 1 (.seq (rf 1 [oK 33 1 (ix 11 29 31),oK 34 1 (lT 11 33),oN 10 (.alloc D6),⟨none,none,1,.store 11 (.t 10) (.t 34),[]⟩]) (.seq (sr [oN 35 (fd 0 10),oN 36 (lF 1 35),oW 37 1,oN 38 (bt .eql 36 37)] (cd 38 (rt 2 [oK 39 2 (fd 4 7),oA 40 2 (lF 1 39) [0],oK 41 2 (fd 1 10),oA 42 2 (lF 1 41) [2],oK 43 2 (fd 5 10),oA 44 2 (lT 3 43) [4],oA 45 2 (cl 161 [44]) [5],oK 46 2 (fd 8 10),oA 47 2 (lT 3 46) [7],oA 48 2 (cl 161 [47]) [8,6],oA 49 2 (.build VG [(0,1,(.t 42)),(4,3,(.t 45)),(7,3,(.t 48))]) [3,6,9],oA 50 0 (.ny 10 VG 1 [(0,(.t 49))]) [10],oA 51 1 (.app 10 176 (.t 40) (.t 50)) [1,11,9],oA 52 2 (fd 4 7) [0,1,2,3,4,5,6,7,8,9,10,11,12],⟨none,none,2,.store 1 (.t 52) (.t 51),[13,12,12,0,1,2,3,4,5,6,7,8,9,10,11,12]⟩]) (sr [oN 53 (fd 1 10),oN 54 (lF 1 53),oW 55 1,oN 56 (bt .eql 54 55)] (cd 56 (rf 2 [oK 57 2 (fd 4 7),oK 58 2 (lF 1 57),oK 59 2 (fd 0 10),oK 60 2 (lF 1 59),oK 61 2 (fd 5 10),oK 62 2 (lT 3 61),oK 63 2 (fd 8 10),oK 64 2 (lT 3 63),oK 65 2 (.build VG [(0,1,(.t 60)),(4,3,(.t 62)),(7,3,(.t 64))]),oN 66 (.ny 10 VG 1 [(0,(.t 65))]),oK 67 1 (.app 10 176 (.t 58) (.t 66)),oK 68 2 (fd 4 7),⟨none,none,2,.store 1 (.t 68) (.t 67),[]⟩]) (.exit 1))))) (.seq (rf 2 [oK 69 2 (oV 8),oK 70 2 (fd 2 10),oK 71 2 (lT 3 70),oN 72 (.ny 3 qL 1 [(0,(.t 71))]),oK 73 1 (.app 3 56 (.t 69) (.t 72)),oK 8 2 (oV 73)]) (rg [oN 74 (fd 1 7),oN 75 (lT 3 74),oN 76 (fd 2 10),oN 77 (lT 3 76),oN 78 (cl 131 [75,77]),oN 79 (fd 1 7),oS (.store 3 (.t 79) (.t 78))]))))) (rg [oN 80 (bc .add 31 1),oW 31 80]))))))) (.seq (sr [oN 81 (fd 4 7),oN 82 (lF 1 81),oN 83 (ln 82),oN 84 (.mM (cI 0))] (.block 2 (.loop (sr [oN 85 (bt .lss 84 83)] (.seq (cd 85 .skip (.exit 2)) (.seq (.block 3 (sr [oW 86 84,oW 11 86] (rt 0 [oN 87 (fd 4 7),oA 88 0 (lF 1 87) [0],oW 89 11,oW 90 8,oW 91 11,oA 92 0 (ix 3 90 91) [3,4],oA 93 0 (lT 3 92) [5],oN 94 (fd 1 7),oA 95 0 (lT 3 94) [7],oA 96 0 (cl 156 [93,95]) [6,8],oA 97 0 (ix 10 88 89) [1,2,0,1,2,3,4,5,6,7,8,9],oA 98 0 (fd 1 97) [10,0,1,2,3,4,5,6,7,8,9],⟨none,none,0,.store 3 (.t 98) (.t 96),[11,9,9,0,1,2,3,4,5,6,7,8,9]⟩]))) (rg [oN 99 (bc .add 84 1),oW 84 99]))))))) (.seq (sr [oN 100 (lT 5 7),oN 101 (cl 185 [100]),oN 102 (nt 101)] (cd 102 (sr [oN 103 (.build QW []),oS (.store 5 (.t 4) (.t 103)),oN 5 mN,oN 6 mF] .ret) .skip)) (.seq (rf 1 [oN 104 (.ny 11 D6 0 []),oK 12 1 (oV 104)]) (.seq (sr [oN 105 (fd 4 7),oN 106 (lF 1 105),oN 107 (ln 106),oN 108 (.mM (cI 0))] (.block 4 (.loop (sr [oN 109 (bt .lss 108 107)] (.seq (cd 109 .skip (.exit 4)) (.seq (.block 5 (.seq (rf 1 [oK 110 1 (oV 108),oK 111 1 (ix 10 106 108),oK 112 1 (lT 10 111),oN 14 (.alloc VG),oK 13 1 (oV 110),⟨none,none,1,.store 10 (.t 14) (.t 112),[]⟩]) (sr [oW 113 13,oN 114 (bc .add 113 1),oW 15 114] (.block 6 (.loop (.seq (sr [oW 115 15,oN 116 (fd 4 7),oN 117 (lF 1 116),oN 118 (ln 117),oN 119 (bt .lss 115 118)] (cd 119 .skip (.exit 6))) (.seq (.block 7 (.seq (rf 1 [oK 122 1 (fd 4 7),oK 123 1 (lF 1 122),oK 124 1 (oV 15),oK 125 1 (ix 10 123 124),oK 126 1 (lT 10 125),oN 16 (.alloc VG),⟨none,none,1,.store 10 (.t 16) (.t 126),[]⟩]) (.seq (rt 1 [oK 127 1 (fd 0 14),oA 128 1 (lF 1 127) [0],oK 129 1 (fd 0 16),oA 130 1 (lF 1 129) [2],oK 131 1 (oV 8),oK 132 1 (oV 13),oA 133 1 (ix 3 131 132) [4,5],oA 134 1 (lT 3 133) [6],oK 135 1 (oV 8),oK 136 1 (oV 15),oA 137 1 (ix 3 135 136) [8,9],oA 138 1 (lT 3 137) [10],oA 139 1 (cl 157 [134,138]) [7,11],oK 140 1 (fd 1 7),oA 141 1 (lT 3 140) [13],oA 142 1 (cl 156 [139,141]) [12,14,12],oA 143 1 (.build D6 [(0,1,(.t 128)),(1,1,(.t 130)),(2,3,(.t 142))]) [1,3,15],oN 17 (.alloc D6),⟨none,none,1,.store 11 (.t 17) (.t 143),[17,16,15,0,1,2,3,4,5,6,7,8,9,10,11,12,13,14,15,16,17]⟩]) (sr [oN 144 (fd 4 14),oN 145 (lT 3 144),oN 146 (fd 4 16),oN 147 (lT 3 146),oN 148 (cl 159 [145,147]),oN 149 (fd 5 17),oS (.store 3 (.t 149) (.t 148))] (sr [oN 150 (fd 7 14),oN 151 (lT 3 150),oN 152 (fd 7 16),oN 153 (lT 3 152),oN 154 (cl 159 [151,153]),oN 155 (fd 8 17),oS (.store 3 (.t 155) (.t 154))] (.seq (sr [oN 156 (lT 11 17),oN 157 (cl 84 [156]),oN 158 (nt 157)] (cd 158 (sr [oN 159 (.build QW []),oS (.store 5 (.t 4) (.t 159)),oN 5 mN,oN 6 mF] .ret) .skip)) (rf 2 [oK 160 2 (oV 12),oK 161 2 (lT 11 17),oN 162 (.ny 11 D6 1 [(0,(.t 161))]),oK 163 1 (.app 11 184 (.t 160) (.t 162)),oK 12 2 (oV 163)]))))))) (rg [oW 120 15,oN 121 (bc .add 120 1),oW 15 121])))))))) (rg [oN 164 (bc .add 108 1),oW 108 164]))))))) (sr [oN 165 (lT 5 7),oW 166 12,oS (.store 5 (.t 4) (.t 165)),oW 5 166,oN 6 mT] .ret))))))))))⟩
structure zU (T:Tb):Prop where
 hT:T 182=some sK
 lG:oP T
 uP:uN T
 lC:nJ T
 yM:wB T
 nX:rM T
 BU:BF T
 Ij:BD T
 og:pJ T
theorem Xm{T:Tb}(h:zU T){S:List Lk}{v:Int}(hb:lH S=true)(hw:Bg Lk.wf S):PF T 182 [kY S,iv v] (.nK [TQ (elC S v),kY (elM S v),.bool (TS S v)]):=by
 have hl:S.length≤100:=Og hb;have c0:=Nj h.lG (n:=0);by_cases hv:1≤v∧v≤9
 ·have hv1:¬v<1:=by omega
  have hv2:¬v≥10:=by omega
  refine kH (fun x d=>(x == 39&&d == 999)) h.hT ?_;simp only [sK,Lz];refine ew ?_;refine uh @hv1 @hv2 ?_;refine jy c0 ?_;refine ew ?_;refine kG (fun x d=>(x == 39&&d == 999)) (α:=Nat×Store×V×V) (fun q=>⟨kX [kY S,iv v,.any,.any,.ptr 0 0 0,.jL,.bool false,.ptr 1 0 0,q.2.2.2,.any,.any,.any,.any,.any,.any,.any,.any,.any,.any,.any,.any,.any,.any,.any,.any,.any,.any,.any,.any,kY S,iv (S.length:Nat),iv (q.1:Nat)],q.2.1,0,0,[],[]⟩) (fun q=>q.1≤S.length∧ElI q.2.1 v (zT (Ny S v q.1)) q.2.2.1 q.2.2.2 ((Ny S v q.1).map paZ) ((Ny S v q.1).map Pa.wc)) (fun q=>S.length-q.1) rfl (0,[some ⟨5,[[iv 0,.bool false,.jL,.jL,.jL]]⟩,some ⟨5,[[iv v,.bool (kR 0).neg,ints (kR 0).mag,ints (kR 0).den,.jL]]⟩,none],.jL,.jL) ?_ ?_ ?_
  ·exact⟨Nat.zero_le _,by dsimp only;rw [aup];exact⟨rfl,rfl,.inl ⟨rfl,rfl⟩,.inl ⟨rfl,rfl⟩⟩⟩
  ·(refine jW ?_;exact qw)
  rintro⟨i,s,pv,wv⟩ ⟨hi,I⟩;dsimp only at hi I;have hX:=Zt (Ny S v i);have hAl:=afe S v i;have I0:=I.a0;have I1:=I.a1;have hsl:=I.lt;by_cases hc:(i:Int)<(S.length:Nat)
  ·have hil:i<S.length:=by omega
   have hx:(S.map Lk.cells).getD i []=(S.getD i default).cells:=mg hil;have es:=auq S v hil;have hlk:=Ar hb (getD_mem hil);obtain⟨kw,kx,ky,kp⟩:=UD hlk;generalize S.getD i default=l at *;unfold abw at es;by_cases ha:l.a=v
   ·have f0:(l.a=v)=True:=eq_true ha;rw [if_pos ha]at es;have n1:=abd h.Ij (zH kx);have n2:=abd h.Ij (zH ky);have ca:=DX h.lC hX (zH kw);generalize hXe:zT (Ny S v i)=X at *;generalize Ny S v i=A at *;rcases I.p with ⟨hp,rfl⟩|⟨p,rfl,hp,hp3,hpl⟩
    ·have hA:A=[]:=fD.1 hp;subst hA;rcases I.w with ⟨_,rfl⟩|⟨w,_,hw,_,hwl⟩
     case inr=>exact absurd hwl (by simp)
     refine zK @hc @hx @f0 (ah I0 I1) @jT @kM ?_;refine jy n1 ?_;refine zK @hc @hx @f0 (ah I0 I1) @jT @kM ?_;refine jy n2 ?_;refine zK @hc @hx @f0 (ah I0 I1) @jT @kM ?_;refine⟨by omega,by
      have hn0:2≤List.length s:=hsl;generalize List.length s=m at hn0 ⊢
      revert m
      refine zM _ _ 2 (fun n hn=>?_) (fun n hn=>?_) ?_
      ·simp only [sh];split<;>omega
      ·simp [Z5,sh];try omega
      unfold pz;decide +kernel,?_⟩
     refine⟨by omega,?_⟩;refine jy ca ?_;refine zK @hc @hx @f0 (ah I0 I1) @jT @kM ?_;refine⟨(i+1,?s1,.kP (s.length+1+1) 0 1,.kP (s.length+4) 0 1),?m1,⟨?a1,?b1⟩,?e1⟩
     case e1=>dsimp only;(refine jW ?_;exact qw)
     case m1=>dsimp only;omega
     case a1=>dsimp only;omega
     case b1 =>
      dsimp only;rw [es,O6,hXe];refine⟨(show jH _ 0=jH s 0 by exact AV).trans I0,?u1,.inr ⟨s.length+1+1,?p1,?q1,by omega,by simp⟩,.inr ⟨s.length+4,?r1,?t1,by omega,by simp⟩⟩
      case u1=>simp (disch:=first|omega|(simp only [aJ,aW,aj,au];omega)) only [LK]
      case p1=>simp
      case r1=>simp
      case q1=>simp (disch:=first|omega|(simp only [aJ,aW,aj,au];omega)) only [LK];simp [paZ]
      case t1=>simp (disch:=first|omega|(simp only [aJ,aW,aj,au];omega)) only [LK];simp [Pa.wc]

    rcases I.w with ⟨hwn,_⟩|⟨w,rfl,hw,hw3,hwl⟩
    case inl=>have:=fD.1 hwn;subst this;exact absurd hpl (by simp)
    have hpq:=kK hp;have hwq:=kK hw;have hpw:p≠w:=fun e=>by rw [e,hw]at hp;cases hp
    simp only [aV]at hpl hwl ⊢;refine ew7 @hc @hx @f0 (ah I0 I1) @jT @kM (ah hp hw) ?_;refine jy n1 ?_;refine ew7 @hc @hx @f0 (ah I0 I1) @jT @kM (ah hp hw) ?_;refine jy n2 ?_;refine ew7 @hc @hx @f0 (ah I0 I1) @jT @kM (ah hp hw) ?_;refine⟨by omega,O4 [1,p,s.length,s.length+1,s.length+1+1] [⟨14,[0],[0],false⟩,⟨13,[0],[],false⟩,⟨12,[1,3],[1,4],false⟩,⟨11,[],[3],false⟩,⟨10,[],[],false⟩,⟨9,[],[],false⟩,⟨8,[2],[],false⟩,⟨7,[2],[],false⟩,⟨6,[],[],false⟩,⟨5,[2],[],false⟩,⟨4,[2],[],false⟩,⟨3,[2],[],false⟩,⟨2,[2],[],false⟩,⟨1,[0],[],false⟩,⟨0,[0],[],false⟩] ?_ ?_ rfl ?_,?_⟩
    ·generalize List.length s=m at hsl hpq ⊢;simp;omega
    ·intro o ho;simp at ho;omega
    ·show pz 5 _ _;unfold pz;rfl
    refine⟨by omega,?_⟩;refine jy ca ?_;refine ew7 @hc @hx @f0 (ah I0 I1) @jT @kM (ah hp hw) ?_;refine⟨(i+1,?s2,.kP (s.length+1+1) 0 (A.length+1),.kP (s.length+4) 0 (A.length+1)),?m2,⟨?a2,?b2⟩,?e2⟩
    case e2=>dsimp only;(refine jW ?_;exact qw)
    case m2=>dsimp only;omega
    case a2=>dsimp only;omega
    case b2 =>
     dsimp only;rw [es,O6,hXe];refine⟨(show jH _ 0=jH s 0 by exact AV).trans I0,?u2,.inr ⟨s.length+1+1,?p2,?q2,by omega,by simp⟩,.inr ⟨s.length+4,?r2,?t2,by omega,by simp⟩⟩
     case u2=>simp (disch:=first|omega|(simp only [aJ,aW,aj,au];omega)) only [LK]
     case p2=>simp
     case r2=>simp
     case q2=>simp (disch:=first|omega|(simp only [aJ,aW,aj,au];omega)) only [LK];simp [paZ]
     case t2=>simp (disch:=first|omega|(simp only [aJ,aW,aj,au];omega)) only [LK];simp [Pa.wc]

   rw [if_neg ha]at es;by_cases hb2:l.b=v
   ·have f0:(l.a=v)=False:=eq_false ha;have f1:(l.b=v)=True:=eq_true hb2;rw [if_pos hb2]at es;have ca:=DX h.lC hX (zH kw);generalize hXe:zT (Ny S v i)=X at *;generalize Ny S v i=A at *;rcases I.p with ⟨hp,rfl⟩|⟨p,rfl,hp,hp3,hpl⟩
    ·have hA:A=[]:=fD.1 hp;subst hA;rcases I.w with ⟨_,rfl⟩|⟨w,_,hw,_,hwl⟩
     case inr=>exact absurd hwl (by simp)
     refine ew7 @hc @hx @f0 @f1 (ah I0 I1) @jT @kM ?_;refine⟨by omega,?_⟩;refine⟨by omega,?_⟩;refine jy ca ?_;refine ew7 @hc @hx @f0 @f1 (ah I0 I1) @jT @kM ?_;refine⟨(i+1,?s3,.kP (s.length+1+1) 0 1,.kP (s.length+4) 0 1),?m3,⟨?a3,?b3⟩,?e3⟩
     case e3=>dsimp only;(refine jW ?_;exact qw)
     case m3=>dsimp only;omega
     case a3=>dsimp only;omega
     case b3 =>
      dsimp only;rw [es,O6,hXe];refine⟨(show jH _ 0=jH s 0 by exact AV).trans I0,?u3,.inr ⟨s.length+1+1,?p3,?q3,by omega,by simp⟩,.inr ⟨s.length+4,?r3,?t3,by omega,by simp⟩⟩
      case u3=>simp (disch:=first|omega|(simp only [aJ,aW,aj,au];omega)) only [LK]
      case p3=>simp
      case r3=>simp
      case q3=>simp (disch:=first|omega|(simp only [aJ,aW,aj,au];omega)) only [LK];simp [paZ]
      case t3=>simp (disch:=first|omega|(simp only [aJ,aW,aj,au];omega)) only [LK];simp [Pa.wc]

    rcases I.w with ⟨hwn,_⟩|⟨w,rfl,hw,hw3,hwl⟩
    case inl=>have:=fD.1 hwn;subst this;exact absurd hpl (by simp)
    have hpq:=kK hp;have hwq:=kK hw;have hpw:p≠w:=fun e=>by rw [e,hw]at hp;cases hp
    simp only [aV]at hpl hwl ⊢;refine ew8 @hc @hx @f0 @f1 (ah I0 I1) @jT @kM (ah hp hw) ?_;refine⟨by omega,?_⟩;refine⟨by omega,?_⟩;refine jy ca ?_;refine ew8 @hc @hx @f0 @f1 (ah I0 I1) @jT @kM (ah hp hw) ?_;refine⟨(i+1,?s4,.kP (s.length+1+1) 0 (A.length+1),.kP (s.length+4) 0 (A.length+1)),?m4,⟨?a4,?b4⟩,?e4⟩
    case e4=>dsimp only;(refine jW ?_;exact qw)
    case m4=>dsimp only;omega
    case a4=>dsimp only;omega
    case b4 =>
     dsimp only;rw [es,O6,hXe];refine⟨(show jH _ 0=jH s 0 by exact AV).trans I0,?u4,.inr ⟨s.length+1+1,?p4,?q4,by omega,by simp⟩,.inr ⟨s.length+4,?r4,?t4,by omega,by simp⟩⟩
     case u4=>simp (disch:=first|omega|(simp only [aJ,aW,aj,au];omega)) only [LK]
     case p4=>simp
     case r4=>simp
     case q4=>simp (disch:=first|omega|(simp only [aJ,aW,aj,au];omega)) only [LK];simp [paZ]
     case t4=>simp (disch:=first|omega|(simp only [aJ,aW,aj,au];omega)) only [LK];simp [Pa.wc]

   have f0:(l.a=v)=False:=eq_false ha;have f1:(l.b=v)=False:=eq_false hb2;rw [if_neg hb2]at es;rw [aQ]at es;refine DF @hc @hx @f0 @f1 ?_;refine⟨(i+1,?s5,pv,wv),?m5,⟨?a5,?b5⟩,?e5⟩
   case e5=>dsimp only;(refine jW ?_;exact qw)
   case m5=>dsimp only;omega
   case a5=>dsimp only;omega
   case b5 =>
    dsimp only;rw [es];exact⟨(show jH _ 0=jH s 0 by exact AV).trans I0,(show jH _ 1=jH s 1 by exact AV).trans I1,I.p.fr fun q h1 h2=>by simp (disch:=first|omega|(simp only [aJ,aW,aj,au];omega)) only [LK],I.w.fr fun q h1 h2=>by simp (disch:=first|omega|(simp only [aJ,aW,aj,au];omega)) only [LK]⟩
  have hin:i=S.length:=by omega
  subst hin;have hAe:Ny S v S.length=yU S v:=rfl;rw [hAe]at hX hAl I;have hok:∀a∈yU S v,a.share.ok=true∧a.dx.cn∧a.dy.cn∧0≤a.node∧a.node≤9:=fun a ha=>ahv hb ha;have hB:TS S v=(rD (qg v (yU S v))&&(Oh (yU S v)).all qm):=by
   unfold TS inB;rw [hb,decide_eq_true hv.1,decide_eq_true hv.2];rfl
  have hC:(qg v (yU S v))=⟨v,zT (yU S v),(yU S v).map (AB (zT (yU S v)))⟩:=rfl;have hT:=@ank S v;have hF:=@aaw S v;clear hw;generalize yU S v=A at *;generalize hXe:zT A=X at hX I hC;have I1:=I.a1;rcases I.p with ⟨hp,rfl⟩|⟨p,rfl,hp,hp3,hpl⟩
  ·have hA0:A=[]:=fD.1 hp;subst hA0;have hnc:rD (qg v [])=false:=by
    unfold rD;rw [hC];simp
   rw [hnc]at hB;have hB:TS S v=false:=hB;rw [(hF hB).1,(hF hB).2,hB];have wcd:(qg v []).wf:=by
    rw [hC];exact⟨mP hX,by simp,fun x hx=>by cases hx⟩
   have cv:=uV h.og (c:=qg v []) wcd;rw [hnc,hC]at cv;have I0:=I.a0;refine uh @hc @I1 ?_;refine kG (fun x d=>(x == 39&&d == 999)) (α:=Store) (fun s=>⟨kX [.any,iv v,.any,.any,.ptr 0 0 0,.jL,.bool false,.ptr 1 0 0,.any,.any,.any,.any,.any,.any,.any,.any,.any,.any,.any,.any,.any,.any,.any,.any,.any,.any,.any,.any,.any,.any,.any,.any,.any,.any,.any,.any,.any,.any,.any,.any,.any,.any,.any,.any,.any,.any,.any,.any,.any,.any,.any,.any,.any,.any,.any,.any,.any,.any,.any,.any,.any,.any,.any,.any,.any,.any,.any,.any,.any,.any,.any,.any,.any,.any,.any,.any,.any,.any,.any,.any,.any,.any,.any,iv 0,iv 0],s,0,0,[],[]⟩) (fun s=>jH s 0=some ⟨5,[[iv 0,.bool false,.jL,.jL,.jL]]⟩∧jH s 1=some ⟨5,[[iv v,.bool X.neg,ints X.mag,ints X.den,.jL]]⟩) (fun s=>0) rfl s ?_ ?_ ?_
   ·exact⟨I0,I1⟩
   ·(refine jW ?_;exact qw)
   clear I I0 I1;rintro s ⟨I0,I1⟩;have hz:¬(0:Int)<0:=by decide
   have h0q:=kK I0;have cv2:PF T 185 [.agg [iv v,.bool X.neg,ints X.mag,ints X.den,.jL]] (.bool false):=by
    refine .afV (args:=[TQ ⟨v,X,[]⟩]) (r:=.bool false) ?_ cv (kE _);have k1:=kE (ints X.mag);have k2:=kE (ints X.den);simp only [uG,lW]at k1 k2 ⊢;exact⟨_,_,rfl,⟨_,rfl,_,_,rfl,rfl,_,_,rfl,rfl,_,_,rfl,k1,_,_,rfl,k2,_,_,rfl,.inl ⟨rfl,.inl rfl⟩,rfl⟩,rfl⟩
   refine uh @hz @I1 ?_;refine jy cv2 ?_;refine uh @I0 @I1 ?_;exact I8 (σ:=[])
  rcases I.w with ⟨hwn,_⟩|⟨w,rfl,hw,hw3,hwl⟩
  case inl=>have:=fD.1 hwn;subst this;exact absurd hpl (by simp)
  simp only [aV]at hpl hwl I1 ⊢;have hpq:=kK hp;have hwq:=kK hw;refine vW @hc @I1 @hp ?_;refine kG (fun x d=>(x == 39&&d == 999)) (α:=Nat×Store) (fun q=>⟨kX [.any,iv v,.any,.any,.ptr 0 0 0,.jL,.bool false,.ptr 1 0 0,.kP w 0 A.length,.any,.any,.any,.any,.any,.any,.any,.any,.any,.any,.any,.any,.any,.any,.any,.any,.any,.any,.any,.any,.any,.any,.any,.any,.any,.any,.any,.any,.any,.any,.any,.any,.any,.any,.any,.any,.any,.any,.any,.any,.any,.any,.any,.any,.any,.any,.any,.any,.any,.any,.any,.any,.any,.any,.any,.any,.any,.any,.any,.any,.any,.any,.any,.any,.any,.any,.any,.any,.any,.any,.any,.any,.any,.any,iv (A.length:Nat),iv (q.1:Nat)],q.2,0,0,[],[]⟩) (fun q=>(q.1≤A.length∧jH q.2 0=some ⟨5,[[iv 0,.bool false,.jL,.jL,.jL]]⟩∧jH q.2 w=some ⟨3,A.map Pa.wc⟩)∧(q.1<A.length→jH q.2 1=some ⟨5,[[iv v,.bool X.neg,ints X.mag,ints X.den,.kP p 0 A.length]]⟩∧jH q.2 p=some ⟨10,TB (A.map fun a=>(AB X a).cells) (A.map paZ) q.1⟩)∧(q.1=A.length→jH q.2 1=some ⟨5,[(qg v A).cells]⟩)) (fun q=>A.length-q.1) rfl (0,s) ?_ ?_ ?_
  ·exact⟨⟨Nat.zero_le _,I.a0,hw⟩,fun _=>⟨I1,by dsimp only;rw [auA];exact hp⟩,fun e=>by dsimp only at e;omega⟩
  ·(refine jW ?_;exact qw)
  clear I I1 I0 hp hw hpq hwq;rintro⟨j,s⟩ ⟨⟨hj,I0,hw⟩,hM,hE⟩;dsimp only at hj I0 hw hM hE;have hwq:=kK hw;by_cases hc2:(j:Int)<(A.length:Nat)
  ·have hjl:j<A.length:=by omega
   obtain⟨I1,hp⟩:=hM hjl;have hpq:=kK hp;have hpw:p≠w:=fun e=>by rw [e,hw]at hp;cases hp
   have hpA:=hok _ (getD_mem hjl);have hg:(A.map fun a=>(AB X a).cells).getD j []=(AB X (A.getD j default)).cells:=mg hjl;have hrow:(TB (A.map fun a=>(AB X a).cells) (A.map paZ) j)[j]? = some (paZ (A.getD j default)):=by
    unfold TB;rw [bI (by simp;omega)];simp only [dS,aV,dA];rw [show j+(j-min j A.length)=j by omega,mg? hjl]
   have hml:(TB (A.map fun a=>(AB X a).cells) (A.map paZ) j).length=A.length:=by rw [anw (by simp)];simp
   have hst:=anx (a:=A.map fun a=>(AB X a).cells) (b:=A.map paZ) (j:=j) (d:=[]) (x:=(AB X (A.getD j default)).cells) (by simp) (by simpa using hjl) hg;have hgw:(A.map Pa.wc)[j]? = some (A.getD j default).wc:=mg? hjl;have cd:=abb h.yM (r:=(A.getD j default).share) (s:=X) (zH hpA.1) hX;generalize A.getD j default=a at *;generalize TB (A.map fun a=>(AB X a).cells) (A.map paZ) j=M at *;have hgw:(A.map Pa.wc)[j]? = some [.bool a.share.neg,ints a.share.mag,ints a.share.den]:=hgw;have hrow:M[j]? = some [iv a.node,.bool false,.jL,.jL,.bool a.dx.neg,ints a.dx.mag,ints a.dx.den,.bool a.dy.neg,ints a.dy.mag,ints a.dy.den]:=hrow;refine ew7 @hc2 @I1 @hp @hw (ah hrow hml) @hgw (ah jT kM) ?_;refine jy cd ?_;refine ew7 @hc2 @I1 @hp @hw (ah hrow hml) @hgw (ah jT kM) ?_;refine⟨O4 [1,w,p] [⟨12,[2],[2],false⟩,⟨11,[2],[],false⟩,⟨10,[2],[],false⟩,⟨9,[],[],false⟩,⟨8,[0],[],false⟩,⟨7,[0],[],false⟩,⟨6,[1],[],false⟩,⟨5,[1],[],false⟩,⟨4,[],[],false⟩,⟨3,[],[],false⟩,⟨2,[],[],false⟩,⟨1,[0],[],false⟩,⟨0,[0],[],false⟩] ?_ ?_ rfl ?_,?_⟩
   ·have:1≠w∧1≠p∧w≠p:=by omega
    simp [this]
   ·intro o ho;simp at ho;omega
   ·show pz 3 _ _;unfold pz;rfl
   by_cases hj1:j+1<A.length
   ·refine⟨(j+1,?s6),?m6,⟨⟨?a6,?b6,?c6⟩,fun _=>⟨?d6,?f6⟩,fun e=>absurd e (by dsimp only;omega)⟩,?e6⟩
    case e6=>dsimp only;(refine jW ?_;exact qw)
    case m6=>dsimp only;omega
    case a6=>dsimp only;omega
    case b6=>exact(show jH _ 0=jH s 0 by exact AV).trans I0
    case c6=>exact(show jH _ w=jH s w by exact AV).trans hw
    case d6=>exact(show jH _ 1=jH s 1 by exact AV).trans I1
    case f6=>dsimp only;rw [←hst];exact kT hpq
   have hjn:j+1=A.length:=by omega
   have hrows:TB (A.map fun a=>(AB X a).cells) (A.map paZ) A.length=(qg v A).ps.map Pa.cells:=by
    have:=anv (A.map fun a=>(AB X a).cells) (A.map paZ) (by simp) (by simp);rw [aV]at this;rw [this,hC,fK];rfl
   rw [hjn,hrows]at hst;obtain⟨s2,hs2⟩:∃s2,s.set p (some ⟨10,M.set j (AB X a).cells⟩)=s2:=⟨_,rfl⟩;have k0:jH s2 0=some ⟨5,[[iv 0,.bool false,.jL,.jL,.jL]]⟩:=by rw [←hs2,jV (by omega)];exact I0
   have k1:jH s2 1=some ⟨5,[[iv v,.bool X.neg,ints X.mag,ints X.den,.kP p 0 A.length]]⟩:=by rw [←hs2,jV (by omega)];exact I1
   have kw:jH s2 w=some ⟨3,A.map Pa.wc⟩:=by rw [←hs2,jV (by omega)];exact hw
   have kp:jH s2 p=some ⟨10,(qg v A).ps.map Pa.cells⟩:=by rw [←hs2,kT hpq,hst]
   have hl2:s2.length=s.length:=by rw [←hs2];simp
   have hres:resolve s2 FD (.kP p 0 A.length)=some (xJ (qg v A).ps):=by
    have:=Jh (n:=10) kp (Qo _);rw [aV,hC,aV]at this;rw [hC];exact this
   refine⟨(j+1,BZ s2 1 ⟨5,[(qg v A).cells]⟩ [0,w]),?m7,⟨⟨?a7,?b7,?c7⟩,fun e=>absurd e (by dsimp only;omega),fun _=>?d7⟩,?e7⟩
   case e7 =>
    dsimp only;show Fg _ ⟨_,s.set p (some ⟨10,M.set j (AB X a).cells⟩),_,_,_,_⟩;rw [hs2];refine ZB (p:=1) (n:=5) (A:=[[iv v,.bool X.neg,ints X.mag,ints X.den,.kP p 0 A.length]]) k1 rfl ?_ ?_ ?_
    ·intro o ho ob hob;rcases aH.1 ho with rfl|ho
     ·rw [k0]at hob;cases hob;simp [l7,V.still]
     rw [aT.1 ho,kw]at hob;cases hob;have:=aei (A.map (·.share));rw [fK]at this;exact this
    ·intro i r r2 h1 h2
     cases i with
     |succ i=>cases h1
     |
      zero =>
      cases h1;cases h2
      rw [hC]at hres ⊢;simp only [Gf,xG];refine⟨_,_,rfl,rfl,_,_,rfl,rfl,_,_,rfl,kE _,_,_,rfl,kE _,_,_,rfl,.inr (.inr ⟨hres,fun q hq k s0 l0 hk=>?_⟩),rfl⟩;have:=GU kp (Qo _) q hq;have:=Ky hk;simp at this;omega
    refine ew ?_;refine⟨nP (n:=1) ?_ (by omega),nP (n:=1) ?_ (by omega),mW (n:=A.length) ?_ (aP _) rfl,by omega⟩
    ·rw [Cc (by omega),if_neg (by omega),if_pos (by simp),k0];rfl
    ·rw [Cc (by omega),if_pos rfl]
    rw [Cc (by omega),if_neg (by omega),if_pos (by simp),kw];simp
   case m7=>dsimp only;omega
   case a7=>dsimp only;omega
   case b7=>dsimp only;rw [Cb (by omega),if_neg (by omega),if_pos (by simp)];exact k0
   case c7=>dsimp only;rw [Cb (by omega),if_neg (by omega),if_pos (by simp)];exact kw
   case d7=>dsimp only;rw [Cb (by omega),if_pos rfl]
  have hjn:j=A.length:=by omega
  have I1:=hE hjn;subst hjn;have wcd:(qg v A).wf:=by
   rw [hC];exact⟨mP hX,by simp;omega,fun x hx=>by
    obtain⟨a,ha,rfl⟩:=bM.1 hx;have:=hok a ha;exact⟨mP (MC _ _),mP this.2.1,mP this.2.2.1⟩⟩
  have cv:=uV h.og (c:=qg v A) wcd;have hres:∀σ:Store,resolve σ FD (TQ (qg v A))=some (TQ (qg v A)):=fun σ=>BM (RG [qg v A] _ (by simp));clear hM hE;refine uh @hc2 @I1 ?_;refine jy cv ?_
  cases hcd:rD (qg v A)
  ·rw [hcd]at hB;have hB:TS S v=false:=hB;rw [(hF hB).1,(hF hB).2,hB];refine uh @I1 @I0 ?_
   first|exact I8|exact I8 (σ:=[])
  rw [hcd,bU]at hB;have hcc:(qg v A).cells=[iv v,.bool X.neg,ints X.mag,ints X.den,xJ (qg v A).ps]:=by rw [hC]
  rw [hcc]at I1;have hpl2:(qg v A).ps.length=A.length:=by rw [hC];simp
  refine uh @I1 @hpl2 ?_;refine kG (fun x d=>(x == 39&&d == 999)) (α:=Nat×Store×V) (fun q=>⟨kX [.any,iv v,.any,.any,.ptr 0 0 0,.jL,.bool false,.ptr 1 0 0,.kP w 0 A.length,.any,.any,.any,q.2.2,.any,.any,.any,.any,.any,.any,.any,.any,.any,.any,.any,.any,.any,.any,.any,.any,.any,.any,.any,.any,.any,.any,.any,.any,.any,.any,.any,.any,.any,.any,.any,.any,.any,.any,.any,.any,.any,.any,.any,.any,.any,.any,.any,.any,.any,.any,.any,.any,.any,.any,.any,.any,.any,.any,.any,.any,.any,.any,.any,.any,.any,.any,.any,.any,.any,.any,.any,.any,.any,.any,.any,.any,.any,.any,.any,.any,.any,.any,.any,.any,.any,.any,.any,.any,.any,.any,.any,.any,.any,.any,.any,.any,.any,xJ (qg v A).ps,iv (A.length:Nat),iv (q.1:Nat)],q.2.1,0,0,[],[]⟩) (fun q=>(q.1≤A.length∧jH q.2.1 0=some ⟨5,[[iv 0,.bool false,.jL,.jL,.jL]]⟩∧jH q.2.1 w=some ⟨3,A.map Pa.wc⟩∧jH q.2.1 1=some ⟨5,[[iv v,.bool X.neg,ints X.mag,ints X.den,xJ (qg v A).ps]]⟩)∧LnA q.2.1 q.2.2 (qR A q.1)∧∀x∈qR A q.1,qm x=true) (fun q=>A.length-q.1) rfl (0,s++[none],.jL) ?_ ?_ ?_
  ·exact⟨⟨dY _,(kJ (by omega)).trans I0,(kJ hwq).trans hw,(kJ (by omega)).trans I1⟩,.inl ⟨rfl,rfl⟩,fun x hx=>by cases hx⟩
  ·(refine jW ?_;exact qw)
  clear I0 I1 hw hwq;rintro⟨i,s,mv⟩ ⟨⟨hi,I0,hw,I1⟩,hL,hall⟩;dsimp only at hi I0 hw I1 hL hall;have hwq:=kK hw;have h1q:=kK I1;have hLl:=LC A i;by_cases hc3:(i:Int)<(A.length:Nat)
  ·have hil:i<A.length:=by omega
   have hg:((qg v A).ps.map Pa.cells).getD i []=(AB X (A.getD i default)).cells:=by
    have:=mg (l:=(qg v A).ps) (f:=Pa.cells) (j:=i) (by rw [hpl2];exact hil);rw [X0 hil,hXe]at this;exact this
   have hiA:=hok _ (getD_mem hil);refine vW @hc3 @hg @hpl2 ?_;obtain⟨qc,hqc⟩:∃qc,List.length s=qc:=⟨_,rfl⟩;have hq3:3≤qc:=by omega
   refine kG (fun x d=>(x == 39&&d == 999)) (α:=Nat×Store×V) (fun q=>⟨kX [.any,iv v,.any,.any,.ptr 0 0 0,.jL,.bool false,.ptr 1 0 0,.kP w 0 A.length,.any,.any,.any,q.2.2,iv (i:Nat),.ptr qc 0 0,iv ((i:Nat)+1+(q.1:Nat)),.any,.any,.any,.any,.any,.any,.any,.any,.any,.any,.any,.any,.any,.any,.any,.any,.any,.any,.any,.any,.any,.any,.any,.any,.any,.any,.any,.any,.any,.any,.any,.any,.any,.any,.any,.any,.any,.any,.any,.any,.any,.any,.any,.any,.any,.any,.any,.any,.any,.any,.any,.any,.any,.any,.any,.any,.any,.any,.any,.any,.any,.any,.any,.any,.any,.any,.any,.any,.any,.any,.any,.any,.any,.any,.any,.any,.any,.any,.any,.any,.any,.any,.any,.any,.any,.any,.any,.any,.any,.any,xJ (qg v A).ps,iv (A.length:Nat),iv (i:Nat)],q.2.1,0,0,[],[]⟩) (fun q=>(i+1+q.1≤A.length∧jH q.2.1 0=some ⟨5,[[iv 0,.bool false,.jL,.jL,.jL]]⟩∧jH q.2.1 w=some ⟨3,A.map Pa.wc⟩∧jH q.2.1 1=some ⟨5,[[iv v,.bool X.neg,ints X.mag,ints X.den,xJ (qg v A).ps]]⟩∧jH q.2.1 qc=some ⟨10,[(AB X (A.getD i default)).cells]⟩)∧LnA q.2.1 q.2.2 (qR A i++xu A i q.1)∧∀x∈qR A i++xu A i q.1,qm x=true) (fun q=>A.length-q.1) rfl (0,s++[some ⟨10,[(AB X (A.getD i default)).cells]⟩],mv) ?_ ?_ ?_
   ·refine⟨⟨by dsimp only;omega,(kJ (by omega)).trans I0,(kJ hwq).trans hw,(kJ h1q).trans I1,by dsimp only;rw [←hqc];exact tu _ _⟩,?_,?_⟩
    ·dsimp only;rw [XZ,aQ];exact hL.fr fun p hp=>kJ hp
    dsimp only;rw [XZ,aQ];exact hall
   ·subst hqc
    (refine jW ?_;exact qw)
   clear I0 I1 hw hwq h1q hL hall hqc;rintro⟨j,s,mv⟩ ⟨⟨hj,I0,hw,I1,Iq⟩,hL,hall⟩;dsimp only at hj I0 hw I1 Iq hL hall;have hwq:=kK hw;have h1q:=kK I1;have hqq:=kK Iq;have hRl:=Wi A i j;by_cases hc4:(i:Int)+1+j<(A.length:Nat)
   ·have hkl:i+1+j<A.length:=by omega
    have hg2:((qg v A).ps.map Pa.cells).getD (i+1+j) []=(AB X (A.getD (i+1+j) default)).cells:=by
     have:=mg (l:=(qg v A).ps) (f:=Pa.cells) (j:=i+1+j) (by rw [hpl2];exact hkl);rw [X0 hkl,hXe]at this;exact this
    have hkA:=hok _ (getD_mem hkl);have ht:((i:Int)+1+(j:Nat)).toNat=i+1+j:=by omega
    have hwi:(A.map Pa.wc)[i]? = some (A.getD i default).wc:=mg? hil;have hwk:(A.map Pa.wc)[i+1+j]? = some (A.getD (i+1+j) default).wc:=mg? hkl;have es:=acP A hkl;have hbad:=@anH A i (i+1+j) (by omega) hkl;rw [hXe]at es hbad;obtain⟨a,ha⟩:∃a,A.getD i default=a:=⟨_,rfl⟩;obtain⟨b,hb'⟩:∃b,A.getD (i+1+j) default=b:=⟨_,rfl⟩;rw [ha]at hiA es hbad Iq hwi;rw [hb']at hkA es hbad hg2 hwk;have hwi:(A.map Pa.wc)[i]? = some [.bool a.share.neg,ints a.share.mag,ints a.share.den]:=hwi;have hwk:(A.map Pa.wc)[i+1+j]? = some [.bool b.share.neg,ints b.share.mag,ints b.share.den]:=hwk;have cm:=yK h.nX (r:=a.share) (s:=b.share) (zH hiA.1) (zH hkA.1);have cd:=abb h.yM (r:=mulR a.share b.share) (s:=X) (Un _ _) hX;have cx:=Q5 h.BU hiA.2.1 hkA.2.1;have cy:=Q5 h.BU hiA.2.2.1 hkA.2.2.1;have hcn:=aiE X a b;have civ:=KN h.uP (l:=QC X a b) ⟨mP hcn.1,mP hcn.2.1,mP hcn.2.2⟩;refine ew7 @hc4 (ah hg2 ht) @hpl2 (ah I1 Iq) @hw (ah hwi hwk) (ah jT kM) ?_;refine jy cm ?_;refine vW (ah I1 Iq) @hw (ah jT kM) ?_;refine jy cd ?_;refine vW (ah I1 Iq) @hw (ah jT kM) ?_;have aGH:w≠qc:=fun e=>by rw [e,Iq]at hw;cases hw
    refine⟨O4 [1,w,qc,s.length,s.length+1] [⟨18,[4],[4],false⟩,⟨17,[],[4],false⟩,⟨16,[],[],false⟩,⟨15,[],[],false⟩,⟨14,[0],[],false⟩,⟨13,[0],[],false⟩,⟨12,[],[],false⟩,⟨11,[1],[],false⟩,⟨10,[1],[],false⟩,⟨9,[],[],false⟩,⟨8,[],[],false⟩,⟨7,[1],[],false⟩,⟨6,[1],[],false⟩,⟨5,[],[],false⟩,⟨4,[],[],false⟩,⟨3,[3],[],false⟩,⟨2,[3],[],false⟩,⟨1,[2],[],false⟩,⟨0,[2],[],false⟩] ?_ ?_ rfl ?_,?_⟩
    ·clear I0 hw I1 Iq hL hall;generalize List.length s=m at hwq h1q hqq ⊢;have:1≠w∧1≠qc∧w≠qc∧1≠m∧1≠m+1∧w≠m∧w≠m+1∧qc≠m∧qc≠m+1:=by omega
     simp [this];omega
    ·intro o ho;simp at ho;omega
    ·show pz 5 _ _;unfold pz;rfl
    refine vW (ah I1 Iq) @hw (ah jT kM) ?_;refine jy cx ?_;refine vW (ah I1 Iq) @hw (ah jT kM) ?_;refine jy cy ?_;refine vW (ah I1 Iq) @hw (ah jT kM) ?_;refine jy civ ?_
    cases hlk:qm (QC X a b)
    ·have hB2:TS S v=false:=by rw [hB];exact hbad hlk
     rw [(hF hB2).1,(hF hB2).2,hB2];refine uh @I0 (ah jT kM) ?_;exact I8 (σ:=[])
    have en:qR A i++xu A i (j+1)=(qR A i++xu A i j)++[QC X a b]:=by rw [es,bJ]
    have arW:∀x∈qR A i++xu A i (j+1),qm x=true:=fun x hx=>by
     rw [en]at hx;rcases aO.1 hx with hx|hx
     ·exact hall x hx
     rw [aT.1 hx];exact hlk
    have hMl:(qR A i++xu A i j).length≤20000:=by
     rw [aJ];have:i*A.length≤100*100:=jK (by omega) (by omega);omega
    generalize qR A i++xu A i j=Ms at *;rcases hL with ⟨rfl,rfl⟩|⟨m2,rfl,hm2⟩
    ·refine qj (ah jT kM) ?_;refine⟨by omega,(j+1,?s8,.kP (s.length+1+1+1) 0 1),?m8,⟨⟨?a8,?b8,?c8,?d8,?f8⟩,.inr ⟨s.length+1+1+1,?g8,?h8⟩,arW⟩,?e8⟩
     case e8=>dsimp only;(refine jW ?_;exact qw)
     case m8=>dsimp only;omega
     case a8=>dsimp only;omega
     case b8=>exact(show jH _ 0=jH s 0 by exact AV).trans I0
     case c8=>exact(show jH _ w=jH s w by exact AV).trans hw
     case d8=>exact(show jH _ 1=jH s 1 by exact AV).trans I1
     case f8=>dsimp only;rw [ha];exact(show jH _ qc=jH s qc by exact AV).trans Iq
     case g8=>dsimp only;rw [en];simp
     case h8 =>
      dsimp only;rw [en];simp (disch:=first|omega|(simp only [aJ,aW,aj,au];omega)) only [LK];simp [QC,AB]
    have ayt:=kK hm2;have n1:m2≠1:=fun e=>by rw [e,I1]at hm2;cases hm2
    have n2:m2≠w:=fun e=>by rw [e,hw]at hm2;cases hm2
    have n3:m2≠qc:=fun e=>by rw [e,Iq]at hm2;cases hm2
    have n0:m2≠0:=fun e=>by rw [e,I0]at hm2;cases hm2
    refine uh (ah jT kM) @hm2 ?_;refine⟨by omega,(j+1,?s9,.kP (s.length+1+1+1) 0 (Ms.length+1)),?m9,⟨⟨?a9,?b9,?c9,?d9,?f9⟩,.inr ⟨s.length+1+1+1,?g9,?h9⟩,arW⟩,?e9⟩
    case e9=>dsimp only;(refine jW ?_;exact qw)
    case m9=>dsimp only;omega
    case a9=>dsimp only;omega
    case b9=>exact(show jH _ 0=jH s 0 by exact AV).trans I0
    case c9=>exact(show jH _ w=jH s w by exact AV).trans hw
    case d9=>exact(show jH _ 1=jH s 1 by exact AV).trans I1
    case f9=>dsimp only;rw [ha];exact(show jH _ qc=jH s qc by exact AV).trans Iq
    case g9=>dsimp only;rw [en];simp
    case h9 =>
     dsimp only;rw [en];simp (disch:=first|omega|(simp only [aJ,aW,aj,au];omega)) only [LK];simp [QC,AB]
   have hjn:j=A.length-(i+1):=by omega
   refine Df @hc4 @hpl2 (ah I1 Iq) @hw (ah jT kM) ?_;refine⟨(i+1,s,mv),?mA,⟨⟨?aA,I0,hw,I1⟩,?bA,?cA⟩,?eA⟩
   case eA=>dsimp only;(refine jW ?_;exact qw)
   case mA=>dsimp only;omega
   case aA=>dsimp only;omega
   case bA=>dsimp only;rw [hjn]at hL;exact hL
   case cA=>dsimp only;rw [hjn]at hall;exact hall
  have hin:i=A.length:=by omega
  subst hin;have hB2:TS S v=true:=by rw [hB];exact aZ.2 hall
  rw [(hT hB2).1,(hT hB2).2,hB2];refine uh @hc3 (ah I1 I0) ?_;refine auF (s:=s) (c:=qg v A) hcc (RG [qg v A] _ (by simp)) hL ?_ I1 ?_ ⟨_,I0⟩
  ·exact AV
  intro q hq0;exact AV
 have hB:TS S v=false:=by
  unfold TS inB;rcases Int.lt_or_le v 1 with k|k
  ·rw [decide_eq_false (show ¬1≤v by omega)];simp
  rw [decide_eq_false (show ¬v≤9 by omega)];simp
 rw [(aaw hB).1,(aaw hB).2,hB];refine kH (fun x d=>(x == 39&&d == 999)) h.hT ?_;simp only [sK,Lz];refine ew ?_;by_cases hv1:v<1
 ·refine qj @hv1 ?_;exact I8 (σ:=[])
 have hv2:v≥10:=by omega
 refine uh @hv1 @hv2 ?_;exact I8 (σ:=[])
end Go.Ml
end
