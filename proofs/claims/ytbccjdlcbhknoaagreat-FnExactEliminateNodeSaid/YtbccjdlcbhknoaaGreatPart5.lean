/- A small language for the functions of this claim, its soundness, contracts. -/
import Derived.Test.YtbccjdlcbhknoaaGreatPart4
set_option linter.unusedSimpArgs false
set_option linter.unusedVariables false
set_option maxRecDepth 100000
set_option maxHeartbeats 16000000
section
namespace Go.Ml
def F_laws_FnExactEliminateNode : Fn:=⟨2,138,[.tmp 4],(.seq (.reg false 0 [oN 4 (.mov (.c (.bool false)))]) (.seq (.reg false 0 [oN 5 (.mov (cI 1048576))]) (.seq (.reg false 0 [oN 19 (oV 0),oN 20 (oV 5),oN 21 (.call 19 [(.t 19),(.t 20)]),oN 5 (oV 21)]) (.seq (.seq (.reg false 0 [oN 22 (oV 5),oN 23 (.bin .lss (.t 22) (cI 0))]) (.cond (.t 23) (.seq (.reg false 0 [oN 4 (.mov (.c (.bool true)))]) .ret) .skip)) (.seq (.reg false 1 [oK 25 1 (oV 0),oK 26 1 (.call 21 [(.t 25)]),oK 27 1 (oV 1),oK 28 1 (.call 389 [(.t 26),(.t 27)]),oK 24 1 (oV 28),oK 29 1 (.extr 0 (.t 24)),oK 30 1 (.extr 1 (.t 24)),oK 31 1 (.extr 2 (.t 24)),oN 6 (.alloc [.int .i64 0,.bool false,.nils,.nils,.nils]),⟨none,none,1,.store 5 (.t 6) (.t 29),[]⟩,oK 7 1 (oV 30),oK 8 1 (oV 31)]) (.seq (.reg false 0 [oN 32 (oV 0),oN 33 (.call 21 [(.t 32)]),oN 9 (oV 33)]) (.seq (.reg false 1 [oK 35 1 (oV 9),oK 36 1 (oV 1),oK 37 1 (.call 174 [(.t 35),(.t 36)]),oK 34 1 (oV 37),oK 38 1 (.extr 0 (.t 34)),oK 39 1 (.extr 1 (.t 34)),oK 40 1 (.extr 2 (.t 34)),oN 10 (.alloc [.int .i64 0,.bool false,.nils,.nils,.nils]),⟨none,none,1,.store 5 (.t 10) (.t 38),[]⟩,oK 11 1 (oV 39),oK 12 1 (oV 40)]) (.seq (.seq (.reg false 0 [oN 41 (.load 5 true (.t 10)),oN 42 (.load 5 true (.t 6)),oN 43 (.call 28 [(.t 41),(.t 42)]),oN 44 (.un .not (.t 43)),oN 45 (oV 44),oG 45 false 46 (oV 11),oG 45 false 47 (oV 7),oG 45 false 48 (.call 23 [(.t 46),(.t 47)]),oG 45 false 49 (.un .not (.t 48)),oN 50 (.pick (.t 45) (.c (.bool true)) (.t 49)),oN 51 (oV 50),oG 51 false 52 (oV 12),oG 51 false 53 (oV 8),oG 51 false 54 (.beq true (.t 52) (.t 53)),oN 55 (.pick (.t 51) (.c (.bool true)) (.t 54))]) (.cond (.t 55) (.seq (.reg false 0 [oN 4 (.mov (.c (.bool false)))]) .ret) .skip)) (.seq (.seq (.reg false 0 [oN 56 (oV 9),oN 57 (oV 0),oN 58 (.call 21 [(.t 57)]),oN 59 (.call 23 [(.t 56),(.t 58)]),oN 60 (.un .not (.t 59))]) (.cond (.t 60) (.seq (.reg false 0 [oN 4 (.mov (.c (.bool false)))]) .ret) .skip)) (.seq (.reg false 0 [oN 13 (.mov (cI 1))]) (.seq (.reg false 0 [oN 61 (oV 9),oN 62 (oV 13),oN 63 (.call 118 [(.t 61),(.t 62)]),oN 13 (oV 63)]) (.seq (.seq (.reg false 0 [oN 64 (oV 13),oN 65 (.bin .lss (.t 64) (cI 0)),oN 66 (oV 65),oG 66 false 67 (.load 5 true (.t 10)),oG 66 false 68 (.load 5 true (.t 6)),oG 66 false 69 (.call 28 [(.t 67),(.t 68)]),oG 66 false 70 (.un .not (.t 69)),oN 71 (.pick (.t 66) (.c (.bool true)) (.t 70)),oN 72 (oV 71),oG 72 false 73 (oV 11),oG 72 false 74 (oV 7),oG 72 false 75 (.call 23 [(.t 73),(.t 74)]),oG 72 false 76 (.un .not (.t 75)),oN 77 (.pick (.t 72) (.c (.bool true)) (.t 76)),oN 78 (oV 77),oG 78 false 79 (oV 12),oG 78 false 80 (oV 8),oG 78 false 81 (.beq true (.t 79) (.t 80)),oN 82 (.pick (.t 78) (.c (.bool true)) (.t 81))]) (.cond (.t 82) (.seq (.reg false 0 [oN 4 (.mov (.c (.bool false)))]) .ret) .skip)) (.seq (.reg false 0 [oN 14 (.mov (cI 1))]) (.seq (.reg false 0 [oN 83 (.load 5 true (.t 10)),oN 84 (oV 14),oN 85 (.call 367 [(.t 83),(.t 84)]),oN 14 (oV 85)]) (.seq (.reg false 0 [oN 86 (oV 11),oN 87 (oV 14),oN 88 (.call 118 [(.t 86),(.t 87)]),oN 14 (oV 88)]) (.seq (.reg false 0 [oN 15 (.mov (cI 1))]) (.seq (.reg false 0 [oN 89 (.load 5 true (.t 10)),oN 90 (oV 15),oN 91 (.call 390 [(.t 89),(.t 90)]),oN 15 (oV 91)]) (.seq (.seq (.reg false 0 [oN 92 (oV 15),oN 93 (.bin .lss (.t 92) (cI 0))]) (.cond (.t 93) (.seq (.reg false 0 [oN 4 (.mov (.c (.bool false)))]) .ret) .skip)) (.seq (.reg false 0 [oN 94 (oV 11),oN 95 (oV 15),oN 96 (.call 229 [(.t 94),(.t 95)]),oN 15 (oV 96)]) (.seq (.seq (.reg false 0 [oN 97 (oV 15),oN 98 (.bin .lss (.t 97) (cI 0))]) (.cond (.t 98) (.seq (.reg false 0 [oN 4 (.mov (.c (.bool false)))]) .ret) .skip)) (.seq (.seq (.reg false 0 [oN 99 (oV 15),oN 100 (oV 14),oN 101 (.bin .neq (.t 99) (.t 100))]) (.cond (.t 101) (.seq (.reg false 0 [oN 4 (.mov (.c (.bool false)))]) .ret) .skip)) (.seq (.reg false 1 [oK 103 1 (oV 0),oK 104 1 (.call 21 [(.t 103)]),oK 105 1 (oV 1),oK 106 1 (.call 174 [(.t 104),(.t 105)]),oK 102 1 (oV 106),oK 107 1 (.extr 0 (.t 102)),oK 108 1 (.extr 1 (.t 102)),oK 109 1 (.extr 2 (.t 102)),oN 16 (.alloc [.int .i64 0,.bool false,.nils,.nils,.nils]),⟨none,none,1,.store 5 (.t 16) (.t 107),[]⟩,oK 17 1 (oV 108),oK 18 1 (oV 109)]) (.seq (.seq (.reg false 0 [oN 110 (.load 5 true (.t 16)),oN 111 (.load 5 true (.t 6)),oN 112 (.call 28 [(.t 110),(.t 111)]),oN 113 (.un .not (.t 112)),oN 114 (oV 113),oG 114 false 115 (oV 17),oG 114 false 116 (oV 7),oG 114 false 117 (.call 23 [(.t 115),(.t 116)]),oG 114 false 118 (.un .not (.t 117)),oN 119 (.pick (.t 114) (.c (.bool true)) (.t 118)),oN 120 (oV 119),oG 120 false 121 (oV 18),oG 120 false 122 (oV 8),oG 120 false 123 (.beq true (.t 121) (.t 122)),oN 124 (.pick (.t 120) (.c (.bool true)) (.t 123))]) (.cond (.t 124) (.seq (.reg false 0 [oN 4 (.mov (.c (.bool false)))]) .ret) .skip)) (.seq (.reg false 0 [oN 15 (.mov (cI 1))]) (.seq (.reg false 0 [oN 125 (.load 5 true (.t 10)),oN 126 (oV 15),oN 127 (.call 390 [(.t 125),(.t 126)]),oN 15 (oV 127)]) (.seq (.seq (.reg false 0 [oN 128 (oV 15),oN 129 (.bin .lss (.t 128) (cI 0))]) (.cond (.t 129) (.seq (.reg false 0 [oN 4 (.mov (.c (.bool false)))]) .ret) .skip)) (.seq (.reg false 0 [oN 130 (oV 11),oN 131 (oV 15),oN 132 (.call 229 [(.t 130),(.t 131)]),oN 15 (oV 132)]) (.seq (.seq (.reg false 0 [oN 133 (oV 15),oN 134 (.bin .lss (.t 133) (cI 0))]) (.cond (.t 134) (.seq (.reg false 0 [oN 4 (.mov (.c (.bool false)))]) .ret) .skip)) (.seq (.seq (.reg false 0 [oN 135 (oV 15),oN 136 (oV 14),oN 137 (.bin .neq (.t 135) (.t 136))]) (.cond (.t 137) (.seq (.reg false 0 [oN 4 (.mov (.c (.bool false)))]) .ret) .skip)) (.seq (.reg false 0 [oN 4 (.mov (.c (.bool true)))]) .ret))))))))))))))))))))))))))))))⟩
structure D_laws_FnExactEliminateNode (T : Nat → Option Fn) : Prop where
 hT : T 379 = some F_laws_FnExactEliminateNode
 d_laws_szLinkS : D_laws_szLinkS T
 d_laws_toLinkS : D_laws_toLinkS T
 d_laws_eqLinkS : D_laws_eqLinkS T
 d_laws_eqConditional : D_laws_eqConditional T
 d_laws_markLinkS : D_laws_markLinkS T
 d_impl_EliminateNode : D_impl_EliminateNode T
 d_laws_heldLinkS : D_laws_heldLinkS T
 d_laws_markConditional : D_laws_markConditional T
 d_spec_EliminateNode : D_spec_EliminateNode T
 d_laws_heldConditional : D_laws_heldConditional T
theorem c_lawFnExactEliminateNode {T : Nat → Option Fn} (h : D_laws_FnExactEliminateNode T) (a : List Lk) (wa : (wfL Lk.wf) a) (b : Int) (wb : -9223372036854775808 ≤ b ∧ b ≤ 9223372036854775807) : PF T 379 [lksV a,iv b] (.bool true):=by
 refine PO.frz ?_ (dep_bool 11 _)
 refine po_end2 (fun x d=>(x == 21 && d == 33) || (x == 174 && d == 37) || (x == 118 && d == 63) || (x == 367 && d == 85) || (x == 118 && d == 88)) h.hT rfl rfl ?_
 dsimp only [F_laws_FnExactEliminateNode,oN,oS,oG,oK,oA,oH,oV,cI,St.enter,List.length_cons,List.length_nil,Nat.zero_add]
 refine ew ?_
 refine PFK_of (c_szLinkS h.d_laws_szLinkS (l:=a) wa ⟨by omega,by omega⟩) ?_
 refine ew ?_
 have ka:=@szr_le (1048576) (szL Lk.sz a)
 refine brK_dec (fun hba=>?_) fun hba=>?_
 ·refine ew ?_
  exact fin_bool
 have sa:=szr_nlt hba
 refine ew ?_
 have za : szL Lk.sz a ≤ 1048576:=by omega
 have hcn:=el_res a b
 have zr:=hcn.1
 have wr:=hcn.2.1
 have we:=hcn.2.2
 have:=cb_LinkS a
 have:=cb_Conditional (elC a b)
 have:=cb_LinkS (elM a b)
 have PI:=po_iEliminateNode h.d_impl_EliminateNode (v:=b) wa
 refine PFK_of (c_toLinkS h.d_laws_toLinkS (l:=a) za) ?_
 refine ew ?_
 refine PFK_of (c_sEliminateNode h.d_spec_EliminateNode (v:=b) wa za) ?_
 refine ew ?_
 refine RefK_got (po_toLinkS h.d_laws_toLinkS (l:=a) za) (by (refine ew ?_;try with_reducible exact True.intro)) ?_
 intro x0 q1 o1 G
 have hO:=G.ow
 have gn:=G.nd
 have gf:=G.fresh
 have go:=G.old
 have gl:=G.len
 clear G
 have E : Ep ([some ⟨5,[[iv (elC a b).node,.bool (elC a b).total.neg,ints (elC a b).total.mag,ints (elC a b).total.den,pasV (elC a b).ps]]⟩] : Store) [] [] [] [(0,⟨5,[[iv (elC a b).node,.bool (elC a b).total.neg,ints (elC a b).total.mag,ints (elC a b).total.den,pasV (elC a b).ps]]⟩)]:=⟨cs_nil,by simp [objAt]⟩
 have E2:=E.got (s1:=([some ⟨5,[[iv (elC a b).node,.bool (elC a b).total.neg,ints (elC a b).total.mag,ints (elC a b).total.den,pasV (elC a b).ps]]⟩] : Store)) (fun _ _=>rfl) (by simp) (owL_1 hO) (by first | exact gn | simpa using gn) (by first | exact gf | simpa using gf) (by first | exact go | simpa using go)
 have hq : ([some ⟨5,[[iv (elC a b).node,.bool (elC a b).total.neg,ints (elC a b).total.mag,ints (elC a b).total.den,pasV (elC a b).ps]]⟩] : Store).length + 0 ≤ q1.length:=by first | exact gl | simpa using gl
 clear E gn gf go gl
 have E : Ep q1 [x0] [lksV a] _ [(0,⟨5,[[iv (elC a b).node,.bool (elC a b).total.neg,ints (elC a b).total.mag,ints (elC a b).total.den,pasV (elC a b).ps]]⟩)]:=E2
 clear E2
 have Rf:=And.intro (E.res 0 rfl rfl (dep_lks _ _)) (fun x=>(E.snoc (x:=x)).res 0 rfl rfl (dep_lks _ _))
 have LF:=E.leaf 0 rfl rfl
 have LO:=E.at0 (p:=0) (ob:=⟨5,[[iv (elC a b).node,.bool (elC a b).total.neg,ints (elC a b).total.mag,ints (elC a b).total.den,pasV (elC a b).ps]]⟩) (by simp)
 refine ew5 @Rf @LF @LO @numK_any @or_sc ?_
 refine RefK_got (PI) (by (refine ew5 @Rf @LF @LO @numK_any @or_sc ?_;try with_reducible exact True.intro)) ?_
 intro r q2 o2 G
 have hO:=G.ow
 have gn:=G.nd
 have gf:=G.fresh
 have go:=G.old
 have gl:=G.len
 clear G
 obtain ⟨_,rfl,hO0⟩:=hO.tup_inv
 obtain ⟨_,_,u2_1,v2_1,rfl,rfl,hP2_1,hO2_1⟩:=hO0.inv
 obtain ⟨_,rfl,hQ2_1⟩:=hP2_1.agg_inv
 obtain ⟨g0_2,g0_3,g0_4,rfl⟩:=hQ2_1.cd
 obtain ⟨g1,_,u2_2,v2_2,rfl,rfl,hP2_2,hO2_2⟩:=hO2_1.inv
 obtain ⟨_,rfl,hO2_3⟩:=hO2_2.bool_inv
 obtain ⟨rfl,rfl⟩:=hO2_3.nil_inv
 simp only [List.append_nil,List.nil_append] at gn gf
 have E2:=E.got (s1:=q1 ++ [none]) ((fun q hq=>by first | exact objAt_app_lt hq | (simp only [List.append_assoc];exact objAt_app_lt hq))) (by simp) (owL_append (hQ2_1) (owL_1 hP2_2)) (by first | exact gn | simpa using gn) (by first | exact gf | simpa using gf) (by first | exact go | simpa using go)
 have F0:=E.free (os2:=u2_1 ++ u2_2) (s1:=q1 ++ [none]) (p:=q1.length) (by first | exact gf | simpa using gf) (by simp) (by simp)
 have hq : q1.length + 1 ≤ q2.length:=by first | exact gl | simpa using gl
 try simp only [List.length_cons,List.length_nil,Nat.zero_add,Nat.reduceAdd] at hq
 have hl0 : q1.length < q2.length:=by omega
 have : 0 ≠ q1.length:=by have:=E.lt (0,⟨5,[[iv (elC a b).node,.bool (elC a b).total.neg,ints (elC a b).total.mag,ints (elC a b).total.den,pasV (elC a b).ps]]⟩) (by simp);omega
 clear E gn gf go gl
 have E : Ep q2 [x0,iv (elC a b).node,.bool (elC a b).total.neg,g0_2,g0_3,g0_4,g1] [lksV a,iv (elC a b).node,.bool (elC a b).total.neg,ints (elC a b).total.mag,ints (elC a b).total.den,pasV (elC a b).ps,lksV (elM a b)] _ [(0,⟨5,[[iv (elC a b).node,.bool (elC a b).total.neg,ints (elC a b).total.mag,ints (elC a b).total.den,pasV (elC a b).ps]]⟩)]:=E2
 clear E2
 replace E:=E.reloc (p:=q1.length) (ob:=⟨5,[[iv (elC a b).node,.bool (elC a b).total.neg,g0_2,g0_3,g0_4]]⟩) (L':=[(0,⟨5,[[iv (elC a b).node,.bool (elC a b).total.neg,ints (elC a b).total.mag,ints (elC a b).total.den,pasV (elC a b).ps]]⟩),(q1.length,⟨5,[[iv (elC a b).node,.bool (elC a b).total.neg,g0_2,g0_3,g0_4]]⟩)]) F0 (by first | omega | (simp;omega)) (by simp;(try omega))
 replace Rf:=And.intro (E.res 0 rfl rfl (dep_lks _ _)) (And.intro (fun x=>(E.snoc (x:=x)).res 0 rfl rfl (dep_lks _ _)) (And.intro (E.res1 3 rfl rfl (dep_ints _ _)) (And.intro (fun x=>(E.snoc (x:=x)).res1 3 rfl rfl (dep_ints _ _)) (And.intro (E.res1 4 rfl rfl (dep_ints _ _)) (And.intro (fun x=>(E.snoc (x:=x)).res1 4 rfl rfl (dep_ints _ _)) (And.intro (E.res1 5 rfl rfl (dep_pas _ _)) (And.intro (fun x=>(E.snoc (x:=x)).res1 5 rfl rfl (dep_pas _ _)) (And.intro (E.res 6 rfl rfl (dep_lks _ _)) (fun x=>(E.snoc (x:=x)).res 6 rfl rfl (dep_lks _ _))))))))))
 replace LF:=And.intro (E.leaf 0 rfl rfl) (And.intro (E.leaf 3 rfl rfl) (And.intro (E.leaf 4 rfl rfl) (And.intro (E.leaf 5 rfl rfl) (E.leaf 6 rfl rfl))))
 replace LO:=And.intro (E.at0 (p:=0) (ob:=⟨5,[[iv (elC a b).node,.bool (elC a b).total.neg,ints (elC a b).total.mag,ints (elC a b).total.den,pasV (elC a b).ps]]⟩) (by simp)) (E.at0 (p:=q1.length) (ob:=⟨5,[[iv (elC a b).node,.bool (elC a b).total.neg,g0_2,g0_3,g0_4]]⟩) (by simp))
 refine ew6 @Rf @LF @LO @numK_any @or_sc @List.set_set.{0} ?_
 obtain ⟨s2,hs⟩ : ∃ s,(q2.set (q1.length) (some ⟨5,[[iv (elC a b).node,.bool (elC a b).total.neg,g0_2,g0_3,g0_4]]⟩)) = s:=⟨_,rfl⟩
 have hls : q2.length = s2.length:=by rw [← hs];simp
 simp only [hs] at *
 clear hs
 simp only [hls] at *
 clear hls
 obtain ⟨p2_0,hpn⟩ : ∃ p,q1.length = p:=⟨_,rfl⟩
 simp only [hpn] at *
 clear hpn
 clear Rf LF LO
 have Rf:=And.intro (E.res 0 rfl rfl (dep_lks _ _)) (And.intro (fun x=>(E.snoc (x:=x)).res 0 rfl rfl (dep_lks _ _)) (And.intro (E.res1 3 rfl rfl (dep_ints _ _)) (And.intro (fun x=>(E.snoc (x:=x)).res1 3 rfl rfl (dep_ints _ _)) (And.intro (E.res1 4 rfl rfl (dep_ints _ _)) (And.intro (fun x=>(E.snoc (x:=x)).res1 4 rfl rfl (dep_ints _ _)) (And.intro (E.res1 5 rfl rfl (dep_pas _ _)) (And.intro (fun x=>(E.snoc (x:=x)).res1 5 rfl rfl (dep_pas _ _)) (And.intro (E.res 6 rfl rfl (dep_lks _ _)) (fun x=>(E.snoc (x:=x)).res 6 rfl rfl (dep_lks _ _))))))))))
 have LF:=And.intro (E.leaf 0 rfl rfl) (And.intro (E.leaf 3 rfl rfl) (And.intro (E.leaf 4 rfl rfl) (And.intro (E.leaf 5 rfl rfl) (E.leaf 6 rfl rfl))))
 have LO:=And.intro (E.at0 (p:=0) (ob:=⟨5,[[iv (elC a b).node,.bool (elC a b).total.neg,ints (elC a b).total.mag,ints (elC a b).total.den,pasV (elC a b).ps]]⟩) (by simp)) (E.at0 (p:=p2_0) (ob:=⟨5,[[iv (elC a b).node,.bool (elC a b).total.neg,g0_2,g0_3,g0_4]]⟩) (by simp))
 refine PFK_of (c_eqConditional h.d_laws_eqConditional (x:=(elC a b)) (y:=(elC a b)) wr wr) ?_
 refine ew5 @Rf @LF @LO @numK_any @or_sc ?_
 refine PFK_of (c_eqLinkS h.d_laws_eqLinkS (a:=(elM a b)) (b:=(elM a b)) we we) ?_
 refine ew5 @Rf @LF @LO @numK_any @or_sc ?_
 refine PFK_of (c_toLinkS h.d_laws_toLinkS (l:=a) za) ?_
 refine ew5 @Rf @LF @LO @numK_any @or_sc ?_
 refine PFK_of (c_eqLinkS h.d_laws_eqLinkS (a:=a) (b:=a) wa wa) ?_
 refine ew5 @Rf @LF @LO @numK_any @or_sc ?_
 have hk0 : ¬ ((1 + cnL Lk.ct a a.length : Int) < 0):=by omega
 obtain ⟨s3,hr,E2,hl⟩:=E.call 0 (mk_markLinkS h.d_laws_markLinkS (l:=a) (k:=1) (by first | omega | (constructor <;> omega)) (by first | omega | (constructor <;> omega))) rfl rfl
 refine RefK_mk hr rfl hl (by simp) ?_
 clear hr hl E Rf LF LO
 have E : Ep s3 [x0,iv (elC a b).node,.bool (elC a b).total.neg,g0_2,g0_3,g0_4,g1] [lksV (mkL Lk.mk3 Lk.ct 1 a),iv (elC a b).node,.bool (elC a b).total.neg,ints (elC a b).total.mag,ints (elC a b).total.den,pasV (elC a b).ps,lksV (elM a b)] _ [(0,⟨5,[[iv (elC a b).node,.bool (elC a b).total.neg,ints (elC a b).total.mag,ints (elC a b).total.den,pasV (elC a b).ps]]⟩),(p2_0,⟨5,[[iv (elC a b).node,.bool (elC a b).total.neg,g0_2,g0_3,g0_4]]⟩)]:=E2
 clear E2
 have Rf:=And.intro (E.res 0 rfl rfl (dep_lks _ _)) (And.intro (fun x=>(E.snoc (x:=x)).res 0 rfl rfl (dep_lks _ _)) (And.intro (E.res1 3 rfl rfl (dep_ints _ _)) (And.intro (fun x=>(E.snoc (x:=x)).res1 3 rfl rfl (dep_ints _ _)) (And.intro (E.res1 4 rfl rfl (dep_ints _ _)) (And.intro (fun x=>(E.snoc (x:=x)).res1 4 rfl rfl (dep_ints _ _)) (And.intro (E.res1 5 rfl rfl (dep_pas _ _)) (And.intro (fun x=>(E.snoc (x:=x)).res1 5 rfl rfl (dep_pas _ _)) (And.intro (E.res 6 rfl rfl (dep_lks _ _)) (fun x=>(E.snoc (x:=x)).res 6 rfl rfl (dep_lks _ _))))))))))
 have LF:=And.intro (E.leaf 0 rfl rfl) (And.intro (E.leaf 3 rfl rfl) (And.intro (E.leaf 4 rfl rfl) (And.intro (E.leaf 5 rfl rfl) (E.leaf 6 rfl rfl))))
 have LO:=And.intro (E.at0 (p:=0) (ob:=⟨5,[[iv (elC a b).node,.bool (elC a b).total.neg,ints (elC a b).total.mag,ints (elC a b).total.den,pasV (elC a b).ps]]⟩) (by simp)) (E.at0 (p:=p2_0) (ob:=⟨5,[[iv (elC a b).node,.bool (elC a b).total.neg,g0_2,g0_3,g0_4]]⟩) (by simp))
 refine ew6 @Rf @LF @LO @numK_any @or_sc @hk0 ?_
 refine PFK_of (c_eqConditional h.d_laws_eqConditional (x:=(elC a b)) (y:=(elC a b)) wr wr) ?_
 refine ew6 @Rf @LF @LO @numK_any @or_sc @hk0 ?_
 refine PFK_of (c_eqLinkS h.d_laws_eqLinkS (a:=(elM a b)) (b:=(elM a b)) we we) ?_
 refine ew6 @Rf @LF @LO @numK_any @or_sc @hk0 ?_
 obtain ⟨s4,hr,E2,hl⟩:=E.part 1 5 (mk_markConditional h.d_laws_markConditional (x:=(elC a b)) (k:=1) (by first | omega | (constructor <;> omega)) (by first | omega | (constructor <;> omega))) rfl rfl (by simp)
 refine RefK_mk hr rfl hl (by simp) ?_
 clear hr hl E Rf LF LO
 have E : Ep s4 [x0,iv (elC a b).node,.bool (elC a b).total.neg,g0_2,g0_3,g0_4,g1] [lksV (mkL Lk.mk3 Lk.ct 1 a),iv (elC a b).node,.bool (elC a b).total.neg,ints (Cd.mk2 1 (elC a b)).total.mag,ints (Cd.mk2 1 (elC a b)).total.den,pasV (Cd.mk2 1 (elC a b)).ps,lksV (elM a b)] _ [(0,⟨5,[[iv (elC a b).node,.bool (elC a b).total.neg,ints (elC a b).total.mag,ints (elC a b).total.den,pasV (elC a b).ps]]⟩),(p2_0,⟨5,[[iv (elC a b).node,.bool (elC a b).total.neg,g0_2,g0_3,g0_4]]⟩)]:=E2
 clear E2
 have Rf:=And.intro (E.res 0 rfl rfl (dep_lks _ _)) (And.intro (fun x=>(E.snoc (x:=x)).res 0 rfl rfl (dep_lks _ _)) (And.intro (E.res1 3 rfl rfl (dep_ints _ _)) (And.intro (fun x=>(E.snoc (x:=x)).res1 3 rfl rfl (dep_ints _ _)) (And.intro (E.res1 4 rfl rfl (dep_ints _ _)) (And.intro (fun x=>(E.snoc (x:=x)).res1 4 rfl rfl (dep_ints _ _)) (And.intro (E.res1 5 rfl rfl (dep_pas _ _)) (And.intro (fun x=>(E.snoc (x:=x)).res1 5 rfl rfl (dep_pas _ _)) (And.intro (E.res 6 rfl rfl (dep_lks _ _)) (fun x=>(E.snoc (x:=x)).res 6 rfl rfl (dep_lks _ _))))))))))
 have LF:=And.intro (E.leaf 0 rfl rfl) (And.intro (E.leaf 3 rfl rfl) (And.intro (E.leaf 4 rfl rfl) (And.intro (E.leaf 5 rfl rfl) (E.leaf 6 rfl rfl))))
 have LO:=And.intro (E.at0 (p:=0) (ob:=⟨5,[[iv (elC a b).node,.bool (elC a b).total.neg,ints (elC a b).total.mag,ints (elC a b).total.den,pasV (elC a b).ps]]⟩) (by simp)) (E.at0 (p:=p2_0) (ob:=⟨5,[[iv (elC a b).node,.bool (elC a b).total.neg,g0_2,g0_3,g0_4]]⟩) (by simp))
 refine ew5 @Rf @LF @LO @numK_any @or_sc ?_
 obtain ⟨s5,hr,E2,hl⟩:=E.call 6 (mk_markLinkS h.d_laws_markLinkS (l:=(elM a b)) (k:=1 + Cd.ct2 (elC a b)) (by first | omega | (constructor <;> omega)) (by first | omega | (constructor <;> omega))) rfl rfl
 refine RefK_mk hr rfl hl (by simp) ?_
 clear hr hl E Rf LF LO
 have E : Ep s5 [x0,iv (elC a b).node,.bool (elC a b).total.neg,g0_2,g0_3,g0_4,g1] [lksV (mkL Lk.mk3 Lk.ct 1 a),iv (elC a b).node,.bool (elC a b).total.neg,ints (Cd.mk2 1 (elC a b)).total.mag,ints (Cd.mk2 1 (elC a b)).total.den,pasV (Cd.mk2 1 (elC a b)).ps,lksV (mkL Lk.mk3 Lk.ct (1 + Cd.ct2 (elC a b)) (elM a b))] _ [(0,⟨5,[[iv (elC a b).node,.bool (elC a b).total.neg,ints (elC a b).total.mag,ints (elC a b).total.den,pasV (elC a b).ps]]⟩),(p2_0,⟨5,[[iv (elC a b).node,.bool (elC a b).total.neg,g0_2,g0_3,g0_4]]⟩)]:=E2
 clear E2
 have Rf:=And.intro (E.res 0 rfl rfl (dep_lks _ _)) (And.intro (fun x=>(E.snoc (x:=x)).res 0 rfl rfl (dep_lks _ _)) (And.intro (E.res1 3 rfl rfl (dep_ints _ _)) (And.intro (fun x=>(E.snoc (x:=x)).res1 3 rfl rfl (dep_ints _ _)) (And.intro (E.res1 4 rfl rfl (dep_ints _ _)) (And.intro (fun x=>(E.snoc (x:=x)).res1 4 rfl rfl (dep_ints _ _)) (And.intro (E.res1 5 rfl rfl (dep_pas _ _)) (And.intro (fun x=>(E.snoc (x:=x)).res1 5 rfl rfl (dep_pas _ _)) (And.intro (E.res 6 rfl rfl (dep_lks _ _)) (fun x=>(E.snoc (x:=x)).res 6 rfl rfl (dep_lks _ _))))))))))
 have LF:=And.intro (E.leaf 0 rfl rfl) (And.intro (E.leaf 3 rfl rfl) (And.intro (E.leaf 4 rfl rfl) (And.intro (E.leaf 5 rfl rfl) (E.leaf 6 rfl rfl))))
 have LO:=And.intro (E.at0 (p:=0) (ob:=⟨5,[[iv (elC a b).node,.bool (elC a b).total.neg,ints (elC a b).total.mag,ints (elC a b).total.den,pasV (elC a b).ps]]⟩) (by simp)) (E.at0 (p:=p2_0) (ob:=⟨5,[[iv (elC a b).node,.bool (elC a b).total.neg,g0_2,g0_3,g0_4]]⟩) (by simp))
 refine ew5 @Rf @LF @LO @numK_any @or_sc ?_
 refine PFK_of (c_heldConditional h.d_laws_heldConditional (x:=(elC a b)) (k:=1) (by first | omega | (constructor <;> omega)) (by first | omega | (constructor <;> omega))) ?_
 refine ew5 @Rf @LF @LO @numK_any @or_sc ?_
 refine brK_dec (fun hc=>absurd hc (by first | omega | (constructor <;> omega))) fun _=>?_
 refine ew5 @Rf @LF @LO @numK_any @or_sc ?_
 refine PFK_of (c_heldLinkS h.d_laws_heldLinkS (l:=(elM a b)) (k:=1 + Cd.ct2 (elC a b)) (by first | omega | (constructor <;> omega)) (by first | omega | (constructor <;> omega))) ?_
 refine ew5 @Rf @LF @LO @numK_any @or_sc ?_
 refine brK_dec (fun hc=>absurd hc (by first | omega | (constructor <;> omega))) fun _=>?_
 refine ew5 @Rf @LF @LO @numK_any @or_sc ?_
 refine PFK_of (c_toLinkS h.d_laws_toLinkS (l:=a) za) ?_
 refine ew5 @Rf @LF @LO @numK_any @or_sc ?_
 refine PFK_of (PI.frz (by exact dep_tup3 (dep_cd _ _) (dep_lks _ _) (dep_bool _ _))) ?_
 refine ew5 @Rf @LF @LO @numK_any @or_sc ?_
 refine PFK_of (c_eqConditional h.d_laws_eqConditional (x:=(elC a b)) (y:=(elC a b)) wr wr) ?_
 refine ew5 @Rf @LF @LO @numK_any @or_sc ?_
 refine PFK_of (c_eqLinkS h.d_laws_eqLinkS (a:=(elM a b)) (b:=(elM a b)) we we) ?_
 refine ew5 @Rf @LF @LO @numK_any @or_sc ?_
 refine PFK_of (c_heldConditional h.d_laws_heldConditional (x:=(elC a b)) (k:=1) (by first | omega | (constructor <;> omega)) (by first | omega | (constructor <;> omega))) ?_
 refine ew5 @Rf @LF @LO @numK_any @or_sc ?_
 refine brK_dec (fun hc=>absurd hc (by first | omega | (constructor <;> omega))) fun _=>?_
 refine ew5 @Rf @LF @LO @numK_any @or_sc ?_
 refine PFK_of (c_heldLinkS h.d_laws_heldLinkS (l:=(elM a b)) (k:=1 + Cd.ct2 (elC a b)) (by first | omega | (constructor <;> omega)) (by first | omega | (constructor <;> omega))) ?_
 refine ew5 @Rf @LF @LO @numK_any @or_sc ?_
 refine brK_dec (fun hc=>absurd hc (by first | omega | (constructor <;> omega))) fun _=>?_
 refine ew5 @Rf @LF @LO @numK_any @or_sc ?_
 exact fin_bool
def OutOk (P : Program) (fid : Nat) (o : OutF) : Prop :=
 ∀ args σ r σ',o.sem args σ r σ' → ∀ w M D (vals : Array Value),rdL w D (XS M D) args vals.toList → SRel w D M σ → Calls P fid vals w (Post M D w σ.length r σ')
def Fits (P : Program) (ν : Nat → Option Nat) (T : Nat → Option Fn) : Prop :=
 ∀ fid f F,ν fid = some f → T f = some F → (∃ fn,P.funcs[fid]? = some fn ∧ trFn P ν fn = some F) ∨ ∃ o,F.body = .lib o ∧ OutOk P fid o
theorem no_lib {T : Nat → Option Fn} {j : Job} {x : Out} (h : Run T j x) : ∀ o st,j ≠ .code (.lib o) st:=by
 induction h with
 | gc ρ hn hρ h ih=>intro o st e;cases e;exact ih o _ rfl
 | forget he ho hk h ih=>intro o st e;cases e;exact ih o _ rfl
 | re W h h' ih=>intro o st e;cases e;exact ih o _ rfl
 | _=>intro o st e;cases e
theorem trC_lib {P : Program} {ν : Nat → Option Nat} {nt : Nat} {o : OutF} : ∀ c : Code,trC P ν nt c ≠ some (.lib o):=by
 intro c h
 unfold trC at h
 cases c <;> simp at h
 all_goals (try (split at h <;> simp at h))
theorem trFn_lib {P : Program} {ν : Nat → Option Nat} {fn : Func} {F : Fn} {o : OutF} (h : trFn P ν fn = some F) (hb : F.body = .lib o) : False:=by
 unfold trFn at h
 split at h <;> first | (cases h;done) | skip
 split at h <;> first | (cases h;done) | skip
 rename_i b rs' hb' hrs'
 split at h <;> first | (cases h;done) | skip
 simp only [Option.some.injEq] at h
 subst h
 simp only [] at hb
 subst hb
 exact trC_lib _ hb'
section
variable {P : Program} {ν : Nat → Option Nat} {T : Nat → Option Fn}
theorem okK_cons {m : Nat} {x : OpI} {l : List OpI} (h : okK m (x :: l) = true) : okK m l = true ∧ ∀ y ∈ l,y.i.makes = true → y.k ≠ x.k ∧ y.k < m:=by
 have hm : ∀ (l : List OpI),okK m l = true → ∀ y ∈ l,y.i.makes = true → y.k < m:=by
  intro l
  induction l with
  | nil=>intro _ y hy;cases hy
  |
   cons z l ih =>
   intro h y hy hmk
   simp only [okK,Bool.and_eq_true] at h
   rcases List.mem_cons.1 hy with rfl | hy
   ·have:=h.1
    rw [if_pos hmk] at this
    simp only [Bool.and_eq_true,decide_eq_true_eq] at this
    exact this.1
   ·exact ih h.2 y hy hmk
 simp only [okK,Bool.and_eq_true] at h
 refine ⟨h.2,fun y hy hmk=>⟨?_,hm l h.2 y hy hmk⟩⟩
 by_cases hx : x.i.makes = true
 ·have:=h.1
  rw [if_pos hx] at this
  simp only [Bool.and_eq_true,decide_eq_true_eq,List.all_eq_true] at this
  have:=this.2 y hy
  simpa [hmk] using this
 ·have:=h.1
  rw [if_neg hx] at this
  simp only [beq_iff_eq] at this
  have:=hm l h.2 y hy hmk
  omega
theorem okK_lt {m : Nat} : ∀ (l : List OpI),okK m l = true → ∀ x ∈ l,x.i.makes = true → x.k < m
 | [],_,y,hy,_=>by cases hy
 |
  z :: l,h,y,hy,hmk=>by
  simp only [okK,Bool.and_eq_true] at h
  rcases List.mem_cons.1 hy with rfl | hy
  ·have:=h.1
   rw [if_pos hmk] at this
   simp only [Bool.and_eq_true,decide_eq_true_eq] at this
   exact this.1
  ·exact okK_lt l h.2 y hy hmk
theorem okK_ne {m : Nat} : ∀ (l : List OpI),okK m l = true → ∀ (i j : Nat) (x y : OpI),l[i]? = some x → l[j]? = some y → i ≠ j → x.i.makes = true → x.k ≠ y.k
 | [],_,i,j,x,y,hx,_,_,_=>by simp at hx
 |
  z :: l,h,i,j,x,y,hx,hy,hij,hmk=>by
  obtain ⟨k1,k2⟩:=okK_cons h
  cases i with
  |
   zero =>
   simp at hx;subst hx
   cases j with
   | zero=>exact absurd rfl hij
   |
    succ j =>
    have hy' : y ∈ l:=List.mem_of_getElem? (by simpa using hy)
    by_cases hmy : y.i.makes = true
    ·exact fun e=>(k2 y hy' hmy).1 e.symm
    ·-- one that makes none has the number m
     have hm : ∀ (l : List OpI),okK m l = true → ∀ y ∈ l,y.i.makes ≠ true → y.k = m:=by
      intro l
      induction l with
      | nil=>intro _ y hy;cases hy
      |
       cons z l ih =>
       intro h y hy hn
       simp only [okK,Bool.and_eq_true] at h
       rcases List.mem_cons.1 hy with rfl | hy
       ·have:=h.1
        rw [if_neg hn] at this
        simpa using this
       ·exact ih h.2 y hy hn
     have:=hm l k1 y hy' hmy
     have h3:=okK_lt _ h z (by simp) hmk
     omega
  |
   succ i =>
   have hx' : x ∈ l:=List.mem_of_getElem? (by simpa using hx)
   cases j with
   |
    zero =>
    simp at hy;subst hy
    exact (k2 x hx' hmk).1
   | succ j=>exact okK_ne l k1 i j x y (by simpa using hx) (by simpa using hy) (by omega) hmk
theorem opsOk_cons {o : OpI} {l : List OpI} {st st1 st2 : St} (h1 : OpOk P ν o st st1) (h2 : OpsOk P ν l st1 st2) : OpsOk P ν (o :: l) st st2:=by
 obtain ⟨a1,a2,a3,a4⟩:=h1
 obtain ⟨b1,b2,b3,b4⟩:=h2
 refine ⟨b1.trans a1,b2.trans a2,Nat.le_trans a3 b3,?_⟩
 intro ops dr nt m k rest htr hk M w0 D0 D a w hs hid Q hQ
 cases rest with
 | nil=>simp [trOps] at htr
 |
  cons r rest =>
  simp only [trOps] at htr
  split at htr <;> first | (cases htr;done) | skip
  rename_i x hx
  split at htr <;> first | (cases htr;done) | skip
  rename_i l' hl'
  simp only [Option.some.injEq,List.cons.injEq] at htr
  obtain ⟨rfl,rfl⟩:=htr
  obtain ⟨k1,k2⟩:=okK_cons hk
  have key:=a4 ops dr nt m k r hx M w0 D0 D a w hs (hid x (by simp)) (wpList P ops Q rest) Q (fun D' a' w' hs' hun=>by
   refine b4 ops dr nt m _ rest hl' k1 M w0 D0 D' a' w' hs' (fun y hy hmk=>?_) Q hQ
   rw [a1]
   obtain ⟨e1,e2⟩:=hid y (by simp [hy]) hmk
   exact ⟨Nat.lt_of_lt_of_le e1 a3,hun _ (Nat.le_add_right _ _) e1 e2 (fun h=>(k2 y hy hmk).1 (by omega))⟩)
  unfold wpList
  split
  ·rename_i hw;rw [if_pos hw] at key;exact .inl key
  ·rename_i hw;rw [if_neg hw] at key;exact key
theorem trC_inv {nt : Nat} {cc : Code} {c : C} (h : trC P ν nt cc = some c) : match c with
  | .skip=>cc = .skip
  | .reg d m l=>∃ id ops,cc = .region id ops d ∧ trOps P ν ops d nt m 0 ops.toList = some l
  | .seq x y=>∃ a b,cc = .seq a b ∧ trC P ν nt a = some x ∧ trC P ν nt b = some y
  | .cond s x y=>∃ o a b,cc = .cond o a b ∧ trS o = some s ∧ trC P ν nt a = some x ∧ trC P ν nt b = some y
  | .block id x=>∃ a,cc = .block id a ∧ trC P ν nt a = some x
  | .loop x=>∃ a,cc = .loop a ∧ trC P ν nt a = some x
  | .exit id=>cc = .exit id
  | .ret=>cc = .ret
  | .lib _=>False:=by
 cases cc with
 | skip=>simp only [trC,Option.some.injEq] at h;subst h;rfl
 |
  region id ops d =>
  simp only [trC,Option.map_eq_some_iff] at h
  obtain ⟨l,h1,rfl⟩:=h
  exact ⟨id,ops,rfl,h1⟩
 |
  seq a b =>
  simp only [trC] at h
  split at h <;> first | (cases h;done) | skip
  rename_i x y h1 h2
  simp only [Option.some.injEq] at h;subst h
  exact ⟨a,b,rfl,h1,h2⟩
 |
  cond o a b =>
  simp only [trC] at h
  split at h <;> first | (cases h;done) | skip
  rename_i s x y h1 h2 h3
  simp only [Option.some.injEq] at h;subst h
  exact ⟨o,a,b,rfl,h1,h2,h3⟩
 |
  block id a =>
  simp only [trC,Option.map_eq_some_iff] at h
  obtain ⟨x,h1,rfl⟩:=h
  exact ⟨a,rfl,h1⟩
 |
  loop a =>
  simp only [trC,Option.map_eq_some_iff] at h
  obtain ⟨x,h1,rfl⟩:=h
  exact ⟨a,rfl,h1⟩
 | exit id=>simp only [trC,Option.some.injEq] at h;subst h;rfl
 | ret=>simp only [trC,Option.some.injEq] at h;subst h;rfl
 | _=>simp [trC] at h
theorem loop_of {c : C} {e : Ex} {st st' : St} (hk : st'.keep = st.keep) (h : LoopOk P ν c e st st') : CodeOk P ν (.loop c) e st st':=by
 refine ⟨hk,?_⟩
 intro nt cc htr M w0 D0 D a w hs Q hQ
 obtain ⟨cb,rfl,hb⟩:=trC_inv htr
 intro b k cs
 obtain ⟨x,a',w',q,harr⟩:=h nt cb hb M w0 D0 D a w hs Q hQ b k cs
 exact ⟨x,a',w',q,.of_steps (.one step_loop) harr⟩
theorem exOf_ne {e : Ex} (h : e ≠ .normal) : exOf e ≠ .normal:=by cases e <;> simp [exOf] at h ⊢
theorem then_of {next : Act → World → Prop} {Q : Exit → Act → World → Prop} {e : Ex} (h : e ≠ .normal) {a : Act} {w : World} (hq : Q (exOf e) a w) : Exit.then next Q (exOf e) a w:=by
 cases e <;> first | (simp at h;done) | exact hq
def getRes (tmps : Array Value) : ResultVar → Sem Value
 | .tmp t=>pure (tmps.getD t undef)
 | .cell q t=>do loadVar t (← asAddr (tmps.getD q undef))
theorem results_eq (fn : Func) (tmps : Array Value) : results fn tmps = (do let vs ← fn.results.mapM (getRes tmps);pure (if h : vs.size = 1 then vs[0] else .tuple vs)):=rfl
theorem fnOk_lib (hT : Fits P ν T) {f : Nat} {args : List V} {σ : Store} {F : Fn} {o : OutF} {r : V} {σ' : Store} (hf : T f = some F) (hb : F.body = .lib o) (h : o.sem args σ r σ') : FnOk P ν f args σ r σ':=by
 intro fid hfid w M D vals hv hS
 rcases hT fid f F hfid hf with ⟨fn,hfn,htr⟩ | ⟨o',e,hO⟩
 ·exact (trFn_lib htr hb).elim
 ·rw [hb] at e
  cases e
  exact hO args σ r σ' h w M D vals hv hS
theorem fnOk_fn (hT : Fits P ν T) {f : Nat} {args : List V} {σ : Store} {F : Fn} {e : Ex} {st' : St} {rs : List V} (hf : T f = some F) (hl : args.length = F.nargs) (hnl : ∀ o,F.body ≠ .lib o)
  (ih : CodeOk P ν F.body e (St.enter args σ) st') (he : e = .normal ∨ e = .ret) (hr : F.res.mapM (Res.get st') = some rs) : FnOk P ν f args σ (packRes rs) st'.objs:=by
 intro fid hfid w M D vals hv hS
 rcases hT fid f F hfid hf with ⟨fn,hfn,htr⟩ | ⟨o,e,_⟩
 case inr=>exact (hnl o e).elim
 unfold trFn at htr
 split at htr <;> first | (cases htr;done) | skip
 rename_i body hbody
 split at htr <;> first | (cases htr;done) | skip
 rename_i b rs' hb hrs'
 split at htr <;> first | (cases htr;done) | skip
 rename_i hle
 simp only [Option.some.injEq] at htr;subst htr
 have hvl : vals.size = args.length:=by simpa using (rdL_length _ _ hv).symm
 refine calls_of_wp hfn hbody ?_
 have hs0 : SR fn.ntmps M w D (St.enter args σ) D { tmps:=vals ++ Array.replicate (fn.ntmps - vals.size) undef,defers:=[] } w:=by
  refine ⟨?_,?_,rfl,hS,Gr.refl _ _,fun o d h=>.inl ⟨o,d,h,rfl⟩,fun o _=>DSle.refl _⟩
  ·intro t
   simp only [St.enter]
   by_cases ht : t < args.length
   ·obtain ⟨y,h1,h2⟩:=rdL_get _ _ hv t args[t] (by simp [ht])
    have e1 : argE args t = args[t]:=by simp [argE,ht]
    rw [e1]
    have e2 : (vals ++ Array.replicate (fn.ntmps - vals.size) undef).getD t undef = y:=by
     rw [Array.getD_eq_getD_getElem?,Array.getElem?_append_left (by omega)]
     rw [← Array.getElem?_toList,h1];rfl
    rw [e2];exact h2
   ·have e1 : argE args t = .any:=by simp [argE,List.getD,List.getElem?_eq_none (Nat.le_of_not_lt ht)]
    rw [e1];simp only [rd]
  ·simp only [Array.size_append,Array.size_replicate];simp only [] at hl;omega
 refine ih.2 fn.ntmps body hb M w D D _ w hs0 _ ?_
 intro D' a' w' hs'
 have hres : ∃ v,(results fn a'.tmps).run P w' = .ok v w' ∧ rd w' D' (XS M D') (packRes rs) v:=by
  have hlist : ∀ (vars : List ResultVar) (rl : List Res) (vl : List V),vars.mapM (trRes P) = some rl → rl.mapM (Res.get st') = some vl →
    ∃ ys : List Value,(vars.mapM (getRes a'.tmps)).run P w' = .ok ys w' ∧ rdL w' D' (XS M D') vl ys:=by
   intro vars
   induction vars with
   | nil=>intro rl vl h1 h2;simp at h1;subst h1;simp at h2;subst h2;exact ⟨[],by simp,by simp [rdL]⟩
   |
    cons x vars ihv =>
    intro rl vl h1 h2
    simp only [List.mapM_cons,Option.pure_def,Option.bind_eq_bind,Option.bind_eq_some_iff,Option.some.injEq] at h1
    obtain ⟨r,hr1,rl',hr2,rfl⟩:=h1
    simp only [List.mapM_cons,Option.pure_def,Option.bind_eq_bind,Option.bind_eq_some_iff,Option.some.injEq] at h2
    obtain ⟨z,hz1,vl',hz2,rfl⟩:=h2
    obtain ⟨ys,k1,k2⟩:=ihv rl' vl' hr2 hz2
    cases x with
    |
     tmp t =>
     simp only [trRes,Option.some.injEq] at hr1;subst hr1
     simp only [Res.get,Option.some.injEq] at hz1;subst hz1
     refine ⟨a'.tmps.getD t undef :: ys,?_,by simp only [rdL];exact ⟨_,_,rfl,hs'.env t,k2⟩⟩
     have hg : (getRes a'.tmps (.tmp t)).run P w' = .ok (a'.tmps.getD t undef) w':=rfl
     simp only [List.mapM_cons,Sem.run_bind,Sem.run_pure,Result.andThen_ok,k1,hg]
    |
     cell q t =>
     simp only [trRes,Option.map_eq_some_iff] at hr1
     obtain ⟨⟨n,g⟩,hg,rfl⟩:=hr1
     simp only [Res.get] at hz1
     split at hz1 <;> first | (cases hz1;done) | skip
     rename_i row off hrow
     obtain ⟨u,j1,j2⟩:=run_load_agg hs'.store hg hrow (hs'.env q) hz1
     obtain ⟨bl,oo,hptr,_⟩:=rowAt_rd hs'.store hrow (hs'.env q)
     refine ⟨u :: ys,?_,by simp only [rdL];exact ⟨_,_,rfl,j2,k2⟩⟩
     have j1' : (loadVar t ⟨bl,oo + off,none⟩).run P w' = .ok u w':=by
      rw [hptr] at j1
      simpa [Instr.loadAt,Instr.sureAddr] using j1
     have hg : (getRes a'.tmps (.cell q t)).run P w' = .ok u w':=by
      simp only [getRes,hptr,asAddr,Sem.run_bind,Sem.run_pure,Result.andThen_ok,j1']
     simp only [List.mapM_cons,Sem.run_bind,Sem.run_pure,Result.andThen_ok,k1,hg]
  obtain ⟨ys,k1,k2⟩:=hlist fn.results.toList rs' rs hrs' hr
  refine ⟨if h : ys.toArray.size = 1 then ys.toArray[0] else .tuple ys.toArray,?_,?_⟩
  ·have : (fn.results.mapM (getRes a'.tmps)).run P w' = .ok ys.toArray w':=by
    rw [← Array.toArray_toList (xs:=fn.results),List.mapM_toArray,Sem.run_map,k1];rfl
   rw [results_eq]
   simp only [Sem.run_bind,this,Result.andThen_ok,Sem.run_pure]
  ·have hlen:=rdL_length _ _ k2
   have gen : ∀ (rs : List V) (ys : List Value),rdL w' D' (XS M D') rs ys → rs.length = ys.length → rd w' D' (XS M D') (packRes rs) (if h : ys.toArray.size = 1 then ys.toArray[0] else .tuple ys.toArray):=by
    intro rs ys h hl
    cases rs with
    |
     nil =>
     cases ys with
     | nil=>simp only [packRes];rw [dif_neg (by simp)];simp only [rd];exact ⟨_,rfl,h⟩
     | cons y ys=>simp at hl
    |
     cons x xs =>
     cases ys with
     | nil=>simp at hl
     |
      cons y ys =>
      cases xs with
      |
       nil =>
       cases ys with
       |
        nil =>
        simp only [rdL] at h
        obtain ⟨y',ys',h0,h1,h2⟩:=h
        cases h0
        simpa [packRes] using h1
       | cons y' ys=>simp at hl
      |
       cons x' xs =>
       cases ys with
       | nil=>simp at hl
       |
        cons y' ys =>
        simp only [packRes]
        rw [dif_neg (by simp)]
        simp only [rd]
        exact ⟨_,rfl,h⟩
   exact gen rs ys k2 hlen
 obtain ⟨v,hv1,hv2⟩:=hres
 have hfin : bodyPost P fn (Post M D w σ.length (packRes rs) st'.objs) .ret a' w' :=
  ⟨hs'.df,v,hv1,v,D',rfl,hv2,hs'.store,hs'.gr,hs'.fr,fun o ho=>hs'.kp o (by rw [ih.1];exact ho)⟩
 rcases he with rfl | rfl <;> exact hfin
theorem trOps_get {ops : Array Oper} {dr : Bool} {nt m : Nat} : ∀ {k : Nat} {rest : List Oper} {l : List OpI},trOps P ν ops dr nt m k rest = some l →
  l.length = rest.length ∧ ∀ (i : Nat) (x : OpI),l[i]? = some x → ∃ o k',rest[i]? = some o ∧ trOp P ν ops dr nt m k' o = some x
 | k,[],l,h=>by simp only [trOps,Option.some.injEq] at h;subst h;simp
 |
  k,o :: rest,l,h=>by
  simp only [trOps] at h
  split at h <;> first | (cases h;done) | skip
  rename_i x hx
  split at h <;> first | (cases h;done) | skip
  rename_i l' hl'
  simp only [Option.some.injEq] at h;subst h
  obtain ⟨e1,e2⟩:=trOps_get hl'
  refine ⟨by simp [e1],fun i y hi=>?_⟩
  cases i with
  | zero=>simp at hi;subst hi;exact ⟨o,k,rfl,hx⟩
  | succ i=>simpa using e2 i y (by simpa using hi)
theorem trOp_aft {ops : Array Oper} {nt m k : Nat} {o : Oper} {x : OpI} (h : trOp P ν ops true nt m k o = some x) : x.aft = trAft o:=by
 unfold trOp at h
 split at h <;> first | (cases h;done) | skip
 split at h <;> first | (cases h;done) | skip
 simp only [Option.some.injEq] at h;subst h
 rfl
theorem ready_iff {ops : Array Oper} {nt m : Nat} {l : List OpI} (h : trOps P ν ops true nt m 0 ops.toList = some l) {done : List Nat} {listed : Array Bool} (hs : listed.size = ops.size)
  (hl : ∀ i,listed.getD i false = true ↔ i ∈ done) {i : Nat} : i ∈ Region.ready .any ops listed ↔ readyB l done i = true:=by
 obtain ⟨e1,e2⟩:=trOps_get h
 rw [mem_ready]
 have hlt : ∀ {i : Nat},i < ops.size → (listed.getD i true = false ↔ i ∉ done):=by
  intro i hi
  have : listed.getD i true = listed.getD i false:=by
   rw [Array.getD_eq_getD_getElem?,Array.getD_eq_getD_getElem?,Array.getElem?_eq_getElem (by omega)];rfl
  rw [this]
  constructor
  ·intro h1 h2;rw [(hl i).2 h2] at h1;cases h1
  ·intro h1
   cases hb : listed.getD i false with
   | false=>rfl
   | true=>exact absurd ((hl i).1 hb) h1
 constructor
 ·rintro ⟨h1,o,ho,h2⟩
  have hi:=(Array.getElem?_eq_some_iff.1 ho).1
  have hil : i < l.length:=by rw [e1];simpa using hi
  obtain ⟨o',k',ho',hx⟩:=e2 i l[i] (by simp [hil])
  have : o' = o:=by rw [Array.getElem?_toList] at ho';rw [ho] at ho';exact (Option.some.inj ho').symm
  subst this
  unfold readyB
  rw [List.getElem?_eq_getElem hil]
  simp only [Bool.and_eq_true,Bool.not_eq_true',List.all_eq_true]
  refine ⟨?_,?_⟩
  ·have:=(hlt hi).1 h1
   simpa using this
  ·intro e he
   rw [trOp_aft hx] at he
   simp only [trAft,List.mem_map,List.mem_filter] at he
   obtain ⟨ed,⟨h3,h4⟩,rfl⟩:=he
   have:=h2 ed (by simpa using h3) h4
   simpa using (hl _).1 this
 ·intro hr
  unfold readyB at hr
  split at hr <;> first | (cases hr;done) | skip
  rename_i x hx
  simp only [Bool.and_eq_true,Bool.not_eq_true',List.all_eq_true] at hr
  obtain ⟨o,k',ho,htr⟩:=e2 i x hx
  have ho' : ops[i]? = some o:=by rwa [Array.getElem?_toList] at ho
  have hi:=(Array.getElem?_eq_some_iff.1 ho').1
  refine ⟨(hlt hi).2 (by simpa using hr.1),o,ho',?_⟩
  intro e he hb
  refine (hl _).2 ?_
  have:=hr.2 e.on (by rw [trOp_aft htr];simp only [trAft,List.mem_map,List.mem_filter];exact ⟨e,⟨by simpa using he,hb⟩,rfl⟩)
  simpa using this
theorem sound (hm : P.follows .mixedOrders = true) (hT : Fits P ν T) {j : Job} {o : Out} (h : Run T j o) : Sound P ν j o:=by
 induction h with
 |
  skip st =>
  refine ⟨⟨rfl,?_⟩,fun x h=>by cases h⟩
  intro nt cc htr M w0 D0 D a w hs Q hQ
  have hc : cc = .skip:=trC_inv htr
  subst hc
  exact Go.wp_skip (hQ D a w hs)
 |
  @reg m l st st' hk h ih =>
  obtain ⟨_,i1,i2,i3,i4⟩:=ih
  refine ⟨⟨i2,?_⟩,fun x h=>by cases h⟩
  intro nt cc htr M w0 D0 D a w hs Q hQ
  obtain ⟨id,ops,rfl,hops⟩:=trC_inv htr
  refine wp_region_list ?_
  refine i4 ops false nt m 0 ops.toList hops hk M w0 D0 D a w ⟨hs.env,hs.tm,hs.df,hs.mem m,hs.gr,hs.fr,hs.kp⟩ (fun x hx hmk=>?_) Q (fun D' a' w' h=>hQ D' a' w' h)
  have hkm : x.k < m:=by
   have : ∀ (l : List OpI),okK m l = true → ∀ x ∈ l,x.i.makes = true → x.k < m:=by
    intro l
    induction l with
    | nil=>intro _ y hy;cases hy
    |
     cons z l ih =>
     intro h y hy hmk
     simp only [okK,Bool.and_eq_true] at h
     rcases List.mem_cons.1 hy with rfl | hy
     ·have:=h.1
      rw [if_pos hmk] at this
      simp only [Bool.and_eq_true,decide_eq_true_eq] at this
      exact this.1
     ·exact ih h.2 y hy hmk
   exact this l hk x hx hmk
  simp only [List.length_append,List.length_replicate]
  exact ⟨by omega,hs.store.far _ (by omega)⟩
 |
  @regD m l st st' hk h ih =>
  obtain ⟨_,i1,i2,i3,i4⟩:=ih
  refine ⟨⟨i2,?_⟩,fun x h=>by cases h⟩
  intro nt cc htr M w0 D0 D a w hs Q hQ
  obtain ⟨id,ops,rfl,hops⟩:=trC_inv htr
  refine wp_region_any hm ?_
  have hsd : SR nt M w0 D0 st D a { w with drawn:=w.drawn + 1 }:=by
   have hE : Ext w D (XS M D) { w with drawn:=w.drawn + 1 } D (XS M D):=⟨Nat.le_refl _,fun _ _ _=>rfl,fun _ _ h=>h,fun _=>DSle.refl _⟩
   refine ⟨fun t=>rd_mono _ _ hE (hs.env t),hs.tm,hs.df,?_,⟨hs.gr.size,hs.gr.os,hs.gr.tape,hs.gr.output,hs.gr.block⟩,hs.fr,hs.kp⟩
   refine ⟨fun o d ho=>?_,hs.store.alive,hs.store.inj,hs.store.far,hs.store.mlt⟩
   obtain ⟨ob,c,e,g1,g2,g3,g4,g5,g6,g7,g8,g9,g10,g11⟩:=hs.store.live o d ho
   refine ⟨ob,c,e,g1,g2,g3,g4,g5,g6,g7,g8,g9,g10,fun i x hi=>?_⟩
   obtain ⟨k0,y,k1,k2⟩:=g11 i x hi
   exact ⟨k0,y,k1,rd_mono _ _ hE k2⟩
  refine i4 ops nt m hops hk M w0 D0 D a _ ⟨hsd.env,hsd.tm,hsd.df,hsd.mem m,hsd.gr,hsd.fr,hsd.kp⟩ (fun i x hx _ hmk=>?_) Q (fun D' a' w' h=>hQ D' a' w' h) _ _ (by simp) (fun i=>?_) ?_
  ·have hkm : x.k < m:=okK_lt l hk x (List.mem_of_getElem? hx) hmk
   simp only [List.length_append,List.length_replicate]
   exact ⟨by omega,hsd.store.far _ (by omega)⟩
  ·simp only [Array.getD_eq_getD_getElem?,Array.getElem?_replicate]
   split <;> simp
  ·simp
 |
  @anyN l done st h =>
  refine ⟨rfl,rfl,rfl,Nat.le_refl _,?_⟩
  intro ops nt m htr hk M w0 D0 D a w hs hid Q hQ fuel listed h1 h2 h3
  refine wpAny_done ?_ (hQ D a w hs) fuel
  apply List.eq_nil_iff_forall_not_mem.2
  intro i hi
  rw [ready_iff htr h1 h2,h i] at hi
  cases hi
 |
  @anyC l done st st' i0 h0 f h h' ih ih' =>
  obtain ⟨_,b1,b2,b3,_⟩:=ih' i0 h0
  obtain ⟨x0,hx0⟩ : ∃ x0,l[i0]? = some x0:=by
   unfold readyB at h0
   split at h0 <;> first | (cases h0;done) | skip
   exact ⟨_,by assumption⟩
  obtain ⟨_,a1,a2,a3,_⟩:=ih i0 x0 hx0 h0
  refine ⟨rfl,b1.trans a1,b2.trans a2,Nat.le_trans a3 b3,?_⟩
  intro ops nt m htr hk M w0 D0 D a w hs hid Q hQ fuel listed h1 h2 h3
  have hready : ∀ i,i ∈ Region.ready .any ops listed ↔ readyB l done i = true:=fun i=>ready_iff htr h1 h2
  have hpos : fuel ≠ 0:=by
   rintro rfl
   have hi:=(hready i0).2 h0
   have:=(mem_ready.1 hi).1
   obtain ⟨_,o,ho,_⟩:=mem_ready.1 hi
   have hlt:=(Array.getElem?_eq_some_iff.1 ho).1
   have hmem : false ∈ listed.toList:=by
    have : listed[i0]'(by omega) = false:=by
     rw [Array.getD_eq_getD_getElem?,Array.getElem?_eq_getElem (by omega)] at this
     simpa using this
    rw [← this];simp
   have:=List.count_pos_iff.2 hmem
   omega
  obtain ⟨fuel,rfl⟩:=Nat.exists_eq_succ_of_ne_zero hpos
  refine ⟨fun hnil=>?_,fun i hi=>?_⟩
  ·have:=(hready i0).2 h0
   rw [hnil] at this;cases this
  ·have hr:=(hready i).1 hi
   obtain ⟨e1,e2⟩:=trOps_get htr
   obtain ⟨_,o,ho,_⟩:=mem_ready.1 hi
   have hlt:=(Array.getElem?_eq_some_iff.1 ho).1
   have hil : i < l.length:=by rw [e1];simpa using hlt
   obtain ⟨o',k',ho',hx⟩:=e2 i l[i] (by simp [hil])
   have : o' = o:=by rw [Array.getElem?_toList] at ho';rw [ho] at ho';exact (Option.some.inj ho').symm
   subst this
   have hli : l[i]? = some l[i]:=by simp [hil]
   have hnd : i ∉ done:=by
    unfold readyB at hr
    rw [hli] at hr
    simp only [Bool.and_eq_true,Bool.not_eq_true'] at hr
    simpa using hr.1
   obtain ⟨_,c1,c2,c3,c4⟩:=ih i l[i] hli hr
   obtain ⟨_,d1,d2,d3,d4⟩:=ih' i hr
   have key:=c4 ops true nt m k' o' hx M w0 D0 D a w hs (fun hmk=>hid i l[i] hli hnd hmk) (wpAny P .any ops Q fuel (listed.setIfInBounds i true)) Q (fun D' a' w' hs' hun=>by
    refine d4 ops nt m htr hk M w0 D0 D' a' w' hs' (fun j y hy hj hmk=>?_) Q hQ fuel _ (by simpa using h1) (fun j=>?_) ?_
    ·simp only [List.mem_cons,not_or] at hj
     rw [c1]
     obtain ⟨g1,g2⟩:=hid j y hy hj.2 hmk
     refine ⟨Nat.lt_of_lt_of_le g1 c3,hun _ (Nat.le_add_right _ _) g1 g2 ?_⟩
     intro he
     have hne:=okK_ne l hk j i y l[i] hy hli hj.1 hmk
     omega
    ·rw [Array.getD_eq_getD_getElem?,Array.getElem?_setIfInBounds]
     by_cases hij : i = j
     ·subst hij
      simp [h1,hlt]
     ·rw [if_neg hij,← Array.getD_eq_getD_getElem?,h2 j]
      simp only [List.mem_cons]
      constructor
      ·exact .inr
      ·rintro (h | h)
       ·exact absurd h.symm hij
       ·exact h
    ·have hfi : listed[i]'(by omega) = false:=by
      have:=(mem_ready.1 hi).1
      rw [Array.getD_eq_getD_getElem?,Array.getElem?_eq_getElem (by omega)] at this
      simpa using this
     rw [Array.toList_setIfInBounds,List.count_set (by simpa using (by omega : i < listed.size))]
     have h4 : listed.toList[i]'(by simpa using (by omega : i < listed.size)) = false:=by simpa using hfi
     have h5 : 0 < listed.toList.count false:=List.count_pos_iff.2 (by rw [← h4];exact List.getElem_mem _)
     simp only [h4,beq_self_eq_true,if_true]
     have : (true == false) = false:=rfl
     simp only [this,Bool.false_eq_true,if_false]
     omega)
   unfold wpOp
   simp only [ho]
   split
   ·rename_i hw;rw [if_pos hw] at key;exact .inl key
   ·rename_i hw;rw [if_neg hw] at key;exact key
 |
  @seqN a b st st1 o h h' ih ih' =>
  cases o with
  | fn r σ=>trivial
  | code e st2 =>
  obtain ⟨⟨i1,i2⟩,_⟩:=ih
  obtain ⟨⟨j1,j2⟩,_⟩:=ih'
  refine ⟨⟨j1.trans i1,?_⟩,fun x h=>by cases h⟩
  intro nt cc htr M w0 D0 D a w hs Q hQ
  obtain ⟨ca,cb,rfl,ha,hb⟩:=trC_inv htr
  refine Go.wp_seq (i2 nt ca ha M w0 D0 D a w hs _ fun D' a' w' hs'=>?_)
  exact j2 nt cb hb M w0 D0 D' a' w' hs' Q hQ
 |
  @seqE a b st e st1 he h ih =>
  obtain ⟨⟨i1,i2⟩,_⟩:=ih
  refine ⟨⟨i1,?_⟩,fun x h=>by cases h⟩
  intro nt cc htr M w0 D0 D a w hs Q hQ
  obtain ⟨ca,cb,rfl,ha,hb⟩:=trC_inv htr
  exact Go.wp_seq (i2 nt ca ha M w0 D0 D a w hs _ fun D' a' w' hs'=>then_of he (hQ D' a' w' hs'))
 |
  @cond x a b st t o hx h ih =>
  cases o with
  | fn r σ=>trivial
  | code e st2 =>
  obtain ⟨⟨i1,i2⟩,_⟩:=ih
  refine ⟨⟨i1,?_⟩,fun x h=>by cases h⟩
  intro nt cc htr M w0 D0 D a w hs Q hQ
  obtain ⟨oc,ca,cb,rfl,h1,ha,hb⟩:=trC_inv htr
  have hv:=rd_src hs.env h1
  rw [hx] at hv
  simp only [rd] at hv
  refine Go.wp_cond hv (i2 nt _ ?_ M w0 D0 D _ w hs Q hQ)
  cases t
  ·exact hb
  ·exact ha
 |
  @block id c st e st1 h ih =>
  obtain ⟨⟨i1,i2⟩,_⟩:=ih
  refine ⟨⟨i1,?_⟩,fun x h=>by cases h⟩
  intro nt cc htr M w0 D0 D a w hs Q hQ
  obtain ⟨ca,rfl,ha⟩:=trC_inv htr
  refine Go.wp_block (i2 nt ca ha M w0 D0 D a w hs _ fun D' a' w' hs'=>?_)
  have:=hQ D' a' w' hs'
  cases e with
  | normal=>exact this
  | ret=>exact this
  |
   exit id' =>
   simp only [exOf,exIn,Exit.inBlock] at this ⊢
   by_cases hid : id' = id
   ·simp only [hid,if_true] at this ⊢;exact this
   ·simp only [hid,if_false] at this ⊢;exact this
 |
  @loopN c st st1 o h h' ih ih' =>
  cases o with
  | fn r σ=>trivial
  | code e st2 =>
  obtain ⟨⟨i1,i2⟩,_⟩:=ih
  obtain ⟨⟨j1,_⟩,j2⟩:=ih'
  have key : LoopOk P ν c e st st2:=by
   intro nt cc htr M w0 D0 D a w hs Q hQ b k cs
   obtain ⟨x,a1,w1,⟨D1,hx,hs1⟩,harr⟩:=i2 nt cc htr M w0 D0 D a w hs (fun x a' w'=>∃ D',x = .normal ∧ SR nt M w0 D0 st1 D' a' w') (fun D' a' w' h=>⟨D',rfl,h⟩) b (.inLoop cc :: k) cs
   subst hx
   obtain ⟨x2,a2,w2,q2,harr2⟩:=j2 c rfl nt cc htr M w0 D0 D1 a1 w1 hs1 Q hQ b k cs
   exact ⟨x2,a2,w2,q2,.of_steps (Steps.trans harr (.one step_inLoop)) harr2⟩
  exact ⟨loop_of (j1.trans i1) key,fun x hx=>by cases hx;exact key⟩
 |
  @loopE c st e st1 he h ih =>
  obtain ⟨⟨i1,i2⟩,_⟩:=ih
  have key : LoopOk P ν c e st st1:=by
   intro nt cc htr M w0 D0 D a w hs Q hQ b k cs
   obtain ⟨x,a1,w1,⟨D1,hx,hs1⟩,harr⟩:=i2 nt cc htr M w0 D0 D a w hs (fun x a' w'=>∃ D',x = exOf e ∧ SR nt M w0 D0 st1 D' a' w') (fun D' a' w' h=>⟨D',rfl,h⟩) b (.inLoop cc :: k) cs
   subst hx
   exact ⟨_,a1,w1,hQ D1 a1 w1 hs1,.pass (x:=.inLoop cc) rfl (fun _ _=>.inl (exOf_ne he)) harr⟩
  exact ⟨loop_of i1 key,fun x hx=>by cases hx;exact key⟩
 |
  exit id st =>
  refine ⟨⟨rfl,?_⟩,fun x h=>by cases h⟩
  intro nt cc htr M w0 D0 D a w hs Q hQ
  have hc : cc = .exit id:=trC_inv htr
  subst hc
  exact Go.wp_exit (hQ D a w hs)
 |
  ret st =>
  refine ⟨⟨rfl,?_⟩,fun x h=>by cases h⟩
  intro nt cc htr M w0 D0 D a w hs Q hQ
  have hc : cc = .ret:=trC_inv htr
  subst hc
  exact Go.wp_ret (hQ D a w hs)
 |
  @gc c st o ρ hn hρ h ih =>
  cases o with
  | fn r σ=>trivial
  | code e st2 =>
  obtain ⟨⟨i1,i2⟩,i3⟩:=ih
  refine ⟨⟨i1,?_⟩,?_⟩
  ·intro nt cc htr M w0 D0 D a w hs Q hQ
   exact i2 nt cc htr M w0 D0 _ a w (hs.gc hn hρ) Q hQ
  ·intro x hx nt cc htr M w0 D0 D a w hs Q hQ
   exact i3 x hx nt cc htr M w0 D0 _ a w (hs.gc hn hρ) Q hQ
 |
  nil st =>
  refine ⟨rfl,rfl,rfl,Nat.le_refl _,?_⟩
  intro ops dr nt m k rest htr hk M w0 D0 D a w hs hid Q hQ
  cases rest with
  | nil=>exact hQ D a w hs
  |
   cons r rest =>
   simp only [trOps] at htr
   split at htr <;> first | (cases htr;done) | skip
   split at htr <;> first | (cases htr;done) | skip
 |
  @cons o l st st1 out h h' ih ih' =>
  cases out with
  | fn r σ=>trivial
  | code e st2=>exact ⟨ih'.1,opsOk_cons ih.2 ih'.2⟩
 | off hg he=>exact ⟨rfl,opOk_off hg he⟩
 | op hg h=>exact ⟨rfl,opOk_op hg h⟩
 | callP hg hi ha h hR ih=>exact ⟨rfl,opOk_callP hg hi ha ih hR⟩
 | callR ρ hn hρ hg hi h ih=>exact ⟨rfl,opOk_callR hn hρ hg hi ih⟩
 | callG hg hi ha h hR ih=>exact ⟨rfl,opOk_callG hg hi ha ih hR⟩
 | callI hg hi h hl hb ih=>exact ⟨rfl,opOk_callI hg hi ih hl hb⟩
 | @fn f args σ F e st' rs hf hl h he hr ih=>exact fnOk_fn hT hf hl (fun o e=>no_lib h o (St.enter args σ) (by rw [e])) ih.1 he hr
 | lib hf hb h=>exact fnOk_lib hT hf hb h
 | frz h hr ih=>exact fnOk_frz hr ih
 | gcF ρ hn hρ h ih=>exact fnOk_gcF hn hρ ih
 |
  @forget c st st2 o he ho hk h' ih =>
  cases o with
  | fn r σ=>trivial
  | code e st3 =>
  obtain ⟨⟨i1,i2⟩,i3⟩:=ih
  refine ⟨⟨i1.trans hk,?_⟩,?_⟩
  ·intro nt cc htr M w0 D0 D a w hs Q hQ
   exact i2 nt cc htr M w0 D0 _ a w (hs.forget he ho hk) Q hQ
  ·intro x hx nt cc htr M w0 D0 D a w hs Q hQ
   exact i3 x hx nt cc htr M w0 D0 _ a w (hs.forget he ho hk) Q hQ
 |
  @re c st st2 o W h h' ih =>
  cases o with
  | fn r σ=>trivial
  | code e st3 =>
  obtain ⟨⟨i1,i2⟩,i3⟩:=ih
  refine ⟨⟨i1.trans h.keep,?_⟩,?_⟩
  ·intro nt cc htr M w0 D0 D a w hs Q hQ
   exact i2 nt cc htr M w0 D0 _ a w (hs.re h) Q hQ
  ·intro x hx nt cc htr M w0 D0 D a w hs Q hQ
   exact i3 x hx nt cc htr M w0 D0 _ a w (hs.re h) Q hQ
 | reF W ha h hs hr ih=>exact fnOk_reF ha hs hr ih
 | laxF ha h hr ih=>exact fnOk_laxF ha hr ih
end
end Go.Ml
end
section
namespace Go.Ml
open Go.ChangeShapes Go.WideShapes Go.ChangeAt Go.RowKit
def nuOf : List (Nat × Nat × Fn) → Nat → Option Nat
 | [],_=>none
 | x :: l,i=>if x.1 = i then some x.2.1 else nuOf l i
def tbOf : List (Nat × Nat × Fn) → Nat → Option Fn
 | [],_=>none
 | x :: l,k=>if x.2.1 = k then some x.2.2 else tbOf l k
theorem nuOf_mem : ∀ {l : List (Nat × Nat × Fn)} {i k : Nat},nuOf l i = some k → ∃ x ∈ l,x.1 = i ∧ x.2.1 = k
 | [],_,_,h=>by simp [nuOf] at h
 |
  x :: l,i,k,h=>by
  simp only [nuOf] at h
  split at h
  ·rename_i e;exact ⟨x,by simp,e,by simpa using h⟩
  ·obtain ⟨y,hy,e⟩:=nuOf_mem h;exact ⟨y,by simp [hy],e⟩
theorem tbOf_mem : ∀ {l : List (Nat × Nat × Fn)} {k : Nat} {F : Fn},tbOf l k = some F → ∃ x ∈ l,x.2.1 = k ∧ x.2.2 = F
 | [],_,_,h=>by simp [tbOf] at h
 |
  x :: l,i,k,h=>by
  simp only [tbOf] at h
  split at h
  ·rename_i e;exact ⟨x,by simp,e,by simpa using h⟩
  ·obtain ⟨y,hy,e⟩:=tbOf_mem h;exact ⟨y,by simp [hy],e⟩
theorem eq_of_nodup_map {α β : Type} {f : α → β} : ∀ {l : List α},(l.map f).Nodup → ∀ {x y},x ∈ l → y ∈ l → f x = f y → x = y
 | [],_,_,_,h,_,_=>by cases h
 |
  a :: l,hn,x,y,hx,hy,e=>by
  simp only [List.map_cons,List.nodup_cons] at hn
  rcases List.mem_cons.1 hx with rfl | hx' <;> rcases List.mem_cons.1 hy with rfl | hy'
  ·rfl
  ·exact absurd (e ▸ List.mem_map_of_mem hy') hn.1
  ·exact absurd (e ▸ List.mem_map_of_mem hx') hn.1
  ·exact eq_of_nodup_map hn.2 hx' hy' e
theorem fits_of {P : Program} {l : List (Nat × Nat × Fn)} (hnd : (l.map (·.2.1)).Nodup) (h : ∀ x ∈ l,(∃ fn,P.funcs[x.1]? = some fn ∧ trFn P (nuOf l) fn = some x.2.2) ∨ ∃ o,x.2.2.body = .lib o ∧ OutOk P x.1 o) : Fits P (nuOf l) (tbOf l):=by
 intro fid f F h1 h2
 obtain ⟨x,hx,e1,e2⟩:=nuOf_mem h1
 obtain ⟨y,hy,e3,e4⟩:=tbOf_mem h2
 have : x = y:=eq_of_nodup_map hnd hx hy (e2.trans e3.symm)
 subst this
 rw [← e1,← e4]
 exact h x hx
theorem calls_of {P : Program} {l : List (Nat × Nat × Fn)} (hm : P.follows .mixedOrders = true) (hT : Fits P (nuOf l) (tbOf l)) {f fid : Nat} {args : List V} {r : V} (h : PF (tbOf l) f args r) (hf : nuOf l fid = some f)
  {w : World} {vals : Array Value} (hr : rdL w DM.none (fun _=>False) args vals.toList) :
  Calls P fid vals w fun e w'=>(∃ v D X,e = .returned v ∧ rd w' D X r v) ∧ Below w.heap.size w w':=by
 have hs:=sound hm hT h
 have hX : XS (fun _=>False) DM.none = fun _=>False:=by
  funext b;simp [XS,DM.none]
 refine (hs fid hf w (fun _=>False) DM.none vals (by rw [hX];exact hr) ⟨?_,?_,?_,?_,?_⟩).mono fun e w' hp=>?_
 ·intro o d h;cases h
 ·intro o ob h;simp [objAt] at h
 ·intro o o' d d' h;cases h
 ·intro o _;rfl
 ·intro b h;exact h.elim
 ·obtain ⟨v,D',e1,e2,e3,e4,_⟩:=hp
  refine ⟨⟨v,D',_,e1,e2⟩,⟨e4.os,e4.tape,e4.output,e4.size,fun k hk=>e4.block k hk ?_⟩⟩
  rintro ⟨o,d,h,_⟩;cases h
theorem calls_true {P : Program} {l : List (Nat × Nat × Fn)} (hm : P.follows .mixedOrders = true) (hT : Fits P (nuOf l) (tbOf l)) {f fid : Nat} {args : List V} (h : PF (tbOf l) f args (.bool true)) (hf : nuOf l fid = some f)
  {w : World} {vals : Array Value} (hr : rdL w DM.none (fun _=>False) args vals.toList) :
  Calls P fid vals w fun e w'=>e = .returned (.bool true) ∧ Below w.heap.size w w' :=
 (calls_of hm hT h hf hr).mono fun e w' hp=>by
  obtain ⟨⟨v,D,X,rfl,e2⟩,hb⟩:=hp
  have : v = .bool true:=by simpa [rd] using e2
  exact ⟨by rw [this],hb⟩
end Go.Ml
end
section
namespace Go.Ml
open Go.ChangeShapes Go.WideShapes Go.ChangeAt Go.RowKit
inductive Lf where
 | int (k : IntKind)
 | bool
 | str
 | sl (row : List Lf)
mutual
def Mt : Lf → V → Prop
 | .int k,v=>∃ n,v = .int k n ∧ (Lit.int k n).wf = true
 | .bool,v=>∃ b,v = .bool b
 | .str,v=>∃ s,v = .str s ∧ s.length ≤ maxLen
 | .sl row,v=>∃ rows : List (List V),v = .sl row.length rows ∧ rows.length ≤ maxLen ∧ ∀ r ∈ rows,MtL row r
def MtL : List Lf → List V → Prop
 | [],vs=>vs = []
 | l :: ls,vs=>∃ v vs',vs = v :: vs' ∧ Mt l v ∧ MtL ls vs'
end
def shFs (P : Program) (sh : TypeId → Option (List Lf)) : List Field → Nat → Option (List Lf)
 | [],_=>some []
 |
  f :: fs,off=>match sh f.type,shFs P sh fs (off + P.cellsOf f.type) with
  | some r,some rs=>if f.offset = off ∧ r.length = P.cellsOf f.type then some (r ++ rs) else none
  | _,_=>none
def shapeOf (P : Program) : Nat → TypeId → Option (List Lf)
 | 0,_=>none
 |
  n + 1,t=>match P.underlying t with
  | some (.int k)=>some [.int k]
  | some .bool=>some [.bool]
  | some .string=>some [.str]
  |
   some (.slice e)=>match shapeOf P n e with
   | some r=>if r.length = P.cellsOf e ∧ 0 < r.length then some [.sl r] else none
   | none=>none
  |
   some (.struct fs)=>match shFs P (shapeOf P n) fs.toList 0 with
   | some r=>if r.length = P.cellsOf t then some r else none
   | none=>none
  | _=>none
theorem mtL_append {l1 l2 : List Lf} {v1 v2 : List V} (h1 : MtL l1 v1) (h2 : MtL l2 v2) : MtL (l1 ++ l2) (v1 ++ v2):=by
 induction l1 generalizing v1 with
 | nil=>simp only [MtL] at h1;subst h1;simpa using h2
 |
  cons l l1 ih =>
  simp only [MtL] at h1
  obtain ⟨v,vs,rfl,a,b⟩:=h1
  simp only [List.cons_append,MtL]
  exact ⟨v,vs ++ v2,rfl,a,ih b⟩
theorem mtL_len {l : List Lf} {v : List V} (h : MtL l v) : v.length = l.length:=by
 induction l generalizing v with
 | nil=>simp only [MtL] at h;subst h;rfl
 |
  cons x l ih =>
  simp only [MtL] at h
  obtain ⟨v,vs,rfl,a,b⟩:=h
  simp [ih b]
theorem mt_leaf : ∀ {l : Lf} {v : V},Mt l v → v.leaf = true:=by
 intro l v h
 cases l <;> simp only [Mt] at h
 ·obtain ⟨n,rfl,_⟩:=h;rfl
 ·obtain ⟨b,rfl⟩:=h;rfl
 ·obtain ⟨s,rfl,_⟩:=h;rfl
 ·obtain ⟨rows,rfl,_⟩:=h;rfl
theorem mtL_leaf {l : List Lf} {v : List V} (h : MtL l v) : ∀ x ∈ v,x.leaf = true:=by
 induction l generalizing v with
 | nil=>simp only [MtL] at h;subst h;intro x hx;cases hx
 |
  cons y l ih =>
  simp only [MtL] at h
  obtain ⟨v,vs,rfl,a,b⟩:=h
  intro x hx
  rcases List.mem_cons.1 hx with rfl | hx
  ·exact mt_leaf a
  ·exact ih b x hx
theorem rdRows_of {w : World} {D : DM} {X : Nat → Prop} {b sz : Nat} : ∀ (off : Nat) (rows : List (List V)),
  (∀ i r,rows[i]? = some r → r.length = sz ∧ rdCells w D X b (off + i * sz) r) → rdRows w D X b sz off rows
 | _,[],_=>by simp [rdRows]
 |
  off,r :: rows,h=>by
  simp only [rdRows]
  have h0:=h 0 r rfl
  refine ⟨h0.1,by simpa using h0.2,rdRows_of (off + sz) rows fun i r' hi=>?_⟩
  have:=h (i + 1) r' (by simpa using hi)
  rwa [show off + (i + 1) * sz = off + sz + i * sz by rw [Nat.succ_mul];omega] at this
theorem rdCells_of_rdL {w : World} {D : DM} {X : Nat → Prop} {b : Nat} : ∀ (off : Nat) (vs : List V) (cs : List Value),rdL w D X vs cs → (∀ x ∈ vs,x.leaf = true) →
  (∀ i,i < cs.length → w.cell? ⟨b,off + i,none⟩ = cs[i]?) → rdCells w D X b off vs
 | _,[],_,_,_,_=>by simp [rdCells]
 |
  off,v :: vs,cs,h,hl,hc=>by
  simp only [rdL] at h
  obtain ⟨y,ys,rfl,h1,h2⟩:=h
  simp only [rdCells]
  refine ⟨hl v (by simp),⟨y,by simpa using hc 0 (by simp),h1⟩,rdCells_of_rdL (off + 1) vs ys h2 (fun x hx=>hl x (by simp [hx])) fun i hi=>?_⟩
  have:=hc (i + 1) (by simpa using hi)
  rw [show off + 1 + i = off + (i + 1) by omega,this]
  simp
section
variable {H : Type} {enc : TypeId × Value → H} {P : Program} {w : World}
theorem shape_rd : ∀ (n : Nat) {t : TypeId} {L : List Lf} {fuel : Nat} {cs : List Value} {x : DataW H × List MemPlace},shapeOf P n t = some L →
  DataW.trod enc P w 0 (fun _=>true) true fuel t cs = some x → ∃ vs,MtL L vs ∧ rdL w DM.none (fun _=>False) vs cs
 | 0,t,L,fuel,cs,x,h,_=>by simp [shapeOf] at h
 |
  n + 1,t,L,fuel,cs,x,h,hx=>by
  cases fuel with
  | zero=>simp [DataW.trod] at hx
  | succ fuel =>
  simp only [shapeOf] at h
  split at h
  ·rename_i k hu
   simp only [Option.some.injEq] at h;subst h
   obtain ⟨m,rfl,_,hw⟩:=DataW.trod_int hu hx
   exact ⟨[.int k m],by simp [MtL,Mt,hw],by simp [rdL,rd]⟩
  ·rename_i hu
   simp only [Option.some.injEq] at h;subst h
   rw [DataW.trod_step] at hx
   unfold DataW.trodStep at hx
   rw [hu] at hx
   split at hx <;> simp_all
   rename_i b
   exact ⟨[.bool b],by simp [MtL,Mt],by simp [rdL,rd]⟩
  ·rename_i hu
   simp only [Option.some.injEq] at h;subst h
   rw [DataW.trod_step] at hx
   unfold DataW.trodStep at hx
   rw [hu] at hx
   split at hx <;> simp_all
   rename_i s
   exact ⟨[.str s.data.toList],by simp [MtL,Mt];exact hx.1,by simp [rdL,rd]⟩
  ·rename_i e hu
   split at h <;> first | (cases h;done) | skip
   rename_i r hr
   split at h <;> first | (cases h;done) | skip
   rename_i hsz
   simp only [Option.some.injEq] at h;subst h
   rcases DataW.trod_slice hu hx with ⟨rfl,_⟩ | ⟨a,len,cap,elems,rest,m,_,rfl,_,hb,hl,hm,hlen,hel,_,_⟩
   ·exact ⟨[.sl r.length []],by simp [MtL,Mt],by simp only [rdL,rd];exact ⟨_,[],rfl,⟨none,0,rfl,Nat.le_refl _,.inl (by trivial)⟩,rfl⟩⟩
   ·have hel' : ∀ i,i < len → ∃ cs',w.cells? 0 (a.add (i * P.cellsOf e)) (P.cellsOf e) = some cs' ∧ ∃ vs,MtL r vs ∧ rdL w DM.none (fun _=>False) vs cs':=by
     intro i hi
     have h1:=hel i hi
     have h2 : elems[i]? = some (elems[i]'(by omega)):=List.getElem?_eq_getElem (by omega)
     rw [h2,Option.bind_eq_some_iff] at h1
     obtain ⟨cs',k1,k2⟩:=h1
     exact ⟨cs',k1,shape_rd n hr k2⟩
    have hch : ∀ i,∃ p : List Value × List V,i < len → w.cells? 0 (a.add (i * P.cellsOf e)) (P.cellsOf e) = some p.1 ∧ MtL r p.2 ∧ rdL w DM.none (fun _=>False) p.2 p.1:=by
     intro i
     by_cases hi : i < len
     ·obtain ⟨cs',k1,vs,k2,k3⟩:=hel' i hi
      exact ⟨(cs',vs),fun _=>⟨k1,k2,k3⟩⟩
     ·exact ⟨([],[]),fun h=>absurd h hi⟩
    obtain ⟨f,hf⟩:=Classical.axiomOfChoice hch
    have hrow : ∀ i vs,((List.range len).map fun i=>(f i).2)[i]? = some vs → i < len ∧ vs = (f i).2:=by
     intro i vs hi
     rw [List.getElem?_map,Option.map_eq_some_iff] at hi
     obtain ⟨j,h1,h2⟩:=hi
     obtain ⟨h3,h4⟩:=List.getElem?_eq_some_iff.1 h1
     rw [List.getElem_range] at h4
     subst h4
     exact ⟨by simpa using h3,h2.symm⟩
    refine ⟨[.sl r.length ((List.range len).map fun i=>(f i).2)],?_,?_⟩
    ·simp only [MtL,Mt]
     refine ⟨_,[],rfl,⟨_,rfl,by simp;exact Nat.le_trans hl hm,fun rr hrr=>?_⟩,rfl⟩
     obtain ⟨i,hi⟩:=List.mem_iff_getElem?.1 hrr
     obtain ⟨h1,rfl⟩:=hrow i rr hi
     exact (hf i h1).2.1
    ·simp only [rdL,rd]
     refine ⟨_,[],rfl,⟨some a,cap,by simp,by simpa using hl,?_⟩,rfl⟩
     by_cases h0 : len = 0
     ·left;subst h0;rfl
     ·right
      obtain ⟨b,off,spot⟩:=a
      have hspot : spot = none:=by
       obtain ⟨_,_,hc⟩:=World.cells?_some (hf 0 (by omega)).1
       have hlen0:=(World.cells?_some (hf 0 (by omega)).1).2.1
       have hc0:=hc 0 (by omega)
       have hlt0 : 0 < (f 0).1.length:=by omega
       rw [List.getElem?_eq_getElem hlt0] at hc0
       simpa [Addr.add] using World.cell?_spot hc0
      subst hspot
      have hb' : b < w.heap.size:=by
       have:=World.cells?_block (hf 0 (by omega)).1 (by omega)
       simpa [Addr.add] using this
      refine ⟨b,off,rfl,hb',fun h=>h,rdRows_of _ _ fun i rr hi=>?_⟩
      obtain ⟨h1,rfl⟩:=hrow i rr hi
      obtain ⟨g1,g2,g3⟩:=hf i h1
      obtain ⟨_,hl2,hc⟩:=World.cells?_some g1
      refine ⟨mtL_len g2,rdCells_of_rdL _ _ _ g3 (mtL_leaf g2) fun j hj=>?_⟩
      have:=hc j (by omega)
      rw [← this,hsz.1]
      congr 1
      simp only [addr_add]
  ·rename_i fs hu
   split at h <;> first | (cases h;done) | skip
   rename_i r hr
   split at h <;> first | (cases h;done) | skip
   rename_i hsz
   simp only [Option.some.injEq] at h;subst h
   rw [DataW.trod_step] at hx
   unfold DataW.trodStep at hx
   rw [hu] at hx
   simp only [] at hx
   split at hx <;> first | (cases hx;done) | skip
   rename_i hlen
   rw [Option.map_eq_some_iff] at hx
   obtain ⟨xs,hxs,_⟩:=hx
   have key : ∀ (fl : List Field) (off : Nat) (r : List Lf) (xs : List (DataW H × List MemPlace)),shFs P (shapeOf P n) fl off = some r →
     (fl.mapM fun f=>DataW.trod enc P w 0 (fun _=>true) true fuel f.type ((cs.drop f.offset).take (P.cellsOf f.type))) = some xs →
     ∃ vs,MtL r vs ∧ rdL w DM.none (fun _=>False) vs ((cs.drop off).take r.length):=by
    intro fl
    induction fl with
    |
     nil =>
     intro off r xs h _
     simp only [shFs,Option.some.injEq] at h;subst h
     exact ⟨[],by simp [MtL],by simp [rdL]⟩
    |
     cons f fl ih =>
     intro off r xs h hm
     simp only [shFs] at h
     split at h <;> first | (cases h;done) | skip
     rename_i r1 rs h1 h2
     split at h <;> first | (cases h;done) | skip
     rename_i hc
     simp only [Option.some.injEq] at h;subst h
     simp only [List.mapM_cons,Option.pure_def,Option.bind_eq_bind,Option.bind_eq_some_iff,Option.some.injEq] at hm
     obtain ⟨y,hy,ys,hys,rfl⟩:=hm
     obtain ⟨v1,a1,a2⟩:=shape_rd n h1 hy
     obtain ⟨v2,b1,b2⟩:=ih _ rs ys h2 hys
     refine ⟨v1 ++ v2,mtL_append a1 b1,?_⟩
     have e : (cs.drop off).take (r1 ++ rs).length = (cs.drop off).take r1.length ++ (cs.drop (off + P.cellsOf f.type)).take rs.length:=by
      rw [List.length_append,List.take_add,List.drop_drop,hc.2]
     rw [e]
     rw [hc.1,← hc.2] at a2
     exact rdL_append _ _ _ _ a2 b2
   obtain ⟨vs,a1,a2⟩:=key fs.toList 0 r xs hr hxs
   refine ⟨vs,a1,?_⟩
   rw [List.drop_zero,List.take_of_length_le (by omega)] at a2
   exact a2
  ·cases h
theorem shape_in (n : Nat) {t : TypeId} {L : List Lf} {v : Value} {d : DataW H} {ps : List MemPlace} (hs : shapeOf P n t = some L) (h : DataW.Trod enc P w 0 (fun _=>true) true t v d ps) :
  ∃ vs,MtL L vs ∧ rdL w DM.none (fun _=>False) vs v.cells.toList:=by
 obtain ⟨fuel,hf⟩:=h
 exact shape_rd n hs hf
end
end Go.Ml
namespace Go.Ml
open Go.ChangeShapes Go.WideShapes Go.ChangeAt Go.RowKit
def argV (g : Bool) (vs : List V) : V:=if g = true then .agg vs else vs.headD .any
def ArgsMt : List (Bool × List Lf) → List V → Prop
 | [],vs=>vs = []
 | s :: ss,vs=>∃ cs rest,vs = argV s.1 cs :: rest ∧ MtL s.2 cs ∧ ArgsMt ss rest
def argOk (P : Program) (t : TypeId) (s : Bool × List Lf) : Bool :=
 match P.underlying t with
 | some (.struct _)=>s.1
 | some (.int _) | some .bool | some .string | some (.slice _)=>!s.1
 | _=>false
def argsOk (P : Program) : List TypeId → List (Bool × List Lf) → Prop
 | [],ss=>ss = []
 | t :: ts,ss=>∃ s rest,ss = s :: rest ∧ shapeOf P 20 t = some s.2 ∧ argOk P t s = true ∧ argsOk P ts rest
theorem args_in {H : Type} {enc : TypeId × Value → H} {P : Program} {w : World} {r : Reach} {b : Nat} : ∀ {ts : List TypeId} {ss : List (Bool × List Lf)} {vs : List Value} {ds : List (DataW H)} {ps : List MemPlace},
  argsOk P ts ss → (∀ (j : Nat) t v,ts[j]? = some t → vs[j]? = some v → Value.okWide P w r b t v) → DataW.TrodAll enc P w 0 (fun _=>true) true ts vs ds ps →
  ∃ Vs,ArgsMt ss Vs ∧ rdL w DM.none (fun _=>False) Vs vs
 | [],ss,[],ds,ps,h,_,_=>by simp only [argsOk] at h;subst h;exact ⟨[],rfl,by simp [rdL]⟩
 | [],_,_ :: _,ds,ps,_,_,ht=>by cases ds <;> exact ht.elim
 | _ :: _,_,[],ds,ps,_,_,ht=>by cases ds <;> exact ht.elim
 | t :: ts,ss,v :: vs,[],ps,_,_,ht=>ht.elim
 |
  t :: ts,ss,v :: vs,d :: ds,ps,h,hw,ht=>by
  simp only [argsOk] at h
  obtain ⟨s,rest,rfl,h1,h2,h3⟩:=h
  obtain ⟨p,q,k1,k2,_⟩:=ht
  obtain ⟨Vs,a1,a2⟩:=args_in h3 (fun j t' v' hj hv=>hw (j + 1) t' v' (by simpa using hj) (by simpa using hv)) k2
  obtain ⟨cs,c1,c2⟩:=shape_in 20 h1 k1
  have hok:=hw 0 t v rfl rfl
  refine ⟨argV s.1 cs :: Vs,⟨cs,Vs,rfl,c1,a1⟩,?_⟩
  simp only [rdL]
  refine ⟨v,vs,rfl,?_,a2⟩
  unfold argOk at h2
  have one : (∀ cs',v ≠ .agg cs') → s.1 = false → s.2.length = 1 → rd w DM.none (fun _=>False) (argV s.1 cs) v:=by
   intro hv hs hl
   have hvc : v.cells.toList = [v]:=by cases v <;> first | rfl | (exact absurd rfl (hv _))
   rw [hvc] at c2
   have:=mtL_len c1
   rw [hl] at this
   cases cs with
   | nil=>simp at this
   |
    cons x xs =>
    simp only [rdL] at c2
    obtain ⟨y,ys,e,e2,_⟩:=c2
    simp only [List.cons.injEq] at e
    rw [hs]
    simp only [argV,Bool.false_eq_true,if_false,List.headD_cons]
    rw [e.1];exact e2
  unfold shapeOf at h1
  split at h2
  ·rename_i fs hu
   rw [h2]
   simp only [Value.okWide,hu] at hok
   obtain ⟨cs',rfl,_⟩:=hok
   simp only [argV,if_true,rd]
   exact ⟨cs',rfl,c2⟩
  ·rename_i k hu
   rw [hu] at h1
   simp only [Option.some.injEq] at h1
   obtain ⟨n,rfl⟩:=okWide_int hu hok
   exact one (by intro cs' e;cases e) (by simpa using h2) (by rw [← h1];rfl)
  ·rename_i hu
   rw [hu] at h1
   simp only [Option.some.injEq] at h1
   obtain ⟨n,rfl⟩:=okWide_bool hu hok
   exact one (by intro cs' e;cases e) (by simpa using h2) (by rw [← h1];rfl)
  ·rename_i hu
   rw [hu] at h1
   simp only [Option.some.injEq] at h1
   obtain ⟨n,rfl⟩:=okWide_string hu hok
   exact one (by intro cs' e;cases e) (by simpa using h2) (by rw [← h1];rfl)
  ·rename_i e hu
   rw [hu] at h1
   simp only [] at h1
   obtain ⟨a0,l0,c0,rfl⟩:=okWide_slice hu hok
   refine one (by intro cs' e;cases e) (by simpa using h2) ?_
   split at h1 <;> first | (cases h1;done) | skip
   split at h1 <;> first | (cases h1;done) | skip
   simp only [Option.some.injEq] at h1
   rw [← h1];rfl
  ·cases h2
theorem trodAll_below {H : Type} {enc : TypeId × Value → H} {P : Program} (hl : laidOutB P = true) {W W' : World} (hb : Below W.heap.size W W') : ∀ {ts : List TypeId} {vs : List Value} {ds : List (DataW H)} {ps : List MemPlace},
  (ts.all fun t=>P.readableRec t && decide (t < P.types.size)) = true → DataW.TrodAll enc P W 0 (fun _=>true) true ts vs ds ps → (∀ x ∈ ps,x.block < W.heap.size) →
  DataW.TrodAll enc P W' 0 (fun b=>decide (b < W.heap.size)) true ts vs ds ps
 | [],[],[],ps,_,h,_=>h
 | [],_ :: _,ds,ps,_,ht,_=>by cases ds <;> exact ht.elim
 | [],[],_ :: _,ps,_,ht,_=>ht.elim
 | _ :: _,[],ds,ps,_,ht,_=>by cases ds <;> exact ht.elim
 | t :: ts,v :: vs,[],ps,_,ht,_=>ht.elim
 |
  t :: ts,v :: vs,d :: ds,ps,h,ht,hlt=>by
  simp only [List.all_cons,Bool.and_eq_true,decide_eq_true_eq] at h
  obtain ⟨p,q,k1,k2,rfl⟩:=ht
  exact ⟨p,q,Below.trod hl h.1.1 h.1.2 k1 hb fun x hx=>hlt x (by simp [hx]),trodAll_below hl hb (by simpa using h.2) k2 fun x hx=>hlt x (by simp [hx]),rfl⟩
end Go.Ml
end
section
namespace Go.Ml
theorem mtL_split : ∀ {a b : List Lf} {vs : List V},MtL (a ++ b) vs → ∃ v1 v2,vs = v1 ++ v2 ∧ MtL a v1 ∧ MtL b v2
 | [],b,vs,h=>⟨[],vs,rfl,by simp [MtL],h⟩
 |
  x :: a,b,vs,h=>by
  simp only [List.cons_append,MtL] at h
  obtain ⟨v,vs',rfl,h1,h2⟩:=h
  obtain ⟨v1,v2,rfl,h3,h4⟩:=mtL_split h2
  refine ⟨v :: v1,v2,rfl,?_,h4⟩
  simp only [MtL];exact ⟨v,v1,rfl,h1,h3⟩
theorem dec_list {α : Type} {row : List Lf} {f : α → List V} {W : α → Prop} (h : ∀ r,MtL row r → ∃ x,r = f x ∧ W x) {v : V} (hv : Mt (.sl row) v) : ∃ l : List α,v = .sl row.length (l.map f) ∧ wfL W l:=by
 simp only [Mt] at hv
 obtain ⟨rows,rfl,hl,hr⟩:=hv
 have key : ∀ rows : List (List V),(∀ r ∈ rows,MtL row r) → ∃ l : List α,rows = l.map f ∧ ∀ x ∈ l,W x:=by
  intro rows
  induction rows with
  | nil=>intro _;exact ⟨[],rfl,by simp⟩
  |
   cons r rows ih =>
   intro hr
   obtain ⟨x,rfl,hx⟩:=h r (hr r (by simp))
   obtain ⟨l,rfl,hl⟩:=ih fun r hr'=>hr r (by simp [hr'])
   exact ⟨x :: l,rfl,by simpa using ⟨hx,hl⟩⟩
 obtain ⟨l,rfl,hw⟩:=key rows hr
 exact ⟨l,rfl,by simpa [maxLen] using hl,hw⟩
theorem dec_intv {v : V} (h : Mt (.int .i64) v) : ∃ n,v = iv n ∧ (Lit.int .i64 n).wf = true:=by simpa only [Mt] using h
theorem int_rng {n : Int} (h : (Lit.int .i64 n).wf = true) : -9223372036854775808 ≤ n ∧ n ≤ 9223372036854775807:=by
 simp only [Lit.wf,Bool.and_eq_true,decide_eq_true_eq] at h
 have h1 : IntKind.i64.min = -9223372036854775808:=by decide
 have h2 : IntKind.i64.max = 9223372036854775807:=by decide
 rw [h1,h2] at h;exact h
theorem dec_bool {v : V} (h : Mt .bool v) : ∃ b,v = .bool b:=by simpa only [Mt] using h
theorem dec_one {l : Lf} {r : List V} (h : MtL [l] r) : ∃ v,r = [v] ∧ Mt l v:=by
 simp only [MtL] at h
 obtain ⟨v,vs,rfl,h1,rfl⟩:=h
 exact ⟨v,rfl,h1⟩
abbrev shI : Lf:=.sl [.int .i64]
abbrev shR : List Lf:=[.bool,shI,shI]
abbrev shLk : List Lf:=[.int .i64] ++ ([.int .i64] ++ (shR ++ (shR ++ shR)))
theorem dec_ints {v : V} (h : Mt shI v) : ∃ l : List Int,v = ints l ∧ l.length ≤ 9223372036854775807:=by
 obtain ⟨l,rfl,hl⟩:=dec_list (f:=fun n=>[iv n]) (W:=fun _=>True) (fun r hr=>by
  obtain ⟨v,rfl,g⟩:=dec_one hr
  obtain ⟨n,rfl,_⟩:=dec_intv g
  exact ⟨n,rfl,trivial⟩) h
 exact ⟨l,rfl,hl.1⟩
theorem dec_R {vs : List V} (h : MtL shR vs) : ∃ r : R,vs = r.cells ∧ r.wf:=by
 simp only [MtL] at h
 obtain ⟨v1,_,rfl,h1,v2,_,rfl,h2,v3,_,rfl,h3,rfl⟩:=h
 obtain ⟨b,rfl⟩:=dec_bool h1
 obtain ⟨m,rfl,hm⟩:=dec_ints h2
 obtain ⟨d,rfl,hd⟩:=dec_ints h3
 exact ⟨⟨b,m,d⟩,rfl,hm,hd⟩
theorem dec_int1 {vs : List V} (h : MtL [.int .i64] vs) : ∃ n,vs = [iv n]:=by
 obtain ⟨v,rfl,g⟩:=dec_one h
 obtain ⟨n,rfl,_⟩:=dec_intv g
 exact ⟨n,rfl⟩
theorem dec_Lk {vs : List V} (h : MtL shLk vs) : ∃ p : Lk,vs = p.cells ∧ p.wf:=by
 obtain ⟨v1,v2,rfl,h1,h⟩:=mtL_split h
 obtain ⟨v2,v3,rfl,h2,h⟩:=mtL_split h
 obtain ⟨v3,v4,rfl,h3,h⟩:=mtL_split h
 obtain ⟨v4,v5,rfl,h4,h5⟩:=mtL_split h
 obtain ⟨a,rfl⟩:=dec_int1 h1
 obtain ⟨b,rfl⟩:=dec_int1 h2
 obtain ⟨x,rfl,hx⟩:=dec_R h3
 obtain ⟨y,rfl,hy⟩:=dec_R h4
 obtain ⟨z,rfl,hz⟩:=dec_R h5
 exact ⟨⟨a,b,x,y,z⟩,rfl,hx,hy,hz⟩
theorem dec_Lks {v : V} (h : Mt (.sl shLk) v) : ∃ l,v = lksV l ∧ wfL Lk.wf l:=dec_list (fun _ hr=>dec_Lk hr) h
def AllP {α : Type} (P : α → Prop) : List α → Prop
 | []=>True
 | x :: l=>P x ∧ AllP P l
theorem AllP.mem {α : Type} {P : α → Prop} : ∀ {l : List α},AllP P l → ∀ x ∈ l,P x
 | [],_,x,hx=>by cases hx
 |
  y :: l,h,x,hx=>by
  rcases List.mem_cons.1 hx with rfl | hx
  ·exact h.1
  ·exact AllP.mem h.2 x hx
end Go.Ml
namespace Go.Ml
theorem trod_len {H : Type} {enc : TypeId × Value → H} {P : Program} {w : World} {b : Nat} {sp : Nat → Bool} {hd : Bool} : ∀ {ts : List TypeId} {vs : List Value} {ds : List (DataW H)} {ps : List MemPlace},
  DataW.TrodAll enc P w b sp hd ts vs ds ps → ds.length = ts.length
 | [],[],[],_,_=>rfl
 | [],[],_ :: _,_,h=>h.elim
 | [],_ :: _,ds,_,h=>by cases ds <;> exact h.elim
 | _ :: _,[],ds,_,h=>by cases ds <;> exact h.elim
 | _ :: _,_ :: _,[],_,h=>h.elim
 |
  t :: ts,v :: vs,d :: ds,ps,h=>by
  obtain ⟨p,q,_,h2,_⟩:=h
  simp [trod_len h2]
end Go.Ml
end
