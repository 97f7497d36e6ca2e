/- For all arguments the law FnExactReduceNode answers true, and its arguments read afterwards as before; no conditions. -/
import Derived.Test.YtbccjdlcbhknoaaGreatRows
import Derived.Test.YtbccjdlcbhknoaaGreatPart0
import Derived.Test.YtbccjdlcbhknoaaGreatPart1
import Derived.Test.YtbccjdlcbhknoaaGreatPart2
import Derived.Test.YtbccjdlcbhknoaaGreatPart3
import Derived.Test.YtbccjdlcbhknoaaGreatPart4
import Derived.Test.YtbccjdlcbhknoaaGreatPart5
set_option linter.unusedSimpArgs false
set_option linter.unusedVariables false
namespace Go.Proofs.YtbccjdlcbhknoaaGreat
open Go.ChangeShapes Go.WideShapes Go.ChangeAt Go.RowKit Go.Ml

def LW.fns : List (Nat × Nat × Go.Ml.Fn) := [(8, 381, iV),
  (39, 392, kY),
  (31, 389, gB),
  (79, 397, xw),
  (143, 399, sH),
  (149, 208, zI),
  (174, 66, pY),
  (186, 70, zf),
  (177, 71, vO),
  (100, 100, jL),
  (161, 123, zq),
  (178, 136, rQ),
  (147, 150, y9),
  (189, 149, y7),
  (191, 148, tZ),
  (188, 146, yY),
  (175, 67, Bq),
  (190, 147, tY),
  (184, 135, uf),
  (183, 134, uh),
  (159, 121, Bz),
  (78, 35, Bv),
  (160, 122, rV),
  (158, 120, um),
  (141, 238, wX),
  (126, 237, Ac),
  (142, 225, sW),
  (155, 197, xg),
  (83, 204, wY),
  (77, 193, qM),
  (140, 195, l9),
  (139, 83, ni),
  (151, 99, qh),
  (150, 34, vX),
  (86, 294, iG),
  (81, 189, oq),
  (145, 198, oh),
  (146, 206, lN),
  (176, 205, zB),
  (187, 209, yZ),
  (80, 36, o8),
  (144, 53, nT),
  (152, 30, uz),
  (179, 51, wG),
  (85, 203, ou),
  (84, 201, oz),
  (148, 207, zG),
  (82, 200, oC),
  (94, 227, nI),
  (43, 179, qV),
  (99, 188, kD),
  (157, 196, fF),
  (182, 202, pz),
  (156, 194, Ad),
  (37, 390, jP),
  (92, 398, nK),
  (93, 59, uH),
  (42, 42, xG),
  (98, 58, pG),
  (36, 367, jM),
  (91, 119, kC),
  (90, 57, nV),
  (41, 41, wR),
  (97, 56, pq),
  (19, 268, lC),
  (60, 274, kZ),
  (121, 241, nJ),
  (48, 182, jk),
  (52, 185, bK),
  (54, 131, iQ),
  (115, 144, jZ),
  (135, 138, rM),
  (167, 155, yV),
  (170, 151, pW),
  (166, 154, yT),
  (171, 153, jA),
  (165, 152, yQ),
  (134, 137, tV),
  (119, 69, lY),
  (74, 127, zk),
  (136, 139, nS),
  (118, 68, jX),
  (114, 143, BA),
  (113, 142, zy),
  (112, 141, zA),
  (164, 160, yS),
  (56, 132, Dz),
  (28, 102, jK),
  (73, 126, Bl),
  (72, 125, uj),
  (110, 101, ql),
  (163, 124, qg),
  (17, 39, kV),
  (58, 54, jD),
  (111, 37, zN),
  (18, 32, uy),
  (59, 52, uw),
  (103, 161, rX),
  (105, 159, zD),
  (55, 157, iR),
  (104, 156, iT),
  (101, 84, mY),
  (120, 109, qW),
  (168, 130, xu),
  (185, 140, pF),
  (117, 158, lU),
  (102, 111, iL),
  (49, 183, jO),
  (106, 145, wU),
  (50, 110, qQ),
  (107, 133, uJ),
  (44, 89, qL),
  (38, 229, qY),
  (35, 118, mD),
  (40, 40, BI),
  (95, 55, uG),
  (96, 8, zS),
  (33, 28, kX),
  (88, 50, qP),
  (154, 65, uI),
  (34, 23, wP),
  (89, 16, Aa),
  (32, 21, wM),
  (87, 44, sV),
  (153, 48, wK),
  (180, 63, nU),
  (181, 6, sO),
  (30, 19, wL),
  (76, 43, zY),
  (138, 46, BG),
  (173, 61, zU),
  (172, 60, uD)]

theorem LW.own : ownKnob Tryz.prog.godebug = none := by kernel_rfl
theorem LW.laidOut : laidOutB Tryz.prog = true := by kernel_rfl
theorem LW.mixed : Tryz.prog.follows .mixedOrders = true := by kernel_rfl
def LW.Fit (k : Nat) (F : Go.Ml.Fn) : Prop := (∃ fn, Tryz.prog.funcs[k]? = some fn ∧ aa6 Tryz.prog (Oz LW.fns) fn = some F) ∨ ∃ o, F.body = .lib o ∧ afl Tryz.prog k o
theorem LW.atI : LW.Fit 8 iV := Or.inl ⟨_, Tryz.func8, by kernel_rfl⟩
theorem LW.ao6 : LW.Fit 39 kY := Or.inl ⟨_, Tryz.func39, by kernel_rfl⟩
theorem LW.ao7 : LW.Fit 31 gB := Or.inl ⟨_, Tryz.func31, by kernel_rfl⟩
theorem LW.ao8 : LW.Fit 79 xw := Or.inl ⟨_, Tryz.func79, by kernel_rfl⟩
theorem LW.ald : LW.Fit 143 sH := Or.inl ⟨_, Tryz.func143, by kernel_rfl⟩
theorem LW.ale : LW.Fit 149 zI := Or.inl ⟨_, Tryz.func149, by kernel_rfl⟩
theorem LW.alf : LW.Fit 174 pY := Or.inl ⟨_, Tryz.func174, by kernel_rfl⟩
theorem LW.alg : LW.Fit 186 zf := Or.inl ⟨_, Tryz.func186, by kernel_rfl⟩
theorem LW.alh : LW.Fit 177 vO := Or.inl ⟨_, Tryz.func177, by kernel_rfl⟩
theorem LW.ali : LW.Fit 100 jL := Or.inl ⟨_, Tryz.func100, by kernel_rfl⟩
theorem LW.alj : LW.Fit 161 zq := Or.inl ⟨_, Tryz.func161, by kernel_rfl⟩
theorem LW.alk : LW.Fit 178 rQ := Or.inl ⟨_, Tryz.func178, by kernel_rfl⟩
theorem LW.alm : LW.Fit 147 y9 := Or.inl ⟨_, Tryz.func147, by kernel_rfl⟩
theorem LW.aln : LW.Fit 189 y7 := Or.inl ⟨_, Tryz.func189, by kernel_rfl⟩
theorem LW.alo : LW.Fit 191 tZ := Or.inl ⟨_, Tryz.func191, by kernel_rfl⟩
theorem LW.alp : LW.Fit 188 yY := Or.inl ⟨_, Tryz.func188, by kernel_rfl⟩
theorem LW.alq : LW.Fit 175 Bq := Or.inl ⟨_, Tryz.func175, by kernel_rfl⟩
theorem LW.alr : LW.Fit 190 tY := Or.inl ⟨_, Tryz.func190, by kernel_rfl⟩
theorem LW.als : LW.Fit 184 uf := Or.inl ⟨_, Tryz.func184, by kernel_rfl⟩
theorem LW.alu : LW.Fit 183 uh := Or.inl ⟨_, Tryz.func183, by kernel_rfl⟩
theorem LW.alv : LW.Fit 159 Bz := Or.inl ⟨_, Tryz.func159, by kernel_rfl⟩
theorem LW.ao9 : LW.Fit 78 Bv := Or.inl ⟨_, Tryz.func78, by kernel_rfl⟩
theorem LW.alx : LW.Fit 160 rV := Or.inl ⟨_, Tryz.func160, by kernel_rfl⟩
theorem LW.aly : LW.Fit 158 um := Or.inl ⟨_, Tryz.func158, by kernel_rfl⟩
theorem LW.alz : LW.Fit 141 wX := Or.inl ⟨_, Tryz.func141, by kernel_rfl⟩
theorem LW.alA : LW.Fit 126 Ac := Or.inl ⟨_, Tryz.func126, by kernel_rfl⟩
theorem LW.alB : LW.Fit 142 sW := Or.inl ⟨_, Tryz.func142, by kernel_rfl⟩
theorem LW.alC : LW.Fit 155 xg := Or.inl ⟨_, Tryz.func155, by kernel_rfl⟩
theorem LW.apa : LW.Fit 83 wY := Or.inl ⟨_, Tryz.func83, by kernel_rfl⟩
theorem LW.apb : LW.Fit 77 qM := Or.inl ⟨_, Tryz.func77, by kernel_rfl⟩
theorem LW.alD : LW.Fit 140 l9 := Or.inl ⟨_, Tryz.func140, by kernel_rfl⟩
theorem LW.alE : LW.Fit 139 ni := Or.inl ⟨_, Tryz.func139, by kernel_rfl⟩
theorem LW.alF : LW.Fit 151 qh := Or.inl ⟨_, Tryz.func151, by kernel_rfl⟩
theorem LW.alG : LW.Fit 150 vX := Or.inl ⟨_, Tryz.func150, by kernel_rfl⟩
theorem LW.apc : LW.Fit 86 iG := Or.inl ⟨_, Tryz.func86, by kernel_rfl⟩
theorem LW.apd : LW.Fit 81 oq := Or.inl ⟨_, Tryz.func81, by kernel_rfl⟩
theorem LW.alH : LW.Fit 145 oh := Or.inl ⟨_, Tryz.func145, by kernel_rfl⟩
theorem LW.alI : LW.Fit 146 lN := Or.inl ⟨_, Tryz.func146, by kernel_rfl⟩
theorem LW.alJ : LW.Fit 176 zB := Or.inl ⟨_, Tryz.func176, by kernel_rfl⟩
theorem LW.alK : LW.Fit 187 yZ := Or.inl ⟨_, Tryz.func187, by kernel_rfl⟩
theorem LW.ape : LW.Fit 80 o8 := Or.inl ⟨_, Tryz.func80, by kernel_rfl⟩
theorem LW.alL : LW.Fit 144 nT := Or.inl ⟨_, Tryz.func144, by kernel_rfl⟩
theorem LW.alM : LW.Fit 152 uz := Or.inl ⟨_, Tryz.func152, by kernel_rfl⟩
theorem LW.alN : LW.Fit 179 wG := Or.inl ⟨_, Tryz.func179, by kernel_rfl⟩
theorem LW.apf : LW.Fit 85 ou := Or.inl ⟨_, Tryz.func85, by kernel_rfl⟩
theorem LW.apg : LW.Fit 84 oz := Or.inl ⟨_, Tryz.func84, by kernel_rfl⟩
theorem LW.alO : LW.Fit 148 zG := Or.inl ⟨_, Tryz.func148, by kernel_rfl⟩
theorem LW.aph : LW.Fit 82 oC := Or.inl ⟨_, Tryz.func82, by kernel_rfl⟩
theorem LW.apj : LW.Fit 94 nI := Or.inl ⟨_, Tryz.func94, by kernel_rfl⟩
theorem LW.apk : LW.Fit 43 qV := Or.inl ⟨_, Tryz.func43, by kernel_rfl⟩
theorem LW.apl : LW.Fit 99 kD := Or.inl ⟨_, Tryz.func99, by kernel_rfl⟩
theorem LW.alP : LW.Fit 157 fF := Or.inl ⟨_, Tryz.func157, by kernel_rfl⟩
theorem LW.alQ : LW.Fit 182 pz := Or.inl ⟨_, Tryz.func182, by kernel_rfl⟩
theorem LW.alR : LW.Fit 156 Ad := Or.inl ⟨_, Tryz.func156, by kernel_rfl⟩
theorem LW.apm : LW.Fit 37 jP := Or.inl ⟨_, Tryz.func37, by kernel_rfl⟩
theorem LW.apn : LW.Fit 92 nK := Or.inl ⟨_, Tryz.func92, by kernel_rfl⟩
theorem LW.apo : LW.Fit 93 uH := Or.inl ⟨_, Tryz.func93, by kernel_rfl⟩
theorem LW.apq : LW.Fit 42 xG := Or.inl ⟨_, Tryz.func42, by kernel_rfl⟩
theorem LW.apr : LW.Fit 98 pG := Or.inl ⟨_, Tryz.func98, by kernel_rfl⟩
theorem LW.aps : LW.Fit 36 jM := Or.inl ⟨_, Tryz.func36, by kernel_rfl⟩
theorem LW.apt : LW.Fit 91 kC := Or.inl ⟨_, Tryz.func91, by kernel_rfl⟩
theorem LW.apu : LW.Fit 90 nV := Or.inl ⟨_, Tryz.func90, by kernel_rfl⟩
theorem LW.apv : LW.Fit 41 wR := Or.inl ⟨_, Tryz.func41, by kernel_rfl⟩
theorem LW.apw : LW.Fit 97 pq := Or.inl ⟨_, Tryz.func97, by kernel_rfl⟩
theorem LW.apx : LW.Fit 19 lC := Or.inl ⟨_, Tryz.func19, by kernel_rfl⟩
theorem LW.apy : LW.Fit 60 kZ := Or.inl ⟨_, Tryz.func60, by kernel_rfl⟩
theorem LW.alS : LW.Fit 121 nJ := Or.inl ⟨_, Tryz.func121, by kernel_rfl⟩
theorem LW.apz : LW.Fit 48 jk := Or.inl ⟨_, Tryz.func48, by kernel_rfl⟩
theorem LW.apA : LW.Fit 52 bK := Or.inl ⟨_, Tryz.func52, by kernel_rfl⟩
theorem LW.apB : LW.Fit 54 iQ := Or.inl ⟨_, Tryz.func54, by kernel_rfl⟩
theorem LW.alT : LW.Fit 115 jZ := Or.inl ⟨_, Tryz.func115, by kernel_rfl⟩
theorem LW.alU : LW.Fit 135 rM := Or.inl ⟨_, Tryz.func135, by kernel_rfl⟩
theorem LW.alV : LW.Fit 167 yV := Or.inl ⟨_, Tryz.func167, by kernel_rfl⟩
theorem LW.alW : LW.Fit 170 pW := Or.inl ⟨_, Tryz.func170, by kernel_rfl⟩
theorem LW.alX : LW.Fit 166 yT := Or.inl ⟨_, Tryz.func166, by kernel_rfl⟩
theorem LW.alY : LW.Fit 171 jA := Or.inl ⟨_, Tryz.func171, by kernel_rfl⟩
theorem LW.alZ : LW.Fit 165 yQ := Or.inl ⟨_, Tryz.func165, by kernel_rfl⟩
theorem LW.al0 : LW.Fit 134 tV := Or.inl ⟨_, Tryz.func134, by kernel_rfl⟩
theorem LW.al1 : LW.Fit 119 lY := Or.inl ⟨_, Tryz.func119, by kernel_rfl⟩
theorem LW.apC : LW.Fit 74 zk := Or.inl ⟨_, Tryz.func74, by kernel_rfl⟩
theorem LW.al2 : LW.Fit 136 nS := Or.inl ⟨_, Tryz.func136, by kernel_rfl⟩
theorem LW.al3 : LW.Fit 118 jX := Or.inl ⟨_, Tryz.func118, by kernel_rfl⟩
theorem LW.al4 : LW.Fit 114 BA := Or.inl ⟨_, Tryz.func114, by kernel_rfl⟩
theorem LW.al5 : LW.Fit 113 zy := Or.inl ⟨_, Tryz.func113, by kernel_rfl⟩
theorem LW.al6 : LW.Fit 112 zA := Or.inl ⟨_, Tryz.func112, by kernel_rfl⟩
theorem LW.al7 : LW.Fit 164 yS := Or.inl ⟨_, Tryz.func164, by kernel_rfl⟩
theorem LW.apD : LW.Fit 56 Dz := Or.inl ⟨_, Tryz.func56, by kernel_rfl⟩
theorem LW.apE : LW.Fit 28 jK := Or.inl ⟨_, Tryz.func28, by kernel_rfl⟩
theorem LW.apF : LW.Fit 73 Bl := Or.inl ⟨_, Tryz.func73, by kernel_rfl⟩
theorem LW.apG : LW.Fit 72 uj := Or.inl ⟨_, Tryz.func72, by kernel_rfl⟩
theorem LW.al8 : LW.Fit 110 ql := Or.inl ⟨_, Tryz.func110, by kernel_rfl⟩
theorem LW.al9 : LW.Fit 163 qg := Or.inl ⟨_, Tryz.func163, by kernel_rfl⟩
theorem LW.apH : LW.Fit 17 kV := Or.inl ⟨_, Tryz.func17, by kernel_rfl⟩
theorem LW.apI : LW.Fit 58 jD := Or.inl ⟨_, Tryz.func58, by kernel_rfl⟩
theorem LW.ama : LW.Fit 111 zN := Or.inl ⟨_, Tryz.func111, by kernel_rfl⟩
theorem LW.apJ : LW.Fit 18 uy := Or.inl ⟨_, Tryz.func18, by kernel_rfl⟩
theorem LW.apK : LW.Fit 59 uw := Or.inl ⟨_, Tryz.func59, by kernel_rfl⟩
theorem LW.amb : LW.Fit 103 rX := Or.inl ⟨_, Tryz.func103, by kernel_rfl⟩
theorem LW.amc : LW.Fit 105 zD := Or.inl ⟨_, Tryz.func105, by kernel_rfl⟩
theorem LW.apL : LW.Fit 55 iR := Or.inl ⟨_, Tryz.func55, by kernel_rfl⟩
theorem LW.amd : LW.Fit 104 iT := Or.inl ⟨_, Tryz.func104, by kernel_rfl⟩
theorem LW.ame : LW.Fit 101 mY := Or.inl ⟨_, Tryz.func101, by kernel_rfl⟩
theorem LW.amf : LW.Fit 120 qW := Or.inl ⟨_, Tryz.func120, by kernel_rfl⟩
theorem LW.amg : LW.Fit 168 xu := Or.inl ⟨_, Tryz.func168, by kernel_rfl⟩
theorem LW.amh : LW.Fit 185 pF := Or.inl ⟨_, Tryz.func185, by kernel_rfl⟩
theorem LW.ami : LW.Fit 117 lU := Or.inl ⟨_, Tryz.func117, by kernel_rfl⟩
theorem LW.amj : LW.Fit 102 iL := Or.inl ⟨_, Tryz.func102, by kernel_rfl⟩
theorem LW.apM : LW.Fit 49 jO := Or.inl ⟨_, Tryz.func49, by kernel_rfl⟩
theorem LW.amk : LW.Fit 106 wU := Or.inl ⟨_, Tryz.func106, by kernel_rfl⟩
theorem LW.apN : LW.Fit 50 qQ := Or.inl ⟨_, Tryz.func50, by kernel_rfl⟩
theorem LW.aml : LW.Fit 107 uJ := Or.inl ⟨_, Tryz.func107, by kernel_rfl⟩
theorem LW.apO : LW.Fit 44 qL := Or.inl ⟨_, Tryz.func44, by kernel_rfl⟩
theorem LW.apP : LW.Fit 38 qY := Or.inl ⟨_, Tryz.func38, by kernel_rfl⟩
theorem LW.apQ : LW.Fit 35 mD := Or.inl ⟨_, Tryz.func35, by kernel_rfl⟩
theorem LW.apR : LW.Fit 40 BI := Or.inl ⟨_, Tryz.func40, by kernel_rfl⟩
theorem LW.apS : LW.Fit 95 uG := Or.inl ⟨_, Tryz.func95, by kernel_rfl⟩
theorem LW.apT : LW.Fit 96 zS := Or.inl ⟨_, Tryz.func96, by kernel_rfl⟩
theorem LW.apU : LW.Fit 33 kX := Or.inl ⟨_, Tryz.func33, by kernel_rfl⟩
theorem LW.apV : LW.Fit 88 qP := Or.inl ⟨_, Tryz.func88, by kernel_rfl⟩
theorem LW.amm : LW.Fit 154 uI := Or.inl ⟨_, Tryz.func154, by kernel_rfl⟩
theorem LW.apW : LW.Fit 34 wP := Or.inl ⟨_, Tryz.func34, by kernel_rfl⟩
theorem LW.apX : LW.Fit 89 Aa := Or.inl ⟨_, Tryz.func89, by kernel_rfl⟩
theorem LW.apY : LW.Fit 32 wM := Or.inl ⟨_, Tryz.func32, by kernel_rfl⟩
theorem LW.apZ : LW.Fit 87 sV := Or.inl ⟨_, Tryz.func87, by kernel_rfl⟩
theorem LW.amn : LW.Fit 153 wK := Or.inl ⟨_, Tryz.func153, by kernel_rfl⟩
theorem LW.amo : LW.Fit 180 nU := Or.inl ⟨_, Tryz.func180, by kernel_rfl⟩
theorem LW.amq : LW.Fit 181 sO := Or.inl ⟨_, Tryz.func181, by kernel_rfl⟩
theorem LW.ap0 : LW.Fit 30 wL := Or.inl ⟨_, Tryz.func30, by kernel_rfl⟩
theorem LW.ap1 : LW.Fit 76 zY := Or.inl ⟨_, Tryz.func76, by kernel_rfl⟩
theorem LW.amr : LW.Fit 138 BG := Or.inl ⟨_, Tryz.func138, by kernel_rfl⟩
theorem LW.ams : LW.Fit 173 zU := Or.inl ⟨_, Tryz.func173, by kernel_rfl⟩
theorem LW.amu : LW.Fit 172 uD := Or.inl ⟨_, Tryz.func172, by kernel_rfl⟩
theorem LW.all : afx (fun x : Nat × Nat × Go.Ml.Fn => LW.Fit x.1 x.2.2) LW.fns :=
  ⟨LW.atI, LW.ao6, LW.ao7, LW.ao8, LW.ald, LW.ale, LW.alf, LW.alg, LW.alh, LW.ali, LW.alj, LW.alk, LW.alm, LW.aln, LW.alo, LW.alp, LW.alq, LW.alr, LW.als, LW.alu, LW.alv, LW.ao9, LW.alx, LW.aly, LW.alz, LW.alA, LW.alB, LW.alC, LW.apa, LW.apb, LW.alD, LW.alE, LW.alF, LW.alG, LW.apc, LW.apd, LW.alH, LW.alI, LW.alJ, LW.alK, LW.ape, LW.alL, LW.alM, LW.alN, LW.apf, LW.apg, LW.alO, LW.aph, LW.apj, LW.apk, LW.apl, LW.alP, LW.alQ, LW.alR, LW.apm, LW.apn, LW.apo, LW.apq, LW.apr, LW.aps, LW.apt, LW.apu, LW.apv, LW.apw, LW.apx, LW.apy, LW.alS, LW.apz, LW.apA, LW.apB, LW.alT, LW.alU, LW.alV, LW.alW, LW.alX, LW.alY, LW.alZ, LW.al0, LW.al1, LW.apC, LW.al2, LW.al3, LW.al4, LW.al5, LW.al6, LW.al7, LW.apD, LW.apE, LW.apF, LW.apG, LW.al8, LW.al9, LW.apH, LW.apI, LW.ama, LW.apJ, LW.apK, LW.amb, LW.amc, LW.apL, LW.amd, LW.ame, LW.amf, LW.amg, LW.amh, LW.ami, LW.amj, LW.apM, LW.amk, LW.apN, LW.aml, LW.apO, LW.apP, LW.apQ, LW.apR, LW.apS, LW.apT, LW.apU, LW.apV, LW.amm, LW.apW, LW.apX, LW.apY, LW.apZ, LW.amn, LW.amo, LW.amq, LW.ap0, LW.ap1, LW.amr, LW.ams, LW.amu, trivial⟩
set_option maxRecDepth 100000 in
theorem LW.fits : Fits Tryz.prog (Oz LW.fns) (aV LW.fns) := aic (by decide) fun x hx => LW.all.mem x hx

theorem LW.d61 : zV (aV LW.fns) := ⟨rfl⟩
theorem LW.d60 : AX (aV LW.fns) := ⟨rfl, LW.d61⟩
theorem LW.d46 : F8 (aV LW.fns) := ⟨rfl, LW.d60, LW.d61⟩
theorem LW.d43 : Ef (aV LW.fns) := ⟨rfl, LW.d46⟩
theorem LW.d19 : CQ (aV LW.fns) := ⟨rfl, LW.d43⟩
theorem LW.d6 : sQ (aV LW.fns) := ⟨rfl⟩
theorem LW.d63 : uF (aV LW.fns) := ⟨rfl, LW.d6⟩
theorem LW.d48 : BH (aV LW.fns) := ⟨rfl, LW.d6, LW.d63⟩
theorem LW.d44 : zZ (aV LW.fns) := ⟨rfl, LW.d48⟩
theorem LW.d21 : wO (aV LW.fns) := ⟨rfl, LW.d44⟩
theorem LW.d8 : zT (aV LW.fns) := ⟨rfl⟩
theorem LW.d55 : AY (aV LW.fns) := ⟨rfl, LW.d8⟩
theorem LW.d40 : qN (aV LW.fns) := ⟨rfl, LW.d8, LW.d55⟩
theorem LW.d16 : Eh (aV LW.fns) := ⟨rfl, LW.d40⟩
theorem LW.d23 : CS (aV LW.fns) := ⟨rfl, LW.d16⟩
theorem LW.d65 : AZ (aV LW.fns) := ⟨rfl, LW.d40⟩
theorem LW.d50 : yG (aV LW.fns) := ⟨rfl, LW.d65⟩
theorem LW.d28 : qw (aV LW.fns) := ⟨rfl, LW.d40, LW.d50⟩
theorem LW.d57 : kP (aV LW.fns) := ⟨rfl⟩
theorem LW.d56 : wQ (aV LW.fns) := ⟨rfl, LW.d57⟩
theorem LW.d41 : wS (aV LW.fns) := ⟨rfl, LW.d56, LW.d57⟩
theorem LW.d59 : kQ (aV LW.fns) := ⟨rfl⟩
theorem LW.d58 : xE (aV LW.fns) := ⟨rfl, LW.d59⟩
theorem LW.d42 : xH (aV LW.fns) := ⟨rfl, LW.d58, LW.d59⟩
theorem LW.aun : yH (aV LW.fns) := ⟨rfl, LW.d57⟩
theorem LW.auo : yN (aV LW.fns) := ⟨rfl, LW.d59⟩
theorem LW.d37 : zO (aV LW.fns) := ⟨rfl⟩
theorem LW.ap2 : Bo (aV LW.fns) := ⟨rfl⟩
theorem LW.aup : AL (aV LW.fns) := ⟨rfl, LW.ap2⟩
theorem LW.d69 : jS (aV LW.fns) := ⟨rfl⟩
theorem LW.ap3 : tX (aV LW.fns) := ⟨rfl⟩
theorem LW.amv : lZ (aV LW.fns) := ⟨rfl⟩
theorem LW.ap4 : yR (aV LW.fns) := ⟨rfl⟩
theorem LW.aur : Ar (aV LW.fns) := ⟨rfl⟩
theorem LW.ap5 : yU (aV LW.fns) := ⟨rfl, LW.amv⟩
theorem LW.ap6 : yX (aV LW.fns) := ⟨rfl, LW.amv⟩
theorem LW.ap7 : rO (aV LW.fns) := ⟨rfl, LW.d69, LW.ap3, LW.amv, LW.ap4, LW.aur, LW.ap5, LW.ap6⟩
theorem LW.amw : kN (aV LW.fns) := ⟨rfl⟩
theorem LW.ap8 : zl (aV LW.fns) := ⟨rfl, LW.d69, LW.ap3, LW.ap7, LW.amw⟩
theorem LW.amx : vU (aV LW.fns) := ⟨rfl, LW.aup, LW.ap2, LW.ap8⟩
theorem LW.ZY : gq (aV LW.fns) := ⟨rfl⟩
theorem LW.aus : Cm (aV LW.fns) := ⟨rfl, LW.ZY⟩
theorem LW.ap9 : vW (aV LW.fns) := ⟨rfl, LW.amx, LW.aus⟩
theorem LW.d84 : mZ (aV LW.fns) := ⟨rfl, LW.d37, LW.ap9, LW.amx⟩
theorem LW.aqa : ny (aV LW.fns) := ⟨rfl⟩
theorem LW.d89 : yE (aV LW.fns) := ⟨rfl, LW.d84, LW.aqa⟩
theorem LW.aqb : wV (aV LW.fns) := ⟨rfl, LW.amw⟩
theorem LW.aut : Bc (aV LW.fns) := ⟨rfl, LW.aqb⟩
theorem LW.auu : yI (aV LW.fns) := ⟨rfl, LW.aut⟩
theorem LW.auv : nH (aV LW.fns) := ⟨rfl, LW.aqb⟩
theorem LW.d68 : eH (aV LW.fns) := ⟨rfl⟩
theorem LW.d54 : uq (aV LW.fns) := ⟨rfl, LW.d68, LW.d69⟩
theorem LW.d39 : ig (aV LW.fns) := ⟨rfl, LW.d54⟩
theorem LW.auw : DV (aV LW.fns) := ⟨rfl⟩
theorem LW.auy : DZ (aV LW.fns) := ⟨rfl, LW.d68, LW.ap4, LW.ap5, LW.auw⟩
theorem LW.amy : rU (aV LW.fns) := ⟨rfl, LW.d68, LW.ap6⟩
theorem LW.amz : qI (aV LW.fns) := ⟨rfl⟩
theorem LW.amA : l7 (aV LW.fns) := ⟨rfl, LW.d68, LW.ap8, LW.ap7⟩
theorem LW.aci : fH (aV LW.fns) := ⟨rfl, LW.ZY, LW.auy, LW.amy, LW.amz, LW.amA⟩
theorem LW.aqd : lK (aV LW.fns) := ⟨rfl, LW.ZY, LW.amy, LW.amz, LW.amA⟩
theorem LW.amB : jQ (aV LW.fns) := ⟨rfl, LW.ZY, LW.amy, LW.amz, LW.amA⟩
theorem LW.auz : rG (aV LW.fns) := ⟨rfl, LW.aci, LW.amB⟩
theorem LW.aqe : rY (aV LW.fns) := ⟨rfl, LW.d68, LW.ZY, LW.amw⟩
theorem LW.aqf : rZ (aV LW.fns) := ⟨rfl, LW.aci, LW.aqe⟩
theorem LW.auA : xq (aV LW.fns) := ⟨rfl, LW.aci, LW.ZY, LW.aqd, LW.amB, LW.auz, LW.aqf⟩
theorem LW.auB : CZ (aV LW.fns) := ⟨rfl, LW.d39, LW.aqa, LW.auA⟩
theorem LW.auC : yL (aV LW.fns) := ⟨rfl, LW.d39, LW.auB, LW.aci, LW.ZY⟩
theorem LW.d52 : AQ (aV LW.fns) := ⟨rfl⟩
theorem LW.d32 : AU (aV LW.fns) := ⟨rfl, LW.d52⟩
theorem LW.auD : kL (aV LW.fns) := ⟨rfl, LW.d32, LW.d37, LW.d39, LW.ap9, LW.amx, LW.aci⟩
theorem LW.auE : qA (aV LW.fns) := ⟨rfl, LW.d39, LW.d84, LW.aci, LW.aqd, LW.amB, LW.aqf, LW.aqe, LW.auD⟩
theorem LW.auF : uX (aV LW.fns) := ⟨rfl⟩
theorem LW.auG : xB (aV LW.fns) := ⟨rfl, LW.auC, LW.auE, LW.auF⟩
theorem LW.auH : xC (aV LW.fns) := ⟨rfl, LW.d89, LW.auu, LW.auv, LW.auG⟩
theorem LW.auI : uT (aV LW.fns) := ⟨rfl, LW.d57⟩
theorem LW.auJ : nG (aV LW.fns) := ⟨rfl, LW.d41, LW.auI⟩
theorem LW.auK : uZ (aV LW.fns) := ⟨rfl, LW.d59⟩
theorem LW.auL : nM (aV LW.fns) := ⟨rfl, LW.d42, LW.auK⟩
theorem LW.d71 : jd (aV LW.fns) := ⟨rfl⟩
theorem LW.d70 : DX (aV LW.fns) := ⟨rfl, LW.d71⟩
theorem LW.d66 : jY (aV LW.fns) := ⟨rfl, LW.d70⟩
theorem LW.d67 : qG (aV LW.fns) := ⟨rfl⟩
theorem LW.d53 : AP (aV LW.fns) := ⟨rfl, LW.d66, LW.d67⟩
theorem LW.d36 : jw (aV LW.fns) := ⟨rfl, LW.d53⟩
theorem LW.d35 : qH (aV LW.fns) := ⟨rfl⟩
theorem LW.amC : vP (aV LW.fns) := ⟨rfl, LW.d35⟩
theorem LW.auM : AO (aV LW.fns) := ⟨rfl, LW.amC⟩
theorem LW.amD : rW (aV LW.fns) := ⟨rfl⟩
theorem LW.aij : nY (aV LW.fns) := ⟨rfl⟩
theorem LW.auN : AB (aV LW.fns) := ⟨rfl, LW.amC, LW.aij⟩
theorem LW.auO : AA (aV LW.fns) := ⟨rfl, LW.d67⟩
theorem LW.auP : Aw (aV LW.fns) := ⟨rfl, LW.d71⟩
theorem LW.afy : lI (aV LW.fns) := ⟨rfl, LW.d71⟩
theorem LW.auQ : Az (aV LW.fns) := ⟨rfl, LW.d67, LW.aij, LW.afy⟩
theorem LW.aqh : y8 (aV LW.fns) := ⟨rfl, LW.d71⟩
theorem LW.aqi : zn (aV LW.fns) := ⟨rfl, LW.d67, LW.d71, LW.aij, LW.auP, LW.auQ, LW.aqh, LW.afy⟩
theorem LW.aqj : zu (aV LW.fns) := ⟨rfl, LW.auN, LW.auO, LW.aqi⟩
theorem LW.Sz : fQ (aV LW.fns) := ⟨rfl, LW.auM, LW.amC, LW.amD, LW.aqj⟩
theorem LW.d34 : vY (aV LW.fns) := ⟨rfl, LW.d35⟩
theorem LW.d99 : vV (aV LW.fns) := ⟨rfl, LW.Sz⟩
theorem LW.d83 : ku (aV LW.fns) := ⟨rfl, LW.d34, LW.d99, LW.Sz⟩
theorem LW.aqk : wC (aV LW.fns) := ⟨rfl⟩
theorem LW.aik : jT (aV LW.fns) := ⟨rfl, LW.d83, LW.aqk⟩
theorem LW.aql : wZ (aV LW.fns) := ⟨rfl⟩
theorem LW.ail : mG (aV LW.fns) := ⟨rfl, LW.aql⟩
theorem LW.auS : En (aV LW.fns) := ⟨rfl, LW.ail⟩
theorem LW.auT : DW (aV LW.fns) := ⟨rfl⟩
theorem LW.auU : D5 (aV LW.fns) := ⟨rfl, LW.d66, LW.aij, LW.aqh, LW.auT⟩
theorem LW.amE : sD (aV LW.fns) := ⟨rfl, LW.d66, LW.d71, LW.amD, LW.aqj, LW.aqi⟩
theorem LW.aqm : zH (aV LW.fns) := ⟨rfl, LW.d66, LW.amD, LW.afy, LW.auU, LW.amE⟩
theorem LW.afz : lQ (aV LW.fns) := ⟨rfl, LW.Sz, LW.aqm⟩
theorem LW.aqn : zM (aV LW.fns) := ⟨rfl, LW.Sz, LW.afy, LW.amE⟩
theorem LW.auV : D7 (aV LW.fns) := ⟨rfl, LW.afy, LW.amE⟩
theorem LW.amF : sF (aV LW.fns) := ⟨rfl, LW.Sz, LW.auV⟩
theorem LW.auW : wW (aV LW.fns) := ⟨rfl, LW.afz, LW.amF⟩
theorem LW.aqo : zJ (aV LW.fns) := ⟨rfl, LW.d66⟩
theorem LW.aqp : zK (aV LW.fns) := ⟨rfl, LW.Sz, LW.aqm, LW.aqo⟩
theorem LW.auX : xk (aV LW.fns) := ⟨rfl, LW.d83, LW.Sz, LW.afz, LW.aqn, LW.amF, LW.auW, LW.aqp⟩
theorem LW.auY : CY (aV LW.fns) := ⟨rfl, LW.d36, LW.d83, LW.aik, LW.auS, LW.aqk, LW.auX, LW.ail⟩
theorem LW.auZ : yK (aV LW.fns) := ⟨rfl, LW.d36, LW.Sz, LW.auY, LW.afz⟩
theorem LW.au0 : uV (aV LW.fns) := ⟨rfl, LW.aik, LW.ail⟩
theorem LW.d51 : CB (aV LW.fns) := ⟨rfl⟩
theorem LW.d30 : AV (aV LW.fns) := ⟨rfl, LW.d51⟩
theorem LW.au1 : kM (aV LW.fns) := ⟨rfl, LW.d30, LW.d34, LW.d35, LW.d36, LW.d99, LW.Sz, LW.afz⟩
theorem LW.au2 : Ej (aV LW.fns) := ⟨rfl, LW.aik, LW.ail⟩
theorem LW.au3 : Ei (aV LW.fns) := ⟨rfl⟩
theorem LW.au4 : CV (aV LW.fns) := ⟨rfl, LW.au3⟩
theorem LW.au5 : Ea (aV LW.fns) := ⟨rfl, LW.Sz, LW.aqo⟩
theorem LW.au6 : Dj (aV LW.fns) := ⟨rfl, LW.au2, LW.au4, LW.au5⟩
theorem LW.au7 : qB (aV LW.fns) := ⟨rfl, LW.d35, LW.d36, LW.afz, LW.aik, LW.aqn, LW.amF, LW.aqp, LW.aql, LW.au1, LW.au6⟩
theorem LW.au8 : xA (aV LW.fns) := ⟨rfl, LW.auZ, LW.au0, LW.au7⟩
theorem LW.au9 : tJ (aV LW.fns) := ⟨rfl, LW.d19, LW.d21, LW.d23, LW.d28, LW.d40, LW.d41, LW.d42, LW.aun, LW.auo, LW.auH, LW.auJ, LW.auL, LW.au8⟩

theorem LW.args : Rl Tryz.prog [66, 3] [(false, [.sl alb]), (false, [.int .i64])] :=
  ⟨_, _, rfl, by kernel_rfl, by kernel_rfl, ⟨_, _, rfl, by kernel_rfl, by kernel_rfl, rfl⟩⟩

set_option maxRecDepth 100000 in
theorem LW.lifted (os : Os) (started : os.Started) (H : Type) (enc : TypeId × Value → H) :
    ReturnsInHanded {} Tryz.checked os 8 .any (Rows.fnExactReduceNodeSpec.pre6 enc Tryz.prog Tryz.f8 Rows.fnExactReduceNodeRow.domain false) (Rows.fnExactReduceNodeSpec.post enc Tryz.prog Tryz.f8 false true false false) := by
  refine returnsInHanded_of_change (C := Tryz.checked) LW.own started (by kernel_rfl) Tryz.func8
    (ChangeSpec.witness6 (enc := enc) (C := Tryz.checked) false ⟨#[], #[.slice none 0 0, .int .i64 0], []⟩ 8 (by kernel_rfl) (by kernel_rfl) (by kernel_rfl) (by kernel_rfl)) ?_
  intro W base args ds gs before hval0 hW hcnd _
  have hval : ∀ (j : Nat) t v, Tryz.f8.params[j]? = some t → args[j]? = some v → Value.okWide Tryz.prog W .any base t v := hval0
  have hW' := hW
  obtain ⟨p, q, hA0, hV, rfl, hfz, hnd⟩ := hW
  have hA : DataW.TrodAll enc Tryz.prog W 0 (fun _ => true) true Tryz.f8.params.toList args.toList ds p := hA0
  rw [Tryz.params8] at hA hval
  obtain ⟨rfl, rfl⟩ := trodVars_none hV
  obtain ⟨d0, d1, rfl⟩ : ∃ d0 d1, ds = [d0, d1] := by
    have hl := Yi hA
    match ds, hl with
    | [d0, d1], _ => exact ⟨d0, d1, rfl⟩
  obtain ⟨Vs, hM, hrd⟩ := aaZ (r := .any) (b := base) LW.args (fun j t v ht hv => hval j t v (by simpa using ht) (by simpa using hv)) hA
  simp only [ZX] at hM
  obtain ⟨cs0, _, rfl, m0, cs1, _, rfl, m1, rfl⟩ := hM
  obtain ⟨v0, rfl, g0⟩ := O7 m0
  obtain ⟨x0, rfl, wx0⟩ := aii g0
  obtain ⟨v1, rfl, g1⟩ := O7 m1
  obtain ⟨x1, rfl, wx1⟩ := Rn g1
  clear hA0 hval0
  simp only [List.append_nil] at hW'
  have hlt : ∀ x ∈ p, x.block < W.heap.size := fun x hx => by simpa using hW'.lt x hx
  refine (ZV LW.mixed LW.fits (Gs LW.au9 x0 wx0 x1 (aif wx1)) rfl (vals := args) hrd).mono fun e W' ⟨he, hnx⟩ => ?_
  subst he
  refine ⟨_, rfl, _, _, _, [], p ++ [], [], hW', ?_, ?_, rfl, hnx.frame _, fun h => by cases h⟩
  · exact trodAll_mk1 ⟨1, rfl⟩
  · simp only [List.append_nil]
    exact Jq LW.laidOut hnx (by kernel_rfl) hA hlt

theorem fnExactReduceNode_holds : Rows.FnExactReduceNodeSaid :=
  OpenClaim.holds_of_wide 8 Tryz.f8 rfl rfl rfl rfl rfl rfl rfl ⟨rfl, rfl, rfl, rfl, rfl⟩ rfl rfl rfl rfl rfl (by kernel_rfl) Tryz.func8 (by kernel_rfl)
    (of_decide_eq_true (by kernel_rfl)) (by unfold Func.isWrapper; first | (rw [if_pos (by decide +kernel)]; kernel_rfl) | (rw [if_neg (by decide +kernel)]; exact ⟨rfl, rfl⟩))
    (fun os started H enc _ => LW.lifted os started H enc)
#print axioms fnExactReduceNode_holds
end Go.Proofs.YtbccjdlcbhknoaaGreat
