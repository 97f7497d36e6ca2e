/- For all arguments the law FnExactEliminateAll answers true, and its arguments read afterwards as before; no conditions. -/
import Derived.Test.YtbccjdlcbhknoabGreatRows
import Derived.Test.YtbccjdlcbhknoabGreatPart0
import Derived.Test.YtbccjdlcbhknoabGreatPart1
import Derived.Test.YtbccjdlcbhknoabGreatPart2
import Derived.Test.YtbccjdlcbhknoabGreatPart3
import Derived.Test.YtbccjdlcbhknoabGreatPart4
import Derived.Test.YtbccjdlcbhknoabGreatPart5
set_option linter.unusedSimpArgs false
set_option linter.unusedVariables false
namespace Go.Proofs.YtbccjdlcbhknoabGreat
open Go.ChangeShapes Go.WideShapes Go.ChangeAt Go.RowKit Go.Ml

def LW.fns : List (Nat × Nat × Go.Ml.Fn) := [(3, 382, iy),
  (18, 394, jm),
  (44, 398, nT),
  (43, 59, uY),
  (6, 393, jE),
  (28, 392, kY),
  (58, 389, gI),
  (103, 397, xO),
  (145, 399, tV),
  (147, 208, zM),
  (100, 66, qA),
  (142, 70, zk),
  (152, 71, wB),
  (30, 100, jO),
  (64, 123, zy),
  (115, 136, sU),
  (112, 150, zi),
  (151, 149, zf),
  (154, 148, uH),
  (150, 146, y8),
  (101, 67, BH),
  (153, 147, uG),
  (114, 135, uI),
  (113, 134, uJ),
  (62, 121, BJ),
  (102, 35, BI),
  (63, 122, sW),
  (61, 120, uM),
  (143, 238, xE),
  (97, 237, Ae),
  (144, 225, uo),
  (109, 197, xI),
  (105, 204, xG),
  (56, 193, rE),
  (99, 195, mJ),
  (98, 83, nI),
  (141, 99, qC),
  (140, 34, wJ),
  (108, 294, iG),
  (29, 189, oI),
  (60, 198, oD),
  (111, 206, lM),
  (110, 205, zF),
  (149, 209, y9),
  (27, 36, pU),
  (57, 53, nZ),
  (148, 30, uS),
  (164, 51, wR),
  (107, 203, oJ),
  (106, 201, oL),
  (146, 207, zJ),
  (104, 200, oM),
  (59, 227, nP),
  (46, 179, rO),
  (79, 188, kE),
  (136, 196, fG),
  (163, 202, pW),
  (135, 194, Ai),
  (26, 220, xB),
  (55, 235, Ah),
  (54, 222, qJ),
  (16, 385, gG),
  (41, 119, kD),
  (15, 57, oh),
  (10, 307, kF),
  (38, 28, kX),
  (78, 50, rJ),
  (134, 65, uZ),
  (11, 40, BO),
  (39, 55, uX),
  (13, 8, zV),
  (9, 270, jF),
  (34, 274, kZ),
  (72, 241, nS),
  (70, 182, jk),
  (123, 185, bK),
  (35, 131, iT),
  (76, 144, ku),
  (132, 138, sO),
  (130, 155, yZ),
  (160, 151, qx),
  (129, 154, yX),
  (162, 153, jq),
  (128, 152, yT),
  (161, 137, uD),
  (120, 69, l9),
  (131, 127, zo),
  (133, 139, nY),
  (119, 68, jY),
  (75, 143, BK),
  (74, 142, zC),
  (73, 141, zD),
  (127, 160, yV),
  (36, 132, DZ),
  (157, 102, jM),
  (167, 126, BF),
  (166, 125, uK),
  (156, 101, qE),
  (165, 124, qB),
  (33, 39, kU),
  (69, 54, jy),
  (155, 37, zS),
  (158, 32, uQ),
  (168, 52, uP),
  (121, 161, tu),
  (125, 159, zH),
  (124, 157, iU),
  (122, 156, iV),
  (117, 84, nG),
  (71, 109, rP),
  (126, 130, xM),
  (159, 140, pX),
  (169, 158, lU),
  (118, 111, iM),
  (32, 221, qL),
  (68, 236, Ag),
  (67, 180, xA),
  (66, 89, rD),
  (37, 183, jP),
  (77, 145, xk),
  (14, 118, mM),
  (19, 42, xU),
  (45, 58, pY),
  (17, 41, xg),
  (42, 56, pV),
  (12, 23, wY),
  (40, 16, Ad),
  (7, 21, wW),
  (31, 44, uj),
  (65, 48, wU),
  (116, 63, og),
  (8, 6, tZ),
  (5, 19, wV),
  (25, 43, Aa),
  (53, 46, BM),
  (96, 61, zW),
  (95, 60, uU)]

theorem LW.own : ownKnob Tryz.prog.godebug = none := by kernel_rfl
theorem LW.laidOut : laidOutB Tryz.prog = true := by kernel_rfl
theorem LW.mixed : Tryz.prog.follows .mixedOrders = true := by kernel_rfl
def LW.Fit (k : Nat) (F : Go.Ml.Fn) : Prop := (∃ fn, Tryz.prog.funcs[k]? = some fn ∧ ab4 Tryz.prog (O4 LW.fns) fn = some F) ∨ ∃ o, F.body = .lib o ∧ agq Tryz.prog k o
theorem LW.auF : LW.Fit 3 iy := Or.inl ⟨_, Tryz.func3, by kernel_rfl⟩
theorem LW.apX : LW.Fit 18 jm := Or.inl ⟨_, Tryz.func18, by kernel_rfl⟩
theorem LW.apY : LW.Fit 44 nT := Or.inl ⟨_, Tryz.func44, by kernel_rfl⟩
theorem LW.apZ : LW.Fit 43 uY := Or.inl ⟨_, Tryz.func43, by kernel_rfl⟩
theorem LW.auG : LW.Fit 6 jE := Or.inl ⟨_, Tryz.func6, by kernel_rfl⟩
theorem LW.ap0 : LW.Fit 28 kY := Or.inl ⟨_, Tryz.func28, by kernel_rfl⟩
theorem LW.ap1 : LW.Fit 58 gI := Or.inl ⟨_, Tryz.func58, by kernel_rfl⟩
theorem LW.ame : LW.Fit 103 xO := Or.inl ⟨_, Tryz.func103, by kernel_rfl⟩
theorem LW.amf : LW.Fit 145 tV := Or.inl ⟨_, Tryz.func145, by kernel_rfl⟩
theorem LW.amg : LW.Fit 147 zM := Or.inl ⟨_, Tryz.func147, by kernel_rfl⟩
theorem LW.amh : LW.Fit 100 qA := Or.inl ⟨_, Tryz.func100, by kernel_rfl⟩
theorem LW.ami : LW.Fit 142 zk := Or.inl ⟨_, Tryz.func142, by kernel_rfl⟩
theorem LW.amj : LW.Fit 152 wB := Or.inl ⟨_, Tryz.func152, by kernel_rfl⟩
theorem LW.ap2 : LW.Fit 30 jO := Or.inl ⟨_, Tryz.func30, by kernel_rfl⟩
theorem LW.ap3 : LW.Fit 64 zy := Or.inl ⟨_, Tryz.func64, by kernel_rfl⟩
theorem LW.amk : LW.Fit 115 sU := Or.inl ⟨_, Tryz.func115, by kernel_rfl⟩
theorem LW.aml : LW.Fit 112 zi := Or.inl ⟨_, Tryz.func112, by kernel_rfl⟩
theorem LW.amm : LW.Fit 151 zf := Or.inl ⟨_, Tryz.func151, by kernel_rfl⟩
theorem LW.amn : LW.Fit 154 uH := Or.inl ⟨_, Tryz.func154, by kernel_rfl⟩
theorem LW.amo : LW.Fit 150 y8 := Or.inl ⟨_, Tryz.func150, by kernel_rfl⟩
theorem LW.amq : LW.Fit 101 BH := Or.inl ⟨_, Tryz.func101, by kernel_rfl⟩
theorem LW.amr : LW.Fit 153 uG := Or.inl ⟨_, Tryz.func153, by kernel_rfl⟩
theorem LW.ams : LW.Fit 114 uI := Or.inl ⟨_, Tryz.func114, by kernel_rfl⟩
theorem LW.amu : LW.Fit 113 uJ := Or.inl ⟨_, Tryz.func113, by kernel_rfl⟩
theorem LW.ap4 : LW.Fit 62 BJ := Or.inl ⟨_, Tryz.func62, by kernel_rfl⟩
theorem LW.amv : LW.Fit 102 BI := Or.inl ⟨_, Tryz.func102, by kernel_rfl⟩
theorem LW.ap5 : LW.Fit 63 sW := Or.inl ⟨_, Tryz.func63, by kernel_rfl⟩
theorem LW.ap6 : LW.Fit 61 uM := Or.inl ⟨_, Tryz.func61, by kernel_rfl⟩
theorem LW.amw : LW.Fit 143 xE := Or.inl ⟨_, Tryz.func143, by kernel_rfl⟩
theorem LW.ap7 : LW.Fit 97 Ae := Or.inl ⟨_, Tryz.func97, by kernel_rfl⟩
theorem LW.amx : LW.Fit 144 uo := Or.inl ⟨_, Tryz.func144, by kernel_rfl⟩
theorem LW.amy : LW.Fit 109 xI := Or.inl ⟨_, Tryz.func109, by kernel_rfl⟩
theorem LW.amz : LW.Fit 105 xG := Or.inl ⟨_, Tryz.func105, by kernel_rfl⟩
theorem LW.ap8 : LW.Fit 56 rE := Or.inl ⟨_, Tryz.func56, by kernel_rfl⟩
theorem LW.ap9 : LW.Fit 99 mJ := Or.inl ⟨_, Tryz.func99, by kernel_rfl⟩
theorem LW.aqa : LW.Fit 98 nI := Or.inl ⟨_, Tryz.func98, by kernel_rfl⟩
theorem LW.amA : LW.Fit 141 qC := Or.inl ⟨_, Tryz.func141, by kernel_rfl⟩
theorem LW.amB : LW.Fit 140 wJ := Or.inl ⟨_, Tryz.func140, by kernel_rfl⟩
theorem LW.amC : LW.Fit 108 iG := Or.inl ⟨_, Tryz.func108, by kernel_rfl⟩
theorem LW.aqb : LW.Fit 29 oI := Or.inl ⟨_, Tryz.func29, by kernel_rfl⟩
theorem LW.aqc : LW.Fit 60 oD := Or.inl ⟨_, Tryz.func60, by kernel_rfl⟩
theorem LW.amD : LW.Fit 111 lM := Or.inl ⟨_, Tryz.func111, by kernel_rfl⟩
theorem LW.amE : LW.Fit 110 zF := Or.inl ⟨_, Tryz.func110, by kernel_rfl⟩
theorem LW.amF : LW.Fit 149 y9 := Or.inl ⟨_, Tryz.func149, by kernel_rfl⟩
theorem LW.aqd : LW.Fit 27 pU := Or.inl ⟨_, Tryz.func27, by kernel_rfl⟩
theorem LW.aqe : LW.Fit 57 nZ := Or.inl ⟨_, Tryz.func57, by kernel_rfl⟩
theorem LW.amG : LW.Fit 148 uS := Or.inl ⟨_, Tryz.func148, by kernel_rfl⟩
theorem LW.amH : LW.Fit 164 wR := Or.inl ⟨_, Tryz.func164, by kernel_rfl⟩
theorem LW.amI : LW.Fit 107 oJ := Or.inl ⟨_, Tryz.func107, by kernel_rfl⟩
theorem LW.amJ : LW.Fit 106 oL := Or.inl ⟨_, Tryz.func106, by kernel_rfl⟩
theorem LW.amK : LW.Fit 146 zJ := Or.inl ⟨_, Tryz.func146, by kernel_rfl⟩
theorem LW.amL : LW.Fit 104 oM := Or.inl ⟨_, Tryz.func104, by kernel_rfl⟩
theorem LW.aqf : LW.Fit 59 nP := Or.inl ⟨_, Tryz.func59, by kernel_rfl⟩
theorem LW.aqg : LW.Fit 46 rO := Or.inl ⟨_, Tryz.func46, by kernel_rfl⟩
theorem LW.aqh : LW.Fit 79 kE := Or.inl ⟨_, Tryz.func79, by kernel_rfl⟩
theorem LW.amM : LW.Fit 136 fG := Or.inl ⟨_, Tryz.func136, by kernel_rfl⟩
theorem LW.amN : LW.Fit 163 pW := Or.inl ⟨_, Tryz.func163, by kernel_rfl⟩
theorem LW.amO : LW.Fit 135 Ai := Or.inl ⟨_, Tryz.func135, by kernel_rfl⟩
theorem LW.aqi : LW.Fit 26 xB := Or.inl ⟨_, Tryz.func26, by kernel_rfl⟩
theorem LW.aqj : LW.Fit 55 Ah := Or.inl ⟨_, Tryz.func55, by kernel_rfl⟩
theorem LW.aqk : LW.Fit 54 qJ := Or.inl ⟨_, Tryz.func54, by kernel_rfl⟩
theorem LW.aql : LW.Fit 16 gG := Or.inl ⟨_, Tryz.func16, by kernel_rfl⟩
theorem LW.aqm : LW.Fit 41 kD := Or.inl ⟨_, Tryz.func41, by kernel_rfl⟩
theorem LW.aqn : LW.Fit 15 oh := Or.inl ⟨_, Tryz.func15, by kernel_rfl⟩
theorem LW.aqo : LW.Fit 10 kF := Or.inl ⟨_, Tryz.func10, by kernel_rfl⟩
theorem LW.aqp : LW.Fit 38 kX := Or.inl ⟨_, Tryz.func38, by kernel_rfl⟩
theorem LW.aqr : LW.Fit 78 rJ := Or.inl ⟨_, Tryz.func78, by kernel_rfl⟩
theorem LW.amP : LW.Fit 134 uZ := Or.inl ⟨_, Tryz.func134, by kernel_rfl⟩
theorem LW.aqs : LW.Fit 11 BO := Or.inl ⟨_, Tryz.func11, by kernel_rfl⟩
theorem LW.aqt : LW.Fit 39 uX := Or.inl ⟨_, Tryz.func39, by kernel_rfl⟩
theorem LW.aqu : LW.Fit 13 zV := Or.inl ⟨_, Tryz.func13, by kernel_rfl⟩
theorem LW.auU : LW.Fit 9 jF := Or.inl ⟨_, Tryz.func9, by kernel_rfl⟩
theorem LW.aqv : LW.Fit 34 kZ := Or.inl ⟨_, Tryz.func34, by kernel_rfl⟩
theorem LW.aqw : LW.Fit 72 nS := Or.inl ⟨_, Tryz.func72, by kernel_rfl⟩
theorem LW.aqx : LW.Fit 70 jk := Or.inl ⟨_, Tryz.func70, by kernel_rfl⟩
theorem LW.amQ : LW.Fit 123 bK := Or.inl ⟨_, Tryz.func123, by kernel_rfl⟩
theorem LW.aqy : LW.Fit 35 iT := Or.inl ⟨_, Tryz.func35, by kernel_rfl⟩
theorem LW.aqz : LW.Fit 76 ku := Or.inl ⟨_, Tryz.func76, by kernel_rfl⟩
theorem LW.amR : LW.Fit 132 sO := Or.inl ⟨_, Tryz.func132, by kernel_rfl⟩
theorem LW.amS : LW.Fit 130 yZ := Or.inl ⟨_, Tryz.func130, by kernel_rfl⟩
theorem LW.amT : LW.Fit 160 qx := Or.inl ⟨_, Tryz.func160, by kernel_rfl⟩
theorem LW.amU : LW.Fit 129 yX := Or.inl ⟨_, Tryz.func129, by kernel_rfl⟩
theorem LW.amV : LW.Fit 162 jq := Or.inl ⟨_, Tryz.func162, by kernel_rfl⟩
theorem LW.amW : LW.Fit 128 yT := Or.inl ⟨_, Tryz.func128, by kernel_rfl⟩
theorem LW.amX : LW.Fit 161 uD := Or.inl ⟨_, Tryz.func161, by kernel_rfl⟩
theorem LW.amY : LW.Fit 120 l9 := Or.inl ⟨_, Tryz.func120, by kernel_rfl⟩
theorem LW.amZ : LW.Fit 131 zo := Or.inl ⟨_, Tryz.func131, by kernel_rfl⟩
theorem LW.am0 : LW.Fit 133 nY := Or.inl ⟨_, Tryz.func133, by kernel_rfl⟩
theorem LW.am1 : LW.Fit 119 jY := Or.inl ⟨_, Tryz.func119, by kernel_rfl⟩
theorem LW.aqA : LW.Fit 75 BK := Or.inl ⟨_, Tryz.func75, by kernel_rfl⟩
theorem LW.aqB : LW.Fit 74 zC := Or.inl ⟨_, Tryz.func74, by kernel_rfl⟩
theorem LW.aqC : LW.Fit 73 zD := Or.inl ⟨_, Tryz.func73, by kernel_rfl⟩
theorem LW.am2 : LW.Fit 127 yV := Or.inl ⟨_, Tryz.func127, by kernel_rfl⟩
theorem LW.aqD : LW.Fit 36 DZ := Or.inl ⟨_, Tryz.func36, by kernel_rfl⟩
theorem LW.am3 : LW.Fit 157 jM := Or.inl ⟨_, Tryz.func157, by kernel_rfl⟩
theorem LW.am4 : LW.Fit 167 BF := Or.inl ⟨_, Tryz.func167, by kernel_rfl⟩
theorem LW.am5 : LW.Fit 166 uK := Or.inl ⟨_, Tryz.func166, by kernel_rfl⟩
theorem LW.am6 : LW.Fit 156 qE := Or.inl ⟨_, Tryz.func156, by kernel_rfl⟩
theorem LW.am7 : LW.Fit 165 qB := Or.inl ⟨_, Tryz.func165, by kernel_rfl⟩
theorem LW.aqE : LW.Fit 33 kU := Or.inl ⟨_, Tryz.func33, by kernel_rfl⟩
theorem LW.aqF : LW.Fit 69 jy := Or.inl ⟨_, Tryz.func69, by kernel_rfl⟩
theorem LW.am8 : LW.Fit 155 zS := Or.inl ⟨_, Tryz.func155, by kernel_rfl⟩
theorem LW.am9 : LW.Fit 158 uQ := Or.inl ⟨_, Tryz.func158, by kernel_rfl⟩
theorem LW.ana : LW.Fit 168 uP := Or.inl ⟨_, Tryz.func168, by kernel_rfl⟩
theorem LW.anb : LW.Fit 121 tu := Or.inl ⟨_, Tryz.func121, by kernel_rfl⟩
theorem LW.anc : LW.Fit 125 zH := Or.inl ⟨_, Tryz.func125, by kernel_rfl⟩
theorem LW.ane : LW.Fit 124 iU := Or.inl ⟨_, Tryz.func124, by kernel_rfl⟩
theorem LW.anf : LW.Fit 122 iV := Or.inl ⟨_, Tryz.func122, by kernel_rfl⟩
theorem LW.ang : LW.Fit 117 nG := Or.inl ⟨_, Tryz.func117, by kernel_rfl⟩
theorem LW.aqG : LW.Fit 71 rP := Or.inl ⟨_, Tryz.func71, by kernel_rfl⟩
theorem LW.anh : LW.Fit 126 xM := Or.inl ⟨_, Tryz.func126, by kernel_rfl⟩
theorem LW.ani : LW.Fit 159 pX := Or.inl ⟨_, Tryz.func159, by kernel_rfl⟩
theorem LW.anj : LW.Fit 169 lU := Or.inl ⟨_, Tryz.func169, by kernel_rfl⟩
theorem LW.ank : LW.Fit 118 iM := Or.inl ⟨_, Tryz.func118, by kernel_rfl⟩
theorem LW.aqH : LW.Fit 32 qL := Or.inl ⟨_, Tryz.func32, by kernel_rfl⟩
theorem LW.aqI : LW.Fit 68 Ag := Or.inl ⟨_, Tryz.func68, by kernel_rfl⟩
theorem LW.aqJ : LW.Fit 67 xA := Or.inl ⟨_, Tryz.func67, by kernel_rfl⟩
theorem LW.aqK : LW.Fit 66 rD := Or.inl ⟨_, Tryz.func66, by kernel_rfl⟩
theorem LW.aqL : LW.Fit 37 jP := Or.inl ⟨_, Tryz.func37, by kernel_rfl⟩
theorem LW.aqM : LW.Fit 77 xk := Or.inl ⟨_, Tryz.func77, by kernel_rfl⟩
theorem LW.aqN : LW.Fit 14 mM := Or.inl ⟨_, Tryz.func14, by kernel_rfl⟩
theorem LW.aqO : LW.Fit 19 xU := Or.inl ⟨_, Tryz.func19, by kernel_rfl⟩
theorem LW.aqP : LW.Fit 45 pY := Or.inl ⟨_, Tryz.func45, by kernel_rfl⟩
theorem LW.aqQ : LW.Fit 17 xg := Or.inl ⟨_, Tryz.func17, by kernel_rfl⟩
theorem LW.aqR : LW.Fit 42 pV := Or.inl ⟨_, Tryz.func42, by kernel_rfl⟩
theorem LW.aqS : LW.Fit 12 wY := Or.inl ⟨_, Tryz.func12, by kernel_rfl⟩
theorem LW.aqT : LW.Fit 40 Ad := Or.inl ⟨_, Tryz.func40, by kernel_rfl⟩
theorem LW.au4 : LW.Fit 7 wW := Or.inl ⟨_, Tryz.func7, by kernel_rfl⟩
theorem LW.aqU : LW.Fit 31 uj := Or.inl ⟨_, Tryz.func31, by kernel_rfl⟩
theorem LW.aqV : LW.Fit 65 wU := Or.inl ⟨_, Tryz.func65, by kernel_rfl⟩
theorem LW.anl : LW.Fit 116 og := Or.inl ⟨_, Tryz.func116, by kernel_rfl⟩
theorem LW.au6 : LW.Fit 8 tZ := Or.inl ⟨_, Tryz.func8, by kernel_rfl⟩
theorem LW.au7 : LW.Fit 5 wV := Or.inl ⟨_, Tryz.func5, by kernel_rfl⟩
theorem LW.aqW : LW.Fit 25 Aa := Or.inl ⟨_, Tryz.func25, by kernel_rfl⟩
theorem LW.aqX : LW.Fit 53 BM := Or.inl ⟨_, Tryz.func53, by kernel_rfl⟩
theorem LW.aqY : LW.Fit 96 zW := Or.inl ⟨_, Tryz.func96, by kernel_rfl⟩
theorem LW.aqZ : LW.Fit 95 uU := Or.inl ⟨_, Tryz.func95, by kernel_rfl⟩
theorem LW.all : agB (fun x : Nat × Nat × Go.Ml.Fn => LW.Fit x.1 x.2.2) LW.fns :=
  ⟨LW.auF, LW.apX, LW.apY, LW.apZ, LW.auG, LW.ap0, LW.ap1, LW.ame, LW.amf, LW.amg, LW.amh, LW.ami, LW.amj, LW.ap2, LW.ap3, LW.amk, LW.aml, LW.amm, LW.amn, LW.amo, LW.amq, LW.amr, LW.ams, LW.amu, LW.ap4, LW.amv, LW.ap5, LW.ap6, LW.amw, LW.ap7, LW.amx, LW.amy, LW.amz, LW.ap8, LW.ap9, LW.aqa, LW.amA, LW.amB, LW.amC, LW.aqb, LW.aqc, LW.amD, LW.amE, LW.amF, LW.aqd, LW.aqe, LW.amG, LW.amH, LW.amI, LW.amJ, LW.amK, LW.amL, LW.aqf, LW.aqg, LW.aqh, LW.amM, LW.amN, LW.amO, LW.aqi, LW.aqj, LW.aqk, LW.aql, LW.aqm, LW.aqn, LW.aqo, LW.aqp, LW.aqr, LW.amP, LW.aqs, LW.aqt, LW.aqu, LW.auU, LW.aqv, LW.aqw, LW.aqx, LW.amQ, LW.aqy, LW.aqz, LW.amR, LW.amS, LW.amT, LW.amU, LW.amV, LW.amW, LW.amX, LW.amY, LW.amZ, LW.am0, LW.am1, LW.aqA, LW.aqB, LW.aqC, LW.am2, LW.aqD, LW.am3, LW.am4, LW.am5, LW.am6, LW.am7, LW.aqE, LW.aqF, LW.am8, LW.am9, LW.ana, LW.anb, LW.anc, LW.ane, LW.anf, LW.ang, LW.aqG, LW.anh, LW.ani, LW.anj, LW.ank, LW.aqH, LW.aqI, LW.aqJ, LW.aqK, LW.aqL, LW.aqM, LW.aqN, LW.aqO, LW.aqP, LW.aqQ, LW.aqR, LW.aqS, LW.aqT, LW.au4, LW.aqU, LW.aqV, LW.anl, LW.au6, LW.au7, LW.aqW, LW.aqX, LW.aqY, LW.aqZ, trivial⟩
set_option maxRecDepth 100000 in
theorem LW.fits : Fits Tryz.prog (O4 LW.fns) (aW LW.fns) := ajd (by decide) fun x hx => LW.all.mem x hx

theorem LW.d6 : oQ (aW LW.fns) := ⟨rfl⟩
theorem LW.d8 : uf (aW LW.fns) := ⟨rfl⟩
theorem LW.d61 : zX (aW LW.fns) := ⟨rfl⟩
theorem LW.d60 : Bg (aW LW.fns) := ⟨rfl, LW.d61⟩
theorem LW.d46 : Gv (aW LW.fns) := ⟨rfl, LW.d60, LW.d61⟩
theorem LW.d43 : EI (aW LW.fns) := ⟨rfl, LW.d46⟩
theorem LW.d19 : C9 (aW LW.fns) := ⟨rfl, LW.d43⟩
theorem LW.d63 : uV (aW LW.fns) := ⟨rfl, LW.d6⟩
theorem LW.d48 : BN (aW LW.fns) := ⟨rfl, LW.d6, LW.d63⟩
theorem LW.d44 : Ac (aW LW.fns) := ⟨rfl, LW.d48⟩
theorem LW.d21 : wX (aW LW.fns) := ⟨rfl, LW.d44⟩
theorem LW.d55 : Bh (aW LW.fns) := ⟨rfl, LW.d8⟩
theorem LW.d40 : rG (aW LW.fns) := ⟨rfl, LW.d8, LW.d55⟩
theorem LW.d16 : EJ (aW LW.fns) := ⟨rfl, LW.d40⟩
theorem LW.d23 : Df (aW LW.fns) := ⟨rfl, LW.d16⟩
theorem LW.d57 : iD (aW LW.fns) := ⟨rfl⟩
theorem LW.d56 : wZ (aW LW.fns) := ⟨rfl, LW.d57⟩
theorem LW.d41 : Dh (aW LW.fns) := ⟨rfl, LW.d56, LW.d57⟩
theorem LW.d59 : kQ (aW LW.fns) := ⟨rfl⟩
theorem LW.d58 : xR (aW LW.fns) := ⟨rfl, LW.d59⟩
theorem LW.d42 : DI (aW LW.fns) := ⟨rfl, LW.d58, LW.d59⟩
theorem LW.avb : yM (aW LW.fns) := ⟨rfl, LW.d57⟩
theorem LW.d68 : eG (aW LW.fns) := ⟨rfl⟩
theorem LW.d69 : jU (aW LW.fns) := ⟨rfl⟩
theorem LW.d54 : uO (aW LW.fns) := ⟨rfl, LW.d68, LW.d69⟩
theorem LW.d39 : fF (aW LW.fns) := ⟨rfl, LW.d54⟩
theorem LW.YZ : fE (aW LW.fns) := ⟨rfl⟩
theorem LW.aq2 : yU (aW LW.fns) := ⟨rfl⟩
theorem LW.anm : mD (aW LW.fns) := ⟨rfl⟩
theorem LW.aq3 : yY (aW LW.fns) := ⟨rfl, LW.anm⟩
theorem LW.avd : Eh (aW LW.fns) := ⟨rfl⟩
theorem LW.ave : Et (aW LW.fns) := ⟨rfl, LW.d68, LW.aq2, LW.aq3, LW.avd⟩
theorem LW.aq4 : y7 (aW LW.fns) := ⟨rfl, LW.anm⟩
theorem LW.ano : sV (aW LW.fns) := ⟨rfl, LW.d68, LW.aq4⟩
theorem LW.anp : qY (aW LW.fns) := ⟨rfl⟩
theorem LW.aq5 : uF (aW LW.fns) := ⟨rfl⟩
theorem LW.avf : AO (aW LW.fns) := ⟨rfl⟩
theorem LW.aq6 : sQ (aW LW.fns) := ⟨rfl, LW.d69, LW.aq5, LW.anm, LW.aq2, LW.avf, LW.aq3, LW.aq4⟩
theorem LW.anq : kN (aW LW.fns) := ⟨rfl⟩
theorem LW.aq7 : zq (aW LW.fns) := ⟨rfl, LW.d69, LW.aq5, LW.aq6, LW.anq⟩
theorem LW.anr : mG (aW LW.fns) := ⟨rfl, LW.d68, LW.aq7, LW.aq6⟩
theorem LW.aaY : eP (aW LW.fns) := ⟨rfl, LW.YZ, LW.ave, LW.ano, LW.anp, LW.anr⟩
theorem LW.avg : Di (aW LW.fns) := ⟨rfl, LW.anq⟩
theorem LW.avh : nN (aW LW.fns) := ⟨rfl, LW.avg⟩
theorem LW.d37 : zT (aW LW.fns) := ⟨rfl⟩
theorem LW.aq8 : BG (aW LW.fns) := ⟨rfl⟩
theorem LW.avi : AY (aW LW.fns) := ⟨rfl, LW.aq8⟩
theorem LW.ant : wG (aW LW.fns) := ⟨rfl, LW.avi, LW.aq8, LW.aq7⟩
theorem LW.avj : CW (aW LW.fns) := ⟨rfl, LW.YZ⟩
theorem LW.aq9 : wI (aW LW.fns) := ⟨rfl, LW.ant, LW.avj⟩
theorem LW.d84 : nH (aW LW.fns) := ⟨rfl, LW.d37, LW.aq9, LW.ant⟩
theorem LW.ara : nJ (aW LW.fns) := ⟨rfl⟩
theorem LW.d89 : yI (aW LW.fns) := ⟨rfl, LW.d84, LW.ara⟩
theorem LW.avk : Dk (aW LW.fns) := ⟨rfl⟩
theorem LW.avl : EK (aW LW.fns) := ⟨rfl⟩
theorem LW.avm : Dn (aW LW.fns) := ⟨rfl, LW.d89, LW.avk, LW.avl⟩
theorem LW.arb : lJ (aW LW.fns) := ⟨rfl, LW.YZ, LW.ano, LW.anp, LW.anr⟩
theorem LW.anu : jQ (aW LW.fns) := ⟨rfl, LW.YZ, LW.ano, LW.anp, LW.anr⟩
theorem LW.avn : sD (aW LW.fns) := ⟨rfl, LW.aaY, LW.anu⟩
theorem LW.ard : tC (aW LW.fns) := ⟨rfl, LW.d68, LW.YZ, LW.anq⟩
theorem LW.arf : tH (aW LW.fns) := ⟨rfl, LW.aaY, LW.ard⟩
theorem LW.avo : xK (aW LW.fns) := ⟨rfl, LW.aaY, LW.YZ, LW.arb, LW.anu, LW.avn, LW.arf⟩
theorem LW.avp : Dv (aW LW.fns) := ⟨rfl, LW.d39, LW.ara, LW.avo⟩
theorem LW.avq : yP (aW LW.fns) := ⟨rfl, LW.d39, LW.avp, LW.aaY, LW.YZ⟩
theorem LW.d52 : Bc (aW LW.fns) := ⟨rfl⟩
theorem LW.d32 : Bd (aW LW.fns) := ⟨rfl, LW.d52⟩
theorem LW.avr : kL (aW LW.fns) := ⟨rfl, LW.d32, LW.d37, LW.d39, LW.aq9, LW.ant, LW.aaY⟩
theorem LW.avs : qN (aW LW.fns) := ⟨rfl, LW.d39, LW.d84, LW.aaY, LW.arb, LW.anu, LW.arf, LW.ard, LW.avr⟩
theorem LW.avt : vJ (aW LW.fns) := ⟨rfl⟩
theorem LW.avu : xQ (aW LW.fns) := ⟨rfl, LW.avq, LW.avs, LW.avt⟩
theorem LW.avv : sH (aW LW.fns) := ⟨rfl, LW.d39, LW.aaY, LW.YZ, LW.avh, LW.avm, LW.avu⟩
theorem LW.d65 : Bj (aW LW.fns) := ⟨rfl, LW.d40⟩
theorem LW.d50 : yK (aW LW.fns) := ⟨rfl, LW.d65⟩
theorem LW.d28 : qI (aW LW.fns) := ⟨rfl, LW.d40, LW.d50⟩
theorem LW.avw : pJ (aW LW.fns) := ⟨rfl, LW.d28⟩
theorem LW.avx : vH (aW LW.fns) := ⟨rfl, LW.d57⟩
theorem LW.avy : mO (aW LW.fns) := ⟨rfl, LW.d57, LW.avx⟩
theorem LW.d71 : jd (aW LW.fns) := ⟨rfl⟩
theorem LW.d70 : En (aW LW.fns) := ⟨rfl, LW.d71⟩
theorem LW.d66 : jZ (aW LW.fns) := ⟨rfl, LW.d70⟩
theorem LW.d67 : qW (aW LW.fns) := ⟨rfl⟩
theorem LW.d53 : Ba (aW LW.fns) := ⟨rfl, LW.d66, LW.d67⟩
theorem LW.d36 : ig (aW LW.fns) := ⟨rfl, LW.d53⟩
theorem LW.d35 : qX (aW LW.fns) := ⟨rfl⟩
theorem LW.anv : wC (aW LW.fns) := ⟨rfl, LW.d35⟩
theorem LW.avz : AZ (aW LW.fns) := ⟨rfl, LW.anv⟩
theorem LW.anw : sZ (aW LW.fns) := ⟨rfl⟩
theorem LW.ajg : ou (aW LW.fns) := ⟨rfl⟩
theorem LW.avA : AX (aW LW.fns) := ⟨rfl, LW.anv, LW.ajg⟩
theorem LW.avC : AV (aW LW.fns) := ⟨rfl, LW.d67⟩
theorem LW.avD : AQ (aW LW.fns) := ⟨rfl, LW.d71⟩
theorem LW.agC : lH (aW LW.fns) := ⟨rfl, LW.d71⟩
theorem LW.avE : AU (aW LW.fns) := ⟨rfl, LW.d67, LW.ajg, LW.agC⟩
theorem LW.arj : zh (aW LW.fns) := ⟨rfl, LW.d71⟩
theorem LW.ark : zu (aW LW.fns) := ⟨rfl, LW.d67, LW.d71, LW.ajg, LW.avD, LW.avE, LW.arj, LW.agC⟩
theorem LW.arl : zA (aW LW.fns) := ⟨rfl, LW.avA, LW.avC, LW.ark⟩
theorem LW.SB : eU (aW LW.fns) := ⟨rfl, LW.avz, LW.anv, LW.anw, LW.arl⟩
theorem LW.avF : Em (aW LW.fns) := ⟨rfl⟩
theorem LW.avG : Eu (aW LW.fns) := ⟨rfl, LW.d66, LW.ajg, LW.arj, LW.avF⟩
theorem LW.anx : tJ (aW LW.fns) := ⟨rfl, LW.d66, LW.d71, LW.anw, LW.arl, LW.ark⟩
theorem LW.arn : zK (aW LW.fns) := ⟨rfl, LW.d66, LW.anw, LW.agC, LW.avG, LW.anx⟩
theorem LW.adq : jR (aW LW.fns) := ⟨rfl, LW.SB, LW.arn⟩
theorem LW.d34 : wK (aW LW.fns) := ⟨rfl, LW.d35⟩
theorem LW.d99 : wH (aW LW.fns) := ⟨rfl, LW.SB⟩
theorem LW.d83 : kC (aW LW.fns) := ⟨rfl, LW.d34, LW.d99, LW.SB⟩
theorem LW.aro : wP (aW LW.fns) := ⟨rfl⟩
theorem LW.adr : gu (aW LW.fns) := ⟨rfl, LW.d83, LW.aro⟩
theorem LW.arp : Af (aW LW.fns) := ⟨rfl⟩
theorem LW.avI : xw (aW LW.fns) := ⟨rfl, LW.adr, LW.arp⟩
theorem LW.avJ : EM (aW LW.fns) := ⟨rfl⟩
theorem LW.avK : Dl (aW LW.fns) := ⟨rfl, LW.adr, LW.avI, LW.avJ⟩
theorem LW.arq : xH (aW LW.fns) := ⟨rfl⟩
theorem LW.ajh : mQ (aW LW.fns) := ⟨rfl, LW.arq⟩
theorem LW.avL : EP (aW LW.fns) := ⟨rfl, LW.ajh⟩
theorem LW.ars : zQ (aW LW.fns) := ⟨rfl, LW.SB, LW.agC, LW.anx⟩
theorem LW.avM : Ey (aW LW.fns) := ⟨rfl, LW.agC, LW.anx⟩
theorem LW.anz : tK (aW LW.fns) := ⟨rfl, LW.SB, LW.avM⟩
theorem LW.avN : xu (aW LW.fns) := ⟨rfl, LW.adq, LW.anz⟩
theorem LW.aru : zN (aW LW.fns) := ⟨rfl, LW.d66⟩
theorem LW.arv : zO (aW LW.fns) := ⟨rfl, LW.SB, LW.arn, LW.aru⟩
theorem LW.avO : xJ (aW LW.fns) := ⟨rfl, LW.d83, LW.SB, LW.adq, LW.ars, LW.anz, LW.avN, LW.arv⟩
theorem LW.avP : Du (aW LW.fns) := ⟨rfl, LW.d36, LW.d83, LW.adr, LW.avL, LW.aro, LW.avO, LW.ajh⟩
theorem LW.avQ : yO (aW LW.fns) := ⟨rfl, LW.d36, LW.SB, LW.avP, LW.adq⟩
theorem LW.avR : vI (aW LW.fns) := ⟨rfl, LW.adr, LW.ajh⟩
theorem LW.d51 : CX (aW LW.fns) := ⟨rfl⟩
theorem LW.d30 : Bf (aW LW.fns) := ⟨rfl, LW.d51⟩
theorem LW.avS : kM (aW LW.fns) := ⟨rfl, LW.d30, LW.d34, LW.d35, LW.d36, LW.d99, LW.SB, LW.adq⟩
theorem LW.avT : EN (aW LW.fns) := ⟨rfl, LW.adr, LW.ajh⟩
theorem LW.avU : Dp (aW LW.fns) := ⟨rfl, LW.arp⟩
theorem LW.avV : ED (aW LW.fns) := ⟨rfl, LW.SB, LW.aru⟩
theorem LW.avW : DC (aW LW.fns) := ⟨rfl, LW.avT, LW.avU, LW.avV⟩
theorem LW.avX : qO (aW LW.fns) := ⟨rfl, LW.d35, LW.d36, LW.adq, LW.adr, LW.ars, LW.anz, LW.arv, LW.arq, LW.avS, LW.avW⟩
theorem LW.avY : xP (aW LW.fns) := ⟨rfl, LW.avQ, LW.avR, LW.avX⟩
theorem LW.avZ : sG (aW LW.fns) := ⟨rfl, LW.d36, LW.SB, LW.adq, LW.avK, LW.avY⟩
theorem LW.av1 : vM (aW LW.fns) := ⟨rfl, LW.d59⟩
theorem LW.av2 : mX (aW LW.fns) := ⟨rfl, LW.d59, LW.av1⟩
theorem LW.av3 : qQ (aW LW.fns) := ⟨rfl, LW.d6, LW.d8, LW.d19, LW.d21, LW.d23, LW.d40, LW.d41, LW.d42, LW.d57, LW.avb, LW.avv, LW.avw, LW.avy, LW.avZ, LW.av2⟩

theorem LW.args : Sz Tryz.prog [22, 23] [(false, [.sl amc]), (false, [shI])] :=
  ⟨_, _, rfl, by kernel_rfl, by kernel_rfl, ⟨_, _, rfl, by kernel_rfl, by kernel_rfl, rfl⟩⟩

set_option maxRecDepth 100000 in
theorem LW.lifted (os : Os) (started : os.Started) (H : Type) (enc : TypeId × Value → H) :
    ReturnsInHanded {} Tryz.checked os 3 .any (Rows.fnExactEliminateAllSpec.pre6 enc Tryz.prog Tryz.f3 Rows.fnExactEliminateAllRow.domain false) (Rows.fnExactEliminateAllSpec.post enc Tryz.prog Tryz.f3 false true false false) := by
  refine returnsInHanded_of_change (C := Tryz.checked) LW.own started (by kernel_rfl) Tryz.func3
    (ChangeSpec.witness6 (enc := enc) (C := Tryz.checked) false ⟨#[], #[.slice none 0 0, .slice none 0 0], []⟩ 8 (by kernel_rfl) (by kernel_rfl) (by kernel_rfl) (by kernel_rfl)) ?_
  intro W base args ds gs before hval0 hW hcnd _
  have hval : ∀ (j : Nat) t v, Tryz.f3.params[j]? = some t → args[j]? = some v → Value.okWide Tryz.prog W .any base t v := hval0
  have hW' := hW
  obtain ⟨p, q, hA0, hV, rfl, hfz, hnd⟩ := hW
  have hA : DataW.TrodAll enc Tryz.prog W 0 (fun _ => true) true Tryz.f3.params.toList args.toList ds p := hA0
  rw [Tryz.params3] at hA hval
  obtain ⟨rfl, rfl⟩ := trodVars_none hV
  obtain ⟨d0, d1, rfl⟩ : ∃ d0 d1, ds = [d0, d1] := by
    have hl := YX hA
    match ds, hl with
    | [d0, d1], _ => exact ⟨d0, d1, rfl⟩
  obtain ⟨Vs, hM, hrd⟩ := abV (r := .any) (b := base) LW.args (fun j t v ht hv => hval j t v (by simpa using ht) (by simpa using hv)) hA
  simp only [aaX] at hM
  obtain ⟨cs0, _, rfl, m0, cs1, _, rfl, m1, rfl⟩ := hM
  obtain ⟨v0, rfl, g0⟩ := PW m0
  obtain ⟨x0, rfl, wx0⟩ := ajf g0
  obtain ⟨v1, rfl, g1⟩ := PW m1
  obtain ⟨x1, rfl, wx1⟩ := SA g1
  clear hA0 hval0
  simp only [List.append_nil] at hW'
  have hlt : ∀ x ∈ p, x.block < W.heap.size := fun x hx => by simpa using hW'.lt x hx
  refine (aaV LW.mixed LW.fits (ET LW.av3 x0 wx0 x1 wx1) rfl (vals := args) hrd).mono fun e W' ⟨he, hnx⟩ => ?_
  subst he
  refine ⟨_, rfl, _, _, _, [], p ++ [], [], hW', ?_, ?_, rfl, hnx.frame _, fun h => by cases h⟩
  · exact trodAll_mk1 ⟨1, rfl⟩
  · simp only [List.append_nil]
    exact JH LW.laidOut hnx (by kernel_rfl) hA hlt

theorem fnExactEliminateAll_holds : Rows.FnExactEliminateAllSaid :=
  OpenClaim.holds_of_wide 3 Tryz.f3 rfl rfl rfl rfl rfl rfl rfl ⟨rfl, rfl, rfl, rfl, rfl⟩ rfl rfl rfl rfl rfl (by kernel_rfl) Tryz.func3 (by kernel_rfl)
    (of_decide_eq_true (by kernel_rfl)) (by unfold Func.isWrapper; first | (rw [if_pos (by decide +kernel)]; kernel_rfl) | (rw [if_neg (by decide +kernel)]; exact ⟨rfl, rfl⟩))
    (fun os started H enc _ => LW.lifted os started H enc)
#print axioms fnExactEliminateAll_holds
end Go.Proofs.YtbccjdlcbhknoabGreat
