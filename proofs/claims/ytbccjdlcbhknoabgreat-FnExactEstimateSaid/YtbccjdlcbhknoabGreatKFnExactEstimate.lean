/- For all arguments the law FnExactEstimate answers true, and its arguments read afterwards as before; no conditions. -/
import Derived.Test.YtbccjdlcbhknoabGreatRows
import Derived.Test.YtbccjdlcbhknoabGreatPart0
import Derived.Test.YtbccjdlcbhknoabGreatPart1
import Derived.Test.YtbccjdlcbhknoabGreatPart2
import Derived.Test.YtbccjdlcbhknoabGreatPart3
import Derived.Test.YtbccjdlcbhknoabGreatPart4
import Derived.Test.YtbccjdlcbhknoabGreatPart5
import Derived.Test.YtbccjdlcbhknoabGreatPart6
set_option linter.unusedSimpArgs false
set_option linter.unusedVariables false
namespace Go.Proofs.YtbccjdlcbhknoabGreat
open Go.ChangeShapes Go.WideShapes Go.ChangeAt Go.RowKit Go.Ml

def LW.fns : List (Nat × Nat × Go.Ml.Fn) := [(4, 383, uo),
  (20, 395, Dt),
  (6, 393, tN),
  (28, 392, vT),
  (58, 389, qB),
  (103, 397, FI),
  (145, 399, BI),
  (147, 208, Ip),
  (100, 66, uK),
  (142, 70, Hu),
  (152, 71, D9),
  (30, 100, uf),
  (64, 123, H9),
  (115, 136, Bo),
  (112, 150, Ht),
  (151, 149, Hq),
  (154, 148, CJ),
  (150, 146, Hl),
  (101, 67, JW),
  (153, 147, CG),
  (114, 135, CO),
  (113, 134, CP),
  (62, 121, JY),
  (102, 35, JX),
  (63, 122, Bv),
  (61, 120, CS),
  (143, 238, E8),
  (97, 237, IV),
  (144, 225, BQ),
  (109, 197, Fe),
  (105, 204, Fa),
  (56, 193, Aj),
  (99, 195, wW),
  (98, 83, xO),
  (141, 99, zG),
  (140, 34, Ei),
  (108, 294, qU),
  (29, 189, rQ),
  (60, 198, rP),
  (111, 206, pX),
  (110, 205, Ig),
  (149, 209, Ho),
  (27, 36, vM),
  (57, 53, sW),
  (148, 30, CY),
  (164, 51, Ey),
  (107, 203, yF),
  (106, 201, yG),
  (146, 207, Il),
  (104, 200, yI),
  (59, 227, xU),
  (46, 179, Au),
  (79, 188, uT),
  (136, 196, pU),
  (163, 202, y7),
  (135, 194, I5),
  (26, 220, EZ),
  (55, 235, IY),
  (54, 222, zN),
  (48, 384, yu),
  (84, 396, I7),
  (85, 366, qy),
  (137, 342, Dp),
  (83, 305, J9),
  (47, 299, qZ),
  (81, 321, FP),
  (82, 315, wK),
  (80, 314, Jb),
  (24, 386, zh),
  (43, 59, Dk),
  (21, 369, Du),
  (50, 300, qY),
  (91, 323, zf),
  (89, 322, wJ),
  (90, 317, AP),
  (88, 316, Ja),
  (68, 236, IX),
  (67, 180, EX),
  (66, 89, Ah),
  (118, 111, rC),
  (117, 84, xM),
  (157, 102, tZ),
  (131, 127, Hz),
  (133, 139, yc),
  (132, 138, Bh),
  (130, 155, Hf),
  (160, 151, zC),
  (129, 154, G9),
  (162, 153, sQ),
  (128, 152, G6),
  (161, 137, Cm),
  (120, 69, wQ),
  (167, 126, JR),
  (166, 125, CQ),
  (156, 101, zI),
  (165, 124, zF),
  (36, 132, MB),
  (155, 37, Iz),
  (51, 272, yw),
  (92, 273, J8),
  (123, 185, mJ),
  (35, 131, rH),
  (76, 144, uM),
  (119, 68, uJ),
  (75, 143, JZ),
  (74, 142, Ib),
  (73, 141, Ie),
  (127, 160, G8),
  (33, 39, vN),
  (69, 54, sZ),
  (158, 32, CX),
  (168, 52, CW),
  (93, 186, AL),
  (94, 176, qA),
  (139, 178, yJ),
  (124, 157, rJ),
  (9, 270, tV),
  (34, 274, vU),
  (72, 241, xW),
  (70, 182, sK),
  (121, 161, BA),
  (125, 159, Ii),
  (122, 156, rO),
  (71, 109, Az),
  (126, 130, Fv),
  (159, 140, y8),
  (169, 158, wG),
  (32, 221, zS),
  (37, 183, um),
  (77, 145, ES),
  (49, 88, xq),
  (87, 110, Aq),
  (138, 133, Dn),
  (86, 108, y9),
  (23, 334, vS),
  (15, 57, yh),
  (14, 118, wY),
  (19, 42, FV),
  (45, 58, zi),
  (17, 41, ER),
  (42, 56, yZ),
  (11, 40, J7),
  (39, 55, Dj),
  (13, 8, IG),
  (12, 23, EN),
  (40, 16, IU),
  (7, 21, EK),
  (31, 44, BN),
  (65, 48, EG),
  (116, 63, yg),
  (8, 6, BJ),
  (5, 19, EJ),
  (25, 43, IL),
  (53, 46, J5),
  (96, 61, IJ),
  (95, 60, Dh),
  (22, 13, Dl),
  (52, 33, EI)]

theorem LW.own:ownKnob Tryz.prog.godebug=none := by kernel_rfl
theorem LW.laidOut:laidOutB Tryz.prog=true := by kernel_rfl
theorem LW.mixed:Tryz.prog.follows .mixedOrders=true := by kernel_rfl
def LW.Fit (k : Nat) (F : Go.Ml.Fn) : Prop := (∃ fn, Tryz.prog.funcs[k]? = some fn ∧ af6 Tryz.prog (WE LW.fns) fn = some F) ∨ ∃ o, F.body = .lib o ∧ aol Tryz.prog k o
abbrev LW.T := ZW LW.fns
theorem LW.ft{k:Nat}{F:Go.Ml.Fn}{fn:Func}(h:Tryz.prog.funcs[k]? = some fn)(h2:af6 Tryz.prog (WE LW.fns) fn=some F := by kernel_rfl):LW.Fit k F := Or.inl ⟨fn, h, h2⟩
theorem LW.aDT:LW.Fit 4 uo := LW.ft Tryz.func4
theorem LW.ay1:LW.Fit 20 Dt := LW.ft Tryz.func20
theorem LW.aDU:LW.Fit 6 tN := LW.ft Tryz.func6
theorem LW.ay2:LW.Fit 28 vT := LW.ft Tryz.func28
theorem LW.ay3:LW.Fit 58 qB := LW.ft Tryz.func58
theorem LW.au4:LW.Fit 103 FI := LW.ft Tryz.func103
theorem LW.au5:LW.Fit 145 BI := LW.ft Tryz.func145
theorem LW.au6:LW.Fit 147 Ip := LW.ft Tryz.func147
theorem LW.au7:LW.Fit 100 uK := LW.ft Tryz.func100
theorem LW.au8:LW.Fit 142 Hu := LW.ft Tryz.func142
theorem LW.au9:LW.Fit 152 D9 := LW.ft Tryz.func152
theorem LW.ay4:LW.Fit 30 uf := LW.ft Tryz.func30
theorem LW.ay5:LW.Fit 64 H9 := LW.ft Tryz.func64
theorem LW.ava:LW.Fit 115 Bo := LW.ft Tryz.func115
theorem LW.avb:LW.Fit 112 Ht := LW.ft Tryz.func112
theorem LW.avc:LW.Fit 151 Hq := LW.ft Tryz.func151
theorem LW.avd:LW.Fit 154 CJ := LW.ft Tryz.func154
theorem LW.ave:LW.Fit 150 Hl := LW.ft Tryz.func150
theorem LW.avf:LW.Fit 101 JW := LW.ft Tryz.func101
theorem LW.avg:LW.Fit 153 CG := LW.ft Tryz.func153
theorem LW.avh:LW.Fit 114 CO := LW.ft Tryz.func114
theorem LW.avi:LW.Fit 113 CP := LW.ft Tryz.func113
theorem LW.ay6:LW.Fit 62 JY := LW.ft Tryz.func62
theorem LW.avj:LW.Fit 102 JX := LW.ft Tryz.func102
theorem LW.ay7:LW.Fit 63 Bv := LW.ft Tryz.func63
theorem LW.ay8:LW.Fit 61 CS := LW.ft Tryz.func61
theorem LW.avk:LW.Fit 143 E8 := LW.ft Tryz.func143
theorem LW.ay9:LW.Fit 97 IV := LW.ft Tryz.func97
theorem LW.avl:LW.Fit 144 BQ := LW.ft Tryz.func144
theorem LW.avm:LW.Fit 109 Fe := LW.ft Tryz.func109
theorem LW.avn:LW.Fit 105 Fa := LW.ft Tryz.func105
theorem LW.aza:LW.Fit 56 Aj := LW.ft Tryz.func56
theorem LW.azb:LW.Fit 99 wW := LW.ft Tryz.func99
theorem LW.azc:LW.Fit 98 xO := LW.ft Tryz.func98
theorem LW.avo:LW.Fit 141 zG := LW.ft Tryz.func141
theorem LW.avp:LW.Fit 140 Ei := LW.ft Tryz.func140
theorem LW.avq:LW.Fit 108 qU := LW.ft Tryz.func108
theorem LW.azd:LW.Fit 29 rQ := LW.ft Tryz.func29
theorem LW.aze:LW.Fit 60 rP := LW.ft Tryz.func60
theorem LW.avr:LW.Fit 111 pX := LW.ft Tryz.func111
theorem LW.avs:LW.Fit 110 Ig := LW.ft Tryz.func110
theorem LW.avt:LW.Fit 149 Ho := LW.ft Tryz.func149
theorem LW.azf:LW.Fit 27 vM := LW.ft Tryz.func27
theorem LW.azg:LW.Fit 57 sW := LW.ft Tryz.func57
theorem LW.avu:LW.Fit 148 CY := LW.ft Tryz.func148
theorem LW.avv:LW.Fit 164 Ey := LW.ft Tryz.func164
theorem LW.avw:LW.Fit 107 yF := LW.ft Tryz.func107
theorem LW.avx:LW.Fit 106 yG := LW.ft Tryz.func106
theorem LW.avy:LW.Fit 146 Il := LW.ft Tryz.func146
theorem LW.avz:LW.Fit 104 yI := LW.ft Tryz.func104
theorem LW.azh:LW.Fit 59 xU := LW.ft Tryz.func59
theorem LW.azi:LW.Fit 46 Au := LW.ft Tryz.func46
theorem LW.azj:LW.Fit 79 uT := LW.ft Tryz.func79
theorem LW.avA:LW.Fit 136 pU := LW.ft Tryz.func136
theorem LW.avC:LW.Fit 163 y7 := LW.ft Tryz.func163
theorem LW.avD:LW.Fit 135 I5 := LW.ft Tryz.func135
theorem LW.azk:LW.Fit 26 EZ := LW.ft Tryz.func26
theorem LW.azl:LW.Fit 55 IY := LW.ft Tryz.func55
theorem LW.azm:LW.Fit 54 zN := LW.ft Tryz.func54
theorem LW.azn:LW.Fit 48 yu := LW.ft Tryz.func48
theorem LW.azo:LW.Fit 84 I7 := LW.ft Tryz.func84
theorem LW.azp:LW.Fit 85 qy := LW.ft Tryz.func85
theorem LW.avE:LW.Fit 137 Dp := LW.ft Tryz.func137
theorem LW.azq:LW.Fit 83 J9 := LW.ft Tryz.func83
theorem LW.azr:LW.Fit 47 qZ := LW.ft Tryz.func47
theorem LW.azs:LW.Fit 81 FP := LW.ft Tryz.func81
theorem LW.azt:LW.Fit 82 wK := LW.ft Tryz.func82
theorem LW.azu:LW.Fit 80 Jb := LW.ft Tryz.func80
theorem LW.azv:LW.Fit 24 zh := LW.ft Tryz.func24
theorem LW.azw:LW.Fit 43 Dk := LW.ft Tryz.func43
theorem LW.azx:LW.Fit 21 Du := LW.ft Tryz.func21
theorem LW.azy:LW.Fit 50 qY := LW.ft Tryz.func50
theorem LW.azz:LW.Fit 91 zf := LW.ft Tryz.func91
theorem LW.azA:LW.Fit 89 wJ := LW.ft Tryz.func89
theorem LW.azB:LW.Fit 90 AP := LW.ft Tryz.func90
theorem LW.azC:LW.Fit 88 Ja := LW.ft Tryz.func88
theorem LW.azD:LW.Fit 68 IX := LW.ft Tryz.func68
theorem LW.azE:LW.Fit 67 EX := LW.ft Tryz.func67
theorem LW.azF:LW.Fit 66 Ah := LW.ft Tryz.func66
theorem LW.avF:LW.Fit 118 rC := LW.ft Tryz.func118
theorem LW.avG:LW.Fit 117 xM := LW.ft Tryz.func117
theorem LW.avH:LW.Fit 157 tZ := LW.ft Tryz.func157
theorem LW.avI:LW.Fit 131 Hz := LW.ft Tryz.func131
theorem LW.avJ:LW.Fit 133 yc := LW.ft Tryz.func133
theorem LW.avK:LW.Fit 132 Bh := LW.ft Tryz.func132
theorem LW.avL:LW.Fit 130 Hf := LW.ft Tryz.func130
theorem LW.avM:LW.Fit 160 zC := LW.ft Tryz.func160
theorem LW.avN:LW.Fit 129 G9 := LW.ft Tryz.func129
theorem LW.avO:LW.Fit 162 sQ := LW.ft Tryz.func162
theorem LW.avP:LW.Fit 128 G6 := LW.ft Tryz.func128
theorem LW.avQ:LW.Fit 161 Cm := LW.ft Tryz.func161
theorem LW.avR:LW.Fit 120 wQ := LW.ft Tryz.func120
theorem LW.avS:LW.Fit 167 JR := LW.ft Tryz.func167
theorem LW.avT:LW.Fit 166 CQ := LW.ft Tryz.func166
theorem LW.avU:LW.Fit 156 zI := LW.ft Tryz.func156
theorem LW.avV:LW.Fit 165 zF := LW.ft Tryz.func165
theorem LW.azG:LW.Fit 36 MB := LW.ft Tryz.func36
theorem LW.avW:LW.Fit 155 Iz := LW.ft Tryz.func155
theorem LW.azH:LW.Fit 51 yw := LW.ft Tryz.func51
theorem LW.azI:LW.Fit 92 J8 := LW.ft Tryz.func92
theorem LW.avX:LW.Fit 123 mJ := LW.ft Tryz.func123
theorem LW.azJ:LW.Fit 35 rH := LW.ft Tryz.func35
theorem LW.azK:LW.Fit 76 uM := LW.ft Tryz.func76
theorem LW.avY:LW.Fit 119 uJ := LW.ft Tryz.func119
theorem LW.azL:LW.Fit 75 JZ := LW.ft Tryz.func75
theorem LW.azM:LW.Fit 74 Ib := LW.ft Tryz.func74
theorem LW.azN:LW.Fit 73 Ie := LW.ft Tryz.func73
theorem LW.avZ:LW.Fit 127 G8 := LW.ft Tryz.func127
theorem LW.azO:LW.Fit 33 vN := LW.ft Tryz.func33
theorem LW.azP:LW.Fit 69 sZ := LW.ft Tryz.func69
theorem LW.av1:LW.Fit 158 CX := LW.ft Tryz.func158
theorem LW.av2:LW.Fit 168 CW := LW.ft Tryz.func168
theorem LW.azQ:LW.Fit 93 AL := LW.ft Tryz.func93
theorem LW.azR:LW.Fit 94 qA := LW.ft Tryz.func94
theorem LW.av3:LW.Fit 139 yJ := LW.ft Tryz.func139
theorem LW.av4:LW.Fit 124 rJ := LW.ft Tryz.func124
theorem LW.aEt:LW.Fit 9 tV := LW.ft Tryz.func9
theorem LW.azS:LW.Fit 34 vU := LW.ft Tryz.func34
theorem LW.azT:LW.Fit 72 xW := LW.ft Tryz.func72
theorem LW.azU:LW.Fit 70 sK := LW.ft Tryz.func70
theorem LW.av5:LW.Fit 121 BA := LW.ft Tryz.func121
theorem LW.av6:LW.Fit 125 Ii := LW.ft Tryz.func125
theorem LW.av7:LW.Fit 122 rO := LW.ft Tryz.func122
theorem LW.azV:LW.Fit 71 Az := LW.ft Tryz.func71
theorem LW.av8:LW.Fit 126 Fv := LW.ft Tryz.func126
theorem LW.av9:LW.Fit 159 y8 := LW.ft Tryz.func159
theorem LW.awc:LW.Fit 169 wG := LW.ft Tryz.func169
theorem LW.azW:LW.Fit 32 zS := LW.ft Tryz.func32
theorem LW.azX:LW.Fit 37 um := LW.ft Tryz.func37
theorem LW.azY:LW.Fit 77 ES := LW.ft Tryz.func77
theorem LW.azZ:LW.Fit 49 xq := LW.ft Tryz.func49
theorem LW.az0:LW.Fit 87 Aq := LW.ft Tryz.func87
theorem LW.awd:LW.Fit 138 Dn := LW.ft Tryz.func138
theorem LW.az1:LW.Fit 86 y9 := LW.ft Tryz.func86
theorem LW.az2:LW.Fit 23 vS := LW.ft Tryz.func23
theorem LW.az3:LW.Fit 15 yh := LW.ft Tryz.func15
theorem LW.az4:LW.Fit 14 wY := LW.ft Tryz.func14
theorem LW.az5:LW.Fit 19 FV := LW.ft Tryz.func19
theorem LW.az6:LW.Fit 45 zi := LW.ft Tryz.func45
theorem LW.az7:LW.Fit 17 ER := LW.ft Tryz.func17
theorem LW.az8:LW.Fit 42 yZ := LW.ft Tryz.func42
theorem LW.az9:LW.Fit 11 J7 := LW.ft Tryz.func11
theorem LW.aAa:LW.Fit 39 Dj := LW.ft Tryz.func39
theorem LW.aAb:LW.Fit 13 IG := LW.ft Tryz.func13
theorem LW.aAc:LW.Fit 12 EN := LW.ft Tryz.func12
theorem LW.aAd:LW.Fit 40 IU := LW.ft Tryz.func40
theorem LW.aEy:LW.Fit 7 EK := LW.ft Tryz.func7
theorem LW.aAe:LW.Fit 31 BN := LW.ft Tryz.func31
theorem LW.aAf:LW.Fit 65 EG := LW.ft Tryz.func65
theorem LW.awe:LW.Fit 116 yg := LW.ft Tryz.func116
theorem LW.aEA:LW.Fit 8 BJ := LW.ft Tryz.func8
theorem LW.aEB:LW.Fit 5 EJ := LW.ft Tryz.func5
theorem LW.aAg:LW.Fit 25 IL := LW.ft Tryz.func25
theorem LW.aAh:LW.Fit 53 J5 := LW.ft Tryz.func53
theorem LW.aAi:LW.Fit 96 IJ := LW.ft Tryz.func96
theorem LW.aAj:LW.Fit 95 Dh := LW.ft Tryz.func95
theorem LW.aAk:LW.Fit 22 Dl := LW.ft Tryz.func22
theorem LW.aAl:LW.Fit 52 EI := LW.ft Tryz.func52
theorem LW.all:aow (fun x:Nat×Nat×Go.Ml.Fn => LW.Fit x.1 x.2.2) LW.fns :=
  ⟨LW.aDT, LW.ay1, LW.aDU, LW.ay2, LW.ay3, LW.au4, LW.au5, LW.au6, LW.au7, LW.au8, LW.au9, LW.ay4, LW.ay5, LW.ava, LW.avb, LW.avc, LW.avd, LW.ave, LW.avf, LW.avg, LW.avh, LW.avi, LW.ay6, LW.avj, LW.ay7, LW.ay8, LW.avk, LW.ay9, LW.avl, LW.avm, LW.avn, LW.aza, LW.azb, LW.azc, LW.avo, LW.avp, LW.avq, LW.azd, LW.aze, LW.avr, LW.avs, LW.avt, LW.azf, LW.azg, LW.avu, LW.avv, LW.avw, LW.avx, LW.avy, LW.avz, LW.azh, LW.azi, LW.azj, LW.avA, LW.avC, LW.avD, LW.azk, LW.azl, LW.azm, LW.azn, LW.azo, LW.azp, LW.avE, LW.azq, LW.azr, LW.azs, LW.azt, LW.azu, LW.azv, LW.azw, LW.azx, LW.azy, LW.azz, LW.azA, LW.azB, LW.azC, LW.azD, LW.azE, LW.azF, LW.avF, LW.avG, LW.avH, LW.avI, LW.avJ, LW.avK, LW.avL, LW.avM, LW.avN, LW.avO, LW.avP, LW.avQ, LW.avR, LW.avS, LW.avT, LW.avU, LW.avV, LW.azG, LW.avW, LW.azH, LW.azI, LW.avX, LW.azJ, LW.azK, LW.avY, LW.azL, LW.azM, LW.azN, LW.avZ, LW.azO, LW.azP, LW.av1, LW.av2, LW.azQ, LW.azR, LW.av3, LW.av4, LW.aEt, LW.azS, LW.azT, LW.azU, LW.av5, LW.av6, LW.av7, LW.azV, LW.av8, LW.av9, LW.awc, LW.azW, LW.azX, LW.azY, LW.azZ, LW.az0, LW.awd, LW.az1, LW.az2, LW.az3, LW.az4, LW.az5, LW.az6, LW.az7, LW.az8, LW.az9, LW.aAa, LW.aAb, LW.aAc, LW.aAd, LW.aEy, LW.aAe, LW.aAf, LW.awe, LW.aEA, LW.aEB, LW.aAg, LW.aAh, LW.aAi, LW.aAj, LW.aAk, LW.aAl, trivial⟩
set_option maxRecDepth 100000 in
theorem LW.fits:Fits Tryz.prog (WE LW.fns) (ZW LW.fns) := arh (by decide) fun x hx => LW.all.mem x hx

theorem LW.d8:II LW.T := ⟨rfl⟩
theorem LW.d55:JA LW.T := ⟨rfl, LW.d8⟩
theorem LW.d40:EH LW.T := ⟨rfl, LW.d8, LW.d55⟩
theorem LW.d33:KT LW.T := ⟨rfl, LW.d40⟩
theorem LW.d13:JB LW.T := ⟨rfl, LW.d33⟩
theorem LW.d61:IK LW.T := ⟨rfl⟩
theorem LW.d60:Jz LW.T := ⟨rfl, LW.d61⟩
theorem LW.d46:OQ LW.T := ⟨rfl, LW.d60, LW.d61⟩
theorem LW.d43:Ns LW.T := ⟨rfl, LW.d46⟩
theorem LW.d19:KU LW.T := ⟨rfl, LW.d43⟩
theorem LW.d6:BK LW.T := ⟨rfl⟩
theorem LW.d63:Di LW.T := ⟨rfl, LW.d6⟩
theorem LW.d48:J6 LW.T := ⟨rfl, LW.d6, LW.d63⟩
theorem LW.d44:IQ LW.T := ⟨rfl, LW.d48⟩
theorem LW.d21:EM LW.T := ⟨rfl, LW.d44⟩
theorem LW.d16:Nu LW.T := ⟨rfl, LW.d40⟩
theorem LW.d23:KW LW.T := ⟨rfl, LW.d16⟩
theorem LW.d57:vC LW.T := ⟨rfl⟩
theorem LW.d56:EP LW.T := ⟨rfl, LW.d57⟩
theorem LW.d41:KX LW.T := ⟨rfl, LW.d56, LW.d57⟩
theorem LW.d59:yj LW.T := ⟨rfl⟩
theorem LW.d58:FU LW.T := ⟨rfl, LW.d59⟩
theorem LW.d42:LJ LW.T := ⟨rfl, LW.d58, LW.d59⟩
theorem LW.aEI:Gw LW.T := ⟨rfl, LW.d57⟩
theorem LW.aEJ:EO LW.T := ⟨rfl, LW.d57⟩
theorem LW.d37:IB LW.T := ⟨rfl⟩
theorem LW.aAm:JU LW.T := ⟨rfl⟩
theorem LW.aEK:Jt LW.T := ⟨rfl, LW.aAm⟩
theorem LW.d69:uD LW.T := ⟨rfl⟩
theorem LW.aAn:CB LW.T := ⟨rfl⟩
theorem LW.awf:wR LW.T := ⟨rfl⟩
theorem LW.aAo:G7 LW.T := ⟨rfl⟩
theorem LW.aEM:Jo LW.T := ⟨rfl⟩
theorem LW.aAp:He LW.T := ⟨rfl, LW.awf⟩
theorem LW.aAq:Hg LW.T := ⟨rfl, LW.awf⟩
theorem LW.aAr:Bj LW.T := ⟨rfl, LW.d69, LW.aAn, LW.awf, LW.aAo, LW.aEM, LW.aAp, LW.aAq⟩
theorem LW.awg:vk LW.T := ⟨rfl⟩
theorem LW.aAs:HY LW.T := ⟨rfl, LW.d69, LW.aAn, LW.aAr, LW.awg⟩
theorem LW.ark:Ag LW.T := ⟨rfl, LW.aEK, LW.aAm, LW.aAs⟩
theorem LW.aaJ:oJ LW.T := ⟨rfl⟩
theorem LW.aEN:KL LW.T := ⟨rfl, LW.aaJ⟩
theorem LW.aAt:Eh LW.T := ⟨rfl, LW.ark, LW.aEN⟩
theorem LW.d84:uN LW.T := ⟨rfl, LW.d37, LW.aAt, LW.ark⟩
theorem LW.aEP:Fz LW.T := ⟨rfl, LW.d84⟩
theorem LW.d68:oU LW.T := ⟨rfl⟩
theorem LW.d54:CV LW.T := ⟨rfl, LW.d68, LW.d69⟩
theorem LW.d39:oP LW.T := ⟨rfl, LW.d54⟩
theorem LW.aAv:xP LW.T := ⟨rfl⟩
theorem LW.aEQ:MV LW.T := ⟨rfl⟩
theorem LW.aER:MZ LW.T := ⟨rfl, LW.d68, LW.aAo, LW.aAp, LW.aEQ⟩
theorem LW.awh:Bq LW.T := ⟨rfl, LW.d68, LW.aAq⟩
theorem LW.awi:Af LW.T := ⟨rfl⟩
theorem LW.awj:wU LW.T := ⟨rfl, LW.d68, LW.aAs, LW.aAr⟩
theorem LW.aaK:nJ LW.T := ⟨rfl, LW.aaJ, LW.aER, LW.awh, LW.awi, LW.awj⟩
theorem LW.aAw:wB LW.T := ⟨rfl, LW.aaJ, LW.awh, LW.awi, LW.awj⟩
theorem LW.arl:rM LW.T := ⟨rfl, LW.aaJ, LW.awh, LW.awi, LW.awj⟩
theorem LW.aES:AX LW.T := ⟨rfl, LW.aaK, LW.arl⟩
theorem LW.aAx:BD LW.T := ⟨rfl, LW.d68, LW.aaJ, LW.awg⟩
theorem LW.aAy:BF LW.T := ⟨rfl, LW.aaK, LW.aAx⟩
theorem LW.aET:Fj LW.T := ⟨rfl, LW.aaK, LW.aaJ, LW.aAw, LW.arl, LW.aES, LW.aAy⟩
theorem LW.aEU:Ls LW.T := ⟨rfl, LW.d39, LW.aAv, LW.aET⟩
theorem LW.aAz:AA LW.T := ⟨rfl, LW.d39, LW.aEU, LW.aaK, LW.aaJ⟩
theorem LW.aAA:ET LW.T := ⟨rfl, LW.awg⟩
theorem LW.aEV:JC LW.T := ⟨rfl, LW.aAA⟩
theorem LW.aEW:Gx LW.T := ⟨rfl, LW.aEV⟩
theorem LW.d88:GK LW.T := ⟨rfl, LW.aEP, LW.aAz, LW.aEW⟩
theorem LW.aEX:xR LW.T := ⟨rfl, LW.aAA⟩
theorem LW.d89:Ai LW.T := ⟨rfl, LW.d84, LW.aAv⟩
theorem LW.aAB:EY LW.T := ⟨rfl⟩
theorem LW.awk:BP LW.T := ⟨rfl⟩
theorem LW.aEY:Ld LW.T := ⟨rfl, LW.d89, LW.aAB, LW.awk⟩
theorem LW.d52:Jv LW.T := ⟨rfl⟩
theorem LW.d32:Jw LW.T := ⟨rfl, LW.d52⟩
theorem LW.awl:pJ LW.T := ⟨rfl, LW.d32, LW.d37, LW.d39, LW.aAt, LW.ark, LW.aaK⟩
theorem LW.aEZ:zU LW.T := ⟨rfl, LW.d39, LW.d84, LW.aaK, LW.aAw, LW.arl, LW.aAy, LW.aAx, LW.awl⟩
theorem LW.aE0:DK LW.T := ⟨rfl⟩
theorem LW.aE1:FM LW.T := ⟨rfl, LW.aAz, LW.aEZ, LW.aE0⟩
theorem LW.aE2:Bc LW.T := ⟨rfl, LW.d39, LW.aaK, LW.aaJ, LW.aEX, LW.aEY, LW.aE1⟩
theorem LW.aE3:Nk LW.T := ⟨rfl, LW.ark, LW.aaK⟩
theorem LW.aAC:AO LW.T := ⟨rfl, LW.d39⟩
theorem LW.aE4:xA LW.T := ⟨rfl, LW.aaK, LW.aaJ, LW.arl, LW.aE3, LW.awl, LW.aAC⟩
theorem LW.aE5:OW LW.T := ⟨rfl, LW.awl, LW.awk⟩
theorem LW.aE6:JH LW.T := ⟨rfl, LW.aE4, LW.aAC, LW.aE5⟩
theorem LW.aE7:NC LW.T := ⟨rfl⟩
theorem LW.aE8:GX LW.T := ⟨rfl⟩
theorem LW.aE9:AZ LW.T := ⟨rfl⟩
theorem LW.aFa:FN LW.T := ⟨rfl⟩
theorem LW.aFb:yV LW.T := ⟨rfl, LW.d89, LW.aAB, LW.awk, LW.aE7, LW.aE8, LW.aE9, LW.aFa⟩
theorem LW.aFc:JJ LW.T := ⟨rfl, LW.d88, LW.aaK, LW.aaJ, LW.aE2, LW.aE6, LW.aFb⟩
theorem LW.aFd:FT LW.T := ⟨rfl, LW.d59⟩
theorem LW.d35:Ae LW.T := ⟨rfl⟩
theorem LW.awm:Ea LW.T := ⟨rfl, LW.d35⟩
theorem LW.aFe:Ju LW.T := ⟨rfl, LW.awm⟩
theorem LW.awn:Bz LW.T := ⟨rfl⟩
theorem LW.arn:yA LW.T := ⟨rfl⟩
theorem LW.aFf:Js LW.T := ⟨rfl, LW.awm, LW.arn⟩
theorem LW.d67:Ad LW.T := ⟨rfl⟩
theorem LW.aFg:Jr LW.T := ⟨rfl, LW.d67⟩
theorem LW.d71:sD LW.T := ⟨rfl⟩
theorem LW.aFh:Jp LW.T := ⟨rfl, LW.d71⟩
theorem LW.aox:wu LW.T := ⟨rfl, LW.d71⟩
theorem LW.aFi:Jq LW.T := ⟨rfl, LW.d67, LW.arn, LW.aox⟩
theorem LW.aAD:Hr LW.T := ⟨rfl, LW.d71⟩
theorem LW.aAE:H7 LW.T := ⟨rfl, LW.d67, LW.d71, LW.arn, LW.aFh, LW.aFi, LW.aAD, LW.aox⟩
theorem LW.aAF:Ia LW.T := ⟨rfl, LW.aFf, LW.aFg, LW.aAE⟩
theorem LW.WG:oz LW.T := ⟨rfl, LW.aFe, LW.awm, LW.awn, LW.aAF⟩
theorem LW.d70:MX LW.T := ⟨rfl, LW.d71⟩
theorem LW.d66:sF LW.T := ⟨rfl, LW.d70⟩
theorem LW.d53:CU LW.T := ⟨rfl, LW.d66, LW.d67⟩
theorem LW.d36:nU LW.T := ⟨rfl, LW.d53⟩
theorem LW.d34:Ej LW.T := ⟨rfl, LW.d35⟩
theorem LW.d99:Ee LW.T := ⟨rfl, LW.WG⟩
theorem LW.d83:uO LW.T := ⟨rfl, LW.d34, LW.d99, LW.WG⟩
theorem LW.aAH:Et LW.T := ⟨rfl⟩
theorem LW.ahW:o8 LW.T := ⟨rfl, LW.d83, LW.aAH⟩
theorem LW.aAI:Fb LW.T := ⟨rfl⟩
theorem LW.aro:xg LW.T := ⟨rfl, LW.aAI⟩
theorem LW.aFk:Nw LW.T := ⟨rfl, LW.aro⟩
theorem LW.aFl:MW LW.T := ⟨rfl⟩
theorem LW.aFm:Na LW.T := ⟨rfl, LW.d66, LW.arn, LW.aAD, LW.aFl⟩
theorem LW.awp:yE LW.T := ⟨rfl, LW.d66, LW.d71, LW.awn, LW.aAF, LW.aAE⟩
theorem LW.aAJ:BG LW.T := ⟨rfl, LW.d66, LW.awn, LW.aox, LW.aFm, LW.awp⟩
theorem LW.afN:pY LW.T := ⟨rfl, LW.WG, LW.aAJ⟩
theorem LW.aAK:Iy LW.T := ⟨rfl, LW.WG, LW.aox, LW.awp⟩
theorem LW.aFo:Nb LW.T := ⟨rfl, LW.aox, LW.awp⟩
theorem LW.arp:yH LW.T := ⟨rfl, LW.WG, LW.aFo⟩
theorem LW.aFp:EW LW.T := ⟨rfl, LW.afN, LW.arp⟩
theorem LW.aAL:Ir LW.T := ⟨rfl, LW.d66⟩
theorem LW.aAM:Iw LW.T := ⟨rfl, LW.WG, LW.aAJ, LW.aAL⟩
theorem LW.aFq:Fh LW.T := ⟨rfl, LW.d83, LW.WG, LW.afN, LW.aAK, LW.arp, LW.aFp, LW.aAM⟩
theorem LW.aFr:Lr LW.T := ⟨rfl, LW.d36, LW.d83, LW.ahW, LW.aFk, LW.aAH, LW.aFq, LW.aro⟩
theorem LW.aAN:Aw LW.T := ⟨rfl, LW.d36, LW.WG, LW.aFr, LW.afN⟩
theorem LW.aAO:IW LW.T := ⟨rfl⟩
theorem LW.aAP:zO LW.T := ⟨rfl, LW.ahW, LW.aAO⟩
theorem LW.aAQ:IZ LW.T := ⟨rfl⟩
theorem LW.aFs:ND LW.T := ⟨rfl⟩
theorem LW.aAR:FQ LW.T := ⟨rfl⟩
theorem LW.aFt:wL LW.T := ⟨rfl, LW.aAR⟩
theorem LW.aFu:yX LW.T := ⟨rfl, LW.ahW, LW.aAP, LW.aAQ, LW.aFs, LW.aFt, LW.aAR⟩
theorem LW.d51:KO LW.T := ⟨rfl⟩
theorem LW.d30:Jy LW.T := ⟨rfl, LW.d51⟩
theorem LW.awq:pK LW.T := ⟨rfl, LW.d30, LW.d34, LW.d35, LW.d36, LW.d99, LW.WG, LW.afN⟩
theorem LW.aFv:OX LW.T := ⟨rfl, LW.awq⟩
theorem LW.aFw:JE LW.T := ⟨rfl, LW.WG⟩
theorem LW.aFx:xw LW.T := ⟨rfl, LW.d36, LW.afN, LW.arp, LW.awq, LW.aFw⟩
theorem LW.aFy:Nz LW.T := ⟨rfl⟩
theorem LW.aFz:JG LW.T := ⟨rfl, LW.d36, LW.aFv, LW.aFx, LW.aFy⟩
theorem LW.aFA:La LW.T := ⟨rfl, LW.ahW, LW.aAP, LW.aAQ⟩
theorem LW.aFB:DJ LW.T := ⟨rfl, LW.ahW, LW.aro⟩
theorem LW.aFC:Nv LW.T := ⟨rfl, LW.ahW, LW.aro⟩
theorem LW.aFD:Lh LW.T := ⟨rfl, LW.aAO⟩
theorem LW.aFE:Nh LW.T := ⟨rfl, LW.WG, LW.aAL⟩
theorem LW.aFF:LG LW.T := ⟨rfl, LW.aFC, LW.aFD, LW.aFE⟩
theorem LW.aFG:zV LW.T := ⟨rfl, LW.d35, LW.d36, LW.afN, LW.ahW, LW.aAK, LW.arp, LW.aAM, LW.aAI, LW.awq, LW.aFF⟩
theorem LW.aFH:FK LW.T := ⟨rfl, LW.aAN, LW.aFB, LW.aFG⟩
theorem LW.aFI:Ba LW.T := ⟨rfl, LW.d36, LW.WG, LW.afN, LW.aFA, LW.aFH⟩
theorem LW.aFJ:JI LW.T := ⟨rfl, LW.WG, LW.aAN, LW.afN, LW.aFu, LW.aFz, LW.aFI⟩
theorem LW.aFK:FW LW.T := ⟨rfl, LW.d13, LW.d19, LW.d21, LW.d23, LW.d40, LW.d41, LW.d42, LW.aEI, LW.aEJ, LW.aFc, LW.aFd, LW.aFJ⟩

theorem LW.args:ZY Tryz.prog [22] [(false, [.sl au2])] :=
  ⟨_, _, rfl, by kernel_rfl, by kernel_rfl, rfl⟩

set_option maxRecDepth 100000 in
theorem LW.lifted(os:Os)(started:os.Started)(H:Type)(enc:TypeId×Value→H) :
    ReturnsInHanded {} Tryz.checked os 4 .any (Rows.fnExactEstimateSpec.pre6 enc Tryz.prog Tryz.f4 Rows.fnExactEstimateRow.domain false) (Rows.fnExactEstimateSpec.post enc Tryz.prog Tryz.f4 false true false false) := by
  refine returnsInHanded_of_change (C := Tryz.checked) LW.own started (by kernel_rfl) Tryz.func4
    (ChangeSpec.witness6 (enc := enc) (C := Tryz.checked) false ⟨#[], #[.slice none 0 0], []⟩ 8 (by kernel_rfl) (by kernel_rfl) (by kernel_rfl) (by kernel_rfl)) ?_
  intro W base args ds gs before hval0 hW hcnd _
  have hval : ∀ (j : Nat) t v, Tryz.f4.params[j]? = some t → args[j]? = some v → Value.okWide Tryz.prog W .any base t v := hval0
  have hW' := hW
  obtain ⟨p, q, hA0, hV, rfl, hfz, hnd⟩ := hW
  have hA : DataW.TrodAll enc Tryz.prog W 0 (fun _ => true) true Tryz.f4.params.toList args.toList ds p := hA0
  rw [Tryz.params4] at hA hval
  obtain ⟨rfl, rfl⟩ := trodVars_none hV
  obtain ⟨d0, rfl⟩ : ∃ d0, ds = [d0] := by
    have hl := afM hA
    match ds, hl with
    | [d0], _ => exact ⟨d0, rfl⟩
  obtain ⟨Vs, hM, hrd⟩ := ajh (r := .any) (b := base) LW.args (fun j t v ht hv => hval j t v (by simpa using ht) (by simpa using hv)) hA
  simp only [ahV] at hM
  obtain ⟨cs0, _, rfl, m0, rfl⟩ := hM
  obtain ⟨v0, rfl, g0⟩ := adv m0
  obtain ⟨x0, rfl, wx0⟩ := arj g0
  clear hA0 hval0
  simp only [List.append_nil] at hW'
  have hlt : ∀ x ∈ p, x.block < W.heap.size := fun x hx => by simpa using hW'.lt x hx
  refine (ahT LW.mixed LW.fits (QL LW.aFK x0 wx0) rfl (vals := args) hrd).mono fun e W' ⟨he, hnx⟩ => ?_
  subst he
  refine ⟨_, rfl, _, _, _, [], p ++ [], [], hW', ?_, ?_, rfl, hnx.frame _, fun h => by cases h⟩
  · exact trodAll_mk1 ⟨1, rfl⟩
  · simp only [List.append_nil]
    exact RV LW.laidOut hnx (by kernel_rfl) hA hlt

theorem fnExactEstimate_holds : Rows.FnExactEstimateSaid :=
  OpenClaim.holds_of_wide 4 Tryz.f4 rfl rfl rfl rfl rfl rfl rfl ⟨rfl, rfl, rfl, rfl, rfl⟩ rfl rfl rfl rfl rfl (by kernel_rfl) Tryz.func4 (by kernel_rfl)
    (of_decide_eq_true (by kernel_rfl)) (by unfold Func.isWrapper; first | (rw [if_pos (by decide +kernel)]; kernel_rfl) | (rw [if_neg (by decide +kernel)]; exact ⟨rfl, rfl⟩))
    (fun os started H enc _ => LW.lifted os started H enc)
#print axioms fnExactEstimate_holds
end Go.Proofs.YtbccjdlcbhknoabGreat
