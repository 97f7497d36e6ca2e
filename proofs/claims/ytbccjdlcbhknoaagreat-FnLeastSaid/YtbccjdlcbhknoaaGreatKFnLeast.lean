/- For all arguments the law FnLeast answers true, and its arguments read afterwards as before; no conditions. -/
import Derived.Test.YtbccjdlcbhknoaaGreatRows
import Derived.Test.YtbccjdlcbhknoaaGreatPart0
import Derived.Test.YtbccjdlcbhknoaaGreatPart1
import Derived.Test.YtbccjdlcbhknoaaGreatPart2
import Derived.Test.YtbccjdlcbhknoaaGreatPart3
import Derived.Test.YtbccjdlcbhknoaaGreatPart4
import Derived.Test.YtbccjdlcbhknoaaGreatPart5
set_option linter.unusedSimpArgs false
set_option linter.unusedVariables false
namespace Go.Proofs.YtbccjdlcbhknoaaGreat
open Go.ChangeShapes Go.WideShapes Go.ChangeAt Go.RowKit Go.Ml

def LW.fns : List (Nat × Nat × Go.Ml.Fn) := [(6, 364, BX),
  (29, 370, Eo),
  (75, 371, wS),
  (137, 372, DU),
  (165, 152, Dn),
  (114, 143, FN),
  (113, 142, DR),
  (167, 155, Du),
  (170, 151, xM),
  (118, 68, sQ),
  (56, 132, Hg),
  (28, 102, rZ),
  (74, 127, DI),
  (136, 139, wH),
  (135, 138, yS),
  (166, 154, Dq),
  (171, 153, ru),
  (134, 137, zl),
  (119, 69, uU),
  (73, 126, FB),
  (72, 125, zB),
  (27, 369, zQ),
  (71, 300, qm),
  (133, 323, xG),
  (131, 322, uQ),
  (132, 317, yG),
  (130, 316, En),
  (67, 236, Ed),
  (45, 180, Bq),
  (44, 89, yx),
  (102, 111, qA),
  (101, 84, vT),
  (110, 101, xU),
  (163, 124, xQ),
  (111, 37, D5),
  (24, 272, wL),
  (25, 273, FP),
  (52, 185, kZ),
  (54, 131, qF),
  (115, 144, sU),
  (112, 141, DT),
  (164, 160, Dp),
  (17, 39, tX),
  (58, 54, rF),
  (18, 32, zJ),
  (59, 52, zI),
  (53, 186, yE),
  (14, 176, pq),
  (16, 178, wV),
  (55, 157, qG),
  (22, 270, rQ),
  (60, 274, tZ),
  (121, 241, wz),
  (48, 182, qV),
  (103, 161, yZ),
  (105, 159, DW),
  (104, 156, qH),
  (120, 109, yB),
  (168, 130, BA),
  (185, 140, xC),
  (117, 158, uN),
  (64, 221, xX),
  (49, 183, sF),
  (106, 145, Bf),
  (70, 88, vg),
  (50, 110, yw),
  (107, 133, zL),
  (129, 108, xE),
  (15, 177, wC),
  (57, 187, pO),
  (116, 192, tY),
  (13, 175, BJ),
  (51, 184, Ej),
  (109, 191, BH),
  (66, 107, zN),
  (47, 129, BF),
  (108, 190, FT),
  (162, 199, BG),
  (146, 206, uo),
  (178, 136, yX),
  (147, 150, Dy),
  (177, 71, AO),
  (189, 149, Dx),
  (191, 148, zq),
  (188, 146, Dw),
  (175, 67, FH),
  (190, 147, zo),
  (161, 123, DL),
  (184, 135, zu),
  (183, 134, zA),
  (159, 121, FK),
  (78, 35, FI),
  (160, 122, yY),
  (174, 66, xP),
  (186, 70, DC),
  (158, 120, zC),
  (144, 53, wJ),
  (46, 181, Ei),
  (68, 105, Ef),
  (26, 87, yD),
  (69, 106, BM),
  (128, 128, BK),
  (127, 14, oh),
  (80, 36, xB),
  (150, 34, AX)]

theorem LW.own:ownKnob Tryz.prog.godebug=none := by kernel_rfl
theorem LW.laidOut:laidOutB Tryz.prog=true := by kernel_rfl
theorem LW.mixed:Tryz.prog.follows .mixedOrders=true := by kernel_rfl
def LW.Fit (k : Nat) (F : Go.Ml.Fn) : Prop := (∃ fn, Tryz.prog.funcs[k]? = some fn ∧ abO Tryz.prog (Ru LW.fns) fn = some F) ∨ ∃ o, F.body = .lib o ∧ akL Tryz.prog k o
abbrev LW.T := VH LW.fns
theorem LW.ft{k:Nat}{F:Go.Ml.Fn}{fn:Func}(h:Tryz.prog.funcs[k]? = some fn)(h2:abO Tryz.prog (Ru LW.fns) fn=some F := by kernel_rfl):LW.Fit k F := Or.inl ⟨fn, h, h2⟩
theorem LW.aAo:LW.Fit 6 BX := LW.ft Tryz.func6
theorem LW.awe:LW.Fit 29 Eo := LW.ft Tryz.func29
theorem LW.awf:LW.Fit 75 wS := LW.ft Tryz.func75
theorem LW.arZ:LW.Fit 137 DU := LW.ft Tryz.func137
theorem LW.ar0:LW.Fit 165 Dn := LW.ft Tryz.func165
theorem LW.ar1:LW.Fit 114 FN := LW.ft Tryz.func114
theorem LW.ar2:LW.Fit 113 DR := LW.ft Tryz.func113
theorem LW.ar4:LW.Fit 167 Du := LW.ft Tryz.func167
theorem LW.ar5:LW.Fit 170 xM := LW.ft Tryz.func170
theorem LW.ar6:LW.Fit 118 sQ := LW.ft Tryz.func118
theorem LW.awg:LW.Fit 56 Hg := LW.ft Tryz.func56
theorem LW.awh:LW.Fit 28 rZ := LW.ft Tryz.func28
theorem LW.awi:LW.Fit 74 DI := LW.ft Tryz.func74
theorem LW.ar7:LW.Fit 136 wH := LW.ft Tryz.func136
theorem LW.ar8:LW.Fit 135 yS := LW.ft Tryz.func135
theorem LW.ar9:LW.Fit 166 Dq := LW.ft Tryz.func166
theorem LW.asa:LW.Fit 171 ru := LW.ft Tryz.func171
theorem LW.asb:LW.Fit 134 zl := LW.ft Tryz.func134
theorem LW.ase:LW.Fit 119 uU := LW.ft Tryz.func119
theorem LW.awj:LW.Fit 73 FB := LW.ft Tryz.func73
theorem LW.awk:LW.Fit 72 zB := LW.ft Tryz.func72
theorem LW.awl:LW.Fit 27 zQ := LW.ft Tryz.func27
theorem LW.awm:LW.Fit 71 qm := LW.ft Tryz.func71
theorem LW.asf:LW.Fit 133 xG := LW.ft Tryz.func133
theorem LW.asg:LW.Fit 131 uQ := LW.ft Tryz.func131
theorem LW.ash:LW.Fit 132 yG := LW.ft Tryz.func132
theorem LW.asi:LW.Fit 130 En := LW.ft Tryz.func130
theorem LW.awn:LW.Fit 67 Ed := LW.ft Tryz.func67
theorem LW.awo:LW.Fit 45 Bq := LW.ft Tryz.func45
theorem LW.awp:LW.Fit 44 yx := LW.ft Tryz.func44
theorem LW.asj:LW.Fit 102 qA := LW.ft Tryz.func102
theorem LW.asl:LW.Fit 101 vT := LW.ft Tryz.func101
theorem LW.asn:LW.Fit 110 xU := LW.ft Tryz.func110
theorem LW.aso:LW.Fit 163 xQ := LW.ft Tryz.func163
theorem LW.asq:LW.Fit 111 D5 := LW.ft Tryz.func111
theorem LW.awq:LW.Fit 24 wL := LW.ft Tryz.func24
theorem LW.awr:LW.Fit 25 FP := LW.ft Tryz.func25
theorem LW.aws:LW.Fit 52 kZ := LW.ft Tryz.func52
theorem LW.awt:LW.Fit 54 qF := LW.ft Tryz.func54
theorem LW.asr:LW.Fit 115 sU := LW.ft Tryz.func115
theorem LW.asu:LW.Fit 112 DT := LW.ft Tryz.func112
theorem LW.asv:LW.Fit 164 Dp := LW.ft Tryz.func164
theorem LW.awu:LW.Fit 17 tX := LW.ft Tryz.func17
theorem LW.awv:LW.Fit 58 rF := LW.ft Tryz.func58
theorem LW.aww:LW.Fit 18 zJ := LW.ft Tryz.func18
theorem LW.awx:LW.Fit 59 zI := LW.ft Tryz.func59
theorem LW.awy:LW.Fit 53 yE := LW.ft Tryz.func53
theorem LW.awz:LW.Fit 14 pq := LW.ft Tryz.func14
theorem LW.awC:LW.Fit 16 wV := LW.ft Tryz.func16
theorem LW.awD:LW.Fit 55 qG := LW.ft Tryz.func55
theorem LW.awE:LW.Fit 22 rQ := LW.ft Tryz.func22
theorem LW.awF:LW.Fit 60 tZ := LW.ft Tryz.func60
theorem LW.asw:LW.Fit 121 wz := LW.ft Tryz.func121
theorem LW.awG:LW.Fit 48 qV := LW.ft Tryz.func48
theorem LW.asx:LW.Fit 103 yZ := LW.ft Tryz.func103
theorem LW.asy:LW.Fit 105 DW := LW.ft Tryz.func105
theorem LW.asz:LW.Fit 104 qH := LW.ft Tryz.func104
theorem LW.asA:LW.Fit 120 yB := LW.ft Tryz.func120
theorem LW.asB:LW.Fit 168 BA := LW.ft Tryz.func168
theorem LW.asC:LW.Fit 185 xC := LW.ft Tryz.func185
theorem LW.asD:LW.Fit 117 uN := LW.ft Tryz.func117
theorem LW.awH:LW.Fit 64 xX := LW.ft Tryz.func64
theorem LW.awI:LW.Fit 49 sF := LW.ft Tryz.func49
theorem LW.asE:LW.Fit 106 Bf := LW.ft Tryz.func106
theorem LW.awJ:LW.Fit 70 vg := LW.ft Tryz.func70
theorem LW.awK:LW.Fit 50 yw := LW.ft Tryz.func50
theorem LW.asF:LW.Fit 107 zL := LW.ft Tryz.func107
theorem LW.asG:LW.Fit 129 xE := LW.ft Tryz.func129
theorem LW.awL:LW.Fit 15 wC := LW.ft Tryz.func15
theorem LW.awM:LW.Fit 57 pO := LW.ft Tryz.func57
theorem LW.asH:LW.Fit 116 tY := LW.ft Tryz.func116
theorem LW.awN:LW.Fit 13 BJ := LW.ft Tryz.func13
theorem LW.awO:LW.Fit 51 Ej := LW.ft Tryz.func51
theorem LW.asI:LW.Fit 109 BH := LW.ft Tryz.func109
theorem LW.awP:LW.Fit 66 zN := LW.ft Tryz.func66
theorem LW.awQ:LW.Fit 47 BF := LW.ft Tryz.func47
theorem LW.asJ:LW.Fit 108 FT := LW.ft Tryz.func108
theorem LW.asK:LW.Fit 162 BG := LW.ft Tryz.func162
theorem LW.asL:LW.Fit 146 uo := LW.ft Tryz.func146
theorem LW.asM:LW.Fit 178 yX := LW.ft Tryz.func178
theorem LW.asN:LW.Fit 147 Dy := LW.ft Tryz.func147
theorem LW.asO:LW.Fit 177 AO := LW.ft Tryz.func177
theorem LW.asP:LW.Fit 189 Dx := LW.ft Tryz.func189
theorem LW.asQ:LW.Fit 191 zq := LW.ft Tryz.func191
theorem LW.asR:LW.Fit 188 Dw := LW.ft Tryz.func188
theorem LW.asT:LW.Fit 175 FH := LW.ft Tryz.func175
theorem LW.asU:LW.Fit 190 zo := LW.ft Tryz.func190
theorem LW.asV:LW.Fit 161 DL := LW.ft Tryz.func161
theorem LW.asW:LW.Fit 184 zu := LW.ft Tryz.func184
theorem LW.asX:LW.Fit 183 zA := LW.ft Tryz.func183
theorem LW.asY:LW.Fit 159 FK := LW.ft Tryz.func159
theorem LW.awR:LW.Fit 78 FI := LW.ft Tryz.func78
theorem LW.asZ:LW.Fit 160 yY := LW.ft Tryz.func160
theorem LW.as1:LW.Fit 174 xP := LW.ft Tryz.func174
theorem LW.as3:LW.Fit 186 DC := LW.ft Tryz.func186
theorem LW.as4:LW.Fit 158 zC := LW.ft Tryz.func158
theorem LW.as5:LW.Fit 144 wJ := LW.ft Tryz.func144
theorem LW.awS:LW.Fit 46 Ei := LW.ft Tryz.func46
theorem LW.awT:LW.Fit 68 Ef := LW.ft Tryz.func68
theorem LW.awU:LW.Fit 26 yD := LW.ft Tryz.func26
theorem LW.awV:LW.Fit 69 BM := LW.ft Tryz.func69
theorem LW.as6:LW.Fit 128 BK := LW.ft Tryz.func128
theorem LW.as7:LW.Fit 127 oh := LW.ft Tryz.func127
theorem LW.awW:LW.Fit 80 xB := LW.ft Tryz.func80
theorem LW.as8:LW.Fit 150 AX := LW.ft Tryz.func150
theorem LW.all:akV (fun x:Nat×Nat×Go.Ml.Fn => LW.Fit x.1 x.2.2) LW.fns :=
  ⟨LW.aAo, LW.awe, LW.awf, LW.arZ, LW.ar0, LW.ar1, LW.ar2, LW.ar4, LW.ar5, LW.ar6, LW.awg, LW.awh, LW.awi, LW.ar7, LW.ar8, LW.ar9, LW.asa, LW.asb, LW.ase, LW.awj, LW.awk, LW.awl, LW.awm, LW.asf, LW.asg, LW.ash, LW.asi, LW.awn, LW.awo, LW.awp, LW.asj, LW.asl, LW.asn, LW.aso, LW.asq, LW.awq, LW.awr, LW.aws, LW.awt, LW.asr, LW.asu, LW.asv, LW.awu, LW.awv, LW.aww, LW.awx, LW.awy, LW.awz, LW.awC, LW.awD, LW.awE, LW.awF, LW.asw, LW.awG, LW.asx, LW.asy, LW.asz, LW.asA, LW.asB, LW.asC, LW.asD, LW.awH, LW.awI, LW.asE, LW.awJ, LW.awK, LW.asF, LW.asG, LW.awL, LW.awM, LW.asH, LW.awN, LW.awO, LW.asI, LW.awP, LW.awQ, LW.asJ, LW.asK, LW.asL, LW.asM, LW.asN, LW.asO, LW.asP, LW.asQ, LW.asR, LW.asT, LW.asU, LW.asV, LW.asW, LW.asX, LW.asY, LW.awR, LW.asZ, LW.as1, LW.as3, LW.as4, LW.as5, LW.awS, LW.awT, LW.awU, LW.awV, LW.as6, LW.as7, LW.awW, LW.as8, trivial⟩
set_option maxRecDepth 100000 in
theorem LW.fits:Fits Tryz.prog (Ru LW.fns) (VH LW.fns) := an6 (by decide) fun x hx => LW.all.mem x hx

theorem LW.d52:EX LW.T := ⟨rfl⟩
theorem LW.d32:zK LW.T := ⟨rfl, LW.d52⟩
theorem LW.awX:Eh LW.T := ⟨rfl⟩
theorem LW.d35:AP LW.T := ⟨rfl⟩
theorem LW.d34:Gt LW.T := ⟨rfl, LW.d35⟩
theorem LW.d71:qO LW.T := ⟨rfl⟩
theorem LW.d70:H7 LW.T := ⟨rfl, LW.d71⟩
theorem LW.d66:AQ LW.T := ⟨rfl, LW.d70⟩
theorem LW.d67:yu LW.T := ⟨rfl⟩
theorem LW.d53:zF LW.T := ⟨rfl, LW.d66, LW.d67⟩
theorem LW.d36:Ba LW.T := ⟨rfl, LW.d53⟩
theorem LW.d14:Bl LW.T := ⟨rfl, LW.d34, LW.d35, LW.d36⟩
theorem LW.awY:yc LW.T := ⟨rfl⟩
theorem LW.akW:rG LW.T := ⟨rfl, LW.awY⟩
theorem LW.aAL:GK LW.T := ⟨rfl, LW.d14, LW.akW⟩
theorem LW.aAM:GL LW.T := ⟨rfl, LW.d14, LW.akW, LW.aAL⟩
theorem LW.d87:Dh LW.T := ⟨rfl, LW.awX, LW.aAM, LW.akW⟩
theorem LW.awZ:FC LW.T := ⟨rfl⟩
theorem LW.aAN:ER LW.T := ⟨rfl, LW.awZ⟩
theorem LW.d69:sH LW.T := ⟨rfl⟩
theorem LW.aw0:zn LW.T := ⟨rfl⟩
theorem LW.as9:uV LW.T := ⟨rfl⟩
theorem LW.ata:yQ LW.T := ⟨rfl⟩
theorem LW.aAP:EK LW.T := ⟨rfl⟩
theorem LW.aw1:Dt LW.T := ⟨rfl, LW.as9⟩
theorem LW.aw2:Dv LW.T := ⟨rfl, LW.as9⟩
theorem LW.aw3:yT LW.T := ⟨rfl, LW.d69, LW.aw0, LW.as9, LW.ata, LW.aAP, LW.aw1, LW.aw2⟩
theorem LW.atb:tJ LW.T := ⟨rfl⟩
theorem LW.aw4:DJ LW.T := ⟨rfl, LW.d69, LW.aw0, LW.aw3, LW.atb⟩
theorem LW.adF:sD LW.T := ⟨rfl, LW.aAN, LW.awZ, LW.aw4⟩
theorem LW.aAQ:Io LW.T := ⟨rfl, LW.awX, LW.awY⟩
theorem LW.aw5:FM LW.T := ⟨rfl, LW.d35⟩
theorem LW.aAR:ES LW.T := ⟨rfl, LW.aw5⟩
theorem LW.aAS:Ic LW.T := ⟨rfl⟩
theorem LW.atc:yR LW.T := ⟨rfl⟩
theorem LW.aAT:EP LW.T := ⟨rfl, LW.aw5, LW.atc⟩
theorem LW.aAU:EO LW.T := ⟨rfl, LW.d67⟩
theorem LW.aAV:EM LW.T := ⟨rfl, LW.d71⟩
theorem LW.aw6:Dz LW.T := ⟨rfl, LW.d71⟩
theorem LW.aAW:EN LW.T := ⟨rfl, LW.d67, LW.atc, LW.aw6⟩
theorem LW.aAX:H6 LW.T := ⟨rfl, LW.d71⟩
theorem LW.aw7:DK LW.T := ⟨rfl, LW.d67, LW.d71, LW.atc, LW.aAV, LW.aAW, LW.aAX, LW.aw6⟩
theorem LW.aAY:H9 LW.T := ⟨rfl, LW.aAT, LW.aAU, LW.aw7⟩
theorem LW.aAZ:Ie LW.T := ⟨rfl, LW.d66, LW.d71, LW.aAS, LW.aAY, LW.aw7⟩
theorem LW.aA0:GH LW.T := ⟨rfl, LW.aAR, LW.aAZ⟩
theorem LW.aA1:JL LW.T := ⟨rfl, LW.d53, LW.aA0⟩
theorem LW.aA2:BI LW.T := ⟨rfl, LW.akW⟩
theorem LW.aA3:Ir LW.T := ⟨rfl, LW.akW, LW.aA1, LW.aA2⟩
theorem LW.aA4:GI LW.T := ⟨rfl, LW.aAQ, LW.aA3⟩
theorem LW.d68:nZ LW.T := ⟨rfl⟩
theorem LW.d54:zH LW.T := ⟨rfl, LW.d68, LW.d69⟩
theorem LW.d39:mO LW.T := ⟨rfl, LW.d54⟩
theorem LW.SV:l7 LW.T := ⟨rfl⟩
theorem LW.aA5:HY LW.T := ⟨rfl⟩
theorem LW.aA6:Ia LW.T := ⟨rfl, LW.d68, LW.ata, LW.aw1, LW.aA5⟩
theorem LW.an8:wQ LW.T := ⟨rfl, LW.d68, LW.aw2⟩
theorem LW.an9:vP LW.T := ⟨rfl⟩
theorem LW.ate:uY LW.T := ⟨rfl, LW.d68, LW.aw4, LW.aw3⟩
theorem LW.VK:lN LW.T := ⟨rfl, LW.SV, LW.aA6, LW.an8, LW.an9, LW.ate⟩
theorem LW.d37:D6 LW.T := ⟨rfl⟩
theorem LW.aA7:Gs LW.T := ⟨rfl, LW.SV⟩
theorem LW.aw9:AV LW.T := ⟨rfl, LW.adF, LW.aA7⟩
theorem LW.d84:qw LW.T := ⟨rfl, LW.d37, LW.aw9, LW.adF⟩
theorem LW.akX:pF LW.T := ⟨rfl, LW.SV, LW.an8, LW.an9, LW.ate⟩
theorem LW.axa:uO LW.T := ⟨rfl, LW.VK, LW.akX⟩
theorem LW.axb:y7 LW.T := ⟨rfl, LW.d68, LW.SV, LW.atb⟩
theorem LW.atf:wR LW.T := ⟨rfl, LW.VK, LW.axb⟩
theorem LW.aA8:Bh LW.T := ⟨rfl, LW.adF⟩
theorem LW.aA9:Bj LW.T := ⟨rfl, LW.d84, LW.akX, LW.axa, LW.atf, LW.aA8⟩
theorem LW.aBa:Aa LW.T := ⟨rfl, LW.d39, LW.VK, LW.SV, LW.aA9⟩
theorem LW.axc:D8 LW.T := ⟨rfl, LW.adF, LW.VK⟩
theorem LW.aBb:BD LW.T := ⟨rfl, LW.d84⟩
theorem LW.axd:vZ LW.T := ⟨rfl⟩
theorem LW.axe:um LW.T := ⟨rfl, LW.SV, LW.an8, LW.an9, LW.ate⟩
theorem LW.aBd:Bz LW.T := ⟨rfl, LW.VK, LW.SV, LW.axe, LW.akX, LW.axa, LW.atf⟩
theorem LW.aBe:Gy LW.T := ⟨rfl, LW.d39, LW.axd, LW.aBd⟩
theorem LW.axf:yC LW.T := ⟨rfl, LW.d39, LW.aBe, LW.VK, LW.SV⟩
theorem LW.axg:Bg LW.T := ⟨rfl, LW.atb⟩
theorem LW.aBf:EY LW.T := ⟨rfl, LW.axg⟩
theorem LW.aBg:CX LW.T := ⟨rfl, LW.aBf⟩
theorem LW.d88:C9 LW.T := ⟨rfl, LW.aBb, LW.axf, LW.aBg⟩
theorem LW.aBh:vV LW.T := ⟨rfl, LW.axg⟩
theorem LW.d89:yA LW.T := ⟨rfl, LW.d84, LW.axd⟩
theorem LW.axh:Bv LW.T := ⟨rfl⟩
theorem LW.atg:zh LW.T := ⟨rfl⟩
theorem LW.aBi:Gw LW.T := ⟨rfl, LW.d89, LW.axh, LW.atg⟩
theorem LW.ath:oD LW.T := ⟨rfl, LW.d32, LW.d37, LW.d39, LW.aw9, LW.adF, LW.VK⟩
theorem LW.aBj:yg LW.T := ⟨rfl, LW.d39, LW.d84, LW.VK, LW.axe, LW.akX, LW.atf, LW.axb, LW.ath⟩
theorem LW.aBk:zZ LW.T := ⟨rfl⟩
theorem LW.aBl:BP LW.T := ⟨rfl, LW.axf, LW.aBj, LW.aBk⟩
theorem LW.aBm:yM LW.T := ⟨rfl, LW.d39, LW.VK, LW.SV, LW.aBh, LW.aBi, LW.aBl⟩
theorem LW.axi:yF LW.T := ⟨rfl, LW.d39⟩
theorem LW.aBn:vk LW.T := ⟨rfl, LW.VK, LW.SV, LW.akX, LW.axc, LW.ath, LW.axi⟩
theorem LW.aBo:JD LW.T := ⟨rfl, LW.ath, LW.atg⟩
theorem LW.aBp:Fb LW.T := ⟨rfl, LW.aBn, LW.axi, LW.aBo⟩
theorem LW.aBq:Iy LW.T := ⟨rfl⟩
theorem LW.aBr:Dj LW.T := ⟨rfl⟩
theorem LW.aBs:yL LW.T := ⟨rfl⟩
theorem LW.aBt:BQ LW.T := ⟨rfl⟩
theorem LW.aBu:xA LW.T := ⟨rfl, LW.d89, LW.axh, LW.atg, LW.aBq, LW.aBr, LW.aBs, LW.aBt⟩
theorem LW.aBv:Fe LW.T := ⟨rfl, LW.d88, LW.VK, LW.SV, LW.aBm, LW.aBp, LW.aBu⟩
theorem LW.aBw:Ib LW.T := ⟨rfl, LW.ata⟩
theorem LW.aBx:DY LW.T := ⟨rfl, LW.SV, LW.an8, LW.an9, LW.aBw⟩
theorem LW.aBy:Iz LW.T := ⟨rfl, LW.adF, LW.aBx⟩
theorem LW.aBz:LZ LW.T := ⟨rfl, LW.d32, LW.d87, LW.adF, LW.aA4, LW.aBa, LW.axc, LW.aBv, LW.aBy⟩

theorem LW.args:VJ Tryz.prog [22] [(false, [.sl [.int .u8]])] :=
  ⟨_, _, rfl, by kernel_rfl, by kernel_rfl, rfl⟩

set_option maxRecDepth 100000 in
theorem LW.lifted(os:Os)(started:os.Started)(H:Type)(enc:TypeId×Value→H) :
    ReturnsInHanded {} Tryz.checked os 6 .any (Rows.fnLeastSpec.pre6 enc Tryz.prog Tryz.f6 Rows.fnLeastRow.domain false) (Rows.fnLeastSpec.post enc Tryz.prog Tryz.f6 false true false false) := by
  refine returnsInHanded_of_change (C := Tryz.checked) LW.own started (by kernel_rfl) Tryz.func6
    (ChangeSpec.witness6 (enc := enc) (C := Tryz.checked) false ⟨#[], #[.slice none 0 0], []⟩ 8 (by kernel_rfl) (by kernel_rfl) (by kernel_rfl) (by kernel_rfl)) ?_
  intro W base args ds gs before hval0 hW hcnd _
  have hval : ∀ (j : Nat) t v, Tryz.f6.params[j]? = some t → args[j]? = some v → Value.okWide Tryz.prog W .any base t v := hval0
  have hW' := hW
  obtain ⟨p, q, hA0, hV, rfl, hfz, hnd⟩ := hW
  have hA : DataW.TrodAll enc Tryz.prog W 0 (fun _ => true) true Tryz.f6.params.toList args.toList ds p := hA0
  rw [Tryz.params6] at hA hval
  obtain ⟨rfl, rfl⟩ := trodVars_none hV
  obtain ⟨d0, rfl⟩ : ∃ d0, ds = [d0] := by
    have hl := abv hA
    match ds, hl with
    | [d0], _ => exact ⟨d0, rfl⟩
  obtain ⟨Vs, hM, hrd⟩ := afi (r := .any) (b := base) LW.args (fun j t v ht hv => hval j t v (by simpa using ht) (by simpa using hv)) hA
  simp only [adD] at hM
  obtain ⟨cs0, _, rfl, m0, rfl⟩ := hM
  obtain ⟨v0, rfl, g0⟩ := afj m0
  obtain ⟨x0, rfl, wx0⟩ := agE g0
  clear hA0 hval0
  simp only [List.append_nil] at hW'
  have hlt : ∀ x ∈ p, x.block < W.heap.size := fun x hx => by simpa using hW'.lt x hx
  refine (adB LW.mixed LW.fits (Zg LW.aBz x0 wx0) rfl (vals := args) hrd).mono fun e W' ⟨he, hnx⟩ => ?_
  subst he
  refine ⟨_, rfl, _, _, _, [], p ++ [], [], hW', ?_, ?_, rfl, hnx.frame _, fun h => by cases h⟩
  · exact trodAll_mk1 ⟨1, rfl⟩
  · simp only [List.append_nil]
    exact NI LW.laidOut hnx (by kernel_rfl) hA hlt

theorem fnLeast_holds : Rows.FnLeastSaid :=
  OpenClaim.holds_of_wide 6 Tryz.f6 rfl rfl rfl rfl rfl rfl rfl ⟨rfl, rfl, rfl, rfl, rfl⟩ rfl rfl rfl rfl rfl (by kernel_rfl) Tryz.func6 (by kernel_rfl)
    (of_decide_eq_true (by kernel_rfl)) (by unfold Func.isWrapper; first | (rw [if_pos (by decide +kernel)]; kernel_rfl) | (rw [if_neg (by decide +kernel)]; exact ⟨rfl, rfl⟩))
    (fun os started H enc _ => LW.lifted os started H enc)
#print axioms fnLeast_holds
end Go.Proofs.YtbccjdlcbhknoaaGreat
