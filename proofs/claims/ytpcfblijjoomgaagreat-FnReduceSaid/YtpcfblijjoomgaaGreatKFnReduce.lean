/- For all arguments the law FnReduce answers true, and its arguments read afterwards as before; no conditions. -/
import Derived.Test.YtpcfblijjoomgaaGreatRows
import Derived.Test.YtpcfblijjoomgaaGreatPart0
import Derived.Test.YtpcfblijjoomgaaGreatPart1
import Derived.Test.YtpcfblijjoomgaaGreatPart2
import Derived.Test.YtpcfblijjoomgaaGreatPart3
import Derived.Test.YtpcfblijjoomgaaGreatPart4
import Derived.Test.YtpcfblijjoomgaaGreatPart5
import Derived.Test.YtpcfblijjoomgaaGreatPart6
set_option linter.unusedSimpArgs false
set_option linter.unusedVariables false
namespace Go.Proofs.YtpcfblijjoomgaaGreat
open Go.ChangeShapes Go.WideShapes Go.ChangeAt Go.RowKit Go.Ml

def LW.fns : List (Nat × Nat × Go.Ml.Fn) := [(3, 266, CO),
  (8, 269, pI),
  (20, 276, pV),
  (39, 244, D9),
  (68, 132, JV),
  (13, 180, DY),
  (43, 159, Bq),
  (64, 161, yO),
  (69, 139, yB),
  (96, 68, uV),
  (41, 131, sF),
  (74, 144, uY),
  (103, 138, Bd),
  (102, 155, Gh),
  (115, 151, zH),
  (101, 154, Gf),
  (116, 153, uf),
  (100, 152, F6),
  (113, 137, BK),
  (98, 69, xq),
  (95, 127, Gm),
  (73, 143, IU),
  (72, 142, GL),
  (71, 141, GN),
  (99, 160, F8),
  (42, 157, sH),
  (12, 89, Aq),
  (32, 111, rQ),
  (31, 84, xW),
  (63, 102, uG),
  (94, 126, II),
  (93, 125, Cb),
  (62, 101, zN),
  (75, 124, zK),
  (61, 37, G5),
  (40, 39, vU),
  (70, 54, uj),
  (19, 275, qp),
  (38, 277, wu),
  (21, 231, rV),
  (45, 243, tY),
  (76, 245, yh),
  (65, 156, sJ),
  (44, 93, Cj),
  (22, 186, Az),
  (7, 268, vZ),
  (16, 274, vV),
  (35, 241, yg),
  (33, 182, tV),
  (66, 185, mG),
  (23, 32, BN),
  (46, 52, BM),
  (34, 109, AL),
  (67, 130, Et),
  (97, 140, zu),
  (114, 158, wR),
  (17, 183, uD),
  (36, 145, Dx),
  (18, 110, Ah),
  (37, 133, BQ),
  (6, 173, Ej),
  (14, 181, He),
  (15, 129, Ei),
  (28, 105, G8),
  (5, 172, zT),
  (4, 171, Ew),
  (10, 179, AB),
  (26, 189, yR),
  (54, 198, yQ),
  (87, 206, wI),
  (92, 136, Bh),
  (88, 150, Gv),
  (110, 71, Dz),
  (109, 149, Gt),
  (112, 148, BU),
  (108, 146, Gq),
  (78, 67, IK),
  (111, 147, BR),
  (58, 123, GH),
  (91, 135, BX),
  (90, 134, BZ),
  (56, 121, IQ),
  (89, 35, IL),
  (57, 122, Bl),
  (77, 66, zJ),
  (104, 70, Gw),
  (86, 205, GR),
  (107, 209, Gs),
  (27, 100, uH),
  (55, 120, Ce),
  (25, 188, vF),
  (53, 197, D5),
  (85, 204, DZ),
  (52, 196, qg),
  (84, 203, yS),
  (106, 208, GY),
  (83, 202, zo),
  (82, 201, yT),
  (105, 207, GV),
  (81, 200, yU),
  (49, 83, xY),
  (80, 99, zM),
  (79, 34, DR),
  (51, 195, xB),
  (50, 194, Hf),
  (48, 193, Au),
  (24, 36, zn),
  (47, 53, yC),
  (11, 87, AO),
  (30, 107, CG),
  (29, 106, Eu),
  (60, 128, Em),
  (59, 14, pG),
  (9, 12, zh)]

theorem LW.own:ownKnob Tryz.prog.godebug=none := by kernel_rfl
theorem LW.laidOut:laidOutB Tryz.prog=true := by kernel_rfl
theorem LW.mixed:Tryz.prog.follows .mixedOrders=true := by kernel_rfl
def LW.Fit (k : Nat) (F : Go.Ml.Fn) : Prop := (∃ fn, Tryz.prog.funcs[k]? = some fn ∧ aeP Tryz.prog (Vm LW.fns) fn = some F) ∨ ∃ o, F.body = .lib o ∧ anx Tryz.prog k o
abbrev LW.T := YP LW.fns
theorem LW.ft{k:Nat}{F:Go.Ml.Fn}{fn:Func}(h:Tryz.prog.funcs[k]? = some fn)(h2:aeP Tryz.prog (Vm LW.fns) fn=some F := by kernel_rfl):LW.Fit k F := Or.inl ⟨fn, h, h2⟩
theorem LW.aDR:LW.Fit 3 CO := LW.ft Tryz.func3
theorem LW.aDS:LW.Fit 8 pI := LW.ft Tryz.func8
theorem LW.ayZ:LW.Fit 20 pV := LW.ft Tryz.func20
theorem LW.ay0:LW.Fit 39 D9 := LW.ft Tryz.func39
theorem LW.ay1:LW.Fit 68 JV := LW.ft Tryz.func68
theorem LW.ay2:LW.Fit 13 DY := LW.ft Tryz.func13
theorem LW.ay3:LW.Fit 43 Bq := LW.ft Tryz.func43
theorem LW.ay4:LW.Fit 64 yO := LW.ft Tryz.func64
theorem LW.ay5:LW.Fit 69 yB := LW.ft Tryz.func69
theorem LW.ay6:LW.Fit 96 uV := LW.ft Tryz.func96
theorem LW.ay7:LW.Fit 41 sF := LW.ft Tryz.func41
theorem LW.ay8:LW.Fit 74 uY := LW.ft Tryz.func74
theorem LW.avd:LW.Fit 103 Bd := LW.ft Tryz.func103
theorem LW.ave:LW.Fit 102 Gh := LW.ft Tryz.func102
theorem LW.avf:LW.Fit 115 zH := LW.ft Tryz.func115
theorem LW.avg:LW.Fit 101 Gf := LW.ft Tryz.func101
theorem LW.avh:LW.Fit 116 uf := LW.ft Tryz.func116
theorem LW.avi:LW.Fit 100 F6 := LW.ft Tryz.func100
theorem LW.avj:LW.Fit 113 BK := LW.ft Tryz.func113
theorem LW.ay9:LW.Fit 98 xq := LW.ft Tryz.func98
theorem LW.aza:LW.Fit 95 Gm := LW.ft Tryz.func95
theorem LW.azb:LW.Fit 73 IU := LW.ft Tryz.func73
theorem LW.azc:LW.Fit 72 GL := LW.ft Tryz.func72
theorem LW.azd:LW.Fit 71 GN := LW.ft Tryz.func71
theorem LW.aze:LW.Fit 99 F8 := LW.ft Tryz.func99
theorem LW.azf:LW.Fit 42 sH := LW.ft Tryz.func42
theorem LW.azg:LW.Fit 12 Aq := LW.ft Tryz.func12
theorem LW.azh:LW.Fit 32 rQ := LW.ft Tryz.func32
theorem LW.azi:LW.Fit 31 xW := LW.ft Tryz.func31
theorem LW.azj:LW.Fit 63 uG := LW.ft Tryz.func63
theorem LW.azk:LW.Fit 94 II := LW.ft Tryz.func94
theorem LW.azl:LW.Fit 93 Cb := LW.ft Tryz.func93
theorem LW.azm:LW.Fit 62 zN := LW.ft Tryz.func62
theorem LW.azn:LW.Fit 75 zK := LW.ft Tryz.func75
theorem LW.azo:LW.Fit 61 G5 := LW.ft Tryz.func61
theorem LW.azp:LW.Fit 40 vU := LW.ft Tryz.func40
theorem LW.azq:LW.Fit 70 uj := LW.ft Tryz.func70
theorem LW.azr:LW.Fit 19 qp := LW.ft Tryz.func19
theorem LW.azs:LW.Fit 38 wu := LW.ft Tryz.func38
theorem LW.azt:LW.Fit 21 rV := LW.ft Tryz.func21
theorem LW.azu:LW.Fit 45 tY := LW.ft Tryz.func45
theorem LW.azv:LW.Fit 76 yh := LW.ft Tryz.func76
theorem LW.azw:LW.Fit 65 sJ := LW.ft Tryz.func65
theorem LW.azz:LW.Fit 44 Cj := LW.ft Tryz.func44
theorem LW.azA:LW.Fit 22 Az := LW.ft Tryz.func22
theorem LW.aD7:LW.Fit 7 vZ := LW.ft Tryz.func7
theorem LW.azB:LW.Fit 16 vV := LW.ft Tryz.func16
theorem LW.azC:LW.Fit 35 yg := LW.ft Tryz.func35
theorem LW.azD:LW.Fit 33 tV := LW.ft Tryz.func33
theorem LW.azE:LW.Fit 66 mG := LW.ft Tryz.func66
theorem LW.azF:LW.Fit 23 BN := LW.ft Tryz.func23
theorem LW.azG:LW.Fit 46 BM := LW.ft Tryz.func46
theorem LW.azH:LW.Fit 34 AL := LW.ft Tryz.func34
theorem LW.azI:LW.Fit 67 Et := LW.ft Tryz.func67
theorem LW.azJ:LW.Fit 97 zu := LW.ft Tryz.func97
theorem LW.avk:LW.Fit 114 wR := LW.ft Tryz.func114
theorem LW.azK:LW.Fit 17 uD := LW.ft Tryz.func17
theorem LW.azL:LW.Fit 36 Dx := LW.ft Tryz.func36
theorem LW.azM:LW.Fit 18 Ah := LW.ft Tryz.func18
theorem LW.azN:LW.Fit 37 BQ := LW.ft Tryz.func37
theorem LW.aEc:LW.Fit 6 Ej := LW.ft Tryz.func6
theorem LW.azO:LW.Fit 14 He := LW.ft Tryz.func14
theorem LW.azP:LW.Fit 15 Ei := LW.ft Tryz.func15
theorem LW.azQ:LW.Fit 28 G8 := LW.ft Tryz.func28
theorem LW.aEd:LW.Fit 5 zT := LW.ft Tryz.func5
theorem LW.aEe:LW.Fit 4 Ew := LW.ft Tryz.func4
theorem LW.azR:LW.Fit 10 AB := LW.ft Tryz.func10
theorem LW.azS:LW.Fit 26 yR := LW.ft Tryz.func26
theorem LW.azT:LW.Fit 54 yQ := LW.ft Tryz.func54
theorem LW.azU:LW.Fit 87 wI := LW.ft Tryz.func87
theorem LW.azV:LW.Fit 92 Bh := LW.ft Tryz.func92
theorem LW.azW:LW.Fit 88 Gv := LW.ft Tryz.func88
theorem LW.avl:LW.Fit 110 Dz := LW.ft Tryz.func110
theorem LW.avm:LW.Fit 109 Gt := LW.ft Tryz.func109
theorem LW.avn:LW.Fit 112 BU := LW.ft Tryz.func112
theorem LW.avo:LW.Fit 108 Gq := LW.ft Tryz.func108
theorem LW.azX:LW.Fit 78 IK := LW.ft Tryz.func78
theorem LW.avp:LW.Fit 111 BR := LW.ft Tryz.func111
theorem LW.azY:LW.Fit 58 GH := LW.ft Tryz.func58
theorem LW.azZ:LW.Fit 91 BX := LW.ft Tryz.func91
theorem LW.az0:LW.Fit 90 BZ := LW.ft Tryz.func90
theorem LW.az1:LW.Fit 56 IQ := LW.ft Tryz.func56
theorem LW.az2:LW.Fit 89 IL := LW.ft Tryz.func89
theorem LW.az3:LW.Fit 57 Bl := LW.ft Tryz.func57
theorem LW.az4:LW.Fit 77 zJ := LW.ft Tryz.func77
theorem LW.avq:LW.Fit 104 Gw := LW.ft Tryz.func104
theorem LW.az5:LW.Fit 86 GR := LW.ft Tryz.func86
theorem LW.avr:LW.Fit 107 Gs := LW.ft Tryz.func107
theorem LW.az6:LW.Fit 27 uH := LW.ft Tryz.func27
theorem LW.az7:LW.Fit 55 Ce := LW.ft Tryz.func55
theorem LW.az8:LW.Fit 25 vF := LW.ft Tryz.func25
theorem LW.az9:LW.Fit 53 D5 := LW.ft Tryz.func53
theorem LW.aAa:LW.Fit 85 DZ := LW.ft Tryz.func85
theorem LW.aAb:LW.Fit 52 qg := LW.ft Tryz.func52
theorem LW.aAc:LW.Fit 84 yS := LW.ft Tryz.func84
theorem LW.avs:LW.Fit 106 GY := LW.ft Tryz.func106
theorem LW.aAd:LW.Fit 83 zo := LW.ft Tryz.func83
theorem LW.aAe:LW.Fit 82 yT := LW.ft Tryz.func82
theorem LW.avt:LW.Fit 105 GV := LW.ft Tryz.func105
theorem LW.aAf:LW.Fit 81 yU := LW.ft Tryz.func81
theorem LW.aAg:LW.Fit 49 xY := LW.ft Tryz.func49
theorem LW.aAh:LW.Fit 80 zM := LW.ft Tryz.func80
theorem LW.aAi:LW.Fit 79 DR := LW.ft Tryz.func79
theorem LW.aAj:LW.Fit 51 xB := LW.ft Tryz.func51
theorem LW.aAk:LW.Fit 50 Hf := LW.ft Tryz.func50
theorem LW.aAl:LW.Fit 48 Au := LW.ft Tryz.func48
theorem LW.aAm:LW.Fit 24 zn := LW.ft Tryz.func24
theorem LW.aAn:LW.Fit 47 yC := LW.ft Tryz.func47
theorem LW.aAo:LW.Fit 11 AO := LW.ft Tryz.func11
theorem LW.aAp:LW.Fit 30 CG := LW.ft Tryz.func30
theorem LW.aAq:LW.Fit 29 Eu := LW.ft Tryz.func29
theorem LW.aAr:LW.Fit 60 Em := LW.ft Tryz.func60
theorem LW.aAs:LW.Fit 59 pG := LW.ft Tryz.func59
theorem LW.aEF:LW.Fit 9 zh := LW.ft Tryz.func9
theorem LW.all:anI (fun x:Nat×Nat×Go.Ml.Fn => LW.Fit x.1 x.2.2) LW.fns :=
  ⟨LW.aDR, LW.aDS, LW.ayZ, LW.ay0, LW.ay1, LW.ay2, LW.ay3, LW.ay4, LW.ay5, LW.ay6, LW.ay7, LW.ay8, LW.avd, LW.ave, LW.avf, LW.avg, LW.avh, LW.avi, LW.avj, LW.ay9, LW.aza, LW.azb, LW.azc, LW.azd, LW.aze, LW.azf, LW.azg, LW.azh, LW.azi, LW.azj, LW.azk, LW.azl, LW.azm, LW.azn, LW.azo, LW.azp, LW.azq, LW.azr, LW.azs, LW.azt, LW.azu, LW.azv, LW.azw, LW.azz, LW.azA, LW.aD7, LW.azB, LW.azC, LW.azD, LW.azE, LW.azF, LW.azG, LW.azH, LW.azI, LW.azJ, LW.avk, LW.azK, LW.azL, LW.azM, LW.azN, LW.aEc, LW.azO, LW.azP, LW.azQ, LW.aEd, LW.aEe, LW.azR, LW.azS, LW.azT, LW.azU, LW.azV, LW.azW, LW.avl, LW.avm, LW.avn, LW.avo, LW.azX, LW.avp, LW.azY, LW.azZ, LW.az0, LW.az1, LW.az2, LW.az3, LW.az4, LW.avq, LW.az5, LW.avr, LW.az6, LW.az7, LW.az8, LW.az9, LW.aAa, LW.aAb, LW.aAc, LW.avs, LW.aAd, LW.aAe, LW.avt, LW.aAf, LW.aAg, LW.aAh, LW.aAi, LW.aAj, LW.aAk, LW.aAl, LW.aAm, LW.aAn, LW.aAo, LW.aAp, LW.aAq, LW.aAr, LW.aAs, LW.aEF, trivial⟩
set_option maxRecDepth 100000 in
theorem LW.fits:Fits Tryz.prog (Vm LW.fns) (YP LW.fns) := aqN (by decide) fun x hx => LW.all.mem x hx

theorem LW.d52:Ig LW.T := ⟨rfl⟩
theorem LW.d32:BO LW.T := ⟨rfl, LW.d52⟩
theorem LW.d12:Dw LW.T := ⟨rfl, LW.d32⟩
theorem LW.aAt:G9 LW.T := ⟨rfl⟩
theorem LW.d35:DC LW.T := ⟨rfl⟩
theorem LW.d34:DT LW.T := ⟨rfl, LW.d35⟩
theorem LW.d71:tC LW.T := ⟨rfl⟩
theorem LW.d70:KA LW.T := ⟨rfl, LW.d71⟩
theorem LW.d66:uX LW.T := ⟨rfl, LW.d70⟩
theorem LW.d67:Ai LW.T := ⟨rfl⟩
theorem LW.d53:Ir LW.T := ⟨rfl, LW.d66, LW.d67⟩
theorem LW.d36:vT LW.T := ⟨rfl, LW.d53⟩
theorem LW.d14:D8 LW.T := ⟨rfl, LW.d34, LW.d35, LW.d36⟩
theorem LW.avu:xH LW.T := ⟨rfl⟩
theorem LW.avv:yE LW.T := ⟨rfl, LW.avu⟩
theorem LW.aEI:Ju LW.T := ⟨rfl, LW.d14, LW.avv⟩
theorem LW.aEJ:Jz LW.T := ⟨rfl, LW.d14, LW.avv, LW.aEI⟩
theorem LW.d87:FU LW.T := ⟨rfl, LW.aAt, LW.aEJ, LW.avv⟩
theorem LW.avw:DF LW.T := ⟨rfl, LW.d35⟩
theorem LW.aEK:Ip LW.T := ⟨rfl, LW.avw⟩
theorem LW.avx:Bo LW.T := ⟨rfl⟩
theorem LW.aqP:yM LW.T := ⟨rfl⟩
theorem LW.aEL:Il LW.T := ⟨rfl, LW.avw, LW.aqP⟩
theorem LW.aEM:Ik LW.T := ⟨rfl, LW.d67⟩
theorem LW.aEN:Ii LW.T := ⟨rfl, LW.d71⟩
theorem LW.anJ:wF LW.T := ⟨rfl, LW.d71⟩
theorem LW.aEO:Ij LW.T := ⟨rfl, LW.d67, LW.aqP, LW.anJ⟩
theorem LW.aAv:Gu LW.T := ⟨rfl, LW.d71⟩
theorem LW.aAw:Gy LW.T := ⟨rfl, LW.d67, LW.d71, LW.aqP, LW.aEN, LW.aEO, LW.aAv, LW.anJ⟩
theorem LW.aAx:GI LW.T := ⟨rfl, LW.aEL, LW.aEM, LW.aAw⟩
theorem LW.aev:sN LW.T := ⟨rfl, LW.aEK, LW.avw, LW.avx, LW.aAx⟩
theorem LW.d99:Jk LW.T := ⟨rfl, LW.aev⟩
theorem LW.d83:vg LW.T := ⟨rfl, LW.d34, LW.d99, LW.aev⟩
theorem LW.aAy:DV LW.T := ⟨rfl⟩
theorem LW.aEQ:FI LW.T := ⟨rfl, LW.d83, LW.aAy⟩
theorem LW.aER:Jr LW.T := ⟨rfl⟩
theorem LW.aAz:D6 LW.T := ⟨rfl, LW.aER⟩
theorem LW.aES:KX LW.T := ⟨rfl, LW.aAz⟩
theorem LW.aET:Kz LW.T := ⟨rfl⟩
theorem LW.aEU:KE LW.T := ⟨rfl, LW.d66, LW.aqP, LW.aAv, LW.aET⟩
theorem LW.avy:Bv LW.T := ⟨rfl, LW.d66, LW.d71, LW.avx, LW.aAx, LW.aAw⟩
theorem LW.aAA:GX LW.T := ⟨rfl, LW.d66, LW.avx, LW.anJ, LW.aEU, LW.avy⟩
theorem LW.avz:Bz LW.T := ⟨rfl, LW.aev, LW.aAA⟩
theorem LW.aEV:KN LW.T := ⟨rfl, LW.aev, LW.anJ, LW.avy⟩
theorem LW.aEW:KH LW.T := ⟨rfl, LW.anJ, LW.avy⟩
theorem LW.aAB:GZ LW.T := ⟨rfl, LW.aev, LW.aEW⟩
theorem LW.aEX:D7 LW.T := ⟨rfl, LW.avz, LW.aAB⟩
theorem LW.aEY:KI LW.T := ⟨rfl, LW.d66⟩
theorem LW.aEZ:KL LW.T := ⟨rfl, LW.aev, LW.aAA, LW.aEY⟩
theorem LW.aE0:Ef LW.T := ⟨rfl, LW.d83, LW.aev, LW.avz, LW.aEV, LW.aAB, LW.aEX, LW.aEZ⟩
theorem LW.aE1:Jv LW.T := ⟨rfl, LW.d36, LW.d83, LW.aEQ, LW.aES, LW.aAy, LW.aE0, LW.aAz⟩
theorem LW.aE2:FP LW.T := ⟨rfl, LW.d36, LW.aev, LW.aE1, LW.avz⟩
theorem LW.aE3:JA LW.T := ⟨rfl, LW.d87, LW.aE2⟩
theorem LW.d37:G6 LW.T := ⟨rfl⟩
theorem LW.aAC:IJ LW.T := ⟨rfl⟩
theorem LW.aE4:Io LW.T := ⟨rfl, LW.aAC⟩
theorem LW.d69:uP LW.T := ⟨rfl⟩
theorem LW.aAD:BL LW.T := ⟨rfl⟩
theorem LW.avA:xu LW.T := ⟨rfl⟩
theorem LW.aAE:F7 LW.T := ⟨rfl⟩
theorem LW.aE6:Ie LW.T := ⟨rfl⟩
theorem LW.aAF:Gg LW.T := ⟨rfl, LW.avA⟩
theorem LW.aAG:Gi LW.T := ⟨rfl, LW.avA⟩
theorem LW.aAH:Bf LW.T := ⟨rfl, LW.d69, LW.aAD, LW.avA, LW.aAE, LW.aE6, LW.aAF, LW.aAG⟩
theorem LW.avC:vM LW.T := ⟨rfl⟩
theorem LW.aAI:Gn LW.T := ⟨rfl, LW.d69, LW.aAD, LW.aAH, LW.avC⟩
theorem LW.aqQ:Ap LW.T := ⟨rfl, LW.aE4, LW.aAC, LW.aAI⟩
theorem LW.aew:pW LW.T := ⟨rfl⟩
theorem LW.aAJ:zL LW.T := ⟨rfl, LW.aew⟩
theorem LW.aAK:DN LW.T := ⟨rfl, LW.aqQ, LW.aAJ⟩
theorem LW.d84:xX LW.T := ⟨rfl, LW.d37, LW.aAK, LW.aqQ⟩
theorem LW.aAL:xZ LW.T := ⟨rfl⟩
theorem LW.d89:rU LW.T := ⟨rfl, LW.d84, LW.aAL⟩
theorem LW.aqR:xC LW.T := ⟨rfl⟩
theorem LW.aE7:Jp LW.T := ⟨rfl, LW.d89, LW.aqR⟩
theorem LW.aE8:KU LW.T := ⟨rfl, LW.aAt, LW.avu⟩
theorem LW.aE9:Jt LW.T := ⟨rfl, LW.avu, LW.aE8⟩
theorem LW.aAN:Dy LW.T := ⟨rfl, LW.avC⟩
theorem LW.aFa:Ih LW.T := ⟨rfl, LW.aAN⟩
theorem LW.aFb:FB LW.T := ⟨rfl, LW.aFa⟩
theorem LW.aFc:xR LW.T := ⟨rfl, LW.aAN⟩
theorem LW.d68:nT LW.T := ⟨rfl⟩
theorem LW.d54:Ci LW.T := ⟨rfl, LW.d68, LW.d69⟩
theorem LW.d39:nX LW.T := ⟨rfl, LW.d54⟩
theorem LW.aFd:Kw LW.T := ⟨rfl⟩
theorem LW.aFe:KD LW.T := ⟨rfl, LW.d68, LW.aAE, LW.aAF, LW.aFd⟩
theorem LW.avE:Bj LW.T := ⟨rfl, LW.d68, LW.aAG⟩
theorem LW.avF:Aj LW.T := ⟨rfl⟩
theorem LW.avG:xw LW.T := ⟨rfl, LW.d68, LW.aAI, LW.aAH⟩
theorem LW.aex:oO LW.T := ⟨rfl, LW.aew, LW.aFe, LW.avE, LW.avF, LW.avG⟩
theorem LW.avH:uM LW.T := ⟨rfl, LW.aew, LW.avE, LW.avF, LW.avG⟩
theorem LW.anK:qL LW.T := ⟨rfl, LW.aew, LW.avE, LW.avF, LW.avG⟩
theorem LW.aFf:AV LW.T := ⟨rfl, LW.aex, LW.anK⟩
theorem LW.avI:uJ LW.T := ⟨rfl, LW.d68, LW.aew, LW.avC⟩
theorem LW.aqS:sG LW.T := ⟨rfl, LW.aex, LW.avI⟩
theorem LW.aFg:Eh LW.T := ⟨rfl, LW.aex, LW.aew, LW.avH, LW.anK, LW.aFf, LW.aqS⟩
theorem LW.aFh:Jw LW.T := ⟨rfl, LW.d39, LW.aAL, LW.aFg⟩
theorem LW.aFi:FQ LW.T := ⟨rfl, LW.d39, LW.aFh, LW.aex, LW.aew⟩
theorem LW.aFj:vJ LW.T := ⟨rfl, LW.d32, LW.d37, LW.d39, LW.aAK, LW.aqQ, LW.aex⟩
theorem LW.aFk:zX LW.T := ⟨rfl, LW.d39, LW.d84, LW.aex, LW.avH, LW.anK, LW.aqS, LW.avI, LW.aFj⟩
theorem LW.aFl:CY LW.T := ⟨rfl⟩
theorem LW.aFm:Ez LW.T := ⟨rfl, LW.aFi, LW.aFk, LW.aFl⟩
theorem LW.aFo:EC LW.T := ⟨rfl, LW.d89, LW.aFb, LW.aFc, LW.aFm⟩
theorem LW.aFp:FN LW.T := ⟨rfl, LW.d39⟩
theorem LW.d93:CB LW.T := ⟨rfl, LW.aqQ⟩
theorem LW.aqT:xE LW.T := ⟨rfl, LW.aew⟩
theorem LW.aFq:CZ LW.T := ⟨rfl, LW.anK, LW.aqS, LW.aqT⟩
theorem LW.aFr:Ea LW.T := ⟨rfl, LW.d93, LW.aAJ, LW.avH, LW.aqT, LW.aFq⟩
theorem LW.aFs:C9 LW.T := ⟨rfl, LW.d93, LW.aFr⟩
theorem LW.aFt:zZ LW.T := ⟨rfl, LW.d39, LW.aex, LW.avI⟩
theorem LW.aFu:wO LW.T := ⟨rfl, LW.d89, LW.aqR, LW.aqT, LW.aFt⟩
theorem LW.aFv:vK LW.T := ⟨rfl, LW.d39, LW.d89, LW.aex, LW.anK, LW.aqS, LW.aqR, LW.aqT⟩
theorem LW.aFw:Aa LW.T := ⟨rfl, LW.d89, LW.aqR, LW.aFp, LW.aFs, LW.aFu, LW.aFv⟩
theorem LW.aFx:Oh LW.T := ⟨rfl, LW.d12, LW.aE3, LW.aE7, LW.aE9, LW.aFo, LW.aFw⟩

theorem LW.args:YR Tryz.prog [22] [(false, [.sl [.int .u8]])] :=
  ⟨_, _, rfl, by kernel_rfl, by kernel_rfl, rfl⟩

set_option maxRecDepth 100000 in
theorem LW.lifted(os:Os)(started:os.Started)(H:Type)(enc:TypeId×Value→H) :
    ReturnsInHanded {} Tryz.checked os 3 .any (Rows.fnReduceSpec.pre6 enc Tryz.prog Tryz.f3 Rows.fnReduceRow.domain false) (Rows.fnReduceSpec.post enc Tryz.prog Tryz.f3 false true false false) := by
  refine returnsInHanded_of_change (C := Tryz.checked) LW.own started (by kernel_rfl) Tryz.func3
    (ChangeSpec.witness6 (enc := enc) (C := Tryz.checked) false ⟨#[], #[.slice none 0 0], []⟩ 8 (by kernel_rfl) (by kernel_rfl) (by kernel_rfl) (by kernel_rfl)) ?_
  intro W base args ds gs before hval0 hW hcnd _
  have hval : ∀ (j : Nat) t v, Tryz.f3.params[j]? = some t → args[j]? = some v → Value.okWide Tryz.prog W .any base t v := hval0
  have hW' := hW
  obtain ⟨p, q, hA0, hV, rfl, hfz, hnd⟩ := hW
  have hA : DataW.TrodAll enc Tryz.prog W 0 (fun _ => true) true Tryz.f3.params.toList args.toList ds p := hA0
  rw [Tryz.params3] at hA hval
  obtain ⟨rfl, rfl⟩ := trodVars_none hV
  obtain ⟨d0, rfl⟩ : ∃ d0, ds = [d0] := by
    have hl := aeu hA
    match ds, hl with
    | [d0], _ => exact ⟨d0, rfl⟩
  obtain ⟨Vs, hM, hrd⟩ := aii (r := .any) (b := base) LW.args (fun j t v ht hv => hval j t v (by simpa using ht) (by simpa using hv)) hA
  simp only [agG] at hM
  obtain ⟨cs0, _, rfl, m0, rfl⟩ := hM
  obtain ⟨v0, rfl, g0⟩ := aij m0
  obtain ⟨x0, rfl, wx0⟩ := ajy g0
  clear hA0 hval0
  simp only [List.append_nil] at hW'
  have hlt : ∀ x ∈ p, x.block < W.heap.size := fun x hx => by simpa using hW'.lt x hx
  refine (agE LW.mixed LW.fits (Zm LW.aFx x0 wx0) rfl (vals := args) hrd).mono fun e W' ⟨he, hnx⟩ => ?_
  subst he
  refine ⟨_, rfl, _, _, _, [], p ++ [], [], hW', ?_, ?_, rfl, hnx.frame _, fun h => by cases h⟩
  · exact trodAll_mk1 ⟨1, rfl⟩
  · simp only [List.append_nil]
    exact QC LW.laidOut hnx (by kernel_rfl) hA hlt

theorem fnReduce_holds : Rows.FnReduceSaid :=
  OpenClaim.holds_of_wide 3 Tryz.f3 rfl rfl rfl rfl rfl rfl rfl ⟨rfl, rfl, rfl, rfl, rfl⟩ rfl rfl rfl rfl rfl (by kernel_rfl) Tryz.func3 (by kernel_rfl)
    (of_decide_eq_true (by kernel_rfl)) (by unfold Func.isWrapper; first | (rw [if_pos (by decide +kernel)]; kernel_rfl) | (rw [if_neg (by decide +kernel)]; exact ⟨rfl, rfl⟩))
    (fun os started H enc _ => LW.lifted os started H enc)
#print axioms fnReduce_holds
end Go.Proofs.YtpcfblijjoomgaaGreat
