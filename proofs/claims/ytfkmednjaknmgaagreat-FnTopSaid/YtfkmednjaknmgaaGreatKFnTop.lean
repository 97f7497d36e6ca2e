/- For all arguments the law FnTop answers true, and its arguments read afterwards as before; no conditions. -/
import Derived.Test.YtfkmednjaknmgaaGreatRows
import Derived.Test.YtfkmednjaknmgaaGreatPart0
import Derived.Test.YtfkmednjaknmgaaGreatPart1
import Derived.Test.YtfkmednjaknmgaaGreatPart2
import Derived.Test.YtfkmednjaknmgaaGreatPart3
import Derived.Test.YtfkmednjaknmgaaGreatPart4
import Derived.Test.YtfkmednjaknmgaaGreatPart5
import Derived.Test.YtfkmednjaknmgaaGreatPart6
set_option linter.unusedSimpArgs false
set_option linter.unusedVariables false
namespace Go.Proofs.YtfkmednjaknmgaaGreat
open Go.ChangeShapes Go.WideShapes Go.ChangeAt Go.RowKit Go.Ml

def LW.fns : List (Nat × Nat × Go.Ml.Fn) := [(3, 267, Jq),
  (9, 273, Ji),
  (30, 236, H7),
  (29, 185, ni),
  (16, 131, sZ),
  (45, 144, vP),
  (86, 138, BQ),
  (84, 155, Gz),
  (109, 151, Af),
  (83, 154, Gw),
  (111, 153, uG),
  (82, 152, Gt),
  (110, 137, CU),
  (77, 69, xU),
  (85, 127, GL),
  (87, 139, y8),
  (76, 68, vN),
  (44, 143, Je),
  (43, 142, Hf),
  (42, 141, Hg),
  (81, 160, Gv),
  (17, 132, KO),
  (61, 102, uT),
  (91, 126, I9),
  (90, 125, Dj),
  (59, 101, Ap),
  (88, 124, Ai),
  (14, 39, wR),
  (38, 54, uI),
  (60, 37, Hy),
  (31, 32, CX),
  (62, 52, CW),
  (7, 272, zh),
  (22, 186, Bq),
  (23, 176, qZ),
  (51, 178, zH),
  (50, 157, tC),
  (6, 271, BH),
  (20, 222, Aw),
  (49, 237, H6),
  (48, 193, Bj),
  (66, 195, yc),
  (64, 83, yO),
  (35, 100, uU),
  (73, 123, G8),
  (107, 136, BX),
  (103, 150, GZ),
  (118, 71, Eh),
  (117, 149, GX),
  (120, 148, Df),
  (116, 146, GU),
  (93, 67, Jb),
  (119, 147, C9),
  (106, 135, Dh),
  (105, 134, Di),
  (71, 121, Jd),
  (104, 35, Jc),
  (72, 122, Cb),
  (70, 120, Dk),
  (95, 99, Ak),
  (94, 34, Et),
  (19, 181, Ic),
  (47, 129, ET),
  (36, 105, Ia),
  (21, 107, Dq),
  (5, 270, uN),
  (15, 274, wU),
  (41, 241, yS),
  (39, 182, uq),
  (78, 161, zu),
  (56, 159, Ci),
  (79, 156, tH),
  (52, 84, yL),
  (40, 109, BA),
  (80, 130, EZ),
  (108, 140, zV),
  (121, 158, xJ),
  (53, 111, sN),
  (13, 221, AB),
  (25, 180, Az),
  (24, 89, Bh),
  (18, 183, uQ),
  (46, 145, Ee),
  (8, 269, qj),
  (27, 276, qB),
  (55, 244, EK),
  (26, 275, qN),
  (54, 277, wV),
  (28, 231, sQ),
  (58, 243, uD),
  (89, 245, yU),
  (57, 93, Dn),
  (4, 171, Fa),
  (11, 179, Bz),
  (34, 189, zC),
  (69, 198, zB),
  (102, 206, xw),
  (92, 66, Ah),
  (112, 70, G5),
  (101, 205, Hl),
  (115, 209, GV),
  (33, 188, vZ),
  (68, 197, EG),
  (100, 204, EF),
  (67, 196, qG),
  (99, 203, zD),
  (114, 208, Hu),
  (98, 202, zT),
  (97, 201, zF),
  (113, 207, Hq),
  (96, 200, zG),
  (65, 194, Ie),
  (32, 36, zS),
  (63, 53, y9),
  (12, 87, BD),
  (37, 106, E8),
  (75, 128, EW),
  (74, 14, qh),
  (10, 12, zO)]

theorem LW.own:ownKnob Tryz.prog.godebug=none := by kernel_rfl
theorem LW.laidOut:laidOutB Tryz.prog=true := by kernel_rfl
theorem LW.mixed:Tryz.prog.follows .mixedOrders=true := by kernel_rfl
def LW.Fit (k : Nat) (F : Go.Ml.Fn) : Prop := (∃ fn, Tryz.prog.funcs[k]? = some fn ∧ afR Tryz.prog (V9 LW.fns) fn = some F) ∨ ∃ o, F.body = .lib o ∧ aoZ Tryz.prog k o
abbrev LW.T := ZB LW.fns
theorem LW.ft{k:Nat}{F:Go.Ml.Fn}{fn:Func}(h:Tryz.prog.funcs[k]? = some fn)(h2:afR Tryz.prog (V9 LW.fns) fn=some F := by kernel_rfl):LW.Fit k F := Or.inl ⟨fn, h, h2⟩
theorem LW.aFN:LW.Fit 3 Jq := LW.ft Tryz.func3
theorem LW.aFO:LW.Fit 9 Ji := LW.ft Tryz.func9
theorem LW.aAP:LW.Fit 30 H7 := LW.ft Tryz.func30
theorem LW.aAQ:LW.Fit 29 ni := LW.ft Tryz.func29
theorem LW.aAR:LW.Fit 16 sZ := LW.ft Tryz.func16
theorem LW.aAS:LW.Fit 45 vP := LW.ft Tryz.func45
theorem LW.aAT:LW.Fit 86 BQ := LW.ft Tryz.func86
theorem LW.aAU:LW.Fit 84 Gz := LW.ft Tryz.func84
theorem LW.awV:LW.Fit 109 Af := LW.ft Tryz.func109
theorem LW.aAV:LW.Fit 83 Gw := LW.ft Tryz.func83
theorem LW.awW:LW.Fit 111 uG := LW.ft Tryz.func111
theorem LW.aAW:LW.Fit 82 Gt := LW.ft Tryz.func82
theorem LW.awX:LW.Fit 110 CU := LW.ft Tryz.func110
theorem LW.aAX:LW.Fit 77 xU := LW.ft Tryz.func77
theorem LW.aAY:LW.Fit 85 GL := LW.ft Tryz.func85
theorem LW.aAZ:LW.Fit 87 y8 := LW.ft Tryz.func87
theorem LW.aA0:LW.Fit 76 vN := LW.ft Tryz.func76
theorem LW.aA1:LW.Fit 44 Je := LW.ft Tryz.func44
theorem LW.aA2:LW.Fit 43 Hf := LW.ft Tryz.func43
theorem LW.aA3:LW.Fit 42 Hg := LW.ft Tryz.func42
theorem LW.aA4:LW.Fit 81 Gv := LW.ft Tryz.func81
theorem LW.aA5:LW.Fit 17 KO := LW.ft Tryz.func17
theorem LW.aA6:LW.Fit 61 uT := LW.ft Tryz.func61
theorem LW.aA7:LW.Fit 91 I9 := LW.ft Tryz.func91
theorem LW.aA8:LW.Fit 90 Dj := LW.ft Tryz.func90
theorem LW.aA9:LW.Fit 59 Ap := LW.ft Tryz.func59
theorem LW.aBa:LW.Fit 88 Ai := LW.ft Tryz.func88
theorem LW.aBb:LW.Fit 14 wR := LW.ft Tryz.func14
theorem LW.aBd:LW.Fit 38 uI := LW.ft Tryz.func38
theorem LW.aBe:LW.Fit 60 Hy := LW.ft Tryz.func60
theorem LW.aBf:LW.Fit 31 CX := LW.ft Tryz.func31
theorem LW.aBg:LW.Fit 62 CW := LW.ft Tryz.func62
theorem LW.aF2:LW.Fit 7 zh := LW.ft Tryz.func7
theorem LW.aBh:LW.Fit 22 Bq := LW.ft Tryz.func22
theorem LW.aBi:LW.Fit 23 qZ := LW.ft Tryz.func23
theorem LW.aBj:LW.Fit 51 zH := LW.ft Tryz.func51
theorem LW.aBk:LW.Fit 50 tC := LW.ft Tryz.func50
theorem LW.aF5:LW.Fit 6 BH := LW.ft Tryz.func6
theorem LW.aBl:LW.Fit 20 Aw := LW.ft Tryz.func20
theorem LW.aBm:LW.Fit 49 H6 := LW.ft Tryz.func49
theorem LW.aBn:LW.Fit 48 Bj := LW.ft Tryz.func48
theorem LW.aBo:LW.Fit 66 yc := LW.ft Tryz.func66
theorem LW.aBp:LW.Fit 64 yO := LW.ft Tryz.func64
theorem LW.aBq:LW.Fit 35 uU := LW.ft Tryz.func35
theorem LW.aBr:LW.Fit 73 G8 := LW.ft Tryz.func73
theorem LW.awY:LW.Fit 107 BX := LW.ft Tryz.func107
theorem LW.awZ:LW.Fit 103 GZ := LW.ft Tryz.func103
theorem LW.aw0:LW.Fit 118 Eh := LW.ft Tryz.func118
theorem LW.aw1:LW.Fit 117 GX := LW.ft Tryz.func117
theorem LW.aw2:LW.Fit 120 Df := LW.ft Tryz.func120
theorem LW.aw3:LW.Fit 116 GU := LW.ft Tryz.func116
theorem LW.aBs:LW.Fit 93 Jb := LW.ft Tryz.func93
theorem LW.aw4:LW.Fit 119 C9 := LW.ft Tryz.func119
theorem LW.aw5:LW.Fit 106 Dh := LW.ft Tryz.func106
theorem LW.aw6:LW.Fit 105 Di := LW.ft Tryz.func105
theorem LW.aBt:LW.Fit 71 Jd := LW.ft Tryz.func71
theorem LW.aw7:LW.Fit 104 Jc := LW.ft Tryz.func104
theorem LW.aBu:LW.Fit 72 Cb := LW.ft Tryz.func72
theorem LW.aBv:LW.Fit 70 Dk := LW.ft Tryz.func70
theorem LW.aBw:LW.Fit 95 Ak := LW.ft Tryz.func95
theorem LW.aBx:LW.Fit 94 Et := LW.ft Tryz.func94
theorem LW.aBy:LW.Fit 19 Ic := LW.ft Tryz.func19
theorem LW.aBz:LW.Fit 47 ET := LW.ft Tryz.func47
theorem LW.aBA:LW.Fit 36 Ia := LW.ft Tryz.func36
theorem LW.aBB:LW.Fit 21 Dq := LW.ft Tryz.func21
theorem LW.aGc:LW.Fit 5 uN := LW.ft Tryz.func5
theorem LW.aBC:LW.Fit 15 wU := LW.ft Tryz.func15
theorem LW.aBD:LW.Fit 41 yS := LW.ft Tryz.func41
theorem LW.aBE:LW.Fit 39 uq := LW.ft Tryz.func39
theorem LW.aBF:LW.Fit 78 zu := LW.ft Tryz.func78
theorem LW.aBG:LW.Fit 56 Ci := LW.ft Tryz.func56
theorem LW.aBH:LW.Fit 79 tH := LW.ft Tryz.func79
theorem LW.aBI:LW.Fit 52 yL := LW.ft Tryz.func52
theorem LW.aBJ:LW.Fit 40 BA := LW.ft Tryz.func40
theorem LW.aBK:LW.Fit 80 EZ := LW.ft Tryz.func80
theorem LW.aw8:LW.Fit 108 zV := LW.ft Tryz.func108
theorem LW.aw9:LW.Fit 121 xJ := LW.ft Tryz.func121
theorem LW.aBL:LW.Fit 53 sN := LW.ft Tryz.func53
theorem LW.aBM:LW.Fit 13 AB := LW.ft Tryz.func13
theorem LW.aBN:LW.Fit 25 Az := LW.ft Tryz.func25
theorem LW.aBO:LW.Fit 24 Bh := LW.ft Tryz.func24
theorem LW.aBP:LW.Fit 18 uQ := LW.ft Tryz.func18
theorem LW.aBQ:LW.Fit 46 Ee := LW.ft Tryz.func46
theorem LW.aGk:LW.Fit 8 qj := LW.ft Tryz.func8
theorem LW.aBR:LW.Fit 27 qB := LW.ft Tryz.func27
theorem LW.aBS:LW.Fit 55 EK := LW.ft Tryz.func55
theorem LW.aBT:LW.Fit 26 qN := LW.ft Tryz.func26
theorem LW.aBU:LW.Fit 54 wV := LW.ft Tryz.func54
theorem LW.aBV:LW.Fit 28 sQ := LW.ft Tryz.func28
theorem LW.aBW:LW.Fit 58 uD := LW.ft Tryz.func58
theorem LW.aBX:LW.Fit 89 yU := LW.ft Tryz.func89
theorem LW.aBY:LW.Fit 57 Dn := LW.ft Tryz.func57
theorem LW.aGp:LW.Fit 4 Fa := LW.ft Tryz.func4
theorem LW.aBZ:LW.Fit 11 Bz := LW.ft Tryz.func11
theorem LW.aB0:LW.Fit 34 zC := LW.ft Tryz.func34
theorem LW.aB1:LW.Fit 69 zB := LW.ft Tryz.func69
theorem LW.axa:LW.Fit 102 xw := LW.ft Tryz.func102
theorem LW.aB2:LW.Fit 92 Ah := LW.ft Tryz.func92
theorem LW.axb:LW.Fit 112 G5 := LW.ft Tryz.func112
theorem LW.axc:LW.Fit 101 Hl := LW.ft Tryz.func101
theorem LW.axd:LW.Fit 115 GV := LW.ft Tryz.func115
theorem LW.aB3:LW.Fit 33 vZ := LW.ft Tryz.func33
theorem LW.aB4:LW.Fit 68 EG := LW.ft Tryz.func68
theorem LW.axe:LW.Fit 100 EF := LW.ft Tryz.func100
theorem LW.aB5:LW.Fit 67 qG := LW.ft Tryz.func67
theorem LW.aB6:LW.Fit 99 zD := LW.ft Tryz.func99
theorem LW.axf:LW.Fit 114 Hu := LW.ft Tryz.func114
theorem LW.aB7:LW.Fit 98 zT := LW.ft Tryz.func98
theorem LW.aB8:LW.Fit 97 zF := LW.ft Tryz.func97
theorem LW.axg:LW.Fit 113 Hq := LW.ft Tryz.func113
theorem LW.aB9:LW.Fit 96 zG := LW.ft Tryz.func96
theorem LW.aCa:LW.Fit 65 Ie := LW.ft Tryz.func65
theorem LW.aCb:LW.Fit 32 zS := LW.ft Tryz.func32
theorem LW.aCc:LW.Fit 63 y9 := LW.ft Tryz.func63
theorem LW.aCd:LW.Fit 12 BD := LW.ft Tryz.func12
theorem LW.aCe:LW.Fit 37 E8 := LW.ft Tryz.func37
theorem LW.aCf:LW.Fit 75 EW := LW.ft Tryz.func75
theorem LW.aCg:LW.Fit 74 qh := LW.ft Tryz.func74
theorem LW.aCh:LW.Fit 10 zO := LW.ft Tryz.func10
theorem LW.all:ao9 (fun x:Nat×Nat×Go.Ml.Fn => LW.Fit x.1 x.2.2) LW.fns :=
  ⟨LW.aFN, LW.aFO, LW.aAP, LW.aAQ, LW.aAR, LW.aAS, LW.aAT, LW.aAU, LW.awV, LW.aAV, LW.awW, LW.aAW, LW.awX, LW.aAX, LW.aAY, LW.aAZ, LW.aA0, LW.aA1, LW.aA2, LW.aA3, LW.aA4, LW.aA5, LW.aA6, LW.aA7, LW.aA8, LW.aA9, LW.aBa, LW.aBb, LW.aBd, LW.aBe, LW.aBf, LW.aBg, LW.aF2, LW.aBh, LW.aBi, LW.aBj, LW.aBk, LW.aF5, LW.aBl, LW.aBm, LW.aBn, LW.aBo, LW.aBp, LW.aBq, LW.aBr, LW.awY, LW.awZ, LW.aw0, LW.aw1, LW.aw2, LW.aw3, LW.aBs, LW.aw4, LW.aw5, LW.aw6, LW.aBt, LW.aw7, LW.aBu, LW.aBv, LW.aBw, LW.aBx, LW.aBy, LW.aBz, LW.aBA, LW.aBB, LW.aGc, LW.aBC, LW.aBD, LW.aBE, LW.aBF, LW.aBG, LW.aBH, LW.aBI, LW.aBJ, LW.aBK, LW.aw8, LW.aw9, LW.aBL, LW.aBM, LW.aBN, LW.aBO, LW.aBP, LW.aBQ, LW.aGk, LW.aBR, LW.aBS, LW.aBT, LW.aBU, LW.aBV, LW.aBW, LW.aBX, LW.aBY, LW.aGp, LW.aBZ, LW.aB0, LW.aB1, LW.axa, LW.aB2, LW.axb, LW.axc, LW.axd, LW.aB3, LW.aB4, LW.axe, LW.aB5, LW.aB6, LW.axf, LW.aB7, LW.aB8, LW.axg, LW.aB9, LW.aCa, LW.aCb, LW.aCc, LW.aCd, LW.aCe, LW.aCf, LW.aCg, LW.aCh, trivial⟩
set_option maxRecDepth 100000 in
theorem LW.fits:Fits Tryz.prog (V9 LW.fns) (ZB LW.fns) := asu (by decide) fun x hx => LW.all.mem x hx

theorem LW.d52:Iw LW.T := ⟨rfl⟩
theorem LW.d32:CY LW.T := ⟨rfl, LW.d52⟩
theorem LW.d12:Ed LW.T := ⟨rfl, LW.d32⟩
theorem LW.aCi:Ib LW.T := ⟨rfl⟩
theorem LW.d35:Ei LW.T := ⟨rfl⟩
theorem LW.d34:Eu LW.T := ⟨rfl, LW.d35⟩
theorem LW.d71:uh LW.T := ⟨rfl⟩
theorem LW.d70:Ls LW.T := ⟨rfl, LW.d71⟩
theorem LW.d66:vO LW.T := ⟨rfl, LW.d70⟩
theorem LW.d67:Bc LW.T := ⟨rfl⟩
theorem LW.d53:II LW.T := ⟨rfl, LW.d66, LW.d67⟩
theorem LW.d36:wQ LW.T := ⟨rfl, LW.d53⟩
theorem LW.d14:EJ LW.T := ⟨rfl, LW.d34, LW.d35, LW.d36⟩
theorem LW.aCk:AL LW.T := ⟨rfl⟩
theorem LW.asw:wI LW.T := ⟨rfl, LW.aCk⟩
theorem LW.aGE:J4 LW.T := ⟨rfl, LW.d14, LW.asw⟩
theorem LW.aGF:J8 LW.T := ⟨rfl, LW.d14, LW.asw, LW.aGE⟩
theorem LW.d87:Gm LW.T := ⟨rfl, LW.aCi, LW.aGF, LW.asw⟩
theorem LW.axh:Ej LW.T := ⟨rfl, LW.d35⟩
theorem LW.aGG:IG LW.T := ⟨rfl, LW.axh⟩
theorem LW.axi:Ce LW.T := ⟨rfl⟩
theorem LW.asx:zq LW.T := ⟨rfl⟩
theorem LW.aGH:IC LW.T := ⟨rfl, LW.axh, LW.asx⟩
theorem LW.aGI:IB LW.T := ⟨rfl, LW.d67⟩
theorem LW.aGJ:Iy LW.T := ⟨rfl, LW.d71⟩
theorem LW.apa:xk LW.T := ⟨rfl, LW.d71⟩
theorem LW.aGK:Iz LW.T := ⟨rfl, LW.d67, LW.asx, LW.apa⟩
theorem LW.aCl:GY LW.T := ⟨rfl, LW.d71⟩
theorem LW.aCm:G6 LW.T := ⟨rfl, LW.d67, LW.d71, LW.asx, LW.aGJ, LW.aGK, LW.aCl, LW.apa⟩
theorem LW.aCn:G9 LW.T := ⟨rfl, LW.aGH, LW.aGI, LW.aCm⟩
theorem LW.afz:tK LW.T := ⟨rfl, LW.aGG, LW.axh, LW.axi, LW.aCn⟩
theorem LW.d99:JL LW.T := ⟨rfl, LW.afz⟩
theorem LW.d83:vT LW.T := ⟨rfl, LW.d34, LW.d99, LW.afz⟩
theorem LW.aCo:Ey LW.T := ⟨rfl⟩
theorem LW.aCp:Bl LW.T := ⟨rfl, LW.d83, LW.aCo⟩
theorem LW.aGM:JY LW.T := ⟨rfl⟩
theorem LW.aCq:EH LW.T := ⟨rfl, LW.aGM⟩
theorem LW.aGN:MG LW.T := ⟨rfl, LW.aCq⟩
theorem LW.aGO:Ll LW.T := ⟨rfl⟩
theorem LW.aGP:LD LW.T := ⟨rfl, LW.d66, LW.asx, LW.aCl, LW.aGO⟩
theorem LW.axj:Cj LW.T := ⟨rfl, LW.d66, LW.d71, LW.axi, LW.aCn, LW.aCm⟩
theorem LW.aCr:Hr LW.T := ⟨rfl, LW.d66, LW.axi, LW.apa, LW.aGP, LW.axj⟩
theorem LW.axk:CB LW.T := ⟨rfl, LW.afz, LW.aCr⟩
theorem LW.aGQ:LQ LW.T := ⟨rfl, LW.afz, LW.apa, LW.axj⟩
theorem LW.aGR:LJ LW.T := ⟨rfl, LW.apa, LW.axj⟩
theorem LW.aCs:Hw LW.T := ⟨rfl, LW.afz, LW.aGR⟩
theorem LW.aGS:EI LW.T := ⟨rfl, LW.axk, LW.aCs⟩
theorem LW.aGT:LK LW.T := ⟨rfl, LW.d66⟩
theorem LW.aGU:LP LW.T := ⟨rfl, LW.afz, LW.aCr, LW.aGT⟩
theorem LW.aGV:ER LW.T := ⟨rfl, LW.d83, LW.afz, LW.axk, LW.aGQ, LW.aCs, LW.aGS, LW.aGU⟩
theorem LW.aGW:J5 LW.T := ⟨rfl, LW.d36, LW.d83, LW.aCp, LW.aGN, LW.aCo, LW.aGV, LW.aCq⟩
theorem LW.aGX:Gi LW.T := ⟨rfl, LW.d36, LW.afz, LW.aGW, LW.axk⟩
theorem LW.aGY:J9 LW.T := ⟨rfl, LW.d87, LW.aGX⟩
theorem LW.d37:Hz LW.T := ⟨rfl⟩
theorem LW.aCt:Ja LW.T := ⟨rfl⟩
theorem LW.aGZ:IE LW.T := ⟨rfl, LW.aCt⟩
theorem LW.d69:vC LW.T := ⟨rfl⟩
theorem LW.aCu:CV LW.T := ⟨rfl⟩
theorem LW.axl:xW LW.T := ⟨rfl⟩
theorem LW.aCv:Gu LW.T := ⟨rfl⟩
theorem LW.aG1:Iu LW.T := ⟨rfl⟩
theorem LW.aCw:Gy LW.T := ⟨rfl, LW.axl⟩
theorem LW.aCx:GH LW.T := ⟨rfl, LW.axl⟩
theorem LW.aCy:BR LW.T := ⟨rfl, LW.d69, LW.aCu, LW.axl, LW.aCv, LW.aG1, LW.aCw, LW.aCx⟩
theorem LW.axm:wH LW.T := ⟨rfl⟩
theorem LW.aCz:GN LW.T := ⟨rfl, LW.d69, LW.aCu, LW.aCy, LW.axm⟩
theorem LW.apb:yK LW.T := ⟨rfl, LW.aGZ, LW.aCt, LW.aCz⟩
theorem LW.aaj:pG LW.T := ⟨rfl⟩
theorem LW.aCA:Aj LW.T := ⟨rfl, LW.aaj⟩
theorem LW.aCB:Eo LW.T := ⟨rfl, LW.apb, LW.aCA⟩
theorem LW.d84:yM LW.T := ⟨rfl, LW.d37, LW.aCB, LW.apb⟩
theorem LW.aCC:yP LW.T := ⟨rfl⟩
theorem LW.d89:vG LW.T := ⟨rfl, LW.d84, LW.aCC⟩
theorem LW.asy:vU LW.T := ⟨rfl⟩
theorem LW.d68:oh LW.T := ⟨rfl⟩
theorem LW.d54:Dl LW.T := ⟨rfl, LW.d68, LW.d69⟩
theorem LW.d39:nV LW.T := ⟨rfl, LW.d54⟩
theorem LW.axn:yg LW.T := ⟨rfl, LW.d39⟩
theorem LW.d93:Dp LW.T := ⟨rfl, LW.apb⟩
theorem LW.axo:BZ LW.T := ⟨rfl, LW.d68, LW.aCx⟩
theorem LW.axp:Bd LW.T := ⟨rfl⟩
theorem LW.axq:xX LW.T := ⟨rfl, LW.d68, LW.aCz, LW.aCy⟩
theorem LW.axr:uY LW.T := ⟨rfl, LW.aaj, LW.axo, LW.axp, LW.axq⟩
theorem LW.asz:yj LW.T := ⟨rfl, LW.aaj⟩
theorem LW.akN:qL LW.T := ⟨rfl, LW.aaj, LW.axo, LW.axp, LW.axq⟩
theorem LW.aG2:Lj LW.T := ⟨rfl⟩
theorem LW.aG3:LC LW.T := ⟨rfl, LW.d68, LW.aCv, LW.aCw, LW.aG2⟩
theorem LW.ZF:nM LW.T := ⟨rfl, LW.aaj, LW.aG3, LW.axo, LW.axp, LW.axq⟩
theorem LW.axt:uV LW.T := ⟨rfl, LW.d68, LW.aaj, LW.axm⟩
theorem LW.asA:tu LW.T := ⟨rfl, LW.ZF, LW.axt⟩
theorem LW.aG4:DI LW.T := ⟨rfl, LW.akN, LW.asA, LW.asz⟩
theorem LW.aG5:EM LW.T := ⟨rfl, LW.d93, LW.aCA, LW.axr, LW.asz, LW.aG4⟩
theorem LW.aG6:DJ LW.T := ⟨rfl, LW.d93, LW.aG5⟩
theorem LW.aG7:AU LW.T := ⟨rfl, LW.d39, LW.ZF, LW.axt⟩
theorem LW.aG8:xE LW.T := ⟨rfl, LW.d89, LW.asy, LW.asz, LW.aG7⟩
theorem LW.aG9:wG LW.T := ⟨rfl, LW.d39, LW.d89, LW.ZF, LW.akN, LW.asA, LW.asy, LW.asz⟩
theorem LW.aHa:AV LW.T := ⟨rfl, LW.d89, LW.asy, LW.axn, LW.aG6, LW.aG8, LW.aG9⟩
theorem LW.aHb:JK LW.T := ⟨rfl, LW.axm⟩
theorem LW.aHc:yI LW.T := ⟨rfl, LW.aHb⟩
theorem LW.aCE:H8 LW.T := ⟨rfl⟩
theorem LW.aHd:JU LW.T := ⟨rfl, LW.d89, LW.asy, LW.aCE⟩
theorem LW.aHe:BK LW.T := ⟨rfl, LW.ZF, LW.akN⟩
theorem LW.aHf:ES LW.T := ⟨rfl, LW.ZF, LW.aaj, LW.axr, LW.akN, LW.aHe, LW.asA⟩
theorem LW.aHg:J6 LW.T := ⟨rfl, LW.d39, LW.aCC, LW.aHf⟩
theorem LW.aHh:Gj LW.T := ⟨rfl, LW.d39, LW.aHg, LW.ZF, LW.aaj⟩
theorem LW.axu:qA LW.T := ⟨rfl, LW.d32, LW.d37, LW.d39, LW.aCB, LW.apb, LW.ZF⟩
theorem LW.aHi:AQ LW.T := ⟨rfl, LW.d39, LW.d84, LW.ZF, LW.axr, LW.akN, LW.asA, LW.axt, LW.axu⟩
theorem LW.aHj:DF LW.T := ⟨rfl⟩
theorem LW.aHk:Fj LW.T := ⟨rfl, LW.aHh, LW.aHi, LW.aHj⟩
theorem LW.aHl:BM LW.T := ⟨rfl, LW.d39, LW.ZF, LW.aaj, LW.aHc, LW.aHd, LW.aHk⟩
theorem LW.aHm:Me LW.T := ⟨rfl, LW.aCi, LW.aCk⟩
theorem LW.aHn:LY LW.T := ⟨rfl⟩
theorem LW.aHo:ED LW.T := ⟨rfl, LW.aCp, LW.aHn⟩
theorem LW.aHp:Gp LW.T := ⟨rfl, LW.asw, LW.aHm, LW.aHo⟩
theorem LW.aHq:LV LW.T := ⟨rfl, LW.apb, LW.ZF⟩
theorem LW.aHr:yh LW.T := ⟨rfl, LW.ZF, LW.aaj, LW.akN, LW.aHq, LW.axu, LW.axn⟩
theorem LW.aCF:Jj LW.T := ⟨rfl, LW.axu, LW.aCE⟩
theorem LW.aHs:IU LW.T := ⟨rfl, LW.aHr, LW.axn, LW.aCF⟩
theorem LW.aHt:U1 LW.T := ⟨rfl, LW.d12, LW.aGY, LW.aHa, LW.aHl, LW.aHp, LW.aHs, LW.aCF⟩

theorem LW.args:ZE Tryz.prog [22] [(false, [.sl [.int .u8]])] :=
  ⟨_, _, rfl, by kernel_rfl, by kernel_rfl, rfl⟩

set_option maxRecDepth 100000 in
theorem LW.lifted(os:Os)(started:os.Started)(H:Type)(enc:TypeId×Value→H) :
    ReturnsInHanded {} Tryz.checked os 3 .any (Rows.fnTopSpec.pre6 enc Tryz.prog Tryz.f3 Rows.fnTopRow.domain false) (Rows.fnTopSpec.post enc Tryz.prog Tryz.f3 false true false false) := by
  refine returnsInHanded_of_change (C := Tryz.checked) LW.own started (by kernel_rfl) Tryz.func3
    (ChangeSpec.witness6 (enc := enc) (C := Tryz.checked) false ⟨#[], #[.slice none 0 0], []⟩ 8 (by kernel_rfl) (by kernel_rfl) (by kernel_rfl) (by kernel_rfl)) ?_
  intro W base args ds gs before hval0 hW hcnd _
  have hval : ∀ (j : Nat) t v, Tryz.f3.params[j]? = some t → args[j]? = some v → Value.okWide Tryz.prog W .any base t v := hval0
  have hW' := hW
  obtain ⟨p, q, hA0, hV, rfl, hfz, hnd⟩ := hW
  have hA : DataW.TrodAll enc Tryz.prog W 0 (fun _ => true) true Tryz.f3.params.toList args.toList ds p := hA0
  rw [Tryz.params3] at hA hval
  obtain ⟨rfl, rfl⟩ := trodVars_none hV
  obtain ⟨d0, rfl⟩ : ∃ d0, ds = [d0] := by
    have hl := afy hA
    match ds, hl with
    | [d0], _ => exact ⟨d0, rfl⟩
  obtain ⟨Vs, hM, hrd⟩ := ajt (r := .any) (b := base) LW.args (fun j t v ht hv => hval j t v (by simpa using ht) (by simpa using hv)) hA
  simp only [ahO] at hM
  obtain ⟨cs0, _, rfl, m0, rfl⟩ := hM
  obtain ⟨v0, rfl, g0⟩ := aju m0
  obtain ⟨x0, rfl, wx0⟩ := akM g0
  clear hA0 hval0
  simp only [List.append_nil] at hW'
  have hlt : ∀ x ∈ p, x.block < W.heap.size := fun x hx => by simpa using hW'.lt x hx
  refine (ahM LW.mixed LW.fits (ahH LW.aHt x0 wx0) rfl (vals := args) hrd).mono fun e W' ⟨he, hnx⟩ => ?_
  subst he
  refine ⟨_, rfl, _, _, _, [], p ++ [], [], hW', ?_, ?_, rfl, hnx.frame _, fun h => by cases h⟩
  · exact trodAll_mk1 ⟨1, rfl⟩
  · simp only [List.append_nil]
    exact RF LW.laidOut hnx (by kernel_rfl) hA hlt

theorem fnTop_holds : Rows.FnTopSaid :=
  OpenClaim.holds_of_wide 3 Tryz.f3 rfl rfl rfl rfl rfl rfl rfl ⟨rfl, rfl, rfl, rfl, rfl⟩ rfl rfl rfl rfl rfl (by kernel_rfl) Tryz.func3 (by kernel_rfl)
    (of_decide_eq_true (by kernel_rfl)) (by unfold Func.isWrapper; first | (rw [if_pos (by decide +kernel)]; kernel_rfl) | (rw [if_neg (by decide +kernel)]; exact ⟨rfl, rfl⟩))
    (fun os started H enc _ => LW.lifted os started H enc)
#print axioms fnTop_holds
end Go.Proofs.YtfkmednjaknmgaaGreat
