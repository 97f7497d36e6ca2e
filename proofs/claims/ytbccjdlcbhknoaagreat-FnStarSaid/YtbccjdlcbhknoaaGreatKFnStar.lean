/- For all arguments the law FnStar answers true, and its arguments read afterwards as before; no conditions. -/
import Derived.Test.YtbccjdlcbhknoaaGreatRows
import Derived.Test.YtbccjdlcbhknoaaGreatPart0
import Derived.Test.YtbccjdlcbhknoaaGreatPart1
import Derived.Test.YtbccjdlcbhknoaaGreatPart2
import Derived.Test.YtbccjdlcbhknoaaGreatPart3
import Derived.Test.YtbccjdlcbhknoaaGreatPart4
import Derived.Test.YtbccjdlcbhknoaaGreatPart5
set_option linter.unusedSimpArgs false
set_option linter.unusedVariables false
namespace Go.Proofs.YtbccjdlcbhknoaaGreat
open Go.ChangeShapes Go.WideShapes Go.ChangeAt Go.RowKit Go.Ml

def LW.fns : List (Nat × Nat × Go.Ml.Fn) := [(3, 170, yJ),
  (16, 178, kQ),
  (54, 131, iH),
  (115, 144, jI),
  (135, 138, qB),
  (167, 155, xg),
  (170, 151, oD),
  (166, 154, wY),
  (171, 153, jd),
  (165, 152, wV),
  (134, 137, qW),
  (119, 69, kY),
  (74, 127, xI),
  (136, 139, mG),
  (118, 68, jG),
  (114, 143, zI),
  (113, 142, xU),
  (112, 141, xW),
  (164, 160, wX),
  (56, 132, Bz),
  (28, 102, jr),
  (73, 126, zC),
  (72, 125, rG),
  (15, 177, l7),
  (57, 187, gJ),
  (116, 192, kH),
  (105, 159, xZ),
  (103, 161, qJ),
  (117, 158, kU),
  (55, 157, iI),
  (101, 84, lX),
  (110, 101, oO),
  (163, 124, oL),
  (111, 37, yw),
  (17, 39, kF),
  (58, 54, jg),
  (14, 176, fV),
  (53, 186, ql),
  (52, 185, bC),
  (18, 32, rZ),
  (59, 52, rV),
  (13, 175, vJ),
  (51, 184, yI),
  (109, 191, vH),
  (66, 107, sJ),
  (47, 129, vC),
  (108, 190, zL),
  (162, 199, vG),
  (146, 206, kP),
  (178, 136, qF),
  (147, 150, xC),
  (177, 71, uj),
  (189, 149, xA),
  (191, 148, rC),
  (188, 146, xu),
  (175, 67, zF),
  (190, 147, ru),
  (161, 123, xO),
  (184, 135, rD),
  (183, 134, rF),
  (159, 121, zH),
  (78, 35, zG),
  (160, 122, qH),
  (174, 66, oJ),
  (186, 70, xE),
  (158, 120, rH),
  (144, 53, mO),
  (46, 181, yG),
  (68, 105, yE),
  (12, 174, fZ),
  (49, 183, jw),
  (106, 145, uK),
  (48, 182, iW),
  (104, 156, nD),
  (50, 110, pR),
  (107, 133, sF),
  (44, 89, pU),
  (102, 111, iD),
  (11, 173, vF),
  (10, 172, oZ),
  (45, 180, uX),
  (9, 171, vP),
  (43, 179, qh),
  (81, 189, nI),
  (145, 198, nH),
  (176, 205, xX),
  (187, 209, xw),
  (100, 100, jv),
  (99, 188, jP),
  (155, 197, vg),
  (83, 204, uY),
  (157, 196, fC),
  (85, 203, nJ),
  (149, 208, yj),
  (182, 202, oh),
  (84, 201, nK),
  (148, 207, yg),
  (82, 200, nM),
  (139, 83, lY),
  (151, 99, oM),
  (150, 34, uG),
  (140, 195, lH),
  (156, 194, yD),
  (77, 193, pW),
  (80, 36, og),
  (26, 87, qj),
  (69, 106, vO),
  (128, 128, vM),
  (127, 14, eG)]

theorem LW.own : ownKnob Tryz.prog.godebug = none := by kernel_rfl
theorem LW.laidOut : laidOutB Tryz.prog = true := by kernel_rfl
theorem LW.mixed : Tryz.prog.follows .mixedOrders = true := by kernel_rfl
def LW.Fit (k : Nat) (F : Go.Ml.Fn) : Prop := (∃ fn, Tryz.prog.funcs[k]? = some fn ∧ aaf Tryz.prog (MK LW.fns) fn = some F) ∨ ∃ o, F.body = .lib o ∧ ae1 Tryz.prog k o
theorem LW.as1 : LW.Fit 3 yJ := Or.inl ⟨_, Tryz.func3, by kernel_rfl⟩
theorem LW.aoM : LW.Fit 16 kQ := Or.inl ⟨_, Tryz.func16, by kernel_rfl⟩
theorem LW.aoN : LW.Fit 54 iH := Or.inl ⟨_, Tryz.func54, by kernel_rfl⟩
theorem LW.ald : LW.Fit 115 jI := Or.inl ⟨_, Tryz.func115, by kernel_rfl⟩
theorem LW.ale : LW.Fit 135 qB := Or.inl ⟨_, Tryz.func135, by kernel_rfl⟩
theorem LW.alf : LW.Fit 167 xg := Or.inl ⟨_, Tryz.func167, by kernel_rfl⟩
theorem LW.alg : LW.Fit 170 oD := Or.inl ⟨_, Tryz.func170, by kernel_rfl⟩
theorem LW.alh : LW.Fit 166 wY := Or.inl ⟨_, Tryz.func166, by kernel_rfl⟩
theorem LW.ali : LW.Fit 171 jd := Or.inl ⟨_, Tryz.func171, by kernel_rfl⟩
theorem LW.alj : LW.Fit 165 wV := Or.inl ⟨_, Tryz.func165, by kernel_rfl⟩
theorem LW.alk : LW.Fit 134 qW := Or.inl ⟨_, Tryz.func134, by kernel_rfl⟩
theorem LW.alm : LW.Fit 119 kY := Or.inl ⟨_, Tryz.func119, by kernel_rfl⟩
theorem LW.aoO : LW.Fit 74 xI := Or.inl ⟨_, Tryz.func74, by kernel_rfl⟩
theorem LW.aln : LW.Fit 136 mG := Or.inl ⟨_, Tryz.func136, by kernel_rfl⟩
theorem LW.alo : LW.Fit 118 jG := Or.inl ⟨_, Tryz.func118, by kernel_rfl⟩
theorem LW.alp : LW.Fit 114 zI := Or.inl ⟨_, Tryz.func114, by kernel_rfl⟩
theorem LW.alq : LW.Fit 113 xU := Or.inl ⟨_, Tryz.func113, by kernel_rfl⟩
theorem LW.alr : LW.Fit 112 xW := Or.inl ⟨_, Tryz.func112, by kernel_rfl⟩
theorem LW.als : LW.Fit 164 wX := Or.inl ⟨_, Tryz.func164, by kernel_rfl⟩
theorem LW.aoP : LW.Fit 56 Bz := Or.inl ⟨_, Tryz.func56, by kernel_rfl⟩
theorem LW.aoQ : LW.Fit 28 jr := Or.inl ⟨_, Tryz.func28, by kernel_rfl⟩
theorem LW.aoR : LW.Fit 73 zC := Or.inl ⟨_, Tryz.func73, by kernel_rfl⟩
theorem LW.aoS : LW.Fit 72 rG := Or.inl ⟨_, Tryz.func72, by kernel_rfl⟩
theorem LW.aoT : LW.Fit 15 l7 := Or.inl ⟨_, Tryz.func15, by kernel_rfl⟩
theorem LW.aoU : LW.Fit 57 gJ := Or.inl ⟨_, Tryz.func57, by kernel_rfl⟩
theorem LW.alu : LW.Fit 116 kH := Or.inl ⟨_, Tryz.func116, by kernel_rfl⟩
theorem LW.alv : LW.Fit 105 xZ := Or.inl ⟨_, Tryz.func105, by kernel_rfl⟩
theorem LW.alx : LW.Fit 103 qJ := Or.inl ⟨_, Tryz.func103, by kernel_rfl⟩
theorem LW.aly : LW.Fit 117 kU := Or.inl ⟨_, Tryz.func117, by kernel_rfl⟩
theorem LW.aoV : LW.Fit 55 iI := Or.inl ⟨_, Tryz.func55, by kernel_rfl⟩
theorem LW.alz : LW.Fit 101 lX := Or.inl ⟨_, Tryz.func101, by kernel_rfl⟩
theorem LW.alA : LW.Fit 110 oO := Or.inl ⟨_, Tryz.func110, by kernel_rfl⟩
theorem LW.alB : LW.Fit 163 oL := Or.inl ⟨_, Tryz.func163, by kernel_rfl⟩
theorem LW.alC : LW.Fit 111 yw := Or.inl ⟨_, Tryz.func111, by kernel_rfl⟩
theorem LW.aoW : LW.Fit 17 kF := Or.inl ⟨_, Tryz.func17, by kernel_rfl⟩
theorem LW.aoX : LW.Fit 58 jg := Or.inl ⟨_, Tryz.func58, by kernel_rfl⟩
theorem LW.aoY : LW.Fit 14 fV := Or.inl ⟨_, Tryz.func14, by kernel_rfl⟩
theorem LW.aoZ : LW.Fit 53 ql := Or.inl ⟨_, Tryz.func53, by kernel_rfl⟩
theorem LW.ao0 : LW.Fit 52 bC := Or.inl ⟨_, Tryz.func52, by kernel_rfl⟩
theorem LW.ao1 : LW.Fit 18 rZ := Or.inl ⟨_, Tryz.func18, by kernel_rfl⟩
theorem LW.ao2 : LW.Fit 59 rV := Or.inl ⟨_, Tryz.func59, by kernel_rfl⟩
theorem LW.ao3 : LW.Fit 13 vJ := Or.inl ⟨_, Tryz.func13, by kernel_rfl⟩
theorem LW.ao4 : LW.Fit 51 yI := Or.inl ⟨_, Tryz.func51, by kernel_rfl⟩
theorem LW.alD : LW.Fit 109 vH := Or.inl ⟨_, Tryz.func109, by kernel_rfl⟩
theorem LW.ao5 : LW.Fit 66 sJ := Or.inl ⟨_, Tryz.func66, by kernel_rfl⟩
theorem LW.ao6 : LW.Fit 47 vC := Or.inl ⟨_, Tryz.func47, by kernel_rfl⟩
theorem LW.alE : LW.Fit 108 zL := Or.inl ⟨_, Tryz.func108, by kernel_rfl⟩
theorem LW.alF : LW.Fit 162 vG := Or.inl ⟨_, Tryz.func162, by kernel_rfl⟩
theorem LW.alG : LW.Fit 146 kP := Or.inl ⟨_, Tryz.func146, by kernel_rfl⟩
theorem LW.alH : LW.Fit 178 qF := Or.inl ⟨_, Tryz.func178, by kernel_rfl⟩
theorem LW.alI : LW.Fit 147 xC := Or.inl ⟨_, Tryz.func147, by kernel_rfl⟩
theorem LW.alJ : LW.Fit 177 uj := Or.inl ⟨_, Tryz.func177, by kernel_rfl⟩
theorem LW.alK : LW.Fit 189 xA := Or.inl ⟨_, Tryz.func189, by kernel_rfl⟩
theorem LW.alL : LW.Fit 191 rC := Or.inl ⟨_, Tryz.func191, by kernel_rfl⟩
theorem LW.alM : LW.Fit 188 xu := Or.inl ⟨_, Tryz.func188, by kernel_rfl⟩
theorem LW.alN : LW.Fit 175 zF := Or.inl ⟨_, Tryz.func175, by kernel_rfl⟩
theorem LW.alO : LW.Fit 190 ru := Or.inl ⟨_, Tryz.func190, by kernel_rfl⟩
theorem LW.alP : LW.Fit 161 xO := Or.inl ⟨_, Tryz.func161, by kernel_rfl⟩
theorem LW.alQ : LW.Fit 184 rD := Or.inl ⟨_, Tryz.func184, by kernel_rfl⟩
theorem LW.alR : LW.Fit 183 rF := Or.inl ⟨_, Tryz.func183, by kernel_rfl⟩
theorem LW.alS : LW.Fit 159 zH := Or.inl ⟨_, Tryz.func159, by kernel_rfl⟩
theorem LW.ao7 : LW.Fit 78 zG := Or.inl ⟨_, Tryz.func78, by kernel_rfl⟩
theorem LW.alT : LW.Fit 160 qH := Or.inl ⟨_, Tryz.func160, by kernel_rfl⟩
theorem LW.alU : LW.Fit 174 oJ := Or.inl ⟨_, Tryz.func174, by kernel_rfl⟩
theorem LW.alV : LW.Fit 186 xE := Or.inl ⟨_, Tryz.func186, by kernel_rfl⟩
theorem LW.alW : LW.Fit 158 rH := Or.inl ⟨_, Tryz.func158, by kernel_rfl⟩
theorem LW.alX : LW.Fit 144 mO := Or.inl ⟨_, Tryz.func144, by kernel_rfl⟩
theorem LW.ao8 : LW.Fit 46 yG := Or.inl ⟨_, Tryz.func46, by kernel_rfl⟩
theorem LW.ao9 : LW.Fit 68 yE := Or.inl ⟨_, Tryz.func68, by kernel_rfl⟩
theorem LW.apa : LW.Fit 12 fZ := Or.inl ⟨_, Tryz.func12, by kernel_rfl⟩
theorem LW.apb : LW.Fit 49 jw := Or.inl ⟨_, Tryz.func49, by kernel_rfl⟩
theorem LW.alY : LW.Fit 106 uK := Or.inl ⟨_, Tryz.func106, by kernel_rfl⟩
theorem LW.apc : LW.Fit 48 iW := Or.inl ⟨_, Tryz.func48, by kernel_rfl⟩
theorem LW.alZ : LW.Fit 104 nD := Or.inl ⟨_, Tryz.func104, by kernel_rfl⟩
theorem LW.apd : LW.Fit 50 pR := Or.inl ⟨_, Tryz.func50, by kernel_rfl⟩
theorem LW.al0 : LW.Fit 107 sF := Or.inl ⟨_, Tryz.func107, by kernel_rfl⟩
theorem LW.ape : LW.Fit 44 pU := Or.inl ⟨_, Tryz.func44, by kernel_rfl⟩
theorem LW.al1 : LW.Fit 102 iD := Or.inl ⟨_, Tryz.func102, by kernel_rfl⟩
theorem LW.apf : LW.Fit 11 vF := Or.inl ⟨_, Tryz.func11, by kernel_rfl⟩
theorem LW.apg : LW.Fit 10 oZ := Or.inl ⟨_, Tryz.func10, by kernel_rfl⟩
theorem LW.aph : LW.Fit 45 uX := Or.inl ⟨_, Tryz.func45, by kernel_rfl⟩
theorem LW.ati : LW.Fit 9 vP := Or.inl ⟨_, Tryz.func9, by kernel_rfl⟩
theorem LW.apj : LW.Fit 43 qh := Or.inl ⟨_, Tryz.func43, by kernel_rfl⟩
theorem LW.apk : LW.Fit 81 nI := Or.inl ⟨_, Tryz.func81, by kernel_rfl⟩
theorem LW.al2 : LW.Fit 145 nH := Or.inl ⟨_, Tryz.func145, by kernel_rfl⟩
theorem LW.al3 : LW.Fit 176 xX := Or.inl ⟨_, Tryz.func176, by kernel_rfl⟩
theorem LW.al4 : LW.Fit 187 xw := Or.inl ⟨_, Tryz.func187, by kernel_rfl⟩
theorem LW.al5 : LW.Fit 100 jv := Or.inl ⟨_, Tryz.func100, by kernel_rfl⟩
theorem LW.apl : LW.Fit 99 jP := Or.inl ⟨_, Tryz.func99, by kernel_rfl⟩
theorem LW.al6 : LW.Fit 155 vg := Or.inl ⟨_, Tryz.func155, by kernel_rfl⟩
theorem LW.apm : LW.Fit 83 uY := Or.inl ⟨_, Tryz.func83, by kernel_rfl⟩
theorem LW.al7 : LW.Fit 157 fC := Or.inl ⟨_, Tryz.func157, by kernel_rfl⟩
theorem LW.apn : LW.Fit 85 nJ := Or.inl ⟨_, Tryz.func85, by kernel_rfl⟩
theorem LW.al8 : LW.Fit 149 yj := Or.inl ⟨_, Tryz.func149, by kernel_rfl⟩
theorem LW.al9 : LW.Fit 182 oh := Or.inl ⟨_, Tryz.func182, by kernel_rfl⟩
theorem LW.apo : LW.Fit 84 nK := Or.inl ⟨_, Tryz.func84, by kernel_rfl⟩
theorem LW.ama : LW.Fit 148 yg := Or.inl ⟨_, Tryz.func148, by kernel_rfl⟩
theorem LW.apq : LW.Fit 82 nM := Or.inl ⟨_, Tryz.func82, by kernel_rfl⟩
theorem LW.amb : LW.Fit 139 lY := Or.inl ⟨_, Tryz.func139, by kernel_rfl⟩
theorem LW.amc : LW.Fit 151 oM := Or.inl ⟨_, Tryz.func151, by kernel_rfl⟩
theorem LW.amd : LW.Fit 150 uG := Or.inl ⟨_, Tryz.func150, by kernel_rfl⟩
theorem LW.ame : LW.Fit 140 lH := Or.inl ⟨_, Tryz.func140, by kernel_rfl⟩
theorem LW.amf : LW.Fit 156 yD := Or.inl ⟨_, Tryz.func156, by kernel_rfl⟩
theorem LW.apr : LW.Fit 77 pW := Or.inl ⟨_, Tryz.func77, by kernel_rfl⟩
theorem LW.aps : LW.Fit 80 og := Or.inl ⟨_, Tryz.func80, by kernel_rfl⟩
theorem LW.apt : LW.Fit 26 qj := Or.inl ⟨_, Tryz.func26, by kernel_rfl⟩
theorem LW.apu : LW.Fit 69 vO := Or.inl ⟨_, Tryz.func69, by kernel_rfl⟩
theorem LW.amg : LW.Fit 128 vM := Or.inl ⟨_, Tryz.func128, by kernel_rfl⟩
theorem LW.amh : LW.Fit 127 eG := Or.inl ⟨_, Tryz.func127, by kernel_rfl⟩
theorem LW.all : afb (fun x : Nat × Nat × Go.Ml.Fn => LW.Fit x.1 x.2.2) LW.fns :=
  ⟨LW.as1, LW.aoM, LW.aoN, LW.ald, LW.ale, LW.alf, LW.alg, LW.alh, LW.ali, LW.alj, LW.alk, LW.alm, LW.aoO, LW.aln, LW.alo, LW.alp, LW.alq, LW.alr, LW.als, LW.aoP, LW.aoQ, LW.aoR, LW.aoS, LW.aoT, LW.aoU, LW.alu, LW.alv, LW.alx, LW.aly, LW.aoV, LW.alz, LW.alA, LW.alB, LW.alC, LW.aoW, LW.aoX, LW.aoY, LW.aoZ, LW.ao0, LW.ao1, LW.ao2, LW.ao3, LW.ao4, LW.alD, LW.ao5, LW.ao6, LW.alE, LW.alF, LW.alG, LW.alH, LW.alI, LW.alJ, LW.alK, LW.alL, LW.alM, LW.alN, LW.alO, LW.alP, LW.alQ, LW.alR, LW.alS, LW.ao7, LW.alT, LW.alU, LW.alV, LW.alW, LW.alX, LW.ao8, LW.ao9, LW.apa, LW.apb, LW.alY, LW.apc, LW.alZ, LW.apd, LW.al0, LW.ape, LW.al1, LW.apf, LW.apg, LW.aph, LW.ati, LW.apj, LW.apk, LW.al2, LW.al3, LW.al4, LW.al5, LW.apl, LW.al6, LW.apm, LW.al7, LW.apn, LW.al8, LW.al9, LW.apo, LW.ama, LW.apq, LW.amb, LW.amc, LW.amd, LW.ame, LW.amf, LW.apr, LW.aps, LW.apt, LW.apu, LW.amg, LW.amh, trivial⟩
set_option maxRecDepth 100000 in
theorem LW.fits : Fits Tryz.prog (MK LW.fns) (aW LW.fns) := ah3 (by decide) fun x hx => LW.all.mem x hx

theorem LW.d52 : zn (aW LW.fns) := ⟨rfl⟩
theorem LW.d32 : sD (aW LW.fns) := ⟨rfl, LW.d52⟩
theorem LW.d68 : eu (aW LW.fns) := ⟨rfl⟩
theorem LW.d69 : jB (aW LW.fns) := ⟨rfl⟩
theorem LW.d54 : rU (aW LW.fns) := ⟨rfl, LW.d68, LW.d69⟩
theorem LW.d39 : fB (aW LW.fns) := ⟨rfl, LW.d54⟩
theorem LW.apx : yF (aW LW.fns) := ⟨rfl⟩
theorem LW.d35 : um (aW LW.fns) := ⟨rfl⟩
theorem LW.d34 : uH (aW LW.fns) := ⟨rfl, LW.d35⟩
theorem LW.d71 : iT (aW LW.fns) := ⟨rfl⟩
theorem LW.d70 : BK (aW LW.fns) := ⟨rfl, LW.d71⟩
theorem LW.d66 : jH (aW LW.fns) := ⟨rfl, LW.d70⟩
theorem LW.d67 : pI (aW LW.fns) := ⟨rfl⟩
theorem LW.d53 : rP (aW LW.fns) := ⟨rfl, LW.d66, LW.d67⟩
theorem LW.d36 : kE (aW LW.fns) := ⟨rfl, LW.d53⟩
theorem LW.d14 : uS (aW LW.fns) := ⟨rfl, LW.d34, LW.d35, LW.d36⟩
theorem LW.ami : lJ (aW LW.fns) := ⟨rfl⟩
theorem LW.afc : jh (aW LW.fns) := ⟨rfl, LW.ami⟩
theorem LW.aty : AZ (aW LW.fns) := ⟨rfl, LW.d14, LW.afc⟩
theorem LW.atz : Ba (aW LW.fns) := ⟨rfl, LW.d14, LW.afc, LW.aty⟩
theorem LW.d87 : wQ (aW LW.fns) := ⟨rfl, LW.apx, LW.atz, LW.afc⟩
theorem LW.amj : uo (aW LW.fns) := ⟨rfl, LW.d35⟩
theorem LW.apz : rJ (aW LW.fns) := ⟨rfl, LW.amj⟩
theorem LW.amk : qI (aW LW.fns) := ⟨rfl⟩
theorem LW.ah5 : ni (aW LW.fns) := ⟨rfl⟩
theorem LW.atA : zh (aW LW.fns) := ⟨rfl, LW.amj, LW.ah5⟩
theorem LW.atB : zf (aW LW.fns) := ⟨rfl, LW.d67⟩
theorem LW.atC : y8 (aW LW.fns) := ⟨rfl, LW.d71⟩
theorem LW.afd : kL (aW LW.fns) := ⟨rfl, LW.d71⟩
theorem LW.atD : y9 (aW LW.fns) := ⟨rfl, LW.d67, LW.ah5, LW.afd⟩
theorem LW.apA : xB (aW LW.fns) := ⟨rfl, LW.d71⟩
theorem LW.apB : xK (aW LW.fns) := ⟨rfl, LW.d67, LW.d71, LW.ah5, LW.atC, LW.atD, LW.apA, LW.afd⟩
theorem LW.apC : xP (aW LW.fns) := ⟨rfl, LW.atA, LW.atB, LW.apB⟩
theorem LW.WG : iK (aW LW.fns) := ⟨rfl, LW.apz, LW.amj, LW.amk, LW.apC⟩
theorem LW.d99 : Ar (aW LW.fns) := ⟨rfl, LW.WG⟩
theorem LW.d83 : jL (aW LW.fns) := ⟨rfl, LW.d34, LW.d99, LW.WG⟩
theorem LW.apD : uU (aW LW.fns) := ⟨rfl⟩
theorem LW.atF : wK (aW LW.fns) := ⟨rfl, LW.d83, LW.apD⟩
theorem LW.atG : AQ (aW LW.fns) := ⟨rfl⟩
theorem LW.apE : vk (aW LW.fns) := ⟨rfl, LW.atG⟩
theorem LW.atH : Ci (aW LW.fns) := ⟨rfl, LW.apE⟩
theorem LW.atI : BJ (aW LW.fns) := ⟨rfl⟩
theorem LW.atJ : BN (aW LW.fns) := ⟨rfl, LW.d66, LW.ah5, LW.apA, LW.atI⟩
theorem LW.ah6 : nG (aW LW.fns) := ⟨rfl, LW.d66, LW.d71, LW.amk, LW.apC, LW.apB⟩
theorem LW.apF : yh (aW LW.fns) := ⟨rfl, LW.d66, LW.amk, LW.afd, LW.atJ, LW.ah6⟩
theorem LW.aml : qM (aW LW.fns) := ⟨rfl, LW.WG, LW.apF⟩
theorem LW.atK : BX (aW LW.fns) := ⟨rfl, LW.WG, LW.afd, LW.ah6⟩
theorem LW.atL : BP (aW LW.fns) := ⟨rfl, LW.afd, LW.ah6⟩
theorem LW.apG : yu (aW LW.fns) := ⟨rfl, LW.WG, LW.atL⟩
theorem LW.atM : uN (aW LW.fns) := ⟨rfl, LW.aml, LW.apG⟩
theorem LW.atN : BQ (aW LW.fns) := ⟨rfl, LW.d66⟩
theorem LW.atO : BU (aW LW.fns) := ⟨rfl, LW.WG, LW.apF, LW.atN⟩
theorem LW.atP : vw (aW LW.fns) := ⟨rfl, LW.d83, LW.WG, LW.aml, LW.atK, LW.apG, LW.atM, LW.atO⟩
theorem LW.atQ : AV (aW LW.fns) := ⟨rfl, LW.d36, LW.d83, LW.atF, LW.atH, LW.apD, LW.atP, LW.apE⟩
theorem LW.atS : wP (aW LW.fns) := ⟨rfl, LW.d36, LW.WG, LW.atQ, LW.aml⟩
theorem LW.atT : Bc (aW LW.fns) := ⟨rfl, LW.d87, LW.atS⟩
theorem LW.d37 : yx (aW LW.fns) := ⟨rfl⟩
theorem LW.apH : zD (aW LW.fns) := ⟨rfl⟩
theorem LW.atU : zi (aW LW.fns) := ⟨rfl, LW.apH⟩
theorem LW.apI : qZ (aW LW.fns) := ⟨rfl⟩
theorem LW.amm : kZ (aW LW.fns) := ⟨rfl⟩
theorem LW.apJ : wW (aW LW.fns) := ⟨rfl⟩
theorem LW.atV : yY (aW LW.fns) := ⟨rfl⟩
theorem LW.apK : wZ (aW LW.fns) := ⟨rfl, LW.amm⟩
theorem LW.apL : xk (aW LW.fns) := ⟨rfl, LW.amm⟩
theorem LW.apM : qC (aW LW.fns) := ⟨rfl, LW.d69, LW.apI, LW.amm, LW.apJ, LW.atV, LW.apK, LW.apL⟩
theorem LW.amn : jY (aW LW.fns) := ⟨rfl⟩
theorem LW.apN : xJ (aW LW.fns) := ⟨rfl, LW.d69, LW.apI, LW.apM, LW.amn⟩
theorem LW.afe : lW (aW LW.fns) := ⟨rfl, LW.atU, LW.apH, LW.apN⟩
theorem LW.YI : fU (aW LW.fns) := ⟨rfl⟩
theorem LW.atW : Aq (aW LW.fns) := ⟨rfl, LW.YI⟩
theorem LW.apO : uF (aW LW.fns) := ⟨rfl, LW.afe, LW.atW⟩
theorem LW.d84 : jK (aW LW.fns) := ⟨rfl, LW.d37, LW.apO, LW.afe⟩
theorem LW.atY : sU (aW LW.fns) := ⟨rfl⟩
theorem LW.d89 : pV (aW LW.fns) := ⟨rfl, LW.d84, LW.atY⟩
theorem LW.atZ : AL (aW LW.fns) := ⟨rfl⟩
theorem LW.at1 : AO (aW LW.fns) := ⟨rfl, LW.d89, LW.atZ⟩
theorem LW.apP : yH (aW LW.fns) := ⟨rfl, LW.apx, LW.ami⟩
theorem LW.at6 : AX (aW LW.fns) := ⟨rfl, LW.ami, LW.apP⟩
theorem LW.apQ : uM (aW LW.fns) := ⟨rfl, LW.amn⟩
theorem LW.at7 : zo (aW LW.fns) := ⟨rfl, LW.apQ⟩
theorem LW.aua : wJ (aW LW.fns) := ⟨rfl, LW.at7⟩
theorem LW.aub : BI (aW LW.fns) := ⟨rfl⟩
theorem LW.auc : BM (aW LW.fns) := ⟨rfl, LW.d68, LW.apJ, LW.apK, LW.aub⟩
theorem LW.amo : qG (aW LW.fns) := ⟨rfl, LW.d68, LW.apL⟩
theorem LW.amq : pJ (aW LW.fns) := ⟨rfl⟩
theorem LW.amr : lC (aW LW.fns) := ⟨rfl, LW.d68, LW.apN, LW.apM⟩
theorem LW.YJ : eH (aW LW.fns) := ⟨rfl, LW.YI, LW.auc, LW.amo, LW.amq, LW.amr⟩
theorem LW.aud : yc (aW LW.fns) := ⟨rfl, LW.YI, LW.amo, LW.amq, LW.amr⟩
theorem LW.ah7 : iJ (aW LW.fns) := ⟨rfl, LW.YI, LW.amo, LW.amq, LW.amr⟩
theorem LW.apR : qK (aW LW.fns) := ⟨rfl, LW.d68, LW.YI, LW.amn⟩
theorem LW.apS : qL (aW LW.fns) := ⟨rfl, LW.YJ, LW.apR⟩
theorem LW.apT : gZ (aW LW.fns) := ⟨rfl, LW.d32, LW.d37, LW.d39, LW.apO, LW.afe, LW.YJ⟩
theorem LW.aue : pq (aW LW.fns) := ⟨rfl, LW.d39, LW.d84, LW.YJ, LW.aud, LW.ah7, LW.apS, LW.apR, LW.apT⟩
theorem LW.auf : lZ (aW LW.fns) := ⟨rfl, LW.apQ⟩
theorem LW.aug : pz (aW LW.fns) := ⟨rfl, LW.d89, LW.aua, LW.aue, LW.auf⟩
theorem LW.auh : AY (aW LW.fns) := ⟨rfl, LW.apz, LW.ah6⟩
theorem LW.aui : Ea (aW LW.fns) := ⟨rfl, LW.d53, LW.auh⟩
theorem LW.auj : vI (aW LW.fns) := ⟨rfl, LW.afc⟩
theorem LW.auk : CB (aW LW.fns) := ⟨rfl, LW.afc, LW.aui, LW.auj⟩
theorem LW.aul : vK (aW LW.fns) := ⟨rfl, LW.apP, LW.auk⟩
theorem LW.apU : qN (aW LW.fns) := ⟨rfl, LW.afe, LW.YJ⟩
theorem LW.aum : wR (aW LW.fns) := ⟨rfl, LW.d39⟩
theorem LW.aun : lM (aW LW.fns) := ⟨rfl, LW.YJ, LW.YI, LW.ah7, LW.apU, LW.apT, LW.aum⟩
theorem LW.auo : qp (aW LW.fns) := ⟨rfl, LW.YJ, LW.ah7⟩
theorem LW.aup : uO (aW LW.fns) := ⟨rfl, LW.afe⟩
theorem LW.auq : uP (aW LW.fns) := ⟨rfl, LW.d84, LW.ah7, LW.auo, LW.apS, LW.aup⟩
theorem LW.aur : sV (aW LW.fns) := ⟨rfl, LW.d39, LW.YJ, LW.YI, LW.auq⟩
theorem LW.aus : Hu (aW LW.fns) := ⟨rfl, LW.d32, LW.d39, LW.atT, LW.at1, LW.at6, LW.aug, LW.aul, LW.aun, LW.aur, LW.apU⟩

theorem LW.args : PI Tryz.prog [22] [(false, [.sl [.int .u8]])] :=
  ⟨_, _, rfl, by kernel_rfl, by kernel_rfl, rfl⟩

set_option maxRecDepth 100000 in
theorem LW.lifted (os : Os) (started : os.Started) (H : Type) (enc : TypeId × Value → H) :
    ReturnsInHanded {} Tryz.checked os 3 .any (Rows.fnStarSpec.pre6 enc Tryz.prog Tryz.f3 Rows.fnStarRow.domain false) (Rows.fnStarSpec.post enc Tryz.prog Tryz.f3 false true false false) := by
  refine returnsInHanded_of_change (C := Tryz.checked) LW.own started (by kernel_rfl) Tryz.func3
    (ChangeSpec.witness6 (enc := enc) (C := Tryz.checked) false ⟨#[], #[.slice none 0 0], []⟩ 8 (by kernel_rfl) (by kernel_rfl) (by kernel_rfl) (by kernel_rfl)) ?_
  intro W base args ds gs before hval0 hW hcnd _
  have hval : ∀ (j : Nat) t v, Tryz.f3.params[j]? = some t → args[j]? = some v → Value.okWide Tryz.prog W .any base t v := hval0
  have hW' := hW
  obtain ⟨p, q, hA0, hV, rfl, hfz, hnd⟩ := hW
  have hA : DataW.TrodAll enc Tryz.prog W 0 (fun _ => true) true Tryz.f3.params.toList args.toList ds p := hA0
  rw [Tryz.params3] at hA hval
  obtain ⟨rfl, rfl⟩ := trodVars_none hV
  obtain ⟨d0, rfl⟩ : ∃ d0, ds = [d0] := by
    have hl := WE hA
    match ds, hl with
    | [d0], _ => exact ⟨d0, rfl⟩
  obtain ⟨Vs, hM, hrd⟩ := ZY (r := .any) (b := base) LW.args (fun j t v ht hv => hval j t v (by simpa using ht) (by simpa using hv)) hA
  simp only [YH] at hM
  obtain ⟨cs0, _, rfl, m0, rfl⟩ := hM
  obtain ⟨v0, rfl, g0⟩ := Z4 m0
  obtain ⟨x0, rfl, wx0⟩ := abn g0
  clear hA0 hval0
  simp only [List.append_nil] at hW'
  have hlt : ∀ x ∈ p, x.block < W.heap.size := fun x hx => by simpa using hW'.lt x hx
  refine (YF LW.mixed LW.fits (Wv LW.aus x0 wx0) rfl (vals := args) hrd).mono fun e W' ⟨he, hnx⟩ => ?_
  subst he
  refine ⟨_, rfl, _, _, _, [], p ++ [], [], hW', ?_, ?_, rfl, hnx.frame _, fun h => by cases h⟩
  · exact trodAll_mk1 ⟨1, rfl⟩
  · simp only [List.append_nil]
    exact Hw LW.laidOut hnx (by kernel_rfl) hA hlt

theorem fnStar_holds : Rows.FnStarSaid :=
  OpenClaim.holds_of_wide 3 Tryz.f3 rfl rfl rfl rfl rfl rfl rfl ⟨rfl, rfl, rfl, rfl, rfl⟩ rfl rfl rfl rfl rfl (by kernel_rfl) Tryz.func3 (by kernel_rfl)
    (of_decide_eq_true (by kernel_rfl)) (by unfold Func.isWrapper; first | (rw [if_pos (by decide +kernel)]; kernel_rfl) | (rw [if_neg (by decide +kernel)]; exact ⟨rfl, rfl⟩))
    (fun os started H enc _ => LW.lifted os started H enc)
#print axioms fnStar_holds
end Go.Proofs.YtbccjdlcbhknoaaGreat
