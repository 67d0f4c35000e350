/- The functions of the program in the small language. Printed by a program of this work. -/
import Derived.Test.YteecfnfjlclhdaaGreatK5

set_option linter.unusedSimpArgs false
set_option linter.unusedVariables false

/- The functions of the program in the small language. Printed by a program of this work. -/
namespace Go.Proofs.YteecfnfjlclhdaaGreat.V
open Go (IntKind BinOp UnOp)

def Zh : Nat := 6
def Ga : Nat := 8
def Z62 : Nat := 9
def Qs : Nat := 11
def Z3f : Nat := 12
def U3 : Nat := 13
def Hb : Nat := 16
def Hs : Nat := 19
def Ql : Nat := 20
def Z3e : Nat := 22
def V1 : Nat := 23
def Z54 : Nat := 24
def Fe : Nat := 26
def Qo : Nat := 27
def Py : Nat := 31
def Qr : Nat := 32
def Z2j : Nat := 33
def M4 : Nat := 34
def Lg : Nat := 35
def Uk : Nat := 36
def Qp : Nat := 37
def Hx : Nat := 38
def Lp : Nat := 39
def Z15 : Nat := 40
def Lf : Nat := 41
def G9 : Nat := 42
def Pz : Nat := 43
def Yx : Nat := 49
def Na : Nat := 50
def Mz : Nat := 51
def Z1q : Nat := 52
def Z4g : Nat := 53
def Hu : Nat := 54
def Hv : Nat := 55
def Np : Nat := 56
def Lk : Nat := 57
def Z2v : Nat := 58
def N1 : Nat := 59
def Ha : Nat := 60
def Z1n : Nat := 61
def Ye : Nat := 62
def Z1p : Nat := 63
def Fv : Nat := 64
def M2 : Nat := 65
def U0 : Nat := 66
def Z53 : Nat := 67
def Z50 : Nat := 68
def M3 : Nat := 69
def Z6u : Nat := 70
def Xz : Nat := 71
def Ph : Nat := 72
def Z8p : Nat := 74
def Z6v : Nat := 75
def No : Nat := 76
def Pg : Nat := 77
def U8 : Nat := 78
def L0 : Nat := 79
def Qy : Nat := 80
def L3 : Nat := 81
def Hw : Nat := 82
def Xg : Nat := 83
def Lh : Nat := 84
def Fd : Nat := 85
def Qn : Nat := 86
def Vs : Nat := 87
def Xv : Nat := 88
def Z51 : Nat := 93
def Yn : Nat := 94
def Z17 : Nat := 95
def Y8 : Nat := 96
def Z66 : Nat := 97
def Z00 : Nat := 98
def Qx : Nat := 99
def Qq : Nat := 100
def Li : Nat := 101
def U5 : Nat := 102
def Fc : Nat := 103
def U4 : Nat := 104
def N0 : Nat := 105
def Qm : Nat := 106
def Z4i : Nat := 110
def Z4e : Nat := 111
def Vg : Nat := 112
def G8 : Nat := 113
def Z2u : Nat := 114
def Xu : Nat := 115
def Z52 : Nat := 116
def Vb : Nat := 117
def Z64 : Nat := 118
def Ln : Nat := 119
def Uv : Nat := 120
def Vv : Nat := 121
def Nq : Nat := 122
def Qk : Nat := 123
def Z2k : Nat := 124
def Zs : Nat := 125
def Lj : Nat := 126
def Z1o : Nat := 127
def Uu : Nat := 129
def Z2t : Nat := 130
def Xh : Nat := 131
def Zi : Nat := 132
def Fx : Nat := 133
def Z2s : Nat := 134
def Uy : Nat := 135
def My : Nat := 136
def Xk : Nat := 137
def Gf : Nat := 138
def Z2r : Nat := 139
def Z2q : Nat := 140
def V3 : Nat := 141
def Mx : Nat := 142
def Yg : Nat := 143
def Z8o : Nat := 144
def Z2p : Nat := 145
def Qv : Nat := 146
def Z3d : Nat := 147
def Z2o : Nat := 148
def Z2n : Nat := 149
def Ux : Nat := 150
def Mw : Nat := 151
def U7 : Nat := 152
def Vu : Nat := 153
def N9 : Nat := 154
def Fh : Nat := 155
def Z2m : Nat := 156
def Z2l : Nat := 157
def Vc : Nat := 158
def Mv : Nat := 159
def H9 : Nat := 160
def Fz : Nat := 161
def Fy : Nat := 162
def W7 : Nat := 163
def Lo : Nat := 164
def Fi : Nat := 165
def Qw : Nat := 166
def Mk : Nat := 167
def Gb : Nat := 168
def H7 : Nat := 169
def Kx : Nat := 172
def Z8n : Nat := 175
def Pf : Nat := 176
def Ll : Nat := 177
def Yf : Nat := 178
def Lm : Nat := 179
def Qu : Nat := 180
def Z4z : Nat := 181
def Z3c : Nat := 182
def W6 : Nat := 183
def Z63 : Nat := 184
def H6 : Nat := 185
def Z4h : Nat := 186
def Vj : Nat := 188
def Ge : Nat := 189
def Qt : Nat := 190
def Uw : Nat := 191
def Vi : Nat := 192
def V9 : Nat := 193
def Wi : Nat := 194
def Fg : Nat := 195
def Ff : Nat := 196
def Ht : Nat := 197
def Z8m : Nat := 211
def Z4f : Nat := 212
def Z16 : Nat := 213
def U6 : Nat := 214
def Ya : Nat := 215
def Zg : Nat := 216
def Gc : Nat := 217
def Gd : Nat := 218
def Vt : Nat := 219
def N8 : Nat := 220
def N7 : Nat := 221
def N6 : Nat := 222
def N5 : Nat := 223
def N4 : Nat := 224
def N3 : Nat := 225
def Pe : Nat := 226
def N2 : Nat := 227
def Um : Nat := 228
def Ul : Nat := 229
def H8 : Nat := 230
def Mu : Nat := 231
def Mt : Nat := 232
def Ms : Nat := 233
def Mr : Nat := 234
def Mq : Nat := 235
def Mp : Nat := 236
def Y9 : Nat := 237
def Mo : Nat := 238
def Mn : Nat := 239
def Yp : Nat := 240
def Mm : Nat := 241
def Ml : Nat := 242
def Z4y : Nat := 248
def Zft : Nat := 249
def Fw : Nat := 250
def Zo : Nat := 251
def Zq : Nat := 252
def Y2 : Nat := 253
def Z65 : Nat := 254
def Vh : Nat := 256
def V0 : Nat := 257
@[simp] theorem y0_ : ¬ Zh = Z2 ∧ ¬ Ga = Z2 ∧ ¬ Z62 = Z2 ∧ ¬ Qs = Z2 ∧ ¬ Z3f = Z2 ∧ ¬ U3 = Z2 ∧ ¬ Hb = Z2 ∧ ¬ Hs = Z2 ∧ ¬ Ql = Z2 ∧ ¬ Z3e = Z2 ∧ ¬ V1 = Z2 ∧ ¬ Z54 = Z2 ∧ ¬ Fe = Z2 ∧ ¬ Qo = Z2 ∧ ¬ Py = Z2 ∧ ¬ Qr = Z2 ∧ ¬ Z2j = Z2 ∧ ¬ M4 = Z2 ∧ ¬ Lg = Z2 ∧ ¬ Uk = Z2 ∧ ¬ Qp = Z2 ∧ ¬ Hx = Z2 ∧ ¬ Lp = Z2 ∧ ¬ Z15 = Z2 ∧ ¬ Lf = Z2 ∧ ¬ G9 = Z2 ∧ ¬ Pz = Z2 ∧ ¬ Yx = Z2 ∧ ¬ Na = Z2 ∧ ¬ Mz = Z2 ∧ ¬ Z1q = Z2 ∧ ¬ Z4g = Z2 ∧ ¬ Hu = Z2 ∧ ¬ Hv = Z2 ∧ ¬ Np = Z2 ∧ ¬ Lk = Z2 ∧ ¬ Z2v = Z2 ∧ ¬ N1 = Z2 ∧ ¬ Ha = Z2 ∧ ¬ Z1n = Z2 := by and_intros <;> decide
@[simp] theorem y1_ : ¬ Ye = Z2 ∧ ¬ Z1p = Z2 ∧ ¬ Fv = Z2 ∧ ¬ M2 = Z2 ∧ ¬ U0 = Z2 ∧ ¬ Z53 = Z2 ∧ ¬ Z50 = Z2 ∧ ¬ M3 = Z2 ∧ ¬ Z6u = Z2 ∧ ¬ Xz = Z2 ∧ ¬ Ph = Z2 ∧ ¬ Z8p = Z2 ∧ ¬ Z6v = Z2 ∧ ¬ No = Z2 ∧ ¬ Pg = Z2 ∧ ¬ U8 = Z2 ∧ ¬ L0 = Z2 ∧ ¬ Qy = Z2 ∧ ¬ L3 = Z2 ∧ ¬ Hw = Z2 ∧ ¬ Xg = Z2 ∧ ¬ Lh = Z2 ∧ ¬ Fd = Z2 ∧ ¬ Qn = Z2 ∧ ¬ Vs = Z2 ∧ ¬ Xv = Z2 ∧ ¬ Z51 = Z2 ∧ ¬ Yn = Z2 ∧ ¬ Z17 = Z2 ∧ ¬ Y8 = Z2 ∧ ¬ Z66 = Z2 ∧ ¬ Z00 = Z2 ∧ ¬ Qx = Z2 ∧ ¬ Qq = Z2 ∧ ¬ Li = Z2 ∧ ¬ U5 = Z2 ∧ ¬ Fc = Z2 ∧ ¬ U4 = Z2 ∧ ¬ N0 = Z2 ∧ ¬ Qm = Z2 := by and_intros <;> decide
@[simp] theorem y2_ : ¬ Z4i = Z2 ∧ ¬ Z4e = Z2 ∧ ¬ Vg = Z2 ∧ ¬ G8 = Z2 ∧ ¬ Z2u = Z2 ∧ ¬ Xu = Z2 ∧ ¬ Z52 = Z2 ∧ ¬ Vb = Z2 ∧ ¬ Z64 = Z2 ∧ ¬ Ln = Z2 ∧ ¬ Uv = Z2 ∧ ¬ Vv = Z2 ∧ ¬ Nq = Z2 ∧ ¬ Qk = Z2 ∧ ¬ Z2k = Z2 ∧ ¬ Zs = Z2 ∧ ¬ Lj = Z2 ∧ ¬ Z1o = Z2 ∧ ¬ Uu = Z2 ∧ ¬ Z2t = Z2 ∧ ¬ Xh = Z2 ∧ ¬ Zi = Z2 ∧ ¬ Fx = Z2 ∧ ¬ Z2s = Z2 ∧ ¬ Uy = Z2 ∧ ¬ My = Z2 ∧ ¬ Xk = Z2 ∧ ¬ Gf = Z2 ∧ ¬ Z2r = Z2 ∧ ¬ Z2q = Z2 ∧ ¬ V3 = Z2 ∧ ¬ Mx = Z2 ∧ ¬ Yg = Z2 ∧ ¬ Z8o = Z2 ∧ ¬ Z2p = Z2 ∧ ¬ Qv = Z2 ∧ ¬ Z3d = Z2 ∧ ¬ Z2o = Z2 ∧ ¬ Z2n = Z2 ∧ ¬ Ux = Z2 := by and_intros <;> decide
@[simp] theorem y3_ : ¬ Mw = Z2 ∧ ¬ U7 = Z2 ∧ ¬ Vu = Z2 ∧ ¬ N9 = Z2 ∧ ¬ Fh = Z2 ∧ ¬ Z2m = Z2 ∧ ¬ Z2l = Z2 ∧ ¬ Vc = Z2 ∧ ¬ Mv = Z2 ∧ ¬ H9 = Z2 ∧ ¬ Fz = Z2 ∧ ¬ Fy = Z2 ∧ ¬ W7 = Z2 ∧ ¬ Lo = Z2 ∧ ¬ Fi = Z2 ∧ ¬ Qw = Z2 ∧ ¬ Mk = Z2 ∧ ¬ Gb = Z2 ∧ ¬ H7 = Z2 ∧ ¬ Kx = Z2 ∧ ¬ Z8n = Z2 ∧ ¬ Pf = Z2 ∧ ¬ Ll = Z2 ∧ ¬ Yf = Z2 ∧ ¬ Lm = Z2 ∧ ¬ Qu = Z2 ∧ ¬ Z4z = Z2 ∧ ¬ Z3c = Z2 ∧ ¬ W6 = Z2 ∧ ¬ Z63 = Z2 ∧ ¬ H6 = Z2 ∧ ¬ Z4h = Z2 ∧ ¬ Vj = Z2 ∧ ¬ Ge = Z2 ∧ ¬ Qt = Z2 ∧ ¬ Uw = Z2 ∧ ¬ Vi = Z2 ∧ ¬ V9 = Z2 ∧ ¬ Wi = Z2 ∧ ¬ Fg = Z2 := by and_intros <;> decide
@[simp] theorem y4_ : ¬ Ff = Z2 ∧ ¬ Ht = Z2 ∧ ¬ Z8m = Z2 ∧ ¬ Z4f = Z2 ∧ ¬ Z16 = Z2 ∧ ¬ U6 = Z2 ∧ ¬ Ya = Z2 ∧ ¬ Zg = Z2 ∧ ¬ Gc = Z2 ∧ ¬ Gd = Z2 ∧ ¬ Vt = Z2 ∧ ¬ N8 = Z2 ∧ ¬ N7 = Z2 ∧ ¬ N6 = Z2 ∧ ¬ N5 = Z2 ∧ ¬ N4 = Z2 ∧ ¬ N3 = Z2 ∧ ¬ Pe = Z2 ∧ ¬ N2 = Z2 ∧ ¬ Um = Z2 ∧ ¬ Ul = Z2 ∧ ¬ H8 = Z2 ∧ ¬ Mu = Z2 ∧ ¬ Mt = Z2 ∧ ¬ Ms = Z2 ∧ ¬ Mr = Z2 ∧ ¬ Mq = Z2 ∧ ¬ Mp = Z2 ∧ ¬ Y9 = Z2 ∧ ¬ Mo = Z2 ∧ ¬ Mn = Z2 ∧ ¬ Yp = Z2 ∧ ¬ Mm = Z2 ∧ ¬ Ml = Z2 ∧ ¬ Z4y = Z2 ∧ ¬ Zft = Z2 ∧ ¬ Fw = Z2 ∧ ¬ Zo = Z2 ∧ ¬ Zq = Z2 ∧ ¬ Y2 = Z2 := by and_intros <;> decide
@[simp] theorem y5_ : ¬ Z65 = Z2 ∧ ¬ Vh = Z2 ∧ ¬ V0 = Z2 := by and_intros <;> decide
@[simp] abbrev oo (d : Nat) (x : IOp) : Ins := ⟨some d, none, x⟩
@[simp] abbrev og (d g : Nat) (b : Bool) (x : IOp) : Ins := ⟨some d, some (g, b), x⟩
@[simp] abbrev ou (x : IOp) : Ins := ⟨none, none, x⟩
@[simp] abbrev om (d t : Nat) : Ins := ⟨some d, none, .mv (.t t)⟩
@[simp] abbrev ki (n : Int) : Opd := .c (.int .i64 n)
@[simp] abbrev cv (f : Nat) (l : List Opd) : IOp := .callV true (.c (.fn f [])) l
@[simp] abbrev cw (f : Nat) (l : List Opd) : IOp := .callV false (.c (.fn f [])) l
@[simp] abbrev oA (d t z : Nat) : Ins := oo d (.ld (.t t) z false)
@[simp] abbrev oB (d : Nat) (n : Int) : Ins := oo d (.mv (ki n))
@[simp] abbrev oC (d t n : Nat) : Ins := oo d (.fa (.t t) n)
@[simp] abbrev oD (d a b z : Nat) : Ins := oo d (.ia (.t a) (.t b) z)
@[simp] abbrev oE (d t : Nat) : Ins := oo d (.len false (.t t))
@[simp] abbrev oF (d g t : Nat) : Ins := og d g true (.mv (.t t))
@[simp] abbrev oG (d a b : Nat) : Ins := oo d (.bin .lss (.t a) (.t b))
@[simp] abbrev oH (d a b : Nat) : Ins := oo d (.pick (.t a) (.t b) (.c (.bool false)))
@[simp] abbrev oI (d a : Nat) (n : Int) : Ins := oo d (.bin .add (.t a) (ki n))
@[simp] abbrev oJ (d t z : Nat) : Ins := oo d (.ld (.t t) z true)
@[simp] abbrev oK (d : Nat) : Ins := oo d (.mv (.c (.bool false)))
@[simp] abbrev oL (d t i : Nat) : Ins := oo d (.ext (.t t) i)
@[simp] abbrev oM (d t n : Nat) : Ins := oo d (.box (.t t) n)
@[simp] abbrev oN (d g t : Nat) : Ins := og d g false (.mv (.t t))
@[simp] abbrev oP (l : List Ins) : IR := .op 0 l none
def t_int : Nat := 3
def t_bool : Nat := 4
def Zgv : Nat := 9
def Zy : Nat := 32
def Lc : Nat := 46
def H1 : Nat := 76
def Fq : Nat := 79
def Lb : Nat := 81
def La : Nat := 112
def H0 : Nat := 117
def Fr : Nat := 120
def Mh : Nat := 137
def Z8y : ByteArray := ⟨#[102, 101, 98, 97, 99]⟩
def k_47 : ByteArray := ⟨#[47]⟩
def k_63 : ByteArray := ⟨#[63]⟩

variable {C : Call} {L : Loop} {π : Id} {k0 : List Id} {e : Env} {s : Sto}
def Z6 : FnIR := ⟨183,
 (.sq (oP [oM 3 0 7, oM 4 1 2, oK 6])
 (.sq (.sq (oP [oo 17 (cv Ga []), oo 18 (.un .not (.t 17))])
 (.cd (.t 18)
 (.sq (oP [oK 6])
 .rt)
 .sk))
 (.sq (oP [oJ 19 3 7, oo 20 (cv U3 [(.t 19)]), om 7 20])
 (.sq (.sq (.op 0 [oJ 21 3 7, oo 22 (cv Z62 [(.t 21)]), oo 23 (.un .not (.t 22)), om 24 23, oN 25 24 2, og 26 24 false (.len false (.t 25)), og 27 24 false (.bin .gtr (.t 26) (ki 20)), oo 28 (.pick (.t 24) (.c (.bool true)) (.t 27)), om 29 28, oN 30 29 7, og 31 29 false (.bin .eql (.t 30) (ki 0)), oN 32 29 31, og 33 32 true (.ld (.t 3) 7 true), og 34 32 true (cv Lg [(.t 33)]), og 35 32 true (.bin .eql (.t 34) (ki 0)), og 36 29 false (.pick (.t 32) (.t 35) (.c (.bool false))), oN 37 29 36, og 38 37 true (.ld (.t 3) 7 true), og 39 37 true (cw Qp [(.t 38)]), og 40 37 true (cv Uk [(.t 39)]), og 41 37 true (.bin .gtr (.t 40) (ki 8)), og 42 29 false (.pick (.t 37) (.t 41) (.c (.bool false))), oo 43 (.pick (.t 29) (.c (.bool true)) (.t 42))] (some [2, 3, 4, 7, 43]))
 (.cd (.t 43)
 (.sq (oP [oo 6 (.mv (.c (.bool true)))])
 .rt)
 .sk))
 (.sq (.op 5 [oo 44 (.iaa (.t 4) (ki 0) 2 1), oA 45 44 1, oo 46 (.iaa (.t 4) (ki 1) 2 1), oA 47 46 1, om 8 45, om 9 47] (some [2, 3, 7, 8, 9]))
 (.sq (.op 0 [oJ 49 3 7, oo 50 (cw Qs [(.t 49)]), om 51 8, om 52 9, om 53 2, oo 54 (cw V1 [(.t 53)]), oo 55 (cv Hx [(.t 50), (.t 51), (.t 52), (.t 54)]), om 48 55, oL 56 48 0, oL 57 48 1, om 10 56, om 11 57] (some [2, 3, 7, 8, 9, 10, 11]))
 (.sq (.op 0 [oJ 59 3 7, oo 60 (cw Qs [(.t 59)]), om 61 8, om 62 9, oo 63 (cw Lp [(.t 60), (.t 61), (.t 62)]), om 58 63, oL 64 58 0, oL 65 58 1, om 12 64, om 13 65] (some [2, 3, 7, 8, 9, 10, 11, 12, 13]))
 (.sq (.sq (oP [om 66 7, oo 67 (.bin .eql (.t 66) (ki 0))])
 (.cd (.t 67)
 (.op 0 [oJ 68 3 7, om 69 8, om 70 9, oo 71 (cv Hs [(.t 68), (.t 69), (.t 70)]), om 7 71] (some [2, 3, 7, 8, 9, 10, 11, 12, 13]))
 .sk))
 (.sq (.sq (oP [om 72 7, oo 73 (.bin .neq (.t 72) (ki 0))])
 (.cd (.t 73)
 (.sq (.op 0 [om 74 11, om 75 7, oo 76 (.bin .eql (.t 74) (.t 75)), om 77 76, oF 78 77 13, oF 79 77 7, og 80 77 true (.bin .eql (.t 78) (.t 79)), oH 81 77 80, om 82 81, oF 83 82 10, og 84 82 true (.un .not (.t 83)), oH 85 82 84, om 86 85, oF 87 86 12, og 88 86 true (.len false (.t 87)), og 89 86 true (.bin .eql (.t 88) (ki 0)), oH 90 86 89, om 6 90] (some [6]))
 .rt)
 .sk))
 (.sq (.op 0 [oJ 91 3 7, om 92 8, om 93 9, oo 94 (cv Ql [(.t 91), (.t 92), (.t 93)]), oo 95 (.bin .eql (.t 94) (ki 0)), om 14 95] (some [2, 3, 8, 9, 10, 11, 12, 13, 14]))
 (.sq (.sq (oP [oJ 96 3 7, oo 97 (cv Lg [(.t 96)]), om 7 97])
 (.sq (oP [om 98 7, oo 99 (.bin .neq (.t 98) (ki 0))])
 (.cd (.t 99)
 (.sq (.op 0 [om 100 13, om 101 7, oo 102 (.bin .neq (.t 100) (.t 101)), om 103 102, oN 104 103 12, og 105 103 false (.len false (.t 104)), og 106 103 false (.bin .neq (.t 105) (ki 0)), oo 107 (.pick (.t 103) (.c (.bool true)) (.t 106))] (some [2, 3, 8, 9, 10, 11, 14, 107]))
 (.cd (.t 107)
 (.sq (oP [oK 6])
 .rt)
 .sk))
 (.sq (.op 0 [oJ 109 3 7, om 110 8, om 111 9, oo 112 (cw Z15 [(.t 109), (.t 110), (.t 111)]), om 108 112, oL 113 108 0, oL 114 108 1, om 15 113, om 16 114] (some [2, 3, 8, 9, 10, 11, 12, 13, 14, 15, 16]))
 (.sq (.op 0 [om 115 16, om 116 115, oF 117 116 14, oF 118 116 117, oN 119 118 13, og 120 118 false (.bin .neq (.t 119) (ki 0)), og 121 116 true (.pick (.t 118) (.c (.bool true)) (.t 120)), oF 122 116 121, oN 123 122 12, oN 124 122 15, og 125 122 false (cv Qr [(.t 123), (.t 124)]), og 126 122 false (.un .not (.t 125)), og 127 116 true (.pick (.t 122) (.c (.bool true)) (.t 126)), oH 128 116 127, om 129 128, oN 130 129 16, og 131 129 false (.un .not (.t 130)), oN 132 129 131, oF 133 132 13, og 134 132 true (.bin .neq (.t 133) (ki 12)), oF 135 132 134, oN 136 135 12, og 137 135 false (.len false (.t 136)), og 138 135 false (.bin .neq (.t 137) (ki 0)), og 139 132 true (.pick (.t 135) (.c (.bool true)) (.t 138)), og 140 129 false (.pick (.t 132) (.t 139) (.c (.bool false))), oo 141 (.pick (.t 129) (.c (.bool true)) (.t 140))] (some [2, 3, 8, 9, 10, 11, 14, 141]))
 (.cd (.t 141)
 (.sq (oP [oK 6])
 .rt)
 .sk))))))
 (.sq (.sq (.op 0 [oJ 142 3 7, om 143 2, oo 144 (cv Lf [(.t 142), (.t 143)]), om 7 144] (some [2, 3, 7, 8, 9, 10, 11, 14]))
 (.sq (.op 0 [om 145 7, oo 146 (.bin .eql (.t 145) (ki 0)), om 147 146, og 148 147 true (.ld (.t 3) 7 true), oF 149 147 8, oF 150 147 9, oF 151 147 2, og 152 147 true (cv G9 [(.t 148), (.t 149), (.t 150), (.t 151)]), og 153 147 true (.un .not (.t 152)), oH 154 147 153] (some [2, 3, 7, 8, 9, 10, 11, 14, 154]))
 (.cd (.t 154)
 (oP [oB 7 20])
 .sk)))
 (.sq (.sq (oP [om 155 7, oo 156 (.bin .neq (.t 155) (ki 0))])
 (.cd (.t 156)
 (.sq (.op 0 [om 157 11, om 158 7, oo 159 (.bin .eql (.t 157) (.t 158)), om 160 159, oF 161 160 10, og 162 160 true (.un .not (.t 161)), oH 163 160 162, om 6 163] (some [6]))
 .rt)
 .sk))
 (.sq (.op 0 [om 164 11, oo 165 (.bin .eql (.t 164) (ki 0)), om 166 165, oF 167 166 10, og 168 166 true (.ld (.t 3) 7 true), oF 169 166 8, oF 170 166 9, oF 171 166 2, og 172 166 true (cv Pz [(.t 168), (.t 169), (.t 170), (.t 171)]), og 173 166 true (.beq false (.t 167) (.t 172)), oH 174 166 173, om 175 174, oF 176 175 14, og 177 175 true (.un .not (.t 176)), oF 178 175 177, oN 179 178 10, og 180 178 false (.un .not (.t 179)), og 181 175 true (.pick (.t 178) (.c (.bool true)) (.t 180)), oH 182 175 181, om 6 182] (some [6]))
 .rt)))))))))))))),
 [.t 6]⟩
def Z5m : FnIR := ⟨76,
 (.sq (oP [oK 0])
 (.sq (.op 0 [oo 12 (cv Yx []), oo 13 (cv Z3f [(.t 12)]), om 11 13, oL 14 11 0, oL 15 11 1, om 1 14, om 2 15] (some [1, 2]))
 (.sq (.op 0 [oo 17 (cv Yx []), oo 18 (.bsp t_int 1 false [.int .i64 0] 2 [(0, (ki 0)), (1, (ki 1))]), oo 19 (cv Z3e [(.t 17), (.t 18)]), om 16 19, oL 20 16 0, oL 21 16 1, om 3 20, om 4 21] (some [1, 2, 3, 4]))
 (.sq (.op 0 [oo 23 (cv Yx []), oo 24 (.bsp t_int 1 false [.int .i64 0] 3 [(0, (ki 0)), (1, (ki 1)), (2, (ki 2))]), oo 25 (cv Z54 [(.t 23), (.t 24)]), om 22 25, oL 26 22 0, oL 27 22 1, om 5 26, om 6 27] (some [1, 2, 3, 4, 5, 6]))
 (.sq (.op 0 [oo 29 (cv Yx []), oo 30 (cv Na [(.t 29), (ki 0), (ki 2)]), om 28 30, oL 31 28 0, oL 32 28 1, om 7 31, om 8 32] (some [1, 2, 3, 4, 5, 6, 7, 8]))
 (.sq (.op 0 [oo 34 (cv Yx []), oo 35 (cv Na [(.t 34), (ki 0), (ki 1)]), om 33 35, oL 36 33 0, oL 37 33 1, om 9 36, om 10 37] (some [1, 2, 3, 4, 5, 6, 7, 8, 10]))
 (.sq (.op 0 [om 38 2, oo 39 (.bin .eql (.t 38) (ki 0)), om 40 39, oF 41 40 1, og 42 40 true (cv Hb [(.t 41)]), og 43 40 true (.bin .eql (.t 42) (.c (.str ⟨#[99, 97, 99, 47, 98, 99, 99, 47, 99, 99, 99]⟩))), oH 44 40 43, om 45 44, oF 46 45 4, og 47 45 true (.bin .eql (.t 46) (ki 0)), oH 48 45 47, om 49 48, oF 50 49 3, og 51 49 true (.bsp t_int 1 false [.int .i64 0] 2 [(0, (ki 1)), (1, (ki 0))]), og 52 49 true (cv Qr [(.t 50), (.t 51)]), oH 53 49 52, om 54 53, oF 55 54 6, og 56 54 true (.bin .eql (.t 55) (ki 0)), oH 57 54 56, om 58 57, oF 59 58 5, og 60 58 true (.bsp t_int 1 false [.int .i64 0] 2 [(0, (ki 0)), (1, (ki 2))]), og 61 58 true (cv Qr [(.t 59), (.t 60)]), oH 62 58 61, om 63 62, oF 64 63 8, og 65 63 true (.bin .eql (.t 64) (ki 0)), oH 66 63 65, om 67 66, oF 68 67 7, og 69 67 true (.bsp t_int 1 false [.int .i64 0] 3 [(0, (ki 1)), (1, (ki 0)), (2, (ki 0))]), og 70 67 true (cv Qr [(.t 68), (.t 69)]), oH 71 67 70, om 72 71, oF 73 72 10, og 74 72 true (.bin .eql (.t 73) (ki 12)), oH 75 72 74, om 0 75] (some [0]))
 .rt))))))),
 [.t 0]⟩
def Kj : IR :=
 (.sq (.sq (.op 0 [om 40 3, oC 41 1 3, oA 42 41 1, oE 43 42, oG 44 40 43] (some [1, 3, 44]))
 (.cd (.t 44)
 .sk
 (.ex 0)))
 (.sq (.bk 1 (.sq (.op 0 [oC 47 1 3, oA 48 47 1, om 49 3, oD 50 48 49 4, oC 51 50 2, oA 52 51 1, oE 53 52, oo 54 (.bin .gtr (.t 53) (ki 4))] (some [1, 3, 54]))
 (.cd (.t 54)
 (.sq (oP [oK 2])
 .rt)
 .sk)))
 (oP [om 45 3, oI 46 45 1, om 3 46])))
def Z3r : IR := Kj
theorem Z34 : evC C L π k0 Z3r e s = evC C L π k0 Kj e s := rfl
def Ki : IR :=
 (.sq (.sq (.op 0 [om 55 4, oC 56 1 4, oA 57 56 1, oE 58 57, oG 59 55 58] (some [1, 4, 59]))
 (.cd (.t 59)
 .sk
 (.ex 2)))
 (.sq (.bk 3 (.sq (.op 0 [oC 62 1 4, oA 63 62 1, om 64 4, oD 65 63 64 3, oC 66 65 2, oA 67 66 1, oE 68 67, oo 69 (.bin .gtr (.t 68) (ki 6))] (some [1, 4, 69]))
 (.cd (.t 69)
 (.sq (oP [oK 2])
 .rt)
 .sk)))
 (oP [om 60 4, oI 61 60 1, om 4 61])))
def Z3q : IR := Ki
theorem Z33 : evC C L π k0 Z3q e s = evC C L π k0 Ki e s := rfl
def Kh : IR :=
 (.sq (.sq (.op 0 [om 70 5, oC 71 1 6, oA 72 71 1, oE 73 72, oG 74 70 73] (some [1, 5, 74]))
 (.cd (.t 74)
 .sk
 (.ex 4)))
 (.sq (.bk 5 (.sq (.op 0 [oC 77 1 6, oA 78 77 1, om 79 5, oD 80 78 79 2, oC 81 80 1, oA 82 81 1, oE 83 82, oo 84 (.bin .gtr (.t 83) (ki 8))] (some [1, 5, 84]))
 (.cd (.t 84)
 (.sq (oP [oK 2])
 .rt)
 .sk)))
 (oP [om 75 5, oI 76 75 1, om 5 76])))
def Z3p : IR := Kh
theorem Z32 : evC C L π k0 Z3p e s = evC C L π k0 Kh e s := rfl
def Pj : FnIR := ⟨85,
 (.sq (oP [oM 1 0 7, oK 2])
 (.sq (.sq (.op 0 [oC 6 1 3, oA 7 6 1, oE 8 7, oo 9 (.bin .gtr (.t 8) (ki 30)), om 10 9, og 11 10 false (.fa (.t 1) 1), og 12 10 false (.ld (.t 11) 1 false), og 13 10 false (.len false (.t 12)), og 14 10 false (.bin .gtr (.t 13) (ki 8)), oo 15 (.pick (.t 10) (.c (.bool true)) (.t 14)), om 16 15, og 17 16 false (.fa (.t 1) 2), og 18 16 false (.ld (.t 17) 1 false), og 19 16 false (.len false (.t 18)), og 20 16 false (.bin .gtr (.t 19) (ki 10)), oo 21 (.pick (.t 16) (.c (.bool true)) (.t 20)), om 22 21, og 23 22 false (.fa (.t 1) 4), og 24 22 false (.ld (.t 23) 1 false), og 25 22 false (.len false (.t 24)), og 26 22 false (.bin .gtr (.t 25) (ki 7)), oo 27 (.pick (.t 22) (.c (.bool true)) (.t 26)), om 28 27, og 29 28 false (.fa (.t 1) 5), og 30 28 false (.ld (.t 29) 1 false), og 31 28 false (.len false (.t 30)), og 32 28 false (.bin .gtr (.t 31) (ki 8)), oo 33 (.pick (.t 28) (.c (.bool true)) (.t 32)), om 34 33, og 35 34 false (.fa (.t 1) 6), og 36 34 false (.ld (.t 35) 1 false), og 37 34 false (.len false (.t 36)), og 38 34 false (.bin .gtr (.t 37) (ki 6)), oo 39 (.pick (.t 34) (.c (.bool true)) (.t 38))] (some [1, 39]))
 (.cd (.t 39)
 (.sq (oP [oK 2])
 .rt)
 .sk))
 (.sq (.sq (oP [oB 3 0])
 (.kp [1] [2] (.bk 0 (.lp [] [1, 3] Z3r))))
 (.sq (.sq (oP [oB 4 0])
 (.kp [1] [2] (.bk 2 (.lp [] [1, 4] Z3q))))
 (.sq (.sq (oP [oB 5 0])
 (.kp [] [2] (.bk 4 (.lp [] [1, 5] Z3p))))
 (.sq (oP [oo 2 (.mv (.c (.bool true)))])
 .rt)))))),
 [.t 2]⟩
def Qa : IR :=
 (.sq (.sq (.op 0 [om 28 4, oC 29 1 4, oA 30 29 1, oE 31 30, oG 32 28 31] (some [1, 2, 3, 4, 32]))
 (.cd (.t 32)
 .sk
 (.ex 0)))
 (.sq (.bk 1 (.sq (.op 0 [om 35 3, om 36 4, oC 37 1 4, oA 38 37 1, om 39 4, oD 40 38 39 3, oJ 41 40 3, oD 42 35 36 3, ou (.st (.t 42) (.t 41) 3)] (some [1, 2, 3, 4]))
 (.op 0 [om 43 3, om 44 4, oC 45 1 4, oA 46 45 1, om 47 4, oD 48 46 47 3, oC 49 48 2, oA 50 49 1, oo 51 (cw Lk [(.t 50)]), oD 52 43 44 3, oC 53 52 2, ou (.st (.t 53) (.t 51) 1)] (some [1, 2, 3, 4]))))
 (oP [om 33 4, oI 34 33 1, om 4 34])))
def K9 : IR := Qa
theorem Z0z : evC C L π k0 K9 e s = evC C L π k0 Qa e s := rfl
def Q9 : IR :=
 (.sq (.sq (.op 0 [om 58 6, oC 59 1 6, oA 60 59 1, oE 61 60, oG 62 58 61] (some [1, 2, 3, 5, 6, 62]))
 (.cd (.t 62)
 .sk
 (.ex 2)))
 (.sq (.bk 3 (.op 15 [om 65 5, om 66 6, oC 67 1 6, oA 68 67 1, om 69 6, oD 70 68 69 2, oC 71 70 0, oA 72 71 1, oC 73 1 6, oA 74 73 1, om 75 6, oD 76 74 75 2, oC 77 76 1, oA 78 77 1, oo 79 (cw V1 [(.t 78)]), oo 80 (.build [.int .i64 0, .sl 1 (some true) []] [(0, 1, (.t 72)), (1, 1, (.t 79))]), oD 81 65 66 2, ou (.st (.t 81) (.t 80) 2)] (some [1, 2, 3, 5, 6])))
 (oP [om 63 6, oI 64 63 1, om 6 64])))
def K8 : IR := Q9
theorem Z0y : evC C L π k0 K8 e s = evC C L π k0 Q9 e s := rfl
def Z0f : FnIR := ⟨87,
 (.sq (oP [oM 1 0 7, oo 2 (.alloc [.str ⟨#[]⟩, .sl 2 (some true) [], .sl 5 (some true) [], .sl 4 (some true) [], .sl 3 (some true) [], .sl 2 (some true) [], .sl 2 (some true) []])])
 (.sq (.op 10 [oC 7 1 1, oA 8 7 1, oo 9 (cw Hu [(.t 8)]), oC 10 1 3, oA 11 10 1, oo 12 (cw Hv [(.t 11)]), oC 13 1 5, oA 14 13 1, oo 15 (cw Np [(.t 14)]), oC 16 1 1, ou (.st (.t 16) (.t 9) 1), oC 17 1 3, ou (.st (.t 17) (.t 12) 1), oC 18 1 5, ou (.st (.t 18) (.t 15) 1)] (some [1, 2]))
 (.sq (.op 0 [oo 19 (.bsl La 5 true [.str ⟨#[]⟩, .int .i64 0, .int .i64 0, .int .i64 0, .int .i64 0] 0 []), oC 20 1 2, oA 21 20 1, oo 22 (.app (.t 19) (.t 21) La 5), oC 23 1 2, ou (.st (.t 23) (.t 22) 1)] (some [1, 2]))
 (.sq (.op 0 [oC 24 1 4, oA 25 24 1, oE 26 25, oo 27 (.mks Fq 3 true [.str ⟨#[]⟩, .int .i64 0, .sl 3 (some true) []] (.t 26) (.t 26)), om 3 27] (some [1, 2, 3]))
 (.sq (.sq (oP [oB 4 0])
 (.kp [1, 2, 3] [2] (.bk 0 (.lp [] [1, 2, 3, 4] K9))))
 (.sq (.op 0 [oC 54 1 6, oA 55 54 1, oE 56 55, oo 57 (.mks Lb 2 true [.int .i64 0, .sl 1 (some true) []] (.t 56) (.t 56)), om 5 57] (some [1, 2, 3, 5]))
 (.sq (.sq (oP [oB 6 0])
 (.kp [1, 2, 3, 5] [2] (.bk 2 (.lp [] [1, 2, 3, 5, 6] K8))))
 (.sq (.op 0 [om 82 3, om 83 5, oC 84 1 4, ou (.st (.t 84) (.t 82) 1), oC 85 1 6, ou (.st (.t 85) (.t 83) 1)] (some [1, 2]))
 (.sq (oP [oJ 86 1 7, ou (.st (.t 2) (.t 86) 7)])
 .rt))))))))),
 [.c 2 7 true]⟩
def Zc7 : IR :=
 (.sq (oP [oG 31 30 29])
 (.sq (.cd (.t 31)
 .sk
 (.ex 2))
 (.sq (.bk 3 (.sq (oP [om 32 30, om 10 32])
 (.op 0 [om 33 9, oJ 34 6 10, om 35 8, om 36 10, oo 37 (cv Z4g [(.t 34), (.t 35), (.t 36)]), oo 38 (.bsl t_int 1 false [.int .i64 0] 1 [(0, (.t 37))]), oo 39 (.app (.t 33) (.t 38) t_int 1), om 9 39] (some [1, 6, 7, 8, 9, 23, 24, 29, 30]))))
 (oP [oI 40 30 1, om 30 40]))))
def Zc3 : IR := Zc7
def Zc8 : IR :=
 (.sq (oP [oG 25 24 23])
 (.sq (.cd (.t 25)
 .sk
 (.ex 0))
 (.sq (.bk 1 (.sq (oP [om 26 24, om 8 26])
 (.sq (oP [oo 9 (.mv (.c (.sl 1 (some true) [])))])
 (.sq (.sq (.op 0 [oC 27 1 4, oA 28 27 1, oE 29 28, oB 30 0] (some [1, 6, 7, 8, 9, 23, 24, 29, 30]))
 (.kp [1, 6, 7, 9, 23, 24] [2, 3] (.bk 2 (.lp [(t_int, .inl 9)] [1, 6, 7, 8, 9, 23, 24, 29, 30] Zc3))))
 (.op 0 [om 41 7, om 42 9, oo 43 (.bsl Lc 1 false [.sl 1 (some true) []] 1 [(0, (.t 42))]), oo 44 (.app (.t 41) (.t 43) Lc 1), om 7 44] (some [1, 6, 7, 23, 24]))))))
 (oP [oI 45 24 1, om 24 45]))))
def Zc4 : IR := Zc8
def Zil : FnIR := ⟨47,
 (.sq (oP [oM 1 0 7, oo 2 (.mv (.c (.sl 1 (some true) []))), oB 3 0])
 (.sq (.op 0 [oJ 12 1 7, oo 13 (cv Z2v [(.t 12), (.c (.sl 1 (some true) []))]), om 11 13, oL 14 11 0, oL 15 11 1, oo 4 (.alloc [.str ⟨#[]⟩, .sl 2 (some true) [], .sl 5 (some true) [], .sl 4 (some true) [], .sl 3 (some true) [], .sl 2 (some true) [], .sl 2 (some true) [], .sl 1 (some true) []]), ou (.st (.t 4) (.t 14) 8), om 5 15] (some [1, 4, 5]))
 (.sq (.sq (oP [om 16 5, oo 17 (.bin .neq (.t 16) (ki 0))])
 (.cd (.t 17)
 (.sq (oP [om 18 5, oo 2 (.mv (.c (.sl 1 (some true) []))), om 3 18])
 .rt)
 .sk))
 (.sq (.op 0 [oJ 19 4 8, oo 20 (cw Z1q [(.t 19)]), oo 6 (.alloc [.str ⟨#[]⟩, .sl 2 (some true) [], .sl 5 (some true) [], .sl 4 (some true) [], .sl 3 (some true) [], .sl 2 (some true) [], .sl 2 (some true) [], .sl 1 (some true) [], .sl 1 (some true) [], .sl 1 (some true) []]), ou (.st (.t 6) (.t 20) 10)] (some [1, 6]))
 (.sq (oP [oo 7 (.mv (.c (.sl 1 (some true) [])))])
 (.sq (.sq (.op 0 [oC 21 1 4, oA 22 21 1, oE 23 22, oB 24 0] (some [1, 6, 7, 23, 24]))
 (.kp [7] [2, 3] (.bk 0 (.lp [(Lc, .inl 7)] [1, 6, 7, 23, 24] Zc4))))
 (.sq (oP [om 46 7, om 2 46, oB 3 0])
 .rt))))))),
 [.t 2, .t 3]⟩
def Gx : FnIR := ⟨11,
 (.sq (oP [oM 1 0 7, oB 2 0])
 (.sq (.op 0 [oJ 6 1 7, oo 7 (cv N1 [(.t 6)]), om 5 7, oL 8 5 0, oL 9 5 1, om 3 8, om 4 9] (some [4]))
 (.sq (oP [om 10 4, om 2 10])
 .rt))),
 [.t 2]⟩
def Z6m : IR :=
 (.sq (oP [oG 19 18 17])
 (.sq (.cd (.t 19)
 .sk
 (.ex 2))
 (.sq (.bk 3 (.sq (oP [oD 20 16 18 1, oA 21 20 1, om 8 21])
 (.sq (oP [oo 9 (.mv (.c (.str k_63)))])
 (.sq (.sq (oP [om 22 8, oo 23 (cv Ha [(.t 22), (ki 0), (ki 4)])])
 (.cd (.t 23)
 (.op 0 [om 24 8, om 25 8, oI 26 25 1, oo 27 (.slc true (.c (.str Z8y)) (some (.t 24)) (some (.t 26)) 0), om 9 27] (some [3, 6, 9, 10, 11, 12, 16, 17, 18]))
 .sk))
 (.op 0 [om 28 6, om 29 9, oo 30 (.bin .add (.t 28) (.t 29)), om 6 30] (some [3, 6, 10, 11, 12, 16, 17, 18]))))))
 (oP [oI 31 18 1, om 18 31]))))
def Z6k : IR := Z6m
def Z6n : IR :=
 (.sq (oP [oG 13 12 11])
 (.sq (.cd (.t 13)
 .sk
 (.ex 0))
 (.sq (.bk 1 (.sq (oP [oD 14 10 12 1, oA 15 14 1, om 5 15])
 (.sq (oP [oo 6 (.mv (.c (.str ⟨#[]⟩)))])
 (.sq (.sq (oP [om 16 5, oE 17 16, oB 18 0])
 (.kp [3, 6, 10, 11, 12] [2] (.bk 2 (.lp [] [3, 6, 10, 11, 12, 16, 17, 18] Z6k))))
 (.op 0 [om 32 3, om 33 6, oo 34 (.bsl Zgv 1 false [.str ⟨#[]⟩] 1 [(0, (.t 33))]), oo 35 (.app (.t 32) (.t 34) Zgv 1), om 3 35] (some [3, 10, 11, 12]))))))
 (oP [oI 36 12 1, om 12 36]))))
def Z6l : IR := Z6n
def Zb2 : FnIR := ⟨39,
 (.sq (oP [oo 2 (.mv (.c (.str ⟨#[]⟩)))])
 (.sq (oP [oo 3 (.mv (.c (.sl 1 (some true) [])))])
 (.sq (.sq (oP [om 10 0, oE 11 10, oB 12 0])
 (.kp [3] [2] (.bk 0 (.lp [(Zgv, .inl 3)] [3, 10, 11, 12] Z6l))))
 (.sq (oP [om 37 3, oo 38 (cv Z1n [(.t 37), (.c (.str k_47))]), om 2 38])
 .rt)))),
 [.t 2]⟩
def Uo : FnIR := ⟨24,
 (.sq (oP [oM 3 0 7, oB 6 0])
 (.sq (.sq (.op 0 [oJ 9 3 7, om 10 1, oo 11 (cv Py [(.t 9), (.t 10)]), om 7 11] (some [1, 2, 3, 7]))
 (.sq (oP [om 12 7, oo 13 (.bin .neq (.t 12) (ki 0))])
 (.cd (.t 13)
 (.sq (oP [om 14 7, om 6 14])
 .rt)
 .sk)))
 (.sq (.sq (.op 0 [oJ 15 3 7, om 16 2, oo 17 (cv Py [(.t 15), (.t 16)]), om 8 17] (some [1, 2, 8]))
 (.sq (oP [om 18 8, oo 19 (.bin .neq (.t 18) (ki 0))])
 (.cd (.t 19)
 (.sq (oP [om 20 8, om 6 20])
 .rt)
 .sk)))
 (.sq (.sq (oP [om 21 1, om 22 2, oo 23 (.bin .eql (.t 21) (.t 22))])
 (.cd (.t 23)
 (.sq (oP [oB 6 23])
 .rt)
 .sk))
 (.sq (oP [oB 6 0])
 .rt))))),
 [.t 6]⟩
def V6 : IR :=
 (.sq (.sq (.op 0 [om 26 10, om 27 9, oE 28 27, oG 29 26 28] (some [1, 3, 9, 10, 29]))
 (.cd (.t 29)
 .sk
 (.ex 0)))
 (.sq (.bk 1 (.sq (.op 7 [oJ 32 3 7, om 33 1, oo 34 (cw M4 [(.t 32), (.t 33)]), om 35 9, om 36 10, oD 37 35 36 1, oA 38 37 1, oo 39 (cv Fe [(.t 34), (.t 38)])] (some [1, 3, 9, 10, 39]))
 (.cd (.t 39)
 (.sq (oP [oB 6 1])
 .rt)
 .sk)))
 (oP [om 30 10, oI 31 30 1, om 10 31])))
def Lz : IR := V6
theorem L7 : evC C L π k0 Lz e s = evC C L π k0 V6 e s := rfl
def P5 : FnIR := ⟨42,
 (.sq (oP [oM 3 0 7, oB 6 0])
 (.sq (.op 7 [oJ 11 3 7, om 12 1, om 13 2, oo 14 (cv Qo [(.t 11), (.t 12), (.t 13)]), oJ 15 3 7, om 16 2, om 17 1, oo 18 (cv Qo [(.t 15), (.t 16), (.t 17)]), om 7 14, om 8 18] (some [1, 2, 3, 7, 8]))
 (.sq (.sq (.op 0 [om 19 7, om 20 19, oF 21 20 8, oH 22 20 21] (some [1, 2, 3, 7, 8, 22]))
 (.cd (.t 22)
 (.sq (.op 0 [oJ 23 3 7, om 24 2, oo 25 (cw M4 [(.t 23), (.t 24)]), om 9 25] (some [1, 3, 9]))
 (.sq (.sq (oP [oB 10 0])
 (.kp [] [6] (.bk 0 (.lp [] [1, 3, 9, 10] Lz))))
 (.sq (oP [oB 6 0])
 .rt)))
 .sk))
 (.sq (.sq (oP [om 40 7])
 (.cd (.t 40)
 (.sq (oP [oB 6 2])
 .rt)
 .sk))
 (.sq (.sq (oP [om 41 8])
 (.cd (.t 41)
 (.sq (oP [oB 6 3])
 .rt)
 .sk))
 (.sq (oP [oB 6 4])
 .rt)))))),
 [.t 6]⟩
def Zc6 : IR :=
 (.sq (.sq (oP [oA 23 8 1, oE 24 23, oo 25 (.bin .gtr (.t 24) (ki 0))])
 (.cd (.t 25)
 .sk
 (.ex 0)))
 (.bk 1 (.sq (.op 0 [oA 26 8 1, oo 27 (.mkf Z53 [(.t 6), (.t 8)]), oo 28 (cv U0 [(.t 26), (.t 27)]), om 10 28] (some [6, 8, 9, 10]))
 (.sq (.sq (oP [om 29 10, oo 30 (.bin .lss (.t 29) (ki 0))])
 (.cd (.t 30)
 (.sq (oP [oo 4 (.mv (.c (.sl 1 (some true) []))), oB 5 27])
 .rt)
 .sk))
 (.sq (.op 0 [om 31 9, oA 32 8 1, om 33 10, oD 34 32 33 1, oA 35 34 1, oo 36 (.bsl t_int 1 false [.int .i64 0] 1 [(0, (.t 35))]), oo 37 (.app (.t 31) (.t 36) t_int 1), om 9 37] (some [6, 8, 9, 10]))
 (.op 0 [oA 38 8 1, om 39 10, om 40 10, oI 41 40 1, oo 42 (.callS (.c (.fn M3 [])) [(.t 38), (.t 39), (.t 41)]), ou (.st (.t 8) (.t 42) 1)] (some [6, 8, 9])))))))
def Zc2 : IR := Zc6
def Zik : FnIR := ⟨44,
 (.sq (oP [oM 2 0 7, oo 4 (.mv (.c (.sl 1 (some true) []))), oB 5 0])
 (.sq (.op 0 [oJ 12 2 7, om 13 1, oo 14 (cv Z1p [(.t 12), (.t 13)]), om 11 14, oL 15 11 0, oL 16 11 1, oo 6 (.alloc [.str ⟨#[]⟩, .sl 2 (some true) [], .sl 5 (some true) [], .sl 4 (some true) [], .sl 3 (some true) [], .sl 2 (some true) [], .sl 2 (some true) [], .sl 1 (some true) [], .sl 1 (some true) [], .sl 1 (some true) []]), ou (.st (.t 6) (.t 15) 10), om 7 16] (some [1, 6, 7]))
 (.sq (.sq (oP [om 17 7, oo 18 (.bin .neq (.t 17) (ki 0))])
 (.cd (.t 18)
 (.sq (oP [om 19 7, oo 4 (.mv (.c (.sl 1 (some true) []))), om 5 19])
 .rt)
 .sk))
 (.sq (.op 0 [om 20 1, oo 21 (cw M2 [(.t 20)]), oo 22 (cw Fv [(.t 21)]), oo 8 (.alloc [.sl 1 (some true) []]), ou (.st (.t 8) (.t 22) 1)] (some [6, 8]))
 (.sq (oP [oo 9 (.mv (.c (.sl 1 (some true) [])))])
 (.sq (.kp [9] [4, 5] (.bk 0 (.lp [(t_int, .inl 9)] [6, 8, 9] Zc2)))
 (.sq (oP [om 43 9, om 4 43, oB 5 0])
 .rt))))))),
 [.t 4, .t 5]⟩
def Z3w : FnIR := ⟨6,
 (.sq (oP [oo 2 (.mv (.c (.sl 1 (some true) [])))])
 (.sq (.op 0 [oo 3 (.bsl t_int 1 false [.int .i64 0] 0 []), om 4 0, oo 5 (.app (.t 3) (.t 4) t_int 1), om 2 5] (some [2]))
 .rt)),
 [.t 2]⟩
def Zes : IR :=
 (.sq (oP [oG 28 27 26])
 (.sq (.cd (.t 28)
 .sk
 (.ex 0))
 (.sq (.bk 1 (.sq (oP [oD 29 25 27 1, oA 30 29 1, om 11 30])
 (.sq (.op 0 [oJ 31 6 10, om 32 11, om 33 8, oo 34 (cw Z6u [(.t 31), (.t 32), (.t 33)]), om 12 34] (some [6, 8, 9, 12, 25, 26, 27]))
 (.sq (.op 0 [om 35 12, oo 36 (.isnil true true (.t 35)), om 37 36, oF 38 37 9, og 39 37 true (.isnil true false (.t 38)), oF 40 37 39, oN 41 40 12, og 42 40 false (.len false (.t 41)), oN 43 40 9, og 44 40 false (.len false (.t 43)), og 45 40 false (.bin .lss (.t 42) (.t 44)), og 46 37 true (.pick (.t 40) (.c (.bool true)) (.t 45)), oH 47 37 46] (some [6, 8, 9, 12, 25, 26, 27, 47]))
 (.cd (.t 47)
 (oP [om 48 12, om 9 48])
 .sk)))))
 (oP [oI 49 27 1, om 27 49]))))
def Zep : IR := Zes
def c_cf_CycleIn : FnIR := ⟨54,
 (.sq (oP [oM 2 0 7, oo 4 (.mv (.c (.sl 1 (some true) []))), oB 5 0])
 (.sq (.op 0 [oJ 14 2 7, om 15 1, oo 16 (cv Z1p [(.t 14), (.t 15)]), om 13 16, oL 17 13 0, oL 18 13 1, oo 6 (.alloc [.str ⟨#[]⟩, .sl 2 (some true) [], .sl 5 (some true) [], .sl 4 (some true) [], .sl 3 (some true) [], .sl 2 (some true) [], .sl 2 (some true) [], .sl 1 (some true) [], .sl 1 (some true) [], .sl 1 (some true) []]), ou (.st (.t 6) (.t 17) 10), om 7 18] (some [1, 6, 7]))
 (.sq (.sq (oP [om 19 7, oo 20 (.bin .neq (.t 19) (ki 0))])
 (.cd (.t 20)
 (.sq (oP [om 21 7, oo 4 (.mv (.c (.sl 1 (some true) []))), om 5 21])
 .rt)
 .sk))
 (.sq (.op 0 [om 22 1, oo 23 (cw M2 [(.t 22)]), oo 24 (cw Fv [(.t 23)]), om 8 24] (some [6, 8]))
 (.sq (oP [oo 9 (.mv (.c (.sl 1 (some true) [])))])
 (.sq (.sq (oP [om 25 8, oE 26 25, oB 27 0])
 (.kp [9] [4, 5] (.bk 0 (.lp [] [6, 8, 9, 25, 26, 27] Zep))))
 (.sq (.op 0 [om 50 9, om 51 9, oo 52 (.isnil true true (.t 51)), oo 53 (cv Xz [(.t 52), (ki 12)]), om 4 50, om 5 53] (some [4, 5]))
 .rt))))))),
 [.t 4, .t 5]⟩
def Z0p : IR :=
 (.sq (.sq (.op 0 [om 6 5, om 7 0, oE 8 7, oG 9 6 8] (some [0, 1, 5, 9]))
 (.cd (.t 9)
 .sk
 (.ex 0)))
 (.sq (.bk 1 (.sq (.op 0 [om 12 0, om 13 5, oD 14 12 13 1, oA 15 14 1, om 16 1, oo 17 (.bin .eql (.t 15) (.t 16))] (some [0, 1, 5, 17]))
 (.cd (.t 17)
 (.sq (oP [oo 4 (.mv (.c (.bool true)))])
 .rt)
 .sk)))
 (oP [om 10 5, oI 11 10 1, om 5 11])))
def Z7n : IR := Z0p
theorem Z72 : evC C L π k0 Z7n e s = evC C L π k0 Z0p e s := rfl
def Zic : FnIR := ⟨18,
 (.sq (oP [oK 4])
 (.sq (.sq (oP [oB 5 0])
 (.kp [] [4] (.bk 0 (.lp [] [0, 1, 5] Z7n))))
 (.sq (oP [oK 4])
 .rt))),
 [.t 4]⟩
def Y6 : IR :=
 (.sq (.sq (.op 0 [om 9 7, oC 10 3 2, oA 11 10 1, oE 12 11, oG 13 9 12] (some [1, 2, 3, 7, 13]))
 (.cd (.t 13)
 .sk
 (.ex 0)))
 (.sq (.bk 1 (.sq (.op 0 [oC 16 3 2, oA 17 16 1, om 18 7, oD 19 17 18 5, oC 20 19 1, oA 21 20 1, oo 22 (.bin .eql (.t 21) (ki 1)), om 8 22] (some [1, 2, 3, 7, 8]))
 (.sq (.op 0 [om 23 8, oo 24 (.un .not (.t 23)), om 25 24, og 26 25 true (.ld (.t 3) 7 true), oF 27 25 1, og 28 25 true (cw M4 [(.t 26), (.t 27)]), oF 29 25 7, og 30 25 true (cv Fe [(.t 28), (.t 29)]), oH 31 25 30, om 32 31, og 33 32 true (.ld (.t 3) 7 true), oF 34 32 2, og 35 32 true (cw Z2j [(.t 33), (.t 34)]), oF 36 32 7, og 37 32 true (cv Fe [(.t 35), (.t 36)]), oH 38 32 37, om 39 38, oN 40 39 8, oN 41 39 40, og 42 41 true (.ld (.t 3) 7 true), oF 43 41 1, og 44 41 true (cw Z2j [(.t 42), (.t 43)]), oF 45 41 7, og 46 41 true (cv Fe [(.t 44), (.t 45)]), og 47 39 false (.pick (.t 41) (.t 46) (.c (.bool false))), oN 48 39 47, og 49 48 true (.ld (.t 3) 7 true), oF 50 48 2, og 51 48 true (cw M4 [(.t 49), (.t 50)]), oF 52 48 7, og 53 48 true (cv Fe [(.t 51), (.t 52)]), og 54 39 false (.pick (.t 48) (.t 53) (.c (.bool false))), oo 55 (.pick (.t 39) (.c (.bool true)) (.t 54))] (some [1, 2, 3, 7, 55]))
 (.cd (.t 55)
 (.sq (oP [oK 6])
 .rt)
 .sk))))
 (oP [om 14 7, oI 15 14 1, om 7 15])))
def K5 : IR := Y6
theorem Yw : evC C L π k0 K5 e s = evC C L π k0 Y6 e s := rfl
def Z0d : FnIR := ⟨56,
 (.sq (oP [oM 3 0 7, oK 6])
 (.sq (.sq (oP [oB 7 0])
 (.kp [] [6] (.bk 0 (.lp [] [1, 2, 3, 7] K5))))
 (.sq (oP [oo 6 (.mv (.c (.bool true)))])
 .rt))),
 [.t 6]⟩
def Z1u : FnIR := ⟨12,
 (.sq (oP [oM 2 0 7, oB 4 0])
 (.sq (.sq (.op 0 [om 5 1, oC 6 2 4, oA 7 6 1, oE 8 7, oo 9 (.bin .sub (.t 8) (ki 1)), oo 10 (cv Ye [(.t 5), (ki 0), (.t 9)]), oo 11 (.un .not (.t 10))] (some [11]))
 (.cd (.t 11)
 (.sq (oP [oB 4 6])
 .rt)
 .sk))
 (.sq (oP [oB 4 0])
 .rt))),
 [.t 4]⟩
def Gk : IR :=
 (.sq (.sq (.op 0 [om 11 5, om 12 0, oE 13 12, oG 14 11 13] (some [0, 1, 5, 14]))
 (.cd (.t 14)
 .sk
 (.ex 0)))
 (.sq (.bk 1 (.sq (.op 8 [om 17 0, om 18 5, oD 19 17 18 1, oA 20 19 1, om 21 1, om 22 5, oD 23 21 22 1, oA 24 23 1, oo 25 (.bin .neq (.t 20) (.t 24))] (some [0, 1, 5, 25]))
 (.cd (.t 25)
 (.sq (oP [oK 4])
 .rt)
 .sk)))
 (oP [om 15 5, oI 16 15 1, om 5 16])))
def Z5o : IR := Gk
theorem Z4q : evC C L π k0 Z5o e s = evC C L π k0 Gk e s := rfl
def Z9g : FnIR := ⟨26,
 (.sq (oP [oK 4])
 (.sq (.sq (.op 0 [om 6 0, oE 7 6, om 8 1, oE 9 8, oo 10 (.bin .neq (.t 7) (.t 9))] (some [0, 1, 10]))
 (.cd (.t 10)
 (.sq (oP [oK 4])
 .rt)
 .sk))
 (.sq (.sq (oP [oB 5 0])
 (.kp [] [4] (.bk 0 (.lp [] [0, 1, 5] Z5o))))
 (.sq (oP [oo 4 (.mv (.c (.bool true)))])
 .rt)))),
 [.t 4]⟩
def Fo : IR :=
 (.sq (.sq (.op 0 [om 19 7, oC 20 5 2, oA 21 20 1, oE 22 21, oG 23 19 22] (some [2, 5, 6, 7, 23]))
 (.cd (.t 23)
 .sk
 (.ex 0)))
 (.sq (.bk 1 (.op 13 [om 26 6, oC 27 5 2, oA 28 27 1, om 29 7, oD 30 28 29 3, oC 31 30 1, oA 32 31 1, oC 33 5 2, oA 34 33 1, om 35 7, oD 36 34 35 3, oC 37 36 2, oA 38 37 1, oo 39 (.bsl t_int 1 false [.int .i64 0] 2 [(0, (.t 32)), (1, (.t 38))]), oo 40 (.app (.t 26) (.t 39) t_int 1), om 6 40] (some [2, 5, 6, 7])))
 (oP [om 24 7, oI 25 24 1, om 7 25])))
def Z3t : IR := Fo
theorem Z89 : evC C L π k0 Z3t e s = evC C L π k0 Fo e s := rfl
def Kk : IR :=
 (.sq (.sq (.op 0 [om 52 10, om 53 8, oE 54 53, oG 55 52 54] (some [2, 8, 9, 10, 55]))
 (.cd (.t 55)
 .sk
 (.ex 2)))
 (.sq (.bk 3 (.sq (.op 7 [om 58 8, om 59 10, oD 60 58 59 1, oA 61 60 1, oC 62 2 1, oA 63 62 1, oE 64 63, oo 65 (.bin .geq (.t 61) (.t 64))] (some [2, 8, 9, 10, 65]))
 (.cd (.t 65)
 (.op 8 [om 66 9, om 67 8, om 68 10, oD 69 67 68 1, oA 70 69 1, oC 71 2 1, oA 72 71 1, oE 73 72, oo 74 (.bin .sub (.t 70) (.t 73)), oo 75 (.bsl t_int 1 false [.int .i64 0] 1 [(0, (.t 74))]), oo 76 (.app (.t 66) (.t 75) t_int 1), om 9 76] (some [2, 8, 9, 10]))
 .sk)))
 (oP [om 56 10, oI 57 56 1, om 10 57])))
def Z3s : IR := Kk
theorem Z35 : evC C L π k0 Z3s e s = evC C L π k0 Kk e s := rfl
def Za7 : FnIR := ⟨78,
 (.sq (oP [oM 2 0 7, oo 4 (.mv (.c (.sl 1 (some true) [])))])
 (.sq (.op 0 [oC 11 2 4, oA 12 11 1, om 13 1, oD 14 12 13 3, oJ 15 14 3, oo 5 (.alloc [.str ⟨#[]⟩, .int .i64 0, .sl 3 (some true) []]), ou (.st (.t 5) (.t 15) 3)] (some [2, 5]))
 (.sq (.op 0 [oC 16 5 1, oA 17 16 1, oo 18 (.bsl t_int 1 false [.int .i64 0] 1 [(0, (.t 17))]), om 6 18] (some [2, 5, 6]))
 (.sq (.sq (oP [oB 7 0])
 (.kp [2, 6] [4] (.bk 0 (.lp [(t_int, .inl 6)] [2, 5, 6, 7] Z3t))))
 (.sq (.op 0 [oC 41 2 3, oA 42 41 1, om 43 6, oC 44 2 1, oA 45 44 1, oE 46 45, oC 47 2 2, oA 48 47 1, oE 49 48, oo 50 (.bin .add (.t 46) (.t 49)), oo 51 (cw No [(.t 42), (.t 43), (.t 50)]), om 8 51] (some [2, 8]))
 (.sq (oP [oo 9 (.mv (.c (.sl 1 (some true) [])))])
 (.sq (.sq (oP [oB 10 0])
 (.kp [9] [4] (.bk 2 (.lp [(t_int, .inl 9)] [2, 8, 9, 10] Z3s))))
 (.sq (oP [om 77 9, om 4 77])
 .rt)))))))),
 [.t 4]⟩
def Up : IR :=
 (.sq (.sq (.op 0 [om 16 8, oC 17 2 4, oA 18 17 1, om 19 1, oD 20 18 19 3, oC 21 20 2, oA 22 21 1, oE 23 22, oG 24 16 23] (some [1, 2, 5, 6, 7, 8, 24]))
 (.cd (.t 24)
 .sk
 (.ex 2)))
 (.sq (.bk 3 (.op 0 [om 27 7, om 28 27, og 29 28 false (.fa (.t 2) 4), og 30 28 false (.ld (.t 29) 1 false), oN 31 28 1, og 32 28 false (.ia (.t 30) (.t 31) 3), og 33 28 false (.fa (.t 32) 2), og 34 28 false (.ld (.t 33) 1 false), oN 35 28 8, og 36 28 false (.ia (.t 34) (.t 35) 3), og 37 28 false (.fa (.t 36) 0), og 38 28 false (.ld (.t 37) 1 false), oN 39 28 6, og 40 28 false (.bin .eql (.t 38) (.t 39)), oo 41 (.pick (.t 28) (.c (.bool true)) (.t 40)), om 7 41] (some [1, 2, 5, 6, 7, 8])))
 (oP [om 25 8, oI 26 25 1, om 8 26])))
def Z1y : IR := Up
theorem Hq : evC C L π k0 Z1y e s = evC C L π k0 Up e s := rfl
def Nl : IR :=
 (.sq (.sq (.op 0 [om 9 6, oC 10 2 2, oA 11 10 1, oE 12 11, oG 13 9 12] (some [1, 2, 5, 6, 13]))
 (.cd (.t 13)
 .sk
 (.ex 0)))
 (.sq (.bk 1 (.sq (oP [oK 7])
 (.sq (.sq (oP [oB 8 0])
 (.kp [1, 2, 5, 6, 7] [4] (.bk 2 (.lp [] [1, 2, 5, 6, 7, 8] Z1y))))
 (.sq (oP [om 42 7])
 (.cd (.t 42)
 (.op 0 [om 43 5, om 44 6, oo 45 (.bsl t_int 1 false [.int .i64 0] 1 [(0, (.t 44))]), oo 46 (.app (.t 43) (.t 45) t_int 1), om 5 46] (some [1, 2, 5, 6]))
 .sk)))))
 (oP [om 14 6, oI 15 14 1, om 6 15])))
def Z1z : IR := Nl
theorem Z1k : evC C L π k0 Z1z e s = evC C L π k0 Nl e s := rfl
def Z7i : FnIR := ⟨48,
 (.sq (oP [oM 2 0 7, oo 4 (.mv (.c (.sl 1 (some true) [])))])
 (.sq (oP [oo 5 (.mv (.c (.sl 1 (some true) [])))])
 (.sq (.sq (oP [oB 6 0])
 (.kp [5] [4] (.bk 0 (.lp [(t_int, .inl 5)] [1, 2, 5, 6] Z1z))))
 (.sq (oP [om 47 5, om 4 47])
 .rt)))),
 [.t 4]⟩
def Fk : FnIR := ⟨7,
 (.sq (oP [oM 1 0 7, oB 2 0])
 (.sq (.sq (.op 0 [oJ 3 1 7, oo 4 (cw Qp [(.t 3)]), oo 5 (cv Uk [(.t 4)]), oo 6 (.bin .gtr (.t 5) (ki 12))] (some [6]))
 (.cd (.t 6)
 (.sq (oP [oB 2 8])
 .rt)
 .sk))
 (.sq (oP [oB 2 0])
 .rt))),
 [.t 2]⟩
def Pl : IR :=
 (.sq (.sq (.op 0 [om 5 4, om 6 0, oE 7 6, oG 8 5 7] (some [0, 3, 4, 8]))
 (.cd (.t 8)
 .sk
 (.ex 0)))
 (.sq (.bk 1 (.op 0 [om 11 3, om 12 0, om 13 4, oD 14 12 13 1, oA 15 14 1, oo 16 (.bin .add (.t 11) (.t 15)), om 3 16] (some [0, 3, 4])))
 (oP [om 9 4, oI 10 9 1, om 4 10])))
def Hh : IR := Pl
theorem Z2d : evC C L π k0 Hh e s = evC C L π k0 Pl e s := rfl
def Z1w : FnIR := ⟨18,
 (.sq (oP [oB 2 0])
 (.sq (oP [oB 3 0])
 (.sq (.sq (oP [oB 4 0])
 (.kp [3] [2] (.bk 0 (.lp [] [0, 3, 4] Hh))))
 (.sq (oP [om 17 3, om 2 17])
 .rt)))),
 [.t 2]⟩
def G3 : IR :=
 (.sq (.sq (.op 0 [om 6 4, oC 7 1 1, oA 8 7 1, oE 9 8, oG 10 6 9] (some [1, 3, 4, 10]))
 (.cd (.t 10)
 .sk
 (.ex 0)))
 (.sq (.bk 1 (.op 0 [om 13 3, oC 14 1 1, oA 15 14 1, om 16 4, oD 17 15 16 2, oC 18 17 1, oA 19 18 1, oo 20 (.bsl t_int 1 false [.int .i64 0] 1 [(0, (.t 19))]), oo 21 (.app (.t 13) (.t 20) t_int 1), om 3 21] (some [1, 3, 4])))
 (oP [om 11 4, oI 12 11 1, om 4 12])))
def Z21 : IR := G3
theorem Z6q : evC C L π k0 Z21 e s = evC C L π k0 G3 e s := rfl
def G2 : IR :=
 (.sq (.sq (.op 0 [om 22 5, oC 23 1 2, oA 24 23 1, oE 25 24, oG 26 22 25] (some [1, 3, 5, 26]))
 (.cd (.t 26)
 .sk
 (.ex 2)))
 (.sq (.bk 3 (.op 0 [om 29 3, oC 30 1 2, oA 31 30 1, om 32 5, oD 33 31 32 5, oC 34 33 2, oA 35 34 1, oo 36 (.bsl t_int 1 false [.int .i64 0] 1 [(0, (.t 35))]), oo 37 (.app (.t 29) (.t 36) t_int 1), om 3 37] (some [1, 3, 5])))
 (oP [om 27 5, oI 28 27 1, om 5 28])))
def Z20 : IR := G2
theorem Z6p : evC C L π k0 Z20 e s = evC C L π k0 G2 e s := rfl
def Z7l : FnIR := ⟨39,
 (.sq (oP [oM 1 0 7, oo 2 (.mv (.c (.sl 1 (some true) [])))])
 (.sq (oP [oo 3 (.mv (.c (.sl 1 (some true) [])))])
 (.sq (.sq (oP [oB 4 0])
 (.kp [1, 3] [2] (.bk 0 (.lp [(t_int, .inl 3)] [1, 3, 4] Z21))))
 (.sq (.sq (oP [oB 5 0])
 (.kp [3] [2] (.bk 2 (.lp [(t_int, .inl 3)] [1, 3, 5] Z20))))
 (.sq (oP [om 38 3, om 2 38])
 .rt))))),
 [.t 2]⟩
def Wb : FnIR := ⟨54,
 (.sq (oP [oM 4 0 7, oK 8, oB 9 0])
 (.sq (.op 0 [oJ 15 4 7, om 16 1, om 17 2, oo 18 (cw Mz [(.t 15), (.t 16), (.t 17)]), om 14 18, oL 19 14 0, oL 20 14 1, oo 10 (.alloc [.str ⟨#[]⟩, .sl 2 (some true) [], .sl 5 (some true) [], .sl 4 (some true) [], .sl 3 (some true) [], .sl 2 (some true) [], .sl 2 (some true) [], .sl 1 (some true) []]), ou (.st (.t 10) (.t 19) 8), om 11 20] (some [1, 2, 3, 10, 11]))
 (.sq (.sq (.op 0 [om 21 11, om 22 3, oE 23 22, oC 24 10 7, oA 25 24 1, oE 26 25, oo 27 (.bin .eql (.t 23) (.t 26)), oo 28 (cv Xz [(.t 27), (ki 10)]), oo 29 (.bsp Zy 1 false [.int .i64 0] 2 [(0, (.t 21)), (1, (.t 28))]), oo 30 (cv Pg [(.t 29)]), om 11 30] (some [1, 2, 3, 10, 11]))
 (.sq (oP [om 31 11, oo 32 (.bin .neq (.t 31) (ki 0))])
 (.cd (.t 32)
 (.sq (oP [om 33 11, oK 8, om 9 33])
 .rt)
 .sk)))
 (.sq (.sq (.op 0 [om 35 3, oo 36 (.mkf U8 [(.t 10)]), oo 37 (cv Ph [(.t 35), (.t 36)]), om 34 37, oL 38 34 0, oL 39 34 1, om 12 38, om 13 39] (some [1, 2, 3, 10, 13]))
 (.sq (oP [om 40 13, oo 41 (.bin .neq (.t 40) (ki 0))])
 (.cd (.t 41)
 (.sq (oP [om 42 13, oK 8, om 9 42])
 .rt)
 .sk)))
 (.sq (.sq (.op 0 [oJ 43 10 8, om 44 1, om 45 2, om 46 3, oo 47 (cv L0 [(.t 43), (.t 44), (.t 45), (.t 46)]), oo 48 (.un .not (.t 47))] (some [1, 2, 3, 10, 48]))
 (.cd (.t 48)
 (.sq (oP [oK 8, oB 9 20])
 .rt)
 .sk))
 (.sq (.op 0 [oJ 49 10 8, om 50 1, om 51 2, om 52 3, oo 53 (cv Qy [(.t 49), (.t 50), (.t 51), (.t 52)]), om 8 53, oB 9 0] (some [8, 9]))
 .rt)))))),
 [.t 8, .t 9]⟩
def Qb : IR :=
 (.sq (oP [oG 24 23 22])
 (.sq (.cd (.t 24)
 .sk
 (.ex 0))
 (.sq (.bk 1 (.sq (oP [om 25 23, om 11 25])
 (.op 0 [om 26 10, om 27 11, oo 28 (.bsl t_int 1 false [.int .i64 0] 1 [(0, (.t 27))]), oo 29 (.app (.t 26) (.t 28) t_int 1), om 10 29] (some [4, 5, 6, 7, 8, 9, 10, 22, 23]))))
 (oP [oI 30 23 1, om 23 30]))))
def Ke : IR := Qb
theorem Z10 : evC C L π k0 Ke e s = evC C L π k0 Qb e s := rfl
def Wq : IR :=
 (oP [om 12 45])
def Mg : IR := Wq
theorem M1 : evC C L π k0 Mg e s = evC C L π k0 Wq e s := rfl
def Wp : IR :=
 (.bk 3 (.sq (.fz [12, 45] (.op 0 [oJ 46 8 8, oA 47 4 1, oA 48 5 1, om 49 12, oo 50 (cv L0 [(.t 46), (.t 47), (.t 48), (.t 49)]), om 51 50, og 52 51 true (.ld (.t 8) 8 true), og 53 51 true (.ld (.t 4) 1 false), og 54 51 true (.ld (.t 5) 1 false), oF 55 51 12, og 56 51 true (cv Qy [(.t 52), (.t 53), (.t 54), (.t 55)]), oH 57 51 56] (some [6, 7, 12, 57])))
 (.cd (.t 57)
 (.sq (oP [om 58 12, ou (.st (.t 6) (.t 58) 1), ou (.st (.t 7) (ki 0) 1)])
 .rt)
 .sk)))
def Mf : IR := Wp
theorem M0 : evC C L π k0 Mf e s = evC C L π k0 Wp e s := rfl
def Kf : FnIR := ⟨59,
 (.sq (oP [oM 3 0 7, oM 4 1 1, oM 5 2 1, oo 6 (.alloc [.sl 1 (some true) []]), oo 7 (.alloc [.int .i64 0])])
 (.sq (.op 0 [oJ 14 3 7, oA 15 4 1, oA 16 5 1, oo 17 (cw Mz [(.t 14), (.t 15), (.t 16)]), om 13 17, oL 18 13 0, oL 19 13 1, oo 8 (.alloc [.str ⟨#[]⟩, .sl 2 (some true) [], .sl 5 (some true) [], .sl 4 (some true) [], .sl 3 (some true) [], .sl 2 (some true) [], .sl 2 (some true) [], .sl 1 (some true) []]), ou (.st (.t 8) (.t 18) 8), om 9 19] (some [4, 5, 6, 7, 8, 9]))
 (.sq (oP [oo 10 (.mv (.c (.sl 1 (some true) [])))])
 (.sq (.sq (.op 0 [oC 20 8 7, oA 21 20 1, oE 22 21, oB 23 0] (some [4, 5, 6, 7, 8, 9, 10, 22, 23]))
 (.kp [4, 5, 6, 7, 8, 9, 10] [6, 7] (.bk 0 (.lp [(t_int, .inl 10)] [4, 5, 6, 7, 8, 9, 10, 22, 23] Ke))))
 (.sq (.sq (.op 0 [om 31 9, oJ 32 8 8, om 33 10, oo 34 (cv L3 [(.t 32), (.t 33)]), oo 35 (.bin .leq (.t 34) (ki 12)), oo 36 (cv Xz [(.t 35), (ki 8)]), oo 37 (.bsp Zy 1 false [.int .i64 0] 2 [(0, (.t 31)), (1, (.t 36))]), oo 38 (cv Pg [(.t 37)]), om 9 38] (some [4, 5, 6, 7, 8, 9, 10]))
 (.sq (oP [om 39 9, oo 40 (.bin .neq (.t 39) (ki 0))])
 (.cd (.t 40)
 (.sq (oP [om 41 9, ou (.st (.t 6) (.c (.sl 1 (some true) [])) 1), ou (.st (.t 7) (.t 41) 1)])
 .rt)
 .sk)))
 (.sq (.sq (.kp [4, 5, 6, 7, 8, 44] [6, 7] (oP [oJ 42 8 8, om 43 10, oo 44 (cw Hw [(.t 42), (.t 43)])]))
 (.bk 2 (.kp [6, 7] [6, 7] (.rf (.t 44) 59 0 [4, 5, 6, 7, 8] [45] Mg Mf))))
 (.sq (oP [ou (.st (.t 6) (.c (.sl 1 (some true) [])) 1), ou (.st (.t 7) (ki 12) 1)])
 .rt))))))),
 [.c 6 1 false, .c 7 1 false]⟩
def Kg : IR :=
 (.sq (.sq (.op 0 [om 15 10, om 16 8, oE 17 16, oG 18 15 17] (some [1, 2, 3, 8, 9, 10, 18]))
 (.cd (.t 18)
 .sk
 (.ex 0)))
 (.sq (.bk 1 (.op 0 [om 21 9, om 22 10, oo 23 (.bsl t_int 1 false [.int .i64 0] 1 [(0, (.t 22))]), oo 24 (.app (.t 21) (.t 23) t_int 1), om 9 24] (some [1, 2, 3, 8, 9, 10])))
 (oP [om 19 10, oI 20 19 1, om 10 20])))
def Z09 : IR := Kg
theorem Z4p : evC C L π k0 Z09 e s = evC C L π k0 Kg e s := rfl
def Vm : IR :=
 (.sq (.sq (.op 0 [om 25 11, om 26 8, oo 27 (cv Uk [(.t 26)]), oo 28 (cv Xg [(.t 27)]), oG 29 25 28] (some [1, 2, 3, 8, 9, 11, 29]))
 (.cd (.t 29)
 .sk
 (.ex 2)))
 (.sq (.bk 3 (.sq (.op 0 [om 32 8, om 33 9, om 34 11, oo 35 (cw Lh [(.t 32), (.t 33), (.t 34)]), om 12 35] (some [1, 2, 3, 8, 9, 11, 12]))
 (.sq (.op 0 [oJ 36 3 7, om 37 1, om 38 2, om 39 12, oo 40 (cv G9 [(.t 36), (.t 37), (.t 38), (.t 39)]), om 41 40, og 42 41 true (.ld (.t 3) 7 true), oF 43 41 1, oF 44 41 2, oF 45 41 12, og 46 41 true (cv Pz [(.t 42), (.t 43), (.t 44), (.t 45)]), oH 47 41 46] (some [1, 2, 3, 8, 9, 11, 12, 47]))
 (.cd (.t 47)
 (.sq (oP [om 48 12, om 6 48, oo 7 (.mv (.c (.bool true)))])
 .rt)
 .sk))))
 (oP [om 30 11, oI 31 30 1, om 11 31])))
def Z08 : IR := Vm
theorem L8 : evC C L π k0 Z08 e s = evC C L π k0 Vm e s := rfl
def Z5l : FnIR := ⟨49,
 (.sq (oP [oM 3 0 7, oo 6 (.mv (.c (.sl 1 (some true) []))), oK 7])
 (.sq (oP [oJ 13 3 7, oo 14 (cw Qp [(.t 13)]), om 8 14])
 (.sq (oP [oo 9 (.mv (.c (.sl 1 (some true) [])))])
 (.sq (.sq (oP [oB 10 0])
 (.kp [1, 2, 3, 8, 9] [6, 7] (.bk 0 (.lp [(t_int, .inl 9)] [1, 2, 3, 8, 9, 10] Z09))))
 (.sq (.sq (oP [oB 11 0])
 (.kp [] [6, 7] (.bk 2 (.lp [] [1, 2, 3, 8, 9, 11] Z08))))
 (.sq (oP [oo 6 (.mv (.c (.sl 1 (some true) []))), oK 7])
 .rt)))))),
 [.t 6, .t 7]⟩
def P6 : FnIR := ⟨17,
 (.sq (oP [oM 2 0 7, oB 4 0])
 (.sq (oP [oJ 6 2 7, oo 7 (cw Qp [(.t 6)]), om 5 7])
 (.sq (.sq (.op 0 [om 8 1, oE 9 8, om 10 5, oE 11 10, oo 12 (.bin .neq (.t 9) (.t 11))] (some [1, 5, 12]))
 (.cd (.t 12)
 (.sq (oP [oB 4 10])
 .rt)
 .sk))
 (.sq (.sq (.op 0 [om 13 5, om 14 1, oo 15 (cv Fd [(.t 13), (.t 14)]), oo 16 (.un .not (.t 15))] (some [16]))
 (.cd (.t 16)
 (.sq (oP [oB 4 2])
 .rt)
 .sk))
 (.sq (oP [oB 4 0])
 .rt))))),
 [.t 4]⟩
def Z1e : FnIR := ⟨36,
 (.sq (oP [oM 4 0 7, oK 8])
 (.sq (.op 0 [oC 10 4 3, oA 11 10 1, om 12 3, oo 13 (cw Qn [(.t 11), (.t 12)]), om 9 13] (some [1, 2, 4, 9]))
 (.sq (.op 0 [om 14 9, oC 15 4 4, oA 16 15 1, om 17 1, oD 18 16 17 3, oC 19 18 1, oA 20 19 1, oD 21 14 20 1, oA 22 21 1, oo 23 (.bin .eql (.t 22) (ki 1)), om 24 23, oF 25 24 9, og 26 24 true (.fa (.t 4) 4), og 27 24 true (.ld (.t 26) 1 false), oF 28 24 2, og 29 24 true (.ia (.t 27) (.t 28) 3), og 30 24 true (.fa (.t 29) 1), og 31 24 true (.ld (.t 30) 1 false), og 32 24 true (.ia (.t 25) (.t 31) 1), og 33 24 true (.ld (.t 32) 1 false), og 34 24 true (.bin .eql (.t 33) (ki 1)), oH 35 24 34, om 8 35] (some [8]))
 .rt))),
 [.t 8]⟩
def Z1v : FnIR := ⟨45,
 (.sq (oP [oM 4 0 7, oK 8])
 (.sq (.op 11 [om 13 3, oC 14 4 1, oA 15 14 1, oE 16 15, oo 17 (.slc false (.t 13) none (some (.t 16)) 1), om 18 3, oC 19 4 1, oA 20 19 1, oE 21 20, oo 22 (.slc false (.t 18) (some (.t 21)) none 1), om 9 17, om 10 22] (some [1, 2, 4, 9, 10]))
 (.sq (.fz [3, 9, 10, 13, 17, 18, 22] (.op 8 [oJ 23 4 7, om 24 2, om 25 9, oJ 26 4 7, om 27 1, om 28 9, om 29 10, oo 30 (cw Vs [(.t 26), (.t 27), (.t 28), (.t 29)]), oo 31 (cw Vs [(.t 23), (.t 24), (.t 25), (.t 30)]), om 11 31] (some [1, 2, 4, 9, 10, 11])))
 (.sq (.fz [3, 9, 10, 13, 17, 18, 22] (.op 8 [oJ 32 4 7, om 33 1, om 34 9, oJ 35 4 7, om 36 2, om 37 9, om 38 10, oo 39 (cw Vs [(.t 35), (.t 36), (.t 37), (.t 38)]), oo 40 (cw Vs [(.t 32), (.t 33), (.t 34), (.t 39)]), om 12 40] (some [11, 12])))
 (.sq (.op 0 [om 41 11, om 42 12, oo 43 (cv Qr [(.t 41), (.t 42)]), oo 44 (.un .not (.t 43)), om 8 44] (some [8]))
 .rt))))),
 [.t 8]⟩
def Zib : FnIR := ⟨30,
 (.sq (oP [oo 0 (.alloc [.str ⟨#[]⟩, .sl 2 (some true) [], .sl 5 (some true) [], .sl 4 (some true) [], .sl 3 (some true) [], .sl 2 (some true) [], .sl 2 (some true) []])])
 (.sq (.op 0 [oo 1 (.build [.str ⟨#[]⟩, .int .i64 0] [(0, 1, (.c (.str ⟨#[103]⟩))), (1, 1, (ki 1))]), oo 2 (.bsl Fr 2 true [.str ⟨#[]⟩, .int .i64 0] 1 [(0, (.t 1))]), oo 3 (.build [.str ⟨#[]⟩, .int .i64 0, .int .i64 0, .int .i64 0, .int .i64 0] [(0, 1, (.c (.str ⟨#[120]⟩))), (2, 1, (ki 2))]), oo 4 (.build [.str ⟨#[]⟩, .int .i64 0, .int .i64 0, .int .i64 0, .int .i64 0] [(0, 1, (.c (.str ⟨#[121]⟩))), (2, 1, (ki 2)), (3, 1, (ki 1))]), oo 5 (.bsl La 5 true [.str ⟨#[]⟩, .int .i64 0, .int .i64 0, .int .i64 0, .int .i64 0] 2 [(0, (.t 3)), (1, (.t 4))]), oo 6 (.build [.int .i64 0, .int .i64 0, .sl 1 (some true) [], .int .i64 0] [(0, 1, (ki 1)), (1, 1, (ki 1))]), oo 7 (.build [.int .i64 0, .int .i64 0, .sl 1 (some true) [], .int .i64 0] [(0, 1, (ki 1)), (1, 1, (ki 2)), (3, 1, (ki 1))]), oo 8 (.build [.int .i64 0, .int .i64 0, .sl 1 (some true) [], .int .i64 0] [(0, 1, (ki 1)), (1, 1, (ki 2)), (3, 1, (ki 2))]), oo 9 (.bsl t_int 1 false [.int .i64 0] 1 [(0, (ki 0))]), oo 10 (.build [.int .i64 0, .int .i64 0, .sl 1 (some true) [], .int .i64 0] [(0, 1, (ki 2)), (1, 1, (ki 1)), (2, 1, (.t 9))]), oo 11 (.build [.int .i64 0, .int .i64 0, .sl 1 (some true) [], .int .i64 0] [(0, 1, (ki 0)), (1, 1, (ki 1)), (3, 1, (ki 1))]), oo 12 (.build [.int .i64 0, .int .i64 0, .sl 1 (some true) [], .int .i64 0] [(0, 1, (ki 0)), (1, 1, (ki 2)), (3, 1, (ki 1))]), oo 13 (.bsl t_int 1 false [.int .i64 0] 2 [(0, (ki 1)), (1, (ki 5))]), oo 14 (.build [.int .i64 0, .int .i64 0, .sl 1 (some true) [], .int .i64 0] [(0, 1, (ki 6)), (1, 1, (ki 2)), (2, 1, (.t 13))]), oo 15 (.bsl H1 4 true [.int .i64 0, .int .i64 0, .sl 1 (some true) [], .int .i64 0] 7 [(0, (.t 6)), (1, (.t 7)), (2, (.t 8)), (3, (.t 10)), (4, (.t 11)), (5, (.t 12)), (6, (.t 14))]), oo 16 (.build [.int .i64 0, .int .i64 0, .int .i64 0] [(0, 1, (ki 0)), (1, 1, (ki 4)), (2, 1, (ki 6))]), oo 17 (.bsl H0 3 true [.int .i64 0, .int .i64 0, .int .i64 0] 1 [(0, (.t 16))]), oo 18 (.build [.str ⟨#[]⟩, .int .i64 0, .sl 3 (some true) []] [(0, 1, (.c (.str ⟨#[117, 112]⟩))), (1, 1, (ki 0)), (2, 1, (.t 17))]), oo 19 (.build [.int .i64 0, .int .i64 0, .int .i64 0] [(0, 1, (ki 1)), (1, 1, (ki 4)), (2, 1, (ki 1))]), oo 20 (.bsl H0 3 true [.int .i64 0, .int .i64 0, .int .i64 0] 1 [(0, (.t 19))]), oo 21 (.build [.str ⟨#[]⟩, .int .i64 0, .sl 3 (some true) []] [(0, 1, (.c (.str ⟨#[99, 111, 112, 121]⟩))), (1, 1, (ki 3)), (2, 1, (.t 20))]), oo 22 (.build [.int .i64 0, .int .i64 0, .int .i64 0] [(0, 1, (ki 0)), (1, 1, (ki 4)), (2, 1, (ki 2))]), oo 23 (.build [.int .i64 0, .int .i64 0, .int .i64 0] [(0, 1, (ki 1)), (1, 1, (ki 4)), (2, 1, (ki 1))]), oo 24 (.bsl H0 3 true [.int .i64 0, .int .i64 0, .int .i64 0] 2 [(0, (.t 22)), (1, (.t 23))]), oo 25 (.build [.str ⟨#[]⟩, .int .i64 0, .sl 3 (some true) []] [(0, 1, (.c (.str ⟨#[115, 119, 97, 112]⟩))), (1, 1, (ki 4)), (2, 1, (.t 24))]), oo 26 (.bsl Fq 3 true [.str ⟨#[]⟩, .int .i64 0, .sl 3 (some true) []] 3 [(0, (.t 18)), (1, (.t 21)), (2, (.t 25))]), oo 27 (.build [.str ⟨#[]⟩, .int .i64 0] [(0, 1, (.c (.str ⟨#[111]⟩))), (1, 1, (ki 2))]), oo 28 (.bsl Mh 2 true [.str ⟨#[]⟩, .int .i64 0] 1 [(0, (.t 27))]), oo 29 (.build [.str ⟨#[]⟩, .sl 2 (some true) [], .sl 5 (some true) [], .sl 4 (some true) [], .sl 3 (some true) [], .sl 2 (some true) [], .sl 2 (some true) []] [(0, 1, (.c (.str ⟨#[100]⟩))), (1, 1, (.t 2)), (2, 1, (.t 5)), (3, 1, (.t 15)), (4, 1, (.t 26)), (5, 1, (.t 28))]), ou (.st (.t 0) (.t 29) 7)] (some [0]))
 .rt)),
 [.c 0 7 true]⟩
def Z9p : IR :=
 (oP [om 11 26])
def Z9m : IR := Z9p
def Z9o : IR :=
 (.bk 1 (.sq (.fz [11, 26] (.op 0 [oJ 27 8 8, oA 28 4 1, oA 29 5 1, om 30 11, oo 31 (cv L0 [(.t 27), (.t 28), (.t 29), (.t 30)])] (some [6, 7, 11, 31])))
 (.cd (.t 31)
 (.sq (oP [om 32 11, ou (.st (.t 6) (.t 32) 1), ou (.st (.t 7) (ki 0) 1)])
 .rt)
 .sk)))
def Z9l : IR := Z9o
def Zfe : FnIR := ⟨33,
 (.sq (oP [oM 3 0 7, oM 4 1 1, oM 5 2 1, oo 6 (.alloc [.sl 1 (some true) []]), oo 7 (.alloc [.int .i64 0])])
 (.sq (.op 0 [oJ 13 3 7, oA 14 4 1, oA 15 5 1, oo 16 (cw Z51 [(.t 13), (.t 14), (.t 15)]), om 12 16, oL 17 12 0, oL 18 12 1, oL 19 12 2, oo 8 (.alloc [.str ⟨#[]⟩, .sl 2 (some true) [], .sl 5 (some true) [], .sl 4 (some true) [], .sl 3 (some true) [], .sl 2 (some true) [], .sl 2 (some true) [], .sl 1 (some true) []]), ou (.st (.t 8) (.t 17) 8), om 9 18, om 10 19] (some [4, 5, 6, 7, 8, 9, 10]))
 (.sq (.sq (oP [om 20 10, oo 21 (.bin .neq (.t 20) (ki 0))])
 (.cd (.t 21)
 (.sq (oP [om 22 10, ou (.st (.t 6) (.c (.sl 1 (some true) [])) 1), ou (.st (.t 7) (.t 22) 1)])
 .rt)
 .sk))
 (.sq (.sq (.kp [4, 5, 6, 7, 8, 25] [6, 7] (oP [oJ 23 8 8, om 24 9, oo 25 (cw Hw [(.t 23), (.t 24)])]))
 (.bk 0 (.kp [6, 7] [6, 7] (.rf (.t 25) 33 0 [4, 5, 6, 7, 8] [26] Z9m Z9l))))
 (.sq (oP [ou (.st (.t 6) (.c (.sl 1 (some true) [])) 1), ou (.st (.t 7) (ki 12) 1)])
 .rt))))),
 [.c 6 1 false, .c 7 1 false]⟩
def Z5y : FnIR := ⟨26,
 (.sq (oP [oM 3 0 7, oo 6 (.alloc [.str ⟨#[]⟩, .sl 2 (some true) [], .sl 5 (some true) [], .sl 4 (some true) [], .sl 3 (some true) [], .sl 2 (some true) [], .sl 2 (some true) [], .sl 1 (some true) []]), oB 7 0])
 (.sq (.op 0 [oJ 11 3 7, om 12 1, om 13 2, oo 14 (.bsp t_int 1 false [.int .i64 0] 2 [(0, (.t 12)), (1, (.t 13))]), oo 15 (cv Z2v [(.t 11), (.t 14)]), om 10 15, oL 16 10 0, oL 17 10 1, oo 8 (.alloc [.str ⟨#[]⟩, .sl 2 (some true) [], .sl 5 (some true) [], .sl 4 (some true) [], .sl 3 (some true) [], .sl 2 (some true) [], .sl 2 (some true) [], .sl 1 (some true) []]), ou (.st (.t 8) (.t 16) 8), om 9 17] (some [1, 2, 6, 8, 9]))
 (.sq (.op 8 [oJ 18 8 8, om 19 9, om 20 1, om 21 2, oo 22 (.bin .neq (.t 20) (.t 21)), oo 23 (cv Xz [(.t 22), (ki 23)]), oo 24 (.bsp Zy 1 false [.int .i64 0] 2 [(0, (.t 19)), (1, (.t 23))]), oo 25 (cv Pg [(.t 24)]), ou (.st (.t 6) (.t 18) 8), om 7 25] (some [6, 7]))
 .rt))),
 [.c 6 8 true, .t 7]⟩
def Zb7 : IR :=
 (.sq (oP [oG 12 11 10])
 (.sq (.cd (.t 12)
 .sk
 (.ex 0))
 (.sq (.bk 1 (.sq (oP [om 13 11, om 4 13])
 (.op 15 [oC 14 3 8, oA 15 14 1, oJ 16 1 8, om 17 4, oo 18 (cv Z8p [(.t 16), (.t 17)]), oo 19 (.bsl Lc 1 false [.sl 1 (some true) []] 1 [(0, (.t 18))]), oo 20 (.apx (.t 15) (.t 19) Lc 1 [0, 1, 2, 3, 4, 5]), oC 21 3 9, oA 22 21 1, oJ 23 1 8, om 24 4, oo 25 (cv Z6v [(.t 23), (.t 24)]), oo 26 (.bsl Lc 1 false [.sl 1 (some true) []] 1 [(0, (.t 25))]), oo 27 (.apx (.t 22) (.t 26) Lc 1 [0, 1, 2, 3, 4, 5, 6, 7, 8, 9, 10, 11, 12]), oC 28 3 8, ou (.st (.t 28) (.t 20) 1), oC 29 3 9, ou (.st (.t 29) (.t 27) 1)] (some [1, 2, 3, 10, 11]))))
 (oP [oI 30 11 1, om 11 30]))))
def Zb0 : IR := Zb7
def Zfd : FnIR := ⟨32,
 (.sq (oP [oM 1 0 8, oo 2 (.alloc [.str ⟨#[]⟩, .sl 2 (some true) [], .sl 5 (some true) [], .sl 4 (some true) [], .sl 3 (some true) [], .sl 2 (some true) [], .sl 2 (some true) [], .sl 1 (some true) [], .sl 1 (some true) [], .sl 1 (some true) []])])
 (.sq (.op 0 [oJ 5 1 8, oo 6 (.build [.str ⟨#[]⟩, .sl 2 (some true) [], .sl 5 (some true) [], .sl 4 (some true) [], .sl 3 (some true) [], .sl 2 (some true) [], .sl 2 (some true) [], .sl 1 (some true) [], .sl 1 (some true) [], .sl 1 (some true) []] [(0, 8, (.t 5))]), oo 3 (.alloc [.str ⟨#[]⟩, .sl 2 (some true) [], .sl 5 (some true) [], .sl 4 (some true) [], .sl 3 (some true) [], .sl 2 (some true) [], .sl 2 (some true) [], .sl 1 (some true) [], .sl 1 (some true) [], .sl 1 (some true) []]), ou (.st (.t 3) (.t 6) 10)] (some [1, 2, 3]))
 (.sq (.sq (.op 0 [oC 7 1 0, oC 8 7 4, oA 9 8 1, oE 10 9, oB 11 0] (some [1, 2, 3, 10, 11]))
 (.kp [2, 3] [2] (.bk 0 (.lp [(Lc, .inr (3, 8)), (Lc, .inr (3, 9))] [1, 2, 3, 10, 11] Zb0))))
 (.sq (oP [oJ 31 3 10, ou (.st (.t 2) (.t 31) 10)])
 .rt)))),
 [.c 2 10 true]⟩
def Zby : FnIR := ⟨48,
 (.sq (oP [oM 3 0 10, oM 5 2 1, oB 6 0])
 (.sq (.op 7 [oJ 10 3 10, om 11 1, oA 12 5 1, oo 13 (cv Xv [(.t 10), (.t 11), (.t 12)]), oJ 14 3 10, oA 15 5 1, om 16 1, oo 17 (cv Xv [(.t 14), (.t 15), (.t 16)]), om 7 13, om 8 17] (some [1, 3, 5, 7, 8]))
 (.sq (.op 0 [oC 18 3 9, oA 19 18 1, om 20 1, oD 21 19 20 1, oA 22 21 1, oo 23 (.mkf Z17 [(.t 3), (.t 5)]), oo 24 (cv Yn [(.t 22), (.t 23)]), om 9 24] (some [1, 5, 7, 8, 9]))
 (.sq (.bk 0 (.sq (.op 0 [om 26 1, oA 27 5 1, oo 28 (.bin .eql (.t 26) (.t 27)), om 29 28, oN 30 29 7, og 31 29 false (.un .not (.t 30)), oN 32 29 31, oF 33 32 8, og 34 32 true (.un .not (.t 33)), og 35 29 false (.pick (.t 32) (.t 34) (.c (.bool false))), oo 36 (.pick (.t 29) (.c (.bool true)) (.t 35)), om 25 36] (some [7, 8, 9, 25]))
 (.cd (.t 25)
 (.sq (oP [oB 6 4])
 .rt)
 (.sq (.op 0 [om 38 7, om 39 38, oF 40 39 8, og 41 39 true (.un .not (.t 40)), oH 42 39 41, om 37 42] (some [7, 9, 37]))
 (.cd (.t 37)
 (.sq (oP [oB 6 2])
 .rt)
 (.sq (oP [om 44 7, oo 45 (.un .not (.t 44)), om 43 45])
 (.cd (.t 43)
 (.sq (oP [oB 6 3])
 .rt)
 (.sq (oP [om 47 9, om 46 47])
 (.cd (.t 46)
 (.sq (oP [oB 6 1])
 .rt)
 .sk)))))))))
 (.sq (oP [oB 6 0])
 .rt))))),
 [.t 6]⟩
def Hz : FnIR := ⟨6,
 (.sq (oP [oo 2 (.mv (.c (.sl 2 (some true) [])))])
 (.sq (.op 0 [oo 3 (.bsl Fr 2 true [.str ⟨#[]⟩, .int .i64 0] 0 []), om 4 0, oo 5 (.app (.t 3) (.t 4) Fr 2), om 2 5] (some [2]))
 .rt)),
 [.t 2]⟩
def Pn : IR :=
 (.sq (.sq (.op 0 [om 8 4, om 9 0, oE 10 9, oG 11 8 10] (some [0, 3, 4, 11]))
 (.cd (.t 11)
 .sk
 (.ex 0)))
 (.sq (.bk 1 (.sq (.op 0 [om 14 3, om 15 4, om 16 0, om 17 4, oD 18 16 17 4, oJ 19 18 4, oD 20 14 15 4, ou (.st (.t 20) (.t 19) 4)] (some [0, 3, 4]))
 (.op 0 [om 21 3, om 22 4, om 23 0, om 24 4, oD 25 23 24 4, oC 26 25 2, oA 27 26 1, oo 28 (cv V1 [(.t 27)]), oD 29 21 22 4, oC 30 29 2, ou (.st (.t 30) (.t 28) 1)] (some [0, 3, 4]))))
 (oP [om 12 4, oI 13 12 1, om 4 13])))
def Ho : IR := Pn
theorem Z2f : evC C L π k0 Ho e s = evC C L π k0 Pn e s := rfl
def Z23 : FnIR := ⟨32,
 (.sq (oP [oo 2 (.mv (.c (.sl 4 (some true) [])))])
 (.sq (.op 0 [om 5 0, oE 6 5, oo 7 (.mks H1 4 true [.int .i64 0, .int .i64 0, .sl 1 (some true) [], .int .i64 0] (.t 6) (.t 6)), om 3 7] (some [0, 3]))
 (.sq (.sq (oP [oB 4 0])
 (.kp [3] [2] (.bk 0 (.lp [] [0, 3, 4] Ho))))
 (.sq (oP [om 31 3, om 2 31])
 .rt)))),
 [.t 2]⟩
def Nt : FnIR := ⟨6,
 (.sq (oP [oo 2 (.mv (.c (.sl 2 (some true) [])))])
 (.sq (.op 0 [oo 3 (.bsl Mh 2 true [.str ⟨#[]⟩, .int .i64 0] 0 []), om 4 0, oo 5 (.app (.t 3) (.t 4) Mh 2), om 2 5] (some [2]))
 .rt)),
 [.t 2]⟩
def K7 : FnIR := ⟨6,
 (.sq (oP [oo 2 (.mv (.c (.sl 3 (some true) [])))])
 (.sq (.op 0 [oo 3 (.bsl H0 3 true [.int .i64 0, .int .i64 0, .int .i64 0] 0 []), om 4 0, oo 5 (.app (.t 3) (.t 4) H0 3), om 2 5] (some [2]))
 .rt)),
 [.t 2]⟩
def Z1j : IR :=
 (.sq (oP [oG 24 23 22])
 (.sq (.cd (.t 24)
 .sk
 (.ex 0))
 (.sq (.bk 1 (.sq (.op 0 [oD 25 21 23 2, oJ 26 25 2, oo 10 (.alloc [.str ⟨#[]⟩, .int .i64 0]), ou (.st (.t 10) (.t 26) 2)] (some [1, 2, 4, 7, 8, 10, 21, 22, 23]))
 (.op 0 [oC 27 8 7, oA 28 27 1, oC 29 10 1, oA 30 29 1, oo 31 (.bsl t_int 1 false [.int .i64 0] 1 [(0, (.t 30))]), oo 32 (.app (.t 28) (.t 31) t_int 1), oC 33 8 7, ou (.st (.t 33) (.t 32) 1)] (some [1, 2, 4, 7, 8, 21, 22, 23]))))
 (oP [oI 34 23 1, om 23 34]))))
def Z5x : IR := Z1j
theorem Zbd : evC C L π k0 Z5x e s = evC C L π k0 Z1j e s := rfl
def Z1i : IR :=
 (.sq (oP [oG 39 38 37])
 (.sq (.cd (.t 39)
 .sk
 (.ex 2))
 (.sq (.bk 3 (.sq (.op 0 [oD 40 36 38 5, oJ 41 40 5, oo 12 (.alloc [.str ⟨#[]⟩, .int .i64 0, .int .i64 0, .int .i64 0, .int .i64 0]), ou (.st (.t 12) (.t 41) 5)] (some [1, 4, 7, 8, 12, 36, 37, 38]))
 (.op 0 [oC 42 8 7, oA 43 42 1, oC 44 12 2, oA 45 44 1, oo 46 (.bsl t_int 1 false [.int .i64 0] 1 [(0, (.t 45))]), oo 47 (.app (.t 43) (.t 46) t_int 1), oC 48 8 7, ou (.st (.t 48) (.t 47) 1)] (some [1, 4, 7, 8, 36, 37, 38]))))
 (oP [oI 49 38 1, om 38 49]))))
def Z5w : IR := Z1i
theorem Zbc : evC C L π k0 Z5w e s = evC C L π k0 Z1i e s := rfl
def Zem : FnIR := ⟨60,
 (.sq (oP [oM 2 0 7, oo 4 (.alloc [.str ⟨#[]⟩, .sl 2 (some true) [], .sl 5 (some true) [], .sl 4 (some true) [], .sl 3 (some true) [], .sl 2 (some true) [], .sl 2 (some true) [], .sl 1 (some true) []]), oB 5 0])
 (.sq (.op 0 [oJ 14 2 7, oo 15 (cv Z66 [(.t 14)]), om 13 15, oL 16 13 0, oL 17 13 1, om 6 16, om 7 17] (some [1, 2, 4, 7]))
 (.sq (.op 0 [oJ 18 2 7, oo 19 (.build [.str ⟨#[]⟩, .sl 2 (some true) [], .sl 5 (some true) [], .sl 4 (some true) [], .sl 3 (some true) [], .sl 2 (some true) [], .sl 2 (some true) [], .sl 1 (some true) []] [(0, 7, (.t 18))]), oo 8 (.alloc [.str ⟨#[]⟩, .sl 2 (some true) [], .sl 5 (some true) [], .sl 4 (some true) [], .sl 3 (some true) [], .sl 2 (some true) [], .sl 2 (some true) [], .sl 1 (some true) []]), ou (.st (.t 8) (.t 19) 8)] (some [1, 2, 4, 7, 8]))
 (.sq (.sq (.op 0 [oC 20 2 1, oA 21 20 1, oE 22 21, oB 23 0] (some [1, 2, 4, 7, 8, 21, 22, 23]))
 (.kp [1, 2, 4, 7, 8] [4, 5] (.bk 0 (.lp [(t_int, .inr (8, 7))] [1, 2, 4, 7, 8, 21, 22, 23] Z5x))))
 (.sq (.sq (.op 0 [oC 35 2 2, oA 36 35 1, oE 37 36, oB 38 0] (some [1, 4, 7, 8, 36, 37, 38]))
 (.kp [1, 4, 7, 8] [4, 5] (.bk 2 (.lp [(t_int, .inr (8, 7))] [1, 4, 7, 8, 36, 37, 38] Z5w))))
 (.sq (.sq (oP [om 50 7, oo 51 (.bin .eql (.t 50) (ki 0))])
 (.cd (.t 51)
 (.op 0 [om 53 1, oo 54 (.mkf Z00 [(.t 8)]), oo 55 (cv Ph [(.t 53), (.t 54)]), om 52 55, oL 56 52 0, oL 57 52 1, om 7 57] (some [4, 7, 8]))
 .sk))
 (.sq (.op 0 [oJ 58 8 8, om 59 7, ou (.st (.t 4) (.t 58) 8), om 5 59] (some [4, 5]))
 .rt))))))),
 [.c 4 8 true, .t 5]⟩
def Vn : IR :=
 (.sq (.sq (oP [om 78 12, om 79 10, oG 80 78 79])
 (.cd (.t 80)
 .sk
 (.ex 2)))
 (.sq (.bk 3 (.sq (.op 8 [oC 83 1 4, oA 84 83 1, om 85 12, oD 86 84 85 3, oC 87 86 0, oA 88 87 1, oC 89 11 0, oA 90 89 1, oo 91 (.bin .eql (.t 88) (.t 90))] (some [1, 10, 11, 12, 91]))
 (.cd (.t 91)
 (.sq (oP [om 92 10, om 2 92, oB 3 5])
 .rt)
 .sk)))
 (oP [om 81 12, oI 82 81 1, om 12 82])))
def Hm : IR := Vn
theorem Kz : evC C L π k0 Hm e s = evC C L π k0 Vn e s := rfl
def Yu : IR :=
 (.sq (.sq (.op 0 [om 61 10, oC 62 1 4, oA 63 62 1, oE 64 63, oG 65 61 64] (some [1, 10, 65]))
 (.cd (.t 65)
 .sk
 (.ex 0)))
 (.sq (.bk 1 (.sq (.op 0 [oC 68 1 4, oA 69 68 1, om 70 10, oD 71 69 70 3, oJ 72 71 3, oo 11 (.alloc [.str ⟨#[]⟩, .int .i64 0, .sl 3 (some true) []]), ou (.st (.t 11) (.t 72) 3)] (some [1, 10, 11]))
 (.sq (.sq (.op 0 [oC 73 11 0, oA 74 73 1, oo 75 (cv Qq [(.t 74)]), oo 76 (.un .not (.t 75))] (some [1, 10, 11, 76]))
 (.cd (.t 76)
 (.sq (oP [om 77 10, om 2 77, oB 3 4])
 .rt)
 .sk))
 (.sq (.sq (oP [oB 12 0])
 (.kp [1, 10, 11] [2, 3] (.bk 2 (.lp [] [1, 10, 11, 12] Hm))))
 (.sq (.sq (.op 0 [oC 93 1 3, oA 94 93 1, oC 95 11 1, oA 96 95 1, oo 97 (cv U4 [(.t 94), (.t 96)]), oo 98 (.un .not (.t 97))] (some [1, 10, 11, 98]))
 (.cd (.t 98)
 (.sq (oP [om 99 10, om 2 99, oB 3 9])
 .rt)
 .sk))
 (.sq (.op 0 [oC 100 1 2, oA 101 100 1, oC 102 1 3, oA 103 102 1, oC 104 11 2, oA 105 104 1, oo 106 (cv N0 [(.t 101), (.t 103), (.t 105)]), om 13 106] (some [1, 10, 13]))
 (.sq (oP [om 107 13, oo 108 (.bin .neq (.t 107) (ki 0))])
 (.cd (.t 108)
 (.sq (.op 0 [om 109 10, om 110 13, om 2 109, om 3 110] (some [2, 3]))
 .rt)
 .sk))))))))
 (oP [om 66 10, oI 67 66 1, om 10 67])))
def Hn : IR := Yu
theorem We : evC C L π k0 Hn e s = evC C L π k0 Yu e s := rfl
def Wg : IR :=
 (.sq (.sq (.op 0 [om 155 18, oC 156 17 1, oA 157 156 1, oE 158 157, oG 159 155 158] (some [1, 16, 17, 18, 159]))
 (.cd (.t 159)
 .sk
 (.ex 6)))
 (.sq (.bk 7 (.sq (.sq (.op 9 [oC 162 17 1, oA 163 162 1, om 164 18, oD 165 163 164 1, oA 166 165 1, oC 167 1 4, oA 168 167 1, oE 169 168, oo 170 (.bin .sub (.t 169) (ki 1)), oo 171 (cv Ye [(.t 166), (ki 0), (.t 170)]), oo 172 (.un .not (.t 171))] (some [1, 16, 17, 18, 172]))
 (.cd (.t 172)
 (.sq (oP [om 173 16, om 2 173, oB 3 6])
 .rt)
 .sk))
 (.sq (.op 9 [oC 174 17 1, oA 175 174 1, om 176 18, oo 177 (.slc false (.t 175) none (some (.t 176)) 1), oC 178 17 1, oA 179 178 1, om 180 18, oD 181 179 180 1, oA 182 181 1, oo 183 (cv Fe [(.t 177), (.t 182)])] (some [1, 16, 17, 18, 183]))
 (.cd (.t 183)
 (.sq (oP [om 184 16, om 2 184, oB 3 23])
 .rt)
 .sk))))
 (oP [om 160 18, oI 161 160 1, om 18 161])))
def Hk : IR := Wg
theorem Pd : evC C L π k0 Hk e s = evC C L π k0 Wg e s := rfl
def Yt : IR :=
 (.sq (.sq (.op 0 [om 127 16, oC 128 1 6, oA 129 128 1, oE 130 129, oG 131 127 130] (some [1, 16, 131]))
 (.cd (.t 131)
 .sk
 (.ex 4)))
 (.sq (.bk 5 (.sq (.op 0 [oC 134 1 6, oA 135 134 1, om 136 16, oD 137 135 136 2, oJ 138 137 2, oo 17 (.alloc [.int .i64 0, .sl 1 (some true) []]), ou (.st (.t 17) (.t 138) 2)] (some [1, 16, 17]))
 (.sq (.sq (.op 0 [oC 139 17 0, oA 140 139 1, oo 141 (cv Ye [(.t 140), (ki 0), (ki 3)]), oo 142 (.un .not (.t 141))] (some [1, 16, 17, 142]))
 (.cd (.t 142)
 (.sq (oP [om 143 16, om 2 143, oB 3 15])
 .rt)
 .sk))
 (.sq (.sq (.op 0 [oC 144 17 1, oA 145 144 1, oE 146 145, oo 147 (.bin .eql (.t 146) (ki 0)), om 148 147, og 149 148 false (.fa (.t 17) 1), og 150 148 false (.ld (.t 149) 1 false), og 151 148 false (.len false (.t 150)), og 152 148 false (.bin .gtr (.t 151) (ki 16)), oo 153 (.pick (.t 148) (.c (.bool true)) (.t 152))] (some [1, 16, 17, 153]))
 (.cd (.t 153)
 (.sq (oP [om 154 16, om 2 154, oB 3 10])
 .rt)
 .sk))
 (.sq (oP [oB 18 0])
 (.kp [1, 16] [2, 3] (.bk 6 (.lp [] [1, 16, 17, 18] Hk))))))))
 (oP [om 132 16, oI 133 132 1, om 16 133])))
def Hl : IR := Yt
theorem Wd : evC C L π k0 Hl e s = evC C L π k0 Yt e s := rfl
def Ym : FnIR := ⟨185,
 (.sq (oP [oM 1 0 7, oB 2 0, oB 3 0])
 (.sq (.sq (.op 0 [oC 19 1 0, oA 20 19 1, oo 21 (cv Qq [(.t 20)]), oo 22 (.un .not (.t 21))] (some [1, 22]))
 (.cd (.t 22)
 (.sq (oP [oB 2 0, oB 3 4])
 .rt)
 .sk))
 (.sq (.sq (.op 0 [oC 24 1 1, oA 25 24 1, oo 26 (cv Li [(.t 25)]), om 23 26, oL 27 23 0, oL 28 23 1, om 4 27, om 5 28] (some [1, 4, 5]))
 (.sq (oP [om 29 5, oo 30 (.bin .neq (.t 29) (ki 0))])
 (.cd (.t 30)
 (.sq (.op 0 [om 31 4, om 32 5, om 2 31, om 3 32] (some [2, 3]))
 .rt)
 .sk)))
 (.sq (.sq (.op 0 [oC 34 1 1, oA 35 34 1, oC 36 1 2, oA 37 36 1, oo 38 (cv U5 [(.t 35), (.t 37)]), om 33 38, oL 39 33 0, oL 40 33 1, om 6 39, om 7 40] (some [1, 6, 7]))
 (.sq (oP [om 41 7, oo 42 (.bin .neq (.t 41) (ki 0))])
 (.cd (.t 42)
 (.sq (.op 0 [om 43 6, om 44 7, om 2 43, om 3 44] (some [2, 3]))
 .rt)
 .sk)))
 (.sq (.sq (.op 9 [oJ 46 1 7, oo 47 (cv Qp [(.t 46)]), oC 48 1 3, oA 49 48 1, oo 50 (cv Fc [(.t 47), (.t 49)]), om 45 50, oL 51 45 0, oL 52 45 1, om 8 51, om 9 52] (some [1, 8, 9]))
 (.sq (oP [om 53 9, oo 54 (.bin .neq (.t 53) (ki 0))])
 (.cd (.t 54)
 (.sq (.op 0 [om 55 8, om 56 9, om 2 55, om 3 56] (some [2, 3]))
 .rt)
 .sk)))
 (.sq (.sq (.op 0 [oC 57 1 4, oA 58 57 1, oE 59 58, oo 60 (.bin .gtr (.t 59) (ki 16))] (some [1, 60]))
 (.cd (.t 60)
 (.sq (oP [oB 2 0, oB 3 8])
 .rt)
 .sk))
 (.sq (.sq (oP [oB 10 0])
 (.kp [1] [2, 3] (.bk 0 (.lp [] [1, 10] Hn))))
 (.sq (.sq (.op 0 [oC 112 1 3, oA 113 112 1, oC 114 1 5, oA 115 114 1, oo 116 (cv Qm [(.t 113), (.t 115)]), om 111 116, oL 117 111 0, oL 118 111 1, om 14 117, om 15 118] (some [1, 14, 15]))
 (.sq (oP [om 119 15, oo 120 (.bin .neq (.t 119) (ki 0))])
 (.cd (.t 120)
 (.sq (.op 0 [om 121 14, om 122 15, om 2 121, om 3 122] (some [2, 3]))
 .rt)
 .sk)))
 (.sq (.sq (.op 0 [oC 123 1 6, oA 124 123 1, oE 125 124, oo 126 (.bin .gtr (.t 125) (ki 16))] (some [1, 126]))
 (.cd (.t 126)
 (.sq (oP [oB 2 0, oB 3 8])
 .rt)
 .sk))
 (.sq (.sq (oP [oB 16 0])
 (.kp [] [2, 3] (.bk 4 (.lp [] [1, 16] Hl))))
 (.sq (oP [oB 2 0, oB 3 0])
 .rt))))))))))),
 [.t 2, .t 3]⟩
def Z82 : FnIR := ⟨15,
 (.sq (oP [oK 6])
 (.sq (.op 0 [om 7 1, om 8 0, oo 9 (.bin .leq (.t 7) (.t 8)), om 10 9, oF 11 10 0, oF 12 10 2, og 13 10 true (.bin .leq (.t 11) (.t 12)), oH 14 10 13, om 6 14] (some [6]))
 .rt)),
 [.t 6]⟩
def Z7j : FnIR := ⟨15,
 (.sq (oP [oK 6])
 (.sq (.op 0 [om 7 1, om 8 0, oo 9 (.bin .leq (.t 7) (.t 8)), om 10 9, oF 11 10 0, oF 12 10 2, og 13 10 true (.bin .leq (.t 11) (.t 12)), oH 14 10 13, om 6 14] (some [6]))
 .rt)),
 [.t 6]⟩
def Zfb : FnIR := ⟨39,
 (.sq (.op 0 [oM 2 0 7, oM 3 1 1, oo 4 (.alloc [.str ⟨#[]⟩, .sl 2 (some true) [], .sl 5 (some true) [], .sl 4 (some true) [], .sl 3 (some true) [], .sl 2 (some true) [], .sl 2 (some true) [], .sl 1 (some true) [], .sl 1 (some true) [], .sl 1 (some true) []]), oB 5 0] (some [2, 3, 4]))
 (.sq (.op 0 [oJ 9 2 7, oo 10 (cv Z2v [(.t 9), (.c (.sl 1 (some true) []))]), om 8 10, oL 11 8 0, oL 12 8 1, oo 6 (.alloc [.str ⟨#[]⟩, .sl 2 (some true) [], .sl 5 (some true) [], .sl 4 (some true) [], .sl 3 (some true) [], .sl 2 (some true) [], .sl 2 (some true) [], .sl 1 (some true) []]), ou (.st (.t 6) (.t 11) 8), om 7 12] (some [2, 3, 4, 6, 7]))
 (.sq (.sq (.op 0 [om 13 7, oA 14 3 1, oE 15 14, oC 16 2 4, oA 17 16 1, oE 18 17, oo 19 (.bin .leq (.t 15) (.t 18)), oo 20 (cv Xz [(.t 19), (ki 8)]), oo 21 (.bsp Zy 1 false [.int .i64 0] 2 [(0, (.t 13)), (1, (.t 20))]), oo 22 (cv Pg [(.t 21)]), om 7 22] (some [3, 4, 6, 7]))
 (.sq (oP [om 23 7, oo 24 (.bin .neq (.t 23) (ki 0))])
 (.cd (.t 24)
 (.sq (.op 0 [oo 25 (.build [.str ⟨#[]⟩, .sl 2 (some true) [], .sl 5 (some true) [], .sl 4 (some true) [], .sl 3 (some true) [], .sl 2 (some true) [], .sl 2 (some true) [], .sl 1 (some true) [], .sl 1 (some true) [], .sl 1 (some true) []] []), om 26 7, ou (.st (.t 4) (.t 25) 10), om 5 26] (some [4, 5]))
 .rt)
 .sk)))
 (.sq (.sq (.op 0 [oA 28 3 1, oo 29 (.mkf Z4i [(.t 6), (.t 3)]), oo 30 (cv Ph [(.t 28), (.t 29)]), om 27 30, oL 31 27 0, oL 32 27 1, om 7 32] (some [4, 6, 7]))
 (.sq (oP [om 33 7, oo 34 (.bin .neq (.t 33) (ki 0))])
 (.cd (.t 34)
 (.sq (.op 0 [oo 35 (.build [.str ⟨#[]⟩, .sl 2 (some true) [], .sl 5 (some true) [], .sl 4 (some true) [], .sl 3 (some true) [], .sl 2 (some true) [], .sl 2 (some true) [], .sl 1 (some true) [], .sl 1 (some true) [], .sl 1 (some true) []] []), om 36 7, ou (.st (.t 4) (.t 35) 10), om 5 36] (some [4, 5]))
 .rt)
 .sk)))
 (.sq (.op 0 [oJ 37 6 8, oo 38 (cw Z1q [(.t 37)]), ou (.st (.t 4) (.t 38) 10), oB 5 0] (some [4, 5]))
 .rt))))),
 [.c 4 10 true, .t 5]⟩
def Ze6 : FnIR := ⟨9,
 (.sq (oP [oo 2 (.mv (.c (.sl 1 (some true) [])))])
 (.sq (oP [om 4 0, oo 5 (cw Z4e [(.t 4)]), om 3 5])
 (.sq (oP [om 6 3, oo 7 (.callS (.c (.fn Vg [])) [(.t 6)])])
 (.sq (oP [om 8 3, om 2 8])
 .rt)))),
 [.t 2]⟩
def Z7h : FnIR := ⟨4,
 (.sq (oP [oM 1 0 1, oo 2 (.mv (.c (.nilf)))])
 (.sq (oP [oo 3 (.mkf G8 [(.t 1)]), om 2 3])
 .rt)),
 [.t 2]⟩
def Wk : IR :=
 (.sq (oP [oG 9 8 7])
 (.sq (.cd (.t 9)
 .sk
 (.ex 0))
 (.sq (.bk 1 (.sq (oP [om 10 8, om 5 10])
 (.sq (.op 0 [om 11 1, om 12 0, om 13 5, oD 14 12 13 1, oA 15 14 1, oo 16 (.callV true (.t 11) [(.t 15)])] (some [0, 1, 5, 7, 8, 16]))
 (.cd (.t 16)
 (.sq (oP [om 17 5, om 4 17])
 .rt)
 .sk))))
 (oP [oI 18 8 1, om 8 18]))))
def M6 : IR := Wk
theorem Nv : evC C L π k0 M6 e s = evC C L π k0 Wk e s := rfl
def Gv : FnIR := ⟨19,
 (.sq (oP [oB 4 0])
 (.sq (.sq (oP [om 6 0, oE 7 6, oB 8 0])
 (.kp [] [4] (.bk 0 (.lp [] [0, 1, 7, 8] M6))))
 (.sq (oP [oo 4 (.mv (ki (-1)))])
 .rt))),
 [.t 4]⟩
def Zeo : FnIR := ⟨9,
 (.sq (oP [oK 4])
 (.sq (.op 0 [oJ 5 1 10, om 6 0, oA 7 2 1, oo 8 (cv Z50 [(.t 5), (.t 6), (.t 7)]), om 4 8] (some [4]))
 .rt)),
 [.t 4]⟩
def Zek : FnIR := ⟨11,
 (.sq (oP [oM 3 0 10, oM 4 1 1, oK 6])
 (.sq (.op 0 [om 7 2, oo 8 (.mkf Z2u [(.t 4), (.t 3)]), oo 9 (cv Yn [(.t 7), (.t 8)]), oo 10 (.un .not (.t 9)), om 6 10] (some [6]))
 .rt)),
 [.t 6]⟩
def Zb4 : IR :=
 (.sq (oP [oG 45 44 43])
 (.sq (.cd (.t 45)
 .sk
 (.ex 2))
 (.sq (.bk 3 (.sq (oP [oD 46 42 44 1, oA 47 46 1, om 12 47])
 (.sq (.op 0 [om 48 12, om 49 1, oo 50 (.bin .gtr (.t 48) (.t 49)), om 51 50, oF 52 51 7, oF 53 51 12, og 54 51 true (.lkp (.t 52) (.t 53) (.int .i64 0) (.bool false) false), og 55 51 true (.un .not (.t 54)), oH 56 51 55, om 57 56, og 58 57 true (.ld (.t 3) 10 true), oF 59 57 12, oF 60 57 10, og 61 57 true (cv Xv [(.t 58), (.t 59), (.t 60)]), og 62 57 true (.un .not (.t 61)), oH 63 57 62] (some [1, 2, 3, 7, 8, 9, 10, 12, 42, 43, 44, 63]))
 (.cd (.t 63)
 (.sq (oP [om 64 7, om 65 12, ou (.mpu (.t 64) (.t 65) (.c (.bool true)) (.int .i64 0))])
 (.op 0 [om 66 8, om 67 9, oo 68 (cw Xu [(.t 67)]), om 69 12, oo 70 (.bsl t_int 1 false [.int .i64 0] 1 [(0, (.t 69))]), oo 71 (.app (.t 68) (.t 70) t_int 1), oo 72 (.bsl Lc 1 false [.sl 1 (some true) []] 1 [(0, (.t 71))]), oo 73 (.app (.t 66) (.t 72) Lc 1), om 8 73] (some [1, 2, 3, 7, 8, 9, 10, 42, 43, 44])))
 .sk))))
 (oP [oI 74 44 1, om 44 74]))))
def Zax : IR := Zb4
def Zb5 : IR :=
 (.sq (.sq (oP [om 17 8, oE 18 17, oo 19 (.bin .gtr (.t 18) (ki 0))])
 (.cd (.t 19)
 .sk
 (.ex 0)))
 (.sq (.bk 1 (.sq (.op 0 [om 22 8, oo 23 (.ia (.t 22) (ki 0) 1), oA 24 23 1, om 9 24] (some [1, 2, 3, 7, 8, 9]))
 (.sq (.op 0 [om 25 9, om 26 9, oE 27 26, oo 28 (.bin .sub (.t 27) (ki 1)), oD 29 25 28 1, oA 30 29 1, om 10 30] (some [1, 2, 3, 7, 8, 9, 10]))
 (.sq (.sq (.op 0 [om 31 9, oE 32 31, oo 33 (.bin .gtr (.t 32) (ki 1)), om 34 33, og 35 34 true (.ld (.t 3) 10 true), oF 36 34 1, oF 37 34 10, og 38 34 true (cv Xv [(.t 35), (.t 36), (.t 37)]), og 39 34 true (.un .not (.t 38)), oH 40 34 39] (some [1, 2, 3, 7, 8, 9, 10, 40]))
 (.cd (.t 40)
 (.sq (oP [om 41 9, om 6 41])
 .rt)
 .sk))
 (.sq (oP [om 42 2, oE 43 42, oB 44 0])
 (.kp [1, 2, 3, 7, 8] [6] (.bk 2 (.lp [(Lc, .inl 8)] [1, 2, 3, 7, 8, 9, 10, 42, 43, 44] Zax))))))))
 (oP [om 20 8, oo 21 (.shf (.t 20) (ki 1) 1), om 8 21])))
def Zay : IR := Zb5
def Zfa : FnIR := ⟨75,
 (.sq (oP [oM 3 0 10, oo 6 (.mv (.c (.sl 1 (some true) [])))])
 (.sq (oP [oo 13 (.mkp), om 7 13])
 (.sq (.sq (.op 0 [om 14 1, oo 15 (.bsl t_int 1 false [.int .i64 0] 1 [(0, (.t 14))]), oo 16 (.bsl Lc 1 false [.sl 1 (some true) []] 1 [(0, (.t 15))]), om 8 16] (some [1, 2, 3, 7, 8]))
 (.kp [] [6] (.bk 0 (.lp [(Lc, .inl 8)] [1, 2, 3, 7, 8] Zay))))
 (.sq (oP [oo 6 (.mv (.c (.sl 1 (some true) [])))])
 .rt)))),
 [.t 6]⟩
def Z83 : FnIR := ⟨7,
 (.sq (oP [oB 4 0])
 (.sq (.sq (oP [om 5 0])
 (.cd (.t 5)
 (.sq (oP [oB 4 0])
 .rt)
 .sk))
 (.sq (oP [om 6 1, om 4 6])
 .rt))),
 [.t 4]⟩
def Uj : IR :=
 (.sq (oP [oG 12 11 10])
 (.sq (.cd (.t 12)
 .sk
 (.ex 0))
 (.sq (.bk 1 (.sq (.op 0 [om 13 11, oD 14 9 11 1, oA 15 14 1, om 6 13, om 7 15] (some [1, 6, 7, 9, 10, 11]))
 (.sq (.op 0 [om 16 1, om 17 6, om 18 7, oo 19 (.callV true (.t 16) [(.t 17), (.t 18)]), om 8 19] (some [1, 6, 8, 9, 10, 11]))
 (.sq (oP [om 20 8, oo 21 (.bin .neq (.t 20) (ki 0))])
 (.cd (.t 21)
 (.sq (.op 0 [om 22 6, om 23 8, om 4 22, om 5 23] (some [4, 5]))
 .rt)
 .sk)))))
 (oP [oI 24 11 1, om 11 24]))))
def F8 : IR := Uj
theorem Gt : evC C L π k0 F8 e s = evC C L π k0 Uj e s := rfl
def Z4d : FnIR := ⟨25,
 (.sq (oP [oB 4 0, oB 5 0])
 (.sq (.sq (oP [om 9 0, oE 10 9, oB 11 0])
 (.kp [] [4, 5] (.bk 0 (.lp [] [1, 9, 10, 11] F8))))
 (.sq (oP [oB 4 0, oB 5 0])
 .rt))),
 [.t 4, .t 5]⟩
def Zc5 : IR :=
 (.sq (oP [oG 27 26 25])
 (.sq (.cd (.t 27)
 .sk
 (.ex 0))
 (.sq (.bk 1 (.sq (.op 0 [oD 28 24 26 3, oJ 29 28 3, oo 7 (.alloc [.int .i64 0, .int .i64 0, .int .i64 0]), ou (.st (.t 7) (.t 29) 3)] (some [2, 5, 7, 24, 25, 26]))
 (.op 0 [om 30 5, oC 31 7 1, oA 32 31 1, oC 33 7 2, oA 34 33 1, oo 35 (.bsl t_int 1 false [.int .i64 0] 2 [(0, (.t 32)), (1, (.t 34))]), oo 36 (.app (.t 30) (.t 35) t_int 1), om 5 36] (some [2, 5, 24, 25, 26]))))
 (oP [oI 37 26 1, om 26 37]))))
def Zc1 : IR := Zc5
def Zij : FnIR := ⟨45,
 (.sq (oP [oM 2 0 8, oo 4 (.mv (.c (.sl 1 (some true) [])))])
 (.sq (.op 0 [oC 10 2 0, oC 11 10 4, oA 12 11 1, om 13 1, oD 14 12 13 3, oC 15 14 1, oA 16 15 1, oo 17 (.bsl t_int 1 false [.int .i64 0] 1 [(0, (.t 16))]), om 5 17] (some [1, 2, 5]))
 (.sq (.sq (.op 0 [oC 18 2 0, oC 19 18 4, oA 20 19 1, om 21 1, oD 22 20 21 3, oC 23 22 2, oA 24 23 1, oE 25 24, oB 26 0] (some [2, 5, 24, 25, 26]))
 (.kp [2, 5] [4] (.bk 0 (.lp [(t_int, .inl 5)] [2, 5, 24, 25, 26] Zc1))))
 (.sq (.op 0 [oJ 39 2 8, om 40 5, oo 41 (cw Z52 [(.t 39), (.t 40)]), om 38 41, oL 42 38 0, oL 43 38 1, om 8 42, om 9 43] (some [8]))
 (.sq (oP [om 44 8, om 4 44])
 .rt))))),
 [.t 4]⟩
def Zb6 : IR :=
 (.sq (oP [oG 17 16 15])
 (.sq (.cd (.t 17)
 .sk
 (.ex 0))
 (.sq (.bk 1 (.sq (.op 0 [oD 18 14 16 3, oJ 19 18 3, oo 7 (.alloc [.int .i64 0, .int .i64 0, .int .i64 0]), ou (.st (.t 7) (.t 19) 3)] (some [5, 7, 14, 15, 16]))
 (.op 0 [om 20 5, oC 21 7 0, oA 22 21 1, oo 23 (.bsl t_int 1 false [.int .i64 0] 1 [(0, (.t 22))]), oo 24 (.app (.t 20) (.t 23) t_int 1), om 5 24] (some [5, 14, 15, 16]))))
 (oP [oI 25 16 1, om 16 25]))))
def Zaz : IR := Zb6
def Zfc : FnIR := ⟨30,
 (.sq (oP [oM 2 0 8, oo 4 (.mv (.c (.sl 1 (some true) [])))])
 (.sq (oP [oo 5 (.mv (.c (.sl 1 (some true) [])))])
 (.sq (.sq (.op 0 [oC 8 2 0, oC 9 8 4, oA 10 9 1, om 11 1, oD 12 10 11 3, oC 13 12 2, oA 14 13 1, oE 15 14, oB 16 0] (some [5, 14, 15, 16]))
 (.kp [5] [4] (.bk 0 (.lp [(t_int, .inl 5)] [5, 14, 15, 16] Zaz))))
 (.sq (oP [om 26 5, oo 27 (.callS (.c (.fn Vg [])) [(.t 26)])])
 (.sq (oP [om 28 5, oo 29 (.callS (.c (.fn Vb [])) [(.t 28)]), om 4 29])
 .rt))))),
 [.t 4]⟩
def Xj : IR :=
 (.sq (.sq (.op 0 [om 17 9, om 18 0, oE 19 18, oG 20 17 19] (some [0, 2, 7, 8, 9, 20]))
 (.cd (.t 20)
 .sk
 (.ex 0)))
 (.sq (.bk 1 (.sq (.op 0 [om 23 7, om 24 9, oD 25 23 24 1, oA 26 25 1, om 27 26, oF 28 27 0, oF 29 27 9, og 30 27 true (.ia (.t 28) (.t 29) 4), og 31 27 true (.fa (.t 30) 0), og 32 27 true (.ld (.t 31) 1 false), og 33 27 true (.bin .eql (.t 32) (ki 1)), oH 34 27 33] (some [0, 2, 7, 8, 9, 34]))
 (.cd (.t 34)
 (.op 0 [om 35 8, om 36 0, om 37 9, oD 38 36 37 4, oC 39 38 3, oA 40 39 1, oD 41 35 40 1, ou (.st (.t 41) (.c (.bool true)) 1)] (some [0, 2, 7, 8, 9]))
 .sk)))
 (oP [om 21 9, oI 22 21 1, om 9 22])))
def M8 : IR := Xj
theorem Vp : evC C L π k0 M8 e s = evC C L π k0 Xj e s := rfl
def Wl : IR :=
 (.sq (.sq (oP [om 42 11, om 43 2, oG 44 42 43])
 (.cd (.t 44)
 .sk
 (.ex 2)))
 (.sq (.bk 3 (.sq (.op 0 [om 47 8, om 48 11, oD 49 47 48 1, oA 50 49 1] (some [2, 8, 10, 11, 50]))
 (.cd (.t 50)
 (.op 0 [om 51 10, om 52 11, oo 53 (.bsl t_int 1 false [.int .i64 0] 1 [(0, (.t 52))]), oo 54 (.app (.t 51) (.t 53) t_int 1), om 10 54] (some [2, 8, 10, 11]))
 .sk)))
 (oP [om 45 11, oI 46 45 1, om 11 46])))
def M7 : IR := Wl
theorem Nw : evC C L π k0 M7 e s = evC C L π k0 Wl e s := rfl
def F1 : FnIR := ⟨56,
 (.sq (oP [oo 6 (.mv (.c (.sl 1 (some true) [])))])
 (.sq (.op 0 [om 12 0, om 13 1, oo 14 (cw Z64 [(.t 12), (.t 13)]), om 7 14] (some [0, 2, 7]))
 (.sq (oP [om 15 2, oo 16 (.mks t_bool 1 false [.bool false] (.t 15) (.t 15)), om 8 16])
 (.sq (.sq (oP [oB 9 0])
 (.kp [2, 8] [6] (.bk 0 (.lp [] [0, 2, 7, 8, 9] M8))))
 (.sq (oP [oo 10 (.mv (.c (.sl 1 (some true) [])))])
 (.sq (.sq (oP [oB 11 0])
 (.kp [10] [6] (.bk 2 (.lp [(t_int, .inl 10)] [2, 8, 10, 11] M7))))
 (.sq (oP [om 55 10, om 6 55])
 .rt))))))),
 [.t 6]⟩
def Kv : IR :=
 (.sq (oP [oG 8 7 6])
 (.sq (.cd (.t 8)
 .sk
 (.ex 0))
 (.sq (.bk 1 (.sq (oP [oD 9 5 7 1, oA 10 9 1, om 4 10])
 (.sq (oP [om 11 4, oo 12 (.bin .neq (.t 11) (ki 0))])
 (.cd (.t 12)
 (.sq (oP [om 13 4, om 2 13])
 .rt)
 .sk))))
 (oP [oI 14 7 1, om 7 14]))))
def Z4c : IR := Kv
theorem Z3a : evC C L π k0 Z4c e s = evC C L π k0 Kv e s := rfl
def Zb1 : FnIR := ⟨15,
 (.sq (oP [oB 2 0])
 (.sq (.sq (oP [om 5 0, oE 6 5, oB 7 0])
 (.kp [] [2] (.bk 0 (.lp [] [5, 6, 7] Z4c))))
 (.sq (oP [oB 2 0])
 .rt))),
 [.t 2]⟩

end Go.Proofs.YteecfnfjlclhdaaGreat.V
