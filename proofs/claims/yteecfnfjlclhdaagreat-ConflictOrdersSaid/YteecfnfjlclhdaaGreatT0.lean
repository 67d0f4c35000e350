/- The functions of the program in the small language. Printed by a program of this work. -/
import Derived.Test.YteecfnfjlclhdaaGreatK5

set_option linter.unusedSimpArgs false
set_option linter.unusedVariables false

/- The functions of the program in the small language. Printed by a program of this work. -/
namespace Go.Proofs.YteecfnfjlclhdaaGreat.V
open Go (IntKind BinOp UnOp)

def Zp : Nat := 7
def Hx : Nat := 8
def Z6j : Nat := 9
def Wh : Nat := 11
def Z3x : Nat := 12
def Ng : Nat := 13
def Kq : Nat := 16
def Mv : Nat := 21
def Pn : Nat := 22
def Xk : Nat := 23
def Ml : Nat := 24
def He : Nat := 25
def Q5 : Nat := 26
def Xo : Nat := 27
def L4 : Nat := 28
def Hd : Nat := 31
def Uj : Nat := 32
def Z30 : Nat := 33
def Z04 : Nat := 34
def Z3t : Nat := 37
def Z1m : Nat := 44
def Z1i : Nat := 45
def Pi : Nat := 46
def Hw : Nat := 47
def Z1j : Nat := 48
def Yx : Nat := 49
def Na : Nat := 50
def Zbf : Nat := 51
def N9 : Nat := 52
def Z4x : Nat := 53
def Hh : Nat := 54
def Hi : Nat := 55
def Nj : Nat := 56
def Mx : Nat := 57
def Z3c : Nat := 58
def N4 : Nat := 59
def Z09 : Nat := 60
def Z1z : Nat := 61
def Yf : Nat := 62
def Vf : Nat := 63
def Qs : Nat := 64
def Wg : Nat := 65
def Uh : Nat := 66
def P0 : Nat := 67
def Qy : Nat := 68
def Nx : Nat := 69
def Hj : Nat := 70
def Ve : Nat := 71
def Pm : Nat := 72
def Vw : Nat := 73
def L2 : Nat := 74
def N8 : Nat := 75
def Nh : Nat := 76
def Km : Nat := 77
def Zbg : Nat := 79
def Z5j : Nat := 81
def Z7c : Nat := 82
def Fo : Nat := 83
def Zv : Nat := 88
def Vi : Nat := 89
def Z3u : Nat := 90
def Z1h : Nat := 91
def Ph : Nat := 92
def Z5i : Nat := 93
def Ym : Nat := 94
def Z1l : Nat := 95
def Y9 : Nat := 96
def Z6m : Nat := 97
def Z0a : Nat := 98
def Qz : Nat := 99
def Qt : Nat := 100
def F5 : Nat := 101
def Ni : Nat := 102
def F6 : Nat := 103
def Ui : Nat := 104
def Hg : Nat := 105
def Mw : Nat := 106
def Um : Nat := 110
def Gj : Nat := 111
def Vs : Nat := 112
def Zx : Nat := 113
def Vv : Nat := 114
def V8 : Nat := 115
def G8 : Nat := 116
def Vj : Nat := 117
def Z6k : Nat := 118
def Z91 : Nat := 119
def Z4y : Nat := 122
def Hv : Nat := 123
def Z5f : Nat := 124
def N7 : Nat := 127
def Pl : Nat := 128
def Q4 : Nat := 129
def Z3b : Nat := 130
def Xa : Nat := 131
def Zf : Nat := 132
def Z06 : Nat := 133
def Z3a : Nat := 134
def Q8 : Nat := 135
def Mk : Nat := 136
def Xl : Nat := 137
def G7 : Nat := 138
def Z39 : Nat := 139
def Z38 : Nat := 140
def V9 : Nat := 141
def Mj : Nat := 142
def Yh : Nat := 143
def Z92 : Nat := 144
def Z37 : Nat := 145
def Qw : Nat := 146
def Z3w : Nat := 147
def Z36 : Nat := 148
def Z35 : Nat := 149
def Q7 : Nat := 150
def Mi : Nat := 151
def Uk : Nat := 152
def Ub : Nat := 153
def N6 : Nat := 154
def Fb : Nat := 155
def Z34 : Nat := 156
def Z33 : Nat := 157
def Vk : Nat := 158
def Mh : Nat := 159
def Kl : Nat := 160
def Z08 : Nat := 161
def Z07 : Nat := 162
def W5 : Nat := 163
def L0 : Nat := 164
def Fc : Nat := 165
def Qx : Nat := 166
def Mb : Nat := 167
def Z1k : Nat := 168
def Kk : Nat := 169
def Wu : Nat := 172
def Fa : Nat := 175
def Pk : Nat := 176
def My : Nat := 177
def Yg : Nat := 178
def Mz : Nat := 179
def Z5h : Nat := 180
def Z5g : Nat := 181
def Zcs : Nat := 182
def Mu : Nat := 183
def Ul : Nat := 186
def L1 : Nat := 187
def Vu : Nat := 188
def G6 : Nat := 189
def Qu : Nat := 190
def Q6 : Nat := 191
def Vt : Nat := 192
def Vd : Nat := 193
def Wi : Nat := 194
def F8 : Nat := 195
def F7 : Nat := 196
def Hf : Nat := 197
def F9 : Nat := 211
def Nk : Nat := 212
def Zbe : Nat := 213
def N5 : Nat := 214
def Yb : Nat := 215
def Ze : Nat := 216
def Z31 : Nat := 217
def Z32 : Nat := 218
def Ua : Nat := 219
def G5 : Nat := 220
def G4 : Nat := 221
def G3 : Nat := 222
def G2 : Nat := 223
def G1 : Nat := 224
def Hz : Nat := 225
def Pj : Nat := 226
def Hy : Nat := 227
def Mg : Nat := 228
def Mf : Nat := 229
def Z3v : Nat := 230
def Me : Nat := 231
def Fv : Nat := 232
def Md : Nat := 233
def Fu : Nat := 234
def Mc : Nat := 235
def Ft : Nat := 236
def Ya : Nat := 237
def Fs : Nat := 238
def Fr : Nat := 239
def Yo : Nat := 240
def Fq : Nat := 241
def Fp : Nat := 242
def Qv : Nat := 248
def Z6l : Nat := 249
def Z05 : Nat := 250
def Zu : Nat := 251
def Zq : Nat := 252
def Yi : Nat := 253
def Zfc : Nat := 254
def X9 : Nat := 256
def Y4 : Nat := 257
@[simp] theorem y0_ : ¬ Zp = Z3 ∧ ¬ Hx = Z3 ∧ ¬ Z6j = Z3 ∧ ¬ Wh = Z3 ∧ ¬ Z3x = Z3 ∧ ¬ Ng = Z3 ∧ ¬ Kq = Z3 ∧ ¬ Mv = Z3 ∧ ¬ Pn = Z3 ∧ ¬ Xk = Z3 ∧ ¬ Ml = Z3 ∧ ¬ He = Z3 ∧ ¬ Q5 = Z3 ∧ ¬ Xo = Z3 ∧ ¬ L4 = Z3 ∧ ¬ Hd = Z3 ∧ ¬ Uj = Z3 ∧ ¬ Z30 = Z3 ∧ ¬ Z04 = Z3 ∧ ¬ Z3t = Z3 ∧ ¬ Z1m = Z3 ∧ ¬ Z1i = Z3 ∧ ¬ Pi = Z3 ∧ ¬ Hw = Z3 ∧ ¬ Z1j = Z3 ∧ ¬ Yx = Z3 ∧ ¬ Na = Z3 ∧ ¬ Zbf = Z3 ∧ ¬ N9 = Z3 ∧ ¬ Z4x = Z3 ∧ ¬ Hh = Z3 ∧ ¬ Hi = Z3 ∧ ¬ Nj = Z3 ∧ ¬ Mx = Z3 ∧ ¬ Z3c = Z3 ∧ ¬ N4 = Z3 ∧ ¬ Z09 = Z3 ∧ ¬ Z1z = Z3 ∧ ¬ Yf = Z3 ∧ ¬ Vf = Z3 := by and_intros <;> decide
@[simp] theorem y1_ : ¬ Qs = Z3 ∧ ¬ Wg = Z3 ∧ ¬ Uh = Z3 ∧ ¬ P0 = Z3 ∧ ¬ Qy = Z3 ∧ ¬ Nx = Z3 ∧ ¬ Hj = Z3 ∧ ¬ Ve = Z3 ∧ ¬ Pm = Z3 ∧ ¬ Vw = Z3 ∧ ¬ L2 = Z3 ∧ ¬ N8 = Z3 ∧ ¬ Nh = Z3 ∧ ¬ Km = Z3 ∧ ¬ Zbg = Z3 ∧ ¬ Z5j = Z3 ∧ ¬ Z7c = Z3 ∧ ¬ Fo = Z3 ∧ ¬ Zv = Z3 ∧ ¬ Vi = Z3 ∧ ¬ Z3u = Z3 ∧ ¬ Z1h = Z3 ∧ ¬ Ph = Z3 ∧ ¬ Z5i = Z3 ∧ ¬ Ym = Z3 ∧ ¬ Z1l = Z3 ∧ ¬ Y9 = Z3 ∧ ¬ Z6m = Z3 ∧ ¬ Z0a = Z3 ∧ ¬ Qz = Z3 ∧ ¬ Qt = Z3 ∧ ¬ F5 = Z3 ∧ ¬ Ni = Z3 ∧ ¬ F6 = Z3 ∧ ¬ Ui = Z3 ∧ ¬ Hg = Z3 ∧ ¬ Mw = Z3 ∧ ¬ Um = Z3 ∧ ¬ Gj = Z3 ∧ ¬ Vs = Z3 := by and_intros <;> decide
@[simp] theorem y2_ : ¬ Zx = Z3 ∧ ¬ Vv = Z3 ∧ ¬ V8 = Z3 ∧ ¬ G8 = Z3 ∧ ¬ Vj = Z3 ∧ ¬ Z6k = Z3 ∧ ¬ Z91 = Z3 ∧ ¬ Z4y = Z3 ∧ ¬ Hv = Z3 ∧ ¬ Z5f = Z3 ∧ ¬ N7 = Z3 ∧ ¬ Pl = Z3 ∧ ¬ Q4 = Z3 ∧ ¬ Z3b = Z3 ∧ ¬ Xa = Z3 ∧ ¬ Zf = Z3 ∧ ¬ Z06 = Z3 ∧ ¬ Z3a = Z3 ∧ ¬ Q8 = Z3 ∧ ¬ Mk = Z3 ∧ ¬ Xl = Z3 ∧ ¬ G7 = Z3 ∧ ¬ Z39 = Z3 ∧ ¬ Z38 = Z3 ∧ ¬ V9 = Z3 ∧ ¬ Mj = Z3 ∧ ¬ Yh = Z3 ∧ ¬ Z92 = Z3 ∧ ¬ Z37 = Z3 ∧ ¬ Qw = Z3 ∧ ¬ Z3w = Z3 ∧ ¬ Z36 = Z3 ∧ ¬ Z35 = Z3 ∧ ¬ Q7 = Z3 ∧ ¬ Mi = Z3 ∧ ¬ Uk = Z3 ∧ ¬ Ub = Z3 ∧ ¬ N6 = Z3 ∧ ¬ Fb = Z3 ∧ ¬ Z34 = Z3 := by and_intros <;> decide
@[simp] theorem y3_ : ¬ Z33 = Z3 ∧ ¬ Vk = Z3 ∧ ¬ Mh = Z3 ∧ ¬ Kl = Z3 ∧ ¬ Z08 = Z3 ∧ ¬ Z07 = Z3 ∧ ¬ W5 = Z3 ∧ ¬ L0 = Z3 ∧ ¬ Fc = Z3 ∧ ¬ Qx = Z3 ∧ ¬ Mb = Z3 ∧ ¬ Z1k = Z3 ∧ ¬ Kk = Z3 ∧ ¬ Wu = Z3 ∧ ¬ Fa = Z3 ∧ ¬ Pk = Z3 ∧ ¬ My = Z3 ∧ ¬ Yg = Z3 ∧ ¬ Mz = Z3 ∧ ¬ Z5h = Z3 ∧ ¬ Z5g = Z3 ∧ ¬ Zcs = Z3 ∧ ¬ Mu = Z3 ∧ ¬ Ul = Z3 ∧ ¬ L1 = Z3 ∧ ¬ Vu = Z3 ∧ ¬ G6 = Z3 ∧ ¬ Qu = Z3 ∧ ¬ Q6 = Z3 ∧ ¬ Vt = Z3 ∧ ¬ Vd = Z3 ∧ ¬ Wi = Z3 ∧ ¬ F8 = Z3 ∧ ¬ F7 = Z3 ∧ ¬ Hf = Z3 ∧ ¬ F9 = Z3 ∧ ¬ Nk = Z3 ∧ ¬ Zbe = Z3 ∧ ¬ N5 = Z3 ∧ ¬ Yb = Z3 := by and_intros <;> decide
@[simp] theorem y4_ : ¬ Ze = Z3 ∧ ¬ Z31 = Z3 ∧ ¬ Z32 = Z3 ∧ ¬ Ua = Z3 ∧ ¬ G5 = Z3 ∧ ¬ G4 = Z3 ∧ ¬ G3 = Z3 ∧ ¬ G2 = Z3 ∧ ¬ G1 = Z3 ∧ ¬ Hz = Z3 ∧ ¬ Pj = Z3 ∧ ¬ Hy = Z3 ∧ ¬ Mg = Z3 ∧ ¬ Mf = Z3 ∧ ¬ Z3v = Z3 ∧ ¬ Me = Z3 ∧ ¬ Fv = Z3 ∧ ¬ Md = Z3 ∧ ¬ Fu = Z3 ∧ ¬ Mc = Z3 ∧ ¬ Ft = Z3 ∧ ¬ Ya = Z3 ∧ ¬ Fs = Z3 ∧ ¬ Fr = Z3 ∧ ¬ Yo = Z3 ∧ ¬ Fq = Z3 ∧ ¬ Fp = Z3 ∧ ¬ Qv = Z3 ∧ ¬ Z6l = Z3 ∧ ¬ Z05 = Z3 ∧ ¬ Zu = Z3 ∧ ¬ Zq = Z3 ∧ ¬ Yi = Z3 ∧ ¬ Zfc = Z3 ∧ ¬ X9 = Z3 ∧ ¬ Y4 = Z3 := by and_intros <;> decide
@[simp] abbrev oo (d : Nat) (x : IOp) : Ins := ⟨some d, none, x⟩
@[simp] abbrev og (d g : Nat) (b : Bool) (x : IOp) : Ins := ⟨some d, some (g, b), x⟩
@[simp] abbrev ou (x : IOp) : Ins := ⟨none, none, x⟩
@[simp] abbrev om (d t : Nat) : Ins := ⟨some d, none, .mv (.t t)⟩
@[simp] abbrev ki (n : Int) : Opd := .c (.int .i64 n)
@[simp] abbrev cv (f : Nat) (l : List Opd) : IOp := .callV true (.c (.fn f [])) l
@[simp] abbrev cw (f : Nat) (l : List Opd) : IOp := .callV false (.c (.fn f [])) l
@[simp] abbrev oA (d t z : Nat) : Ins := oo d (.ld (.t t) z false)
@[simp] abbrev oB (d : Nat) (n : Int) : Ins := oo d (.mv (ki n))
@[simp] abbrev oC (d t n : Nat) : Ins := oo d (.fa (.t t) n)
@[simp] abbrev oD (d a b z : Nat) : Ins := oo d (.ia (.t a) (.t b) z)
@[simp] abbrev oE (d t : Nat) : Ins := oo d (.len false (.t t))
@[simp] abbrev oF (d g t : Nat) : Ins := og d g true (.mv (.t t))
@[simp] abbrev oG (d a b : Nat) : Ins := oo d (.bin .lss (.t a) (.t b))
@[simp] abbrev oH (d a b : Nat) : Ins := oo d (.pick (.t a) (.t b) (.c (.bool false)))
@[simp] abbrev oI (d a : Nat) (n : Int) : Ins := oo d (.bin .add (.t a) (ki n))
@[simp] abbrev oJ (d t z : Nat) : Ins := oo d (.ld (.t t) z true)
@[simp] abbrev oK (d : Nat) : Ins := oo d (.mv (.c (.bool false)))
@[simp] abbrev oL (d t i : Nat) : Ins := oo d (.ext (.t t) i)
@[simp] abbrev oM (d t n : Nat) : Ins := oo d (.box (.t t) n)
@[simp] abbrev oN (d g t : Nat) : Ins := og d g false (.mv (.t t))
@[simp] abbrev oP (l : List Ins) : IR := .op 0 l none
def t_int : Nat := 3
def Zev : Nat := 4
def Zgb : Nat := 9
def Y8 : Nat := 32
def V0 : Nat := 46
def Kf : Nat := 76
def Fl : Nat := 79
def Ms : Nat := 81
def Mr : Nat := 112
def Ke : Nat := 117
def Fm : Nat := 120
def t_uint : Nat := 131
def M9 : Nat := 137
def Z9c : ByteArray := ⟨#[102, 101, 98, 97, 99]⟩
def k_47 : ByteArray := ⟨#[47]⟩
def k_63 : ByteArray := ⟨#[63]⟩

variable {C : Call} {L : Loop} {π : Id} {k0 : List Id} {e : Env} {s : Sto}
def Zj : FnIR := ⟨207,
 (.sq (oP [oM 2 0 7, oK 4])
 (.sq (.sq (oP [oo 18 (cv Hx []), oo 19 (.un .not (.t 18))])
 (.cd (.t 19)
 (.sq (oP [oK 4])
 .rt)
 .sk))
 (.sq (.sq (.op 0 [oJ 20 2 7, oo 21 (cv Z6j [(.t 20)]), oo 22 (.un .not (.t 21)), om 23 22, oN 24 23 1, og 25 23 false (.len false (.t 24)), og 26 23 false (.bin .gtr (.t 25) (ki 9)), oo 27 (.pick (.t 23) (.c (.bool true)) (.t 26))] (some [1, 2, 27]))
 (.cd (.t 27)
 (.sq (oP [oo 4 (.mv (.c (.bool true)))])
 .rt)
 .sk))
 (.sq (.op 0 [oJ 29 2 7, oo 30 (cw Wh [(.t 29)]), om 31 1, oo 32 (cw Xk [(.t 31)]), oo 33 (cw Pn [(.t 30), (.t 32)]), om 28 33, oL 34 28 0, oL 35 28 1, om 5 34, om 6 35] (some [1, 2, 5, 6]))
 (.sq (.op 0 [oJ 37 2 7, oo 38 (cw Wh [(.t 37)]), om 39 1, oo 40 (cw Xk [(.t 39)]), oo 41 (cv L4 [(.t 38), (.t 40)]), om 36 41, oL 42 36 0, oL 43 36 1, om 7 42, om 8 43] (some [1, 2, 5, 6, 7, 8]))
 (.sq (.op 0 [oJ 45 2 7, oo 46 (cw Wh [(.t 45)]), om 47 1, oo 48 (cw Xk [(.t 47)]), oo 49 (cw Ml [(.t 46), (.t 48)]), om 44 49, oL 50 44 0, oL 51 44 1, om 9 50, om 10 51] (some [1, 2, 5, 6, 7, 8, 9, 10]))
 (.sq (.op 0 [oJ 53 2 7, oo 54 (cw Wh [(.t 53)]), oo 55 (cw Z1m [(.t 54)]), om 52 55, oL 56 52 0, oL 57 52 1, om 11 56, om 12 57] (some [1, 2, 5, 6, 7, 8, 9, 10, 11, 12]))
 (.sq (oP [oJ 58 2 7, oo 59 (cv Ng [(.t 58)]), om 13 59])
 (.sq (.sq (oP [om 60 13, oo 61 (.bin .neq (.t 60) (ki 0))])
 (.cd (.t 61)
 (.sq (.op 0 [om 62 6, om 63 13, oo 64 (.bin .eql (.t 62) (.t 63)), om 65 64, oF 66 65 8, oF 67 65 13, og 68 65 true (.bin .eql (.t 66) (.t 67)), oH 69 65 68, om 70 69, oF 71 70 10, oF 72 70 13, og 73 70 true (.bin .eql (.t 71) (.t 72)), oH 74 70 73, om 75 74, oF 76 75 12, oF 77 75 13, og 78 75 true (.bin .eql (.t 76) (.t 77)), oH 79 75 78, om 80 79, oF 81 80 5, og 82 80 true (.len false (.t 81)), oF 83 80 9, og 84 80 true (.len false (.t 83)), og 85 80 true (.bin .add (.t 82) (.t 84)), oF 86 80 11, og 87 80 true (.len false (.t 86)), og 88 80 true (.bin .add (.t 85) (.t 87)), og 89 80 true (.bin .eql (.t 88) (ki 0)), oH 90 80 89, om 91 90, oF 92 91 7, og 93 91 true (.bin .eql (.t 92) (ki 0)), oH 94 91 93, om 4 94] (some [4]))
 .rt)
 .sk))
 (.sq (.sq (.op 0 [om 95 12, oo 96 (.bin .neq (.t 95) (ki 0)), om 97 96, oN 98 97 11, og 99 97 false (.ld (.t 2) 7 true), og 100 97 false (cw Z1i [(.t 99)]), og 101 97 false (cv Uj [(.t 98), (.t 100)]), og 102 97 false (.un .not (.t 101)), oo 103 (.pick (.t 97) (.c (.bool true)) (.t 102))] (some [1, 2, 5, 6, 7, 8, 9, 10, 103]))
 (.cd (.t 103)
 (.sq (oP [oK 4])
 .rt)
 .sk))
 (.sq (.sq (.op 0 [oJ 104 2 7, om 105 1, oo 106 (cv Mv [(.t 104), (.t 105)]), om 13 106] (some [1, 2, 5, 6, 7, 8, 9, 10, 13]))
 (.sq (oP [om 107 13, oo 108 (.bin .neq (.t 107) (ki 0))])
 (.cd (.t 108)
 (.sq (.op 0 [om 109 6, om 110 13, oo 111 (.bin .eql (.t 109) (.t 110)), om 112 111, oF 113 112 8, oF 114 112 13, og 115 112 true (.bin .eql (.t 113) (.t 114)), oH 116 112 115, om 117 116, oF 118 117 10, oF 119 117 13, og 120 117 true (.bin .eql (.t 118) (.t 119)), oH 121 117 120, om 122 121, oF 123 122 5, og 124 122 true (.len false (.t 123)), oF 125 122 9, og 126 122 true (.len false (.t 125)), og 127 122 true (.bin .add (.t 124) (.t 126)), og 128 122 true (.bin .eql (.t 127) (ki 0)), oH 129 122 128, om 130 129, oF 131 130 7, og 132 130 true (.bin .eql (.t 131) (ki 0)), oH 133 130 132, om 4 133] (some [4]))
 .rt)
 .sk)))
 (.sq (.op 0 [oJ 135 2 7, om 136 1, oo 137 (cv Pi [(.t 135), (.t 136)]), om 134 137, oL 138 134 0, oL 139 134 1, om 14 138, om 13 139] (some [1, 2, 5, 6, 7, 8, 9, 10, 13, 14]))
 (.sq (.sq (.op 0 [om 140 8, om 141 13, oo 142 (.bin .neq (.t 140) (.t 141)), om 143 142, oN 144 143 7, oN 145 143 14, og 146 143 false (.bin .neq (.t 144) (.t 145)), oo 147 (.pick (.t 143) (.c (.bool true)) (.t 146))] (some [1, 2, 5, 6, 9, 10, 147]))
 (.cd (.t 147)
 (.sq (oP [oK 4])
 .rt)
 .sk))
 (.sq (.op 0 [oJ 149 2 7, om 150 1, oo 151 (cw Hw [(.t 149), (.t 150)]), om 148 151, oL 152 148 0, oL 153 148 1, om 15 152, om 16 153] (some [1, 2, 5, 6, 9, 10, 15, 16]))
 (.sq (.sq (.op 0 [om 154 16, om 155 154, oF 156 155 6, og 157 155 true (.bin .neq (.t 156) (ki 0)), oF 158 155 157, oN 159 158 5, oN 160 158 15, og 161 158 false (cv Uj [(.t 159), (.t 160)]), og 162 158 false (.un .not (.t 161)), og 163 155 true (.pick (.t 158) (.c (.bool true)) (.t 162)), oH 164 155 163, om 165 164, oN 166 165 16, og 167 165 false (.un .not (.t 166)), oN 168 165 167, oF 169 168 6, og 170 168 true (.bin .neq (.t 169) (ki 27)), oF 171 168 170, oN 172 171 5, og 173 171 false (.len false (.t 172)), og 174 171 false (.bin .neq (.t 173) (ki 0)), og 175 168 true (.pick (.t 171) (.c (.bool true)) (.t 174)), og 176 165 false (.pick (.t 168) (.t 175) (.c (.bool false))), oo 177 (.pick (.t 165) (.c (.bool true)) (.t 176))] (some [1, 2, 9, 10, 177]))
 (.cd (.t 177)
 (.sq (oP [oK 4])
 .rt)
 .sk))
 (.sq (.op 0 [oJ 178 2 7, om 179 1, oo 180 (cw Z1j [(.t 178), (.t 179)]), om 17 180] (some [9, 10, 17]))
 (.sq (.op 0 [om 181 17, oE 182 181, oo 183 (.bin .gtr (.t 182) (ki 0)), om 184 183, oF 185 184 10, og 186 184 true (.bin .eql (.t 185) (ki 0)), oH 187 184 186, om 188 187, oF 189 188 9, oF 190 188 17, og 191 188 true (cv Uj [(.t 189), (.t 190)]), oH 192 188 191, om 193 192, oN 194 193 17, og 195 193 false (.len false (.t 194)), og 196 193 false (.bin .eql (.t 195) (ki 0)), oN 197 193 196, oF 198 197 10, og 199 197 true (.bin .eql (.t 198) (ki 12)), og 200 193 false (.pick (.t 197) (.t 199) (.c (.bool false))), oN 201 193 200, oF 202 201 9, og 203 201 true (.len false (.t 202)), og 204 201 true (.bin .eql (.t 203) (ki 0)), og 205 193 false (.pick (.t 201) (.t 204) (.c (.bool false))), oo 206 (.pick (.t 193) (.c (.bool true)) (.t 205)), om 4 206] (some [4]))
 .rt))))))))))))))))),
 [.t 4]⟩
def Z65 : FnIR := ⟨76,
 (.sq (oP [oK 0])
 (.sq (.op 0 [oo 12 (cv Yx []), oo 13 (cv Z3x [(.t 12)]), om 11 13, oL 14 11 0, oL 15 11 1, om 1 14, om 2 15] (some [1, 2]))
 (.sq (.op 0 [oo 17 (cv Yx []), oo 18 (.bsp t_int 1 false [.int .i64 0] 2 [(0, (ki 0)), (1, (ki 1))]), oo 19 (cv Pn [(.t 17), (.t 18)]), om 16 19, oL 20 16 0, oL 21 16 1, om 3 20, om 4 21] (some [1, 2, 3, 4]))
 (.sq (.op 0 [oo 23 (cv Yx []), oo 24 (.bsp t_int 1 false [.int .i64 0] 3 [(0, (ki 0)), (1, (ki 1)), (2, (ki 2))]), oo 25 (cv Ml [(.t 23), (.t 24)]), om 22 25, oL 26 22 0, oL 27 22 1, om 5 26, om 6 27] (some [1, 2, 3, 4, 5, 6]))
 (.sq (.op 0 [oo 29 (cv Yx []), oo 30 (cv Na [(.t 29), (ki 0), (ki 2)]), om 28 30, oL 31 28 0, oL 32 28 1, om 7 31, om 8 32] (some [1, 2, 3, 4, 5, 6, 7, 8]))
 (.sq (.op 0 [oo 34 (cv Yx []), oo 35 (cv Na [(.t 34), (ki 0), (ki 1)]), om 33 35, oL 36 33 0, oL 37 33 1, om 9 36, om 10 37] (some [1, 2, 3, 4, 5, 6, 7, 8, 10]))
 (.sq (.op 0 [om 38 2, oo 39 (.bin .eql (.t 38) (ki 0)), om 40 39, oF 41 40 1, og 42 40 true (cv Kq [(.t 41)]), og 43 40 true (.bin .eql (.t 42) (.c (.str ⟨#[99, 97, 99, 47, 98, 99, 99, 47, 99, 99, 99]⟩))), oH 44 40 43, om 45 44, oF 46 45 4, og 47 45 true (.bin .eql (.t 46) (ki 0)), oH 48 45 47, om 49 48, oF 50 49 3, og 51 49 true (.bsp t_int 1 false [.int .i64 0] 2 [(0, (ki 1)), (1, (ki 0))]), og 52 49 true (cv Uj [(.t 50), (.t 51)]), oH 53 49 52, om 54 53, oF 55 54 6, og 56 54 true (.bin .eql (.t 55) (ki 0)), oH 57 54 56, om 58 57, oF 59 58 5, og 60 58 true (.bsp t_int 1 false [.int .i64 0] 2 [(0, (ki 0)), (1, (ki 2))]), og 61 58 true (cv Uj [(.t 59), (.t 60)]), oH 62 58 61, om 63 62, oF 64 63 8, og 65 63 true (.bin .eql (.t 64) (ki 0)), oH 66 63 65, om 67 66, oF 68 67 7, og 69 67 true (.bsp t_int 1 false [.int .i64 0] 3 [(0, (ki 1)), (1, (ki 0)), (2, (ki 0))]), og 70 67 true (cv Uj [(.t 68), (.t 69)]), oH 71 67 70, om 72 71, oF 73 72 10, og 74 72 true (.bin .eql (.t 73) (ki 12)), oH 75 72 74, om 0 75] (some [0]))
 .rt))))))),
 [.t 0]⟩
def K2 : IR :=
 (.sq (.sq (.op 0 [om 40 3, oC 41 1 3, oA 42 41 1, oE 43 42, oG 44 40 43] (some [1, 3, 44]))
 (.cd (.t 44)
 .sk
 (.ex 0)))
 (.sq (.bk 1 (.sq (.op 0 [oC 47 1 3, oA 48 47 1, om 49 3, oD 50 48 49 4, oC 51 50 2, oA 52 51 1, oE 53 52, oo 54 (.bin .gtr (.t 53) (ki 4))] (some [1, 3, 54]))
 (.cd (.t 54)
 (.sq (oP [oK 2])
 .rt)
 .sk)))
 (oP [om 45 3, oI 46 45 1, om 3 46])))
def Z4a : IR := K2
theorem Z3l : evC C L π k0 Z4a e s = evC C L π k0 K2 e s := rfl
def Lz : IR :=
 (.sq (.sq (.op 0 [om 55 4, oC 56 1 4, oA 57 56 1, oE 58 57, oG 59 55 58] (some [1, 4, 59]))
 (.cd (.t 59)
 .sk
 (.ex 2)))
 (.sq (.bk 3 (.sq (.op 0 [oC 62 1 4, oA 63 62 1, om 64 4, oD 65 63 64 3, oC 66 65 2, oA 67 66 1, oE 68 67, oo 69 (.bin .gtr (.t 68) (ki 6))] (some [1, 4, 69]))
 (.cd (.t 69)
 (.sq (oP [oK 2])
 .rt)
 .sk)))
 (oP [om 60 4, oI 61 60 1, om 4 61])))
def Z49 : IR := Lz
theorem Z3k : evC C L π k0 Z49 e s = evC C L π k0 Lz e s := rfl
def Ly : IR :=
 (.sq (.sq (.op 0 [om 70 5, oC 71 1 6, oA 72 71 1, oE 73 72, oG 74 70 73] (some [1, 5, 74]))
 (.cd (.t 74)
 .sk
 (.ex 4)))
 (.sq (.bk 5 (.sq (.op 0 [oC 77 1 6, oA 78 77 1, om 79 5, oD 80 78 79 2, oC 81 80 1, oA 82 81 1, oE 83 82, oo 84 (.bin .gtr (.t 83) (ki 8))] (some [1, 5, 84]))
 (.cd (.t 84)
 (.sq (oP [oK 2])
 .rt)
 .sk)))
 (oP [om 75 5, oI 76 75 1, om 5 76])))
def Z48 : IR := Ly
theorem Z3j : evC C L π k0 Z48 e s = evC C L π k0 Ly e s := rfl
def Pp : FnIR := ⟨85,
 (.sq (oP [oM 1 0 7, oK 2])
 (.sq (.sq (.op 0 [oC 6 1 3, oA 7 6 1, oE 8 7, oo 9 (.bin .gtr (.t 8) (ki 30)), om 10 9, og 11 10 false (.fa (.t 1) 1), og 12 10 false (.ld (.t 11) 1 false), og 13 10 false (.len false (.t 12)), og 14 10 false (.bin .gtr (.t 13) (ki 8)), oo 15 (.pick (.t 10) (.c (.bool true)) (.t 14)), om 16 15, og 17 16 false (.fa (.t 1) 2), og 18 16 false (.ld (.t 17) 1 false), og 19 16 false (.len false (.t 18)), og 20 16 false (.bin .gtr (.t 19) (ki 10)), oo 21 (.pick (.t 16) (.c (.bool true)) (.t 20)), om 22 21, og 23 22 false (.fa (.t 1) 4), og 24 22 false (.ld (.t 23) 1 false), og 25 22 false (.len false (.t 24)), og 26 22 false (.bin .gtr (.t 25) (ki 7)), oo 27 (.pick (.t 22) (.c (.bool true)) (.t 26)), om 28 27, og 29 28 false (.fa (.t 1) 5), og 30 28 false (.ld (.t 29) 1 false), og 31 28 false (.len false (.t 30)), og 32 28 false (.bin .gtr (.t 31) (ki 8)), oo 33 (.pick (.t 28) (.c (.bool true)) (.t 32)), om 34 33, og 35 34 false (.fa (.t 1) 6), og 36 34 false (.ld (.t 35) 1 false), og 37 34 false (.len false (.t 36)), og 38 34 false (.bin .gtr (.t 37) (ki 6)), oo 39 (.pick (.t 34) (.c (.bool true)) (.t 38))] (some [1, 39]))
 (.cd (.t 39)
 (.sq (oP [oK 2])
 .rt)
 .sk))
 (.sq (.sq (oP [oB 3 0])
 (.kp [1] [2] (.bk 0 (.lp [] [1, 3] Z4a))))
 (.sq (.sq (oP [oB 4 0])
 (.kp [1] [2] (.bk 2 (.lp [] [1, 4] Z49))))
 (.sq (.sq (oP [oB 5 0])
 (.kp [] [2] (.bk 4 (.lp [] [1, 5] Z48))))
 (.sq (oP [oo 2 (.mv (.c (.bool true)))])
 .rt)))))),
 [.t 2]⟩
def Qh : IR :=
 (.sq (.sq (.op 0 [om 28 4, oC 29 1 4, oA 30 29 1, oE 31 30, oG 32 28 31] (some [1, 2, 3, 4, 32]))
 (.cd (.t 32)
 .sk
 (.ex 0)))
 (.sq (.bk 1 (.sq (.op 0 [om 35 3, om 36 4, oC 37 1 4, oA 38 37 1, om 39 4, oD 40 38 39 3, oJ 41 40 3, oD 42 35 36 3, ou (.st (.t 42) (.t 41) 3)] (some [1, 2, 3, 4]))
 (.op 0 [om 43 3, om 44 4, oC 45 1 4, oA 46 45 1, om 47 4, oD 48 46 47 3, oC 49 48 2, oA 50 49 1, oo 51 (cw Mx [(.t 50)]), oD 52 43 44 3, oC 53 52 2, ou (.st (.t 53) (.t 51) 1)] (some [1, 2, 3, 4]))))
 (oP [om 33 4, oI 34 33 1, om 4 34])))
def Lp : IR := Qh
theorem Z1g : evC C L π k0 Lp e s = evC C L π k0 Qh e s := rfl
def Qg : IR :=
 (.sq (.sq (.op 0 [om 58 6, oC 59 1 6, oA 60 59 1, oE 61 60, oG 62 58 61] (some [1, 2, 3, 5, 6, 62]))
 (.cd (.t 62)
 .sk
 (.ex 2)))
 (.sq (.bk 3 (.op 15 [om 65 5, om 66 6, oC 67 1 6, oA 68 67 1, om 69 6, oD 70 68 69 2, oC 71 70 0, oA 72 71 1, oC 73 1 6, oA 74 73 1, om 75 6, oD 76 74 75 2, oC 77 76 1, oA 78 77 1, oo 79 (cw Xk [(.t 78)]), oo 80 (.build [.int .i64 0, .sl 1 (some true) []] [(0, 1, (.t 72)), (1, 1, (.t 79))]), oD 81 65 66 2, ou (.st (.t 81) (.t 80) 2)] (some [1, 2, 3, 5, 6])))
 (oP [om 63 6, oI 64 63 1, om 6 64])))
def Lo : IR := Qg
theorem Z1f : evC C L π k0 Lo e s = evC C L π k0 Qg e s := rfl
def Z0t : FnIR := ⟨87,
 (.sq (oP [oM 1 0 7, oo 2 (.alloc [.str ⟨#[]⟩, .sl 2 (some true) [], .sl 5 (some true) [], .sl 4 (some true) [], .sl 3 (some true) [], .sl 2 (some true) [], .sl 2 (some true) []])])
 (.sq (.op 10 [oC 7 1 1, oA 8 7 1, oo 9 (cw Hh [(.t 8)]), oC 10 1 3, oA 11 10 1, oo 12 (cw Hi [(.t 11)]), oC 13 1 5, oA 14 13 1, oo 15 (cw Nj [(.t 14)]), oC 16 1 1, ou (.st (.t 16) (.t 9) 1), oC 17 1 3, ou (.st (.t 17) (.t 12) 1), oC 18 1 5, ou (.st (.t 18) (.t 15) 1)] (some [1, 2]))
 (.sq (.op 0 [oo 19 (.bsl Mr 5 true [.str ⟨#[]⟩, .int .i64 0, .int .i64 0, .int .i64 0, .int .i64 0] 0 []), oC 20 1 2, oA 21 20 1, oo 22 (.app (.t 19) (.t 21) Mr 5), oC 23 1 2, ou (.st (.t 23) (.t 22) 1)] (some [1, 2]))
 (.sq (.op 0 [oC 24 1 4, oA 25 24 1, oE 26 25, oo 27 (.mks Fl 3 true [.str ⟨#[]⟩, .int .i64 0, .sl 3 (some true) []] (.t 26) (.t 26)), om 3 27] (some [1, 2, 3]))
 (.sq (.sq (oP [oB 4 0])
 (.kp [1, 2, 3] [2] (.bk 0 (.lp [] [1, 2, 3, 4] Lp))))
 (.sq (.op 0 [oC 54 1 6, oA 55 54 1, oE 56 55, oo 57 (.mks Ms 2 true [.int .i64 0, .sl 1 (some true) []] (.t 56) (.t 56)), om 5 57] (some [1, 2, 3, 5]))
 (.sq (.sq (oP [oB 6 0])
 (.kp [1, 2, 3, 5] [2] (.bk 2 (.lp [] [1, 2, 3, 5, 6] Lo))))
 (.sq (.op 0 [om 82 3, om 83 5, oC 84 1 4, ou (.st (.t 84) (.t 82) 1), oC 85 1 6, ou (.st (.t 85) (.t 83) 1)] (some [1, 2]))
 (.sq (oP [oJ 86 1 7, ou (.st (.t 2) (.t 86) 7)])
 .rt))))))))),
 [.c 2 7 true]⟩
def Zc0 : IR :=
 (.sq (oP [oG 31 30 29])
 (.sq (.cd (.t 31)
 .sk
 (.ex 2))
 (.sq (.bk 3 (.sq (oP [om 32 30, om 10 32])
 (.op 0 [om 33 9, oJ 34 6 10, om 35 8, om 36 10, oo 37 (cv Z4x [(.t 34), (.t 35), (.t 36)]), oo 38 (.bsl t_int 1 false [.int .i64 0] 1 [(0, (.t 37))]), oo 39 (.app (.t 33) (.t 38) t_int 1), om 9 39] (some [1, 6, 7, 8, 9, 23, 24, 29, 30]))))
 (oP [oI 40 30 1, om 30 40]))))
def Zby : IR := Zc0
def Zc1 : IR :=
 (.sq (oP [oG 25 24 23])
 (.sq (.cd (.t 25)
 .sk
 (.ex 0))
 (.sq (.bk 1 (.sq (oP [om 26 24, om 8 26])
 (.sq (oP [oo 9 (.mv (.c (.sl 1 (some true) [])))])
 (.sq (.sq (.op 0 [oC 27 1 4, oA 28 27 1, oE 29 28, oB 30 0] (some [1, 6, 7, 8, 9, 23, 24, 29, 30]))
 (.kp [1, 6, 7, 9, 23, 24] [2, 3] (.bk 2 (.lp [(t_int, .inl 9)] [1, 6, 7, 8, 9, 23, 24, 29, 30] Zby))))
 (.op 0 [om 41 7, om 42 9, oo 43 (.bsl V0 1 false [.sl 1 (some true) []] 1 [(0, (.t 42))]), oo 44 (.app (.t 41) (.t 43) V0 1), om 7 44] (some [1, 6, 7, 23, 24]))))))
 (oP [oI 45 24 1, om 24 45]))))
def Zbz : IR := Zc1
def Zhu : FnIR := ⟨47,
 (.sq (oP [oM 1 0 7, oo 2 (.mv (.c (.sl 1 (some true) []))), oB 3 0])
 (.sq (.op 0 [oJ 12 1 7, oo 13 (cv Z3c [(.t 12), (.c (.sl 1 (some true) []))]), om 11 13, oL 14 11 0, oL 15 11 1, oo 4 (.alloc [.str ⟨#[]⟩, .sl 2 (some true) [], .sl 5 (some true) [], .sl 4 (some true) [], .sl 3 (some true) [], .sl 2 (some true) [], .sl 2 (some true) [], .sl 1 (some true) []]), ou (.st (.t 4) (.t 14) 8), om 5 15] (some [1, 4, 5]))
 (.sq (.sq (oP [om 16 5, oo 17 (.bin .neq (.t 16) (ki 0))])
 (.cd (.t 17)
 (.sq (oP [om 18 5, oo 2 (.mv (.c (.sl 1 (some true) []))), om 3 18])
 .rt)
 .sk))
 (.sq (.op 0 [oJ 19 4 8, oo 20 (cw N9 [(.t 19)]), oo 6 (.alloc [.str ⟨#[]⟩, .sl 2 (some true) [], .sl 5 (some true) [], .sl 4 (some true) [], .sl 3 (some true) [], .sl 2 (some true) [], .sl 2 (some true) [], .sl 1 (some true) [], .sl 1 (some true) [], .sl 1 (some true) []]), ou (.st (.t 6) (.t 20) 10)] (some [1, 6]))
 (.sq (oP [oo 7 (.mv (.c (.sl 1 (some true) [])))])
 (.sq (.sq (.op 0 [oC 21 1 4, oA 22 21 1, oE 23 22, oB 24 0] (some [1, 6, 7, 23, 24]))
 (.kp [7] [2, 3] (.bk 0 (.lp [(V0, .inl 7)] [1, 6, 7, 23, 24] Zbz))))
 (.sq (oP [om 46 7, om 2 46, oB 3 0])
 .rt))))))),
 [.t 2, .t 3]⟩
def Gp : FnIR := ⟨11,
 (.sq (oP [oM 1 0 7, oB 2 0])
 (.sq (.op 0 [oJ 6 1 7, oo 7 (cv N4 [(.t 6)]), om 5 7, oL 8 5 0, oL 9 5 1, om 3 8, om 4 9] (some [4]))
 (.sq (oP [om 10 4, om 2 10])
 .rt))),
 [.t 2]⟩
def Z75 : IR :=
 (.sq (oP [oG 19 18 17])
 (.sq (.cd (.t 19)
 .sk
 (.ex 2))
 (.sq (.bk 3 (.sq (oP [oD 20 16 18 1, oA 21 20 1, om 8 21])
 (.sq (oP [oo 9 (.mv (.c (.str k_63)))])
 (.sq (.sq (oP [om 22 8, oo 23 (cv Z09 [(.t 22), (ki 0), (ki 4)])])
 (.cd (.t 23)
 (.op 0 [om 24 8, om 25 8, oI 26 25 1, oo 27 (.slc true (.c (.str Z9c)) (some (.t 24)) (some (.t 26)) 0), om 9 27] (some [3, 6, 9, 10, 11, 12, 16, 17, 18]))
 .sk))
 (.op 0 [om 28 6, om 29 9, oo 30 (.bin .add (.t 28) (.t 29)), om 6 30] (some [3, 6, 10, 11, 12, 16, 17, 18]))))))
 (oP [oI 31 18 1, om 18 31]))))
def Z71 : IR := Z75
def Z76 : IR :=
 (.sq (oP [oG 13 12 11])
 (.sq (.cd (.t 13)
 .sk
 (.ex 0))
 (.sq (.bk 1 (.sq (oP [oD 14 10 12 1, oA 15 14 1, om 5 15])
 (.sq (oP [oo 6 (.mv (.c (.str ⟨#[]⟩)))])
 (.sq (.sq (oP [om 16 5, oE 17 16, oB 18 0])
 (.kp [3, 6, 10, 11, 12] [2] (.bk 2 (.lp [] [3, 6, 10, 11, 12, 16, 17, 18] Z71))))
 (.op 0 [om 32 3, om 33 6, oo 34 (.bsl Zgb 1 false [.str ⟨#[]⟩] 1 [(0, (.t 33))]), oo 35 (.app (.t 32) (.t 34) Zgb 1), om 3 35] (some [3, 10, 11, 12]))))))
 (oP [oI 36 12 1, om 12 36]))))
def Z72 : IR := Z76
def Zb6 : FnIR := ⟨39,
 (.sq (oP [oo 2 (.mv (.c (.str ⟨#[]⟩)))])
 (.sq (oP [oo 3 (.mv (.c (.sl 1 (some true) [])))])
 (.sq (.sq (oP [om 10 0, oE 11 10, oB 12 0])
 (.kp [3] [2] (.bk 0 (.lp [(Zgb, .inl 3)] [3, 10, 11, 12] Z72))))
 (.sq (oP [om 37 3, oo 38 (cv Z1z [(.t 37), (.c (.str k_47))]), om 2 38])
 .rt)))),
 [.t 2]⟩
def Xy : IR :=
 (.sq (.sq (.op 0 [om 13 5, om 14 1, oE 15 14, oG 16 13 15] (some [1, 2, 5, 16]))
 (.cd (.t 16)
 .sk
 (.ex 0)))
 (.sq (.bk 1 (.sq (.sq (.op 5 [oJ 19 2 7, om 20 1, om 21 5, oD 22 20 21 1, oA 23 22 1, oo 24 (cv Hd [(.t 19), (.t 23)]), om 6 24] (some [1, 2, 5, 6]))
 (.sq (oP [om 25 6, oo 26 (.bin .neq (.t 25) (ki 0))])
 (.cd (.t 26)
 (.sq (oP [om 27 6, om 4 27])
 .rt)
 .sk)))
 (.sq (.op 7 [om 28 1, om 29 5, oo 30 (.slc false (.t 28) none (some (.t 29)) 1), om 31 1, om 32 5, oD 33 31 32 1, oA 34 33 1, oo 35 (cv Q5 [(.t 30), (.t 34)])] (some [1, 2, 5, 35]))
 (.cd (.t 35)
 (.sq (oP [oB 4 23])
 .rt)
 .sk))))
 (oP [om 17 5, oI 18 17 1, om 5 18])))
def Lh : IR := Xy
theorem Q3 : evC C L π k0 Lh e s = evC C L π k0 Xy e s := rfl
def Li : FnIR := ⟨36,
 (.sq (oP [oM 2 0 7, oB 4 0])
 (.sq (.sq (.op 0 [om 7 1, oE 8 7, oC 9 2 4, oA 10 9 1, oE 11 10, oo 12 (.bin .gtr (.t 8) (.t 11))] (some [1, 2, 12]))
 (.cd (.t 12)
 (.sq (oP [oB 4 8])
 .rt)
 .sk))
 (.sq (.sq (oP [oB 5 0])
 (.kp [] [4] (.bk 0 (.lp [] [1, 2, 5] Lh))))
 (.sq (oP [oB 4 0])
 .rt)))),
 [.t 4]⟩
def Ut : IR :=
 (.sq (.sq (oP [oA 23 8 1, oE 24 23, oo 25 (.bin .gtr (.t 24) (ki 0))])
 (.cd (.t 25)
 .sk
 (.ex 0)))
 (.bk 1 (.sq (.op 0 [oA 26 8 1, oo 27 (.mkf P0 [(.t 6), (.t 8)]), oo 28 (cv Uh [(.t 26), (.t 27)]), om 10 28] (some [6, 8, 9, 10]))
 (.sq (.sq (oP [om 29 10, oo 30 (.bin .lss (.t 29) (ki 0))])
 (.cd (.t 30)
 (.sq (oP [oo 4 (.mv (.c (.sl 1 (some true) []))), oB 5 27])
 .rt)
 .sk))
 (.sq (.op 0 [om 31 9, oA 32 8 1, om 33 10, oD 34 32 33 1, oA 35 34 1, oo 36 (.bsl t_int 1 false [.int .i64 0] 1 [(0, (.t 35))]), oo 37 (.app (.t 31) (.t 36) t_int 1), om 9 37] (some [6, 8, 9, 10]))
 (.op 0 [oA 38 8 1, om 39 10, om 40 10, oI 41 40 1, oo 42 (.callS (.c (.fn Nx [])) [(.t 38), (.t 39), (.t 41)]), ou (.st (.t 8) (.t 42) 1)] (some [6, 8, 9])))))))
def Gz : IR := Ut
theorem Gi : evC C L π k0 Gz e s = evC C L π k0 Ut e s := rfl
def Fh : FnIR := ⟨44,
 (.sq (oP [oM 2 0 7, oo 4 (.mv (.c (.sl 1 (some true) []))), oB 5 0])
 (.sq (.op 0 [oJ 12 2 7, om 13 1, oo 14 (cv Vf [(.t 12), (.t 13)]), om 11 14, oL 15 11 0, oL 16 11 1, oo 6 (.alloc [.str ⟨#[]⟩, .sl 2 (some true) [], .sl 5 (some true) [], .sl 4 (some true) [], .sl 3 (some true) [], .sl 2 (some true) [], .sl 2 (some true) [], .sl 1 (some true) [], .sl 1 (some true) [], .sl 1 (some true) []]), ou (.st (.t 6) (.t 15) 10), om 7 16] (some [1, 6, 7]))
 (.sq (.sq (oP [om 17 7, oo 18 (.bin .neq (.t 17) (ki 0))])
 (.cd (.t 18)
 (.sq (oP [om 19 7, oo 4 (.mv (.c (.sl 1 (some true) []))), om 5 19])
 .rt)
 .sk))
 (.sq (.op 0 [om 20 1, oo 21 (cw Wg [(.t 20)]), oo 22 (cw Qs [(.t 21)]), oo 8 (.alloc [.sl 1 (some true) []]), ou (.st (.t 8) (.t 22) 1)] (some [6, 8]))
 (.sq (oP [oo 9 (.mv (.c (.sl 1 (some true) [])))])
 (.sq (.kp [9] [4, 5] (.bk 0 (.lp [(t_int, .inl 9)] [6, 8, 9] Gz)))
 (.sq (oP [om 43 9, om 4 43, oB 5 0])
 .rt))))))),
 [.t 4, .t 5]⟩
def Z4d : FnIR := ⟨6,
 (.sq (oP [oo 2 (.mv (.c (.sl 1 (some true) [])))])
 (.sq (.op 0 [oo 3 (.bsl t_int 1 false [.int .i64 0] 0 []), om 4 0, oo 5 (.app (.t 3) (.t 4) t_int 1), om 2 5] (some [2]))
 .rt)),
 [.t 2]⟩
def Ws : IR :=
 (.sq (oP [oG 28 27 26])
 (.sq (.cd (.t 28)
 .sk
 (.ex 0))
 (.sq (.bk 1 (.sq (oP [oD 29 25 27 1, oA 30 29 1, om 11 30])
 (.sq (.op 0 [oJ 31 6 10, om 32 11, om 33 8, oo 34 (cw Hj [(.t 31), (.t 32), (.t 33)]), om 12 34] (some [6, 8, 9, 12, 25, 26, 27]))
 (.sq (.op 0 [om 35 12, oo 36 (.isnil true true (.t 35)), om 37 36, oF 38 37 9, og 39 37 true (.isnil true false (.t 38)), oF 40 37 39, oN 41 40 12, og 42 40 false (.len false (.t 41)), oN 43 40 9, og 44 40 false (.len false (.t 43)), og 45 40 false (.bin .lss (.t 42) (.t 44)), og 46 37 true (.pick (.t 40) (.c (.bool true)) (.t 45)), oH 47 37 46] (some [6, 8, 9, 12, 25, 26, 27, 47]))
 (.cd (.t 47)
 (oP [om 48 12, om 9 48])
 .sk)))))
 (oP [oI 49 27 1, om 27 49]))))
def Z15 : IR := Ws
theorem Qp : evC C L π k0 Z15 e s = evC C L π k0 Ws e s := rfl
def Z1u : FnIR := ⟨54,
 (.sq (oP [oM 2 0 7, oo 4 (.mv (.c (.sl 1 (some true) []))), oB 5 0])
 (.sq (.op 0 [oJ 14 2 7, om 15 1, oo 16 (cv Vf [(.t 14), (.t 15)]), om 13 16, oL 17 13 0, oL 18 13 1, oo 6 (.alloc [.str ⟨#[]⟩, .sl 2 (some true) [], .sl 5 (some true) [], .sl 4 (some true) [], .sl 3 (some true) [], .sl 2 (some true) [], .sl 2 (some true) [], .sl 1 (some true) [], .sl 1 (some true) [], .sl 1 (some true) []]), ou (.st (.t 6) (.t 17) 10), om 7 18] (some [1, 6, 7]))
 (.sq (.sq (oP [om 19 7, oo 20 (.bin .neq (.t 19) (ki 0))])
 (.cd (.t 20)
 (.sq (oP [om 21 7, oo 4 (.mv (.c (.sl 1 (some true) []))), om 5 21])
 .rt)
 .sk))
 (.sq (.op 0 [om 22 1, oo 23 (cw Wg [(.t 22)]), oo 24 (cw Qs [(.t 23)]), om 8 24] (some [6, 8]))
 (.sq (oP [oo 9 (.mv (.c (.sl 1 (some true) [])))])
 (.sq (.sq (oP [om 25 8, oE 26 25, oB 27 0])
 (.kp [9] [4, 5] (.bk 0 (.lp [] [6, 8, 9, 25, 26, 27] Z15))))
 (.sq (.op 0 [om 50 9, om 51 9, oo 52 (.isnil true true (.t 51)), oo 53 (cv Ve [(.t 52), (ki 12)]), om 4 50, om 5 53] (some [4, 5]))
 .rt))))))),
 [.t 4, .t 5]⟩
def Wd : IR :=
 (.sq (.sq (.op 0 [om 7 5, om 8 1, oE 9 8, oG 10 7 9] (some [1, 2, 5, 10]))
 (.cd (.t 10)
 .sk
 (.ex 0)))
 (.sq (.bk 1 (.sq (.op 0 [om 13 1, om 14 5, om 15 1, oE 16 15, oo 17 (.bin .add (.t 14) (.t 16)), oo 18 (.bin .sub (.t 17) (ki 1)), om 19 1, oE 20 19, oo 21 (.bin .rem (.t 18) (.t 20)), oD 22 13 21 1, oA 23 22 1, om 6 23] (some [1, 2, 5, 6]))
 (.sq (.fz [1] (.op 15 [om 24 1, om 25 5, oo 26 (.slc false (.t 24) none (some (.t 25)) 1), om 27 1, om 28 5, oD 29 27 28 1, oA 30 29 1, oo 31 (cv Q5 [(.t 26), (.t 30)]), om 32 31, og 33 32 false (.ld (.t 2) 7 true), oN 34 32 1, oN 35 32 5, og 36 32 false (.ia (.t 34) (.t 35) 1), og 37 32 false (.ld (.t 36) 1 false), oN 38 32 6, og 39 32 false (cv Xo [(.t 33), (.t 37), (.t 38)]), oo 40 (.pick (.t 32) (.c (.bool true)) (.t 39))] (some [1, 2, 5, 40])))
 (.cd (.t 40)
 (.sq (oP [oK 4])
 .rt)
 .sk))))
 (oP [om 11 5, oI 12 11 1, om 5 12])))
def Kx : IR := Wd
theorem Pf : evC C L π k0 Kx e s = evC C L π k0 Wd e s := rfl
def Z23 : FnIR := ⟨44,
 (.sq (oP [oM 2 0 7, oK 4])
 (.sq (.sq (oP [oB 5 0])
 (.kp [1] [4] (.bk 0 (.lp [] [1, 2, 5] Kx))))
 (.sq (.op 0 [om 41 1, oE 42 41, oo 43 (.bin .gtr (.t 42) (ki 1)), om 4 43] (some [4]))
 .rt))),
 [.t 4]⟩
def Z17 : IR :=
 (.sq (.sq (.op 0 [om 6 5, om 7 0, oE 8 7, oG 9 6 8] (some [0, 1, 5, 9]))
 (.cd (.t 9)
 .sk
 (.ex 0)))
 (.sq (.bk 1 (.sq (.op 0 [om 12 0, om 13 5, oD 14 12 13 1, oA 15 14 1, om 16 1, oo 17 (.bin .eql (.t 15) (.t 16))] (some [0, 1, 5, 17]))
 (.cd (.t 17)
 (.sq (oP [oo 4 (.mv (.c (.bool true)))])
 .rt)
 .sk)))
 (oP [om 10 5, oI 11 10 1, om 5 11])))
def Z83 : IR := Z17
theorem Z7h : evC C L π k0 Z83 e s = evC C L π k0 Z17 e s := rfl
def Zhq : FnIR := ⟨18,
 (.sq (oP [oK 4])
 (.sq (.sq (oP [oB 5 0])
 (.kp [] [4] (.bk 0 (.lp [] [0, 1, 5] Z83))))
 (.sq (oP [oK 4])
 .rt))),
 [.t 4]⟩
def Y6 : IR :=
 (.sq (.sq (.op 0 [om 9 7, oC 10 3 2, oA 11 10 1, oE 12 11, oG 13 9 12] (some [1, 2, 3, 7, 13]))
 (.cd (.t 13)
 .sk
 (.ex 0)))
 (.sq (.bk 1 (.sq (.op 0 [oC 16 3 2, oA 17 16 1, om 18 7, oD 19 17 18 5, oC 20 19 1, oA 21 20 1, oo 22 (.bin .eql (.t 21) (ki 1)), om 8 22] (some [1, 2, 3, 7, 8]))
 (.sq (.op 0 [om 23 8, oo 24 (.un .not (.t 23)), om 25 24, og 26 25 true (.ld (.t 3) 7 true), oF 27 25 1, og 28 25 true (cw Z04 [(.t 26), (.t 27)]), oF 29 25 7, og 30 25 true (cv Q5 [(.t 28), (.t 29)]), oH 31 25 30, om 32 31, og 33 32 true (.ld (.t 3) 7 true), oF 34 32 2, og 35 32 true (cw Z30 [(.t 33), (.t 34)]), oF 36 32 7, og 37 32 true (cv Q5 [(.t 35), (.t 36)]), oH 38 32 37, om 39 38, oN 40 39 8, oN 41 39 40, og 42 41 true (.ld (.t 3) 7 true), oF 43 41 1, og 44 41 true (cw Z30 [(.t 42), (.t 43)]), oF 45 41 7, og 46 41 true (cv Q5 [(.t 44), (.t 45)]), og 47 39 false (.pick (.t 41) (.t 46) (.c (.bool false))), oN 48 39 47, og 49 48 true (.ld (.t 3) 7 true), oF 50 48 2, og 51 48 true (cw Z04 [(.t 49), (.t 50)]), oF 52 48 7, og 53 48 true (cv Q5 [(.t 51), (.t 52)]), og 54 39 false (.pick (.t 48) (.t 53) (.c (.bool false))), oo 55 (.pick (.t 39) (.c (.bool true)) (.t 54))] (some [1, 2, 3, 7, 55]))
 (.cd (.t 55)
 (.sq (oP [oK 6])
 .rt)
 .sk))))
 (oP [om 14 7, oI 15 14 1, om 7 15])))
def Lm : IR := Y6
theorem Yw : evC C L π k0 Lm e s = evC C L π k0 Y6 e s := rfl
def Z0r : FnIR := ⟨56,
 (.sq (oP [oM 3 0 7, oK 6])
 (.sq (.sq (oP [oB 7 0])
 (.kp [] [6] (.bk 0 (.lp [] [1, 2, 3, 7] Lm))))
 (.sq (oP [oo 6 (.mv (.c (.bool true)))])
 .rt))),
 [.t 6]⟩
def Lu : FnIR := ⟨22,
 (.sq (.op 0 [oM 2 0 7, oM 3 1 1, oB 4 0, oB 5 0] (some [2, 3]))
 (.sq (.op 0 [oJ 9 2 7, oA 10 3 1, oo 11 (cv Vf [(.t 9), (.t 10)]), om 8 11, oL 12 8 0, oL 13 8 1, oo 6 (.alloc [.str ⟨#[]⟩, .sl 2 (some true) [], .sl 5 (some true) [], .sl 4 (some true) [], .sl 3 (some true) [], .sl 2 (some true) [], .sl 2 (some true) [], .sl 1 (some true) [], .sl 1 (some true) [], .sl 1 (some true) []]), ou (.st (.t 6) (.t 12) 10), om 7 13] (some [3, 6, 7]))
 (.sq (.sq (oP [om 14 7, oo 15 (.bin .neq (.t 14) (ki 0))])
 (.cd (.t 15)
 (.sq (oP [om 16 7, oB 4 0, om 5 16])
 .rt)
 .sk))
 (.sq (.op 0 [oA 17 3 1, oo 18 (.mkf Vw [(.t 6), (.t 3)]), oo 19 (cv Pm [(.t 17), (.t 18)]), oL 20 19 0, oL 21 19 1, om 4 20, om 5 21] (some [4, 5]))
 .rt)))),
 [.t 4, .t 5]⟩
def Z22 : FnIR := ⟨12,
 (.sq (oP [oM 2 0 7, oB 4 0])
 (.sq (.sq (.op 0 [om 5 1, oC 6 2 4, oA 7 6 1, oE 8 7, oo 9 (.bin .sub (.t 8) (ki 1)), oo 10 (cv Yf [(.t 5), (ki 0), (.t 9)]), oo 11 (.un .not (.t 10))] (some [11]))
 (.cd (.t 11)
 (.sq (oP [oB 4 6])
 .rt)
 .sk))
 (.sq (oP [oB 4 0])
 .rt))),
 [.t 4]⟩
def Gc : IR :=
 (.sq (.sq (.op 0 [om 11 5, om 12 0, oE 13 12, oG 14 11 13] (some [0, 1, 5, 14]))
 (.cd (.t 14)
 .sk
 (.ex 0)))
 (.sq (.bk 1 (.sq (.op 8 [om 17 0, om 18 5, oD 19 17 18 1, oA 20 19 1, om 21 1, om 22 5, oD 23 21 22 1, oA 24 23 1, oo 25 (.bin .neq (.t 20) (.t 24))] (some [0, 1, 5, 25]))
 (.cd (.t 25)
 (.sq (oP [oK 4])
 .rt)
 .sk)))
 (oP [om 15 5, oI 16 15 1, om 5 16])))
def Z67 : IR := Gc
theorem Z58 : evC C L π k0 Z67 e s = evC C L π k0 Gc e s := rfl
def Z9w : FnIR := ⟨26,
 (.sq (oP [oK 4])
 (.sq (.sq (.op 0 [om 6 0, oE 7 6, om 8 1, oE 9 8, oo 10 (.bin .neq (.t 7) (.t 9))] (some [0, 1, 10]))
 (.cd (.t 10)
 (.sq (oP [oK 4])
 .rt)
 .sk))
 (.sq (.sq (oP [oB 5 0])
 (.kp [] [4] (.bk 0 (.lp [] [0, 1, 5] Z67))))
 (.sq (oP [oo 4 (.mv (.c (.bool true)))])
 .rt)))),
 [.t 4]⟩
def Fi : IR :=
 (.sq (.sq (.op 0 [om 19 7, oC 20 5 2, oA 21 20 1, oE 22 21, oG 23 19 22] (some [2, 5, 6, 7, 23]))
 (.cd (.t 23)
 .sk
 (.ex 0)))
 (.sq (.bk 1 (.op 13 [om 26 6, oC 27 5 2, oA 28 27 1, om 29 7, oD 30 28 29 3, oC 31 30 1, oA 32 31 1, oC 33 5 2, oA 34 33 1, om 35 7, oD 36 34 35 3, oC 37 36 2, oA 38 37 1, oo 39 (.bsl t_int 1 false [.int .i64 0] 2 [(0, (.t 32)), (1, (.t 38))]), oo 40 (.app (.t 26) (.t 39) t_int 1), om 6 40] (some [2, 5, 6, 7])))
 (oP [om 24 7, oI 25 24 1, om 7 25])))
def Z4c : IR := Fi
theorem Z8o : evC C L π k0 Z4c e s = evC C L π k0 Fi e s := rfl
def K4 : IR :=
 (.sq (.sq (.op 0 [om 52 10, om 53 8, oE 54 53, oG 55 52 54] (some [2, 8, 9, 10, 55]))
 (.cd (.t 55)
 .sk
 (.ex 2)))
 (.sq (.bk 3 (.sq (.op 7 [om 58 8, om 59 10, oD 60 58 59 1, oA 61 60 1, oC 62 2 1, oA 63 62 1, oE 64 63, oo 65 (.bin .geq (.t 61) (.t 64))] (some [2, 8, 9, 10, 65]))
 (.cd (.t 65)
 (.op 8 [om 66 9, om 67 8, om 68 10, oD 69 67 68 1, oA 70 69 1, oC 71 2 1, oA 72 71 1, oE 73 72, oo 74 (.bin .sub (.t 70) (.t 73)), oo 75 (.bsl t_int 1 false [.int .i64 0] 1 [(0, (.t 74))]), oo 76 (.app (.t 66) (.t 75) t_int 1), om 9 76] (some [2, 8, 9, 10]))
 .sk)))
 (oP [om 56 10, oI 57 56 1, om 10 57])))
def Z4b : IR := K4
theorem Z3m : evC C L π k0 Z4b e s = evC C L π k0 K4 e s := rfl
def Zan : FnIR := ⟨78,
 (.sq (oP [oM 2 0 7, oo 4 (.mv (.c (.sl 1 (some true) [])))])
 (.sq (.op 0 [oC 11 2 4, oA 12 11 1, om 13 1, oD 14 12 13 3, oJ 15 14 3, oo 5 (.alloc [.str ⟨#[]⟩, .int .i64 0, .sl 3 (some true) []]), ou (.st (.t 5) (.t 15) 3)] (some [2, 5]))
 (.sq (.op 0 [oC 16 5 1, oA 17 16 1, oo 18 (.bsl t_int 1 false [.int .i64 0] 1 [(0, (.t 17))]), om 6 18] (some [2, 5, 6]))
 (.sq (.sq (oP [oB 7 0])
 (.kp [2, 6] [4] (.bk 0 (.lp [(t_int, .inl 6)] [2, 5, 6, 7] Z4c))))
 (.sq (.op 0 [oC 41 2 3, oA 42 41 1, om 43 6, oC 44 2 1, oA 45 44 1, oE 46 45, oC 47 2 2, oA 48 47 1, oE 49 48, oo 50 (.bin .add (.t 46) (.t 49)), oo 51 (cw Nh [(.t 42), (.t 43), (.t 50)]), om 8 51] (some [2, 8]))
 (.sq (oP [oo 9 (.mv (.c (.sl 1 (some true) [])))])
 (.sq (.sq (oP [oB 10 0])
 (.kp [9] [4] (.bk 2 (.lp [(t_int, .inl 9)] [2, 8, 9, 10] Z4b))))
 (.sq (oP [om 77 9, om 4 77])
 .rt)))))))),
 [.t 4]⟩
def Uv : IR :=
 (.sq (.sq (.op 0 [om 16 8, oC 17 2 4, oA 18 17 1, om 19 1, oD 20 18 19 3, oC 21 20 2, oA 22 21 1, oE 23 22, oG 24 16 23] (some [1, 2, 5, 6, 7, 8, 24]))
 (.cd (.t 24)
 .sk
 (.ex 2)))
 (.sq (.bk 3 (.op 0 [om 27 7, om 28 27, og 29 28 false (.fa (.t 2) 4), og 30 28 false (.ld (.t 29) 1 false), oN 31 28 1, og 32 28 false (.ia (.t 30) (.t 31) 3), og 33 28 false (.fa (.t 32) 2), og 34 28 false (.ld (.t 33) 1 false), oN 35 28 8, og 36 28 false (.ia (.t 34) (.t 35) 3), og 37 28 false (.fa (.t 36) 0), og 38 28 false (.ld (.t 37) 1 false), oN 39 28 6, og 40 28 false (.bin .eql (.t 38) (.t 39)), oo 41 (.pick (.t 28) (.c (.bool true)) (.t 40)), om 7 41] (some [1, 2, 5, 6, 7, 8])))
 (oP [om 25 8, oI 26 25 1, om 8 26])))
def Z25 : IR := Uv
theorem Hb : evC C L π k0 Z25 e s = evC C L π k0 Uv e s := rfl
def Nd : IR :=
 (.sq (.sq (.op 0 [om 9 6, oC 10 2 2, oA 11 10 1, oE 12 11, oG 13 9 12] (some [1, 2, 5, 6, 13]))
 (.cd (.t 13)
 .sk
 (.ex 0)))
 (.sq (.bk 1 (.sq (oP [oK 7])
 (.sq (.sq (oP [oB 8 0])
 (.kp [1, 2, 5, 6, 7] [4] (.bk 2 (.lp [] [1, 2, 5, 6, 7, 8] Z25))))
 (.sq (oP [om 42 7])
 (.cd (.t 42)
 (.op 0 [om 43 5, om 44 6, oo 45 (.bsl t_int 1 false [.int .i64 0] 1 [(0, (.t 44))]), oo 46 (.app (.t 43) (.t 45) t_int 1), om 5 46] (some [1, 2, 5, 6]))
 .sk)))))
 (oP [om 14 6, oI 15 14 1, om 6 15])))
def Z26 : IR := Nd
theorem Z1x : evC C L π k0 Z26 e s = evC C L π k0 Nd e s := rfl
def Z7z : FnIR := ⟨48,
 (.sq (oP [oM 2 0 7, oo 4 (.mv (.c (.sl 1 (some true) [])))])
 (.sq (oP [oo 5 (.mv (.c (.sl 1 (some true) [])))])
 (.sq (.sq (oP [oB 6 0])
 (.kp [5] [4] (.bk 0 (.lp [(t_int, .inl 5)] [1, 2, 5, 6] Z26))))
 (.sq (oP [om 47 5, om 4 47])
 .rt)))),
 [.t 4]⟩
def Hp : IR :=
 (.sq (.sq (.op 0 [om 6 4, oC 7 1 1, oA 8 7 1, oE 9 8, oG 10 6 9] (some [1, 3, 4, 10]))
 (.cd (.t 10)
 .sk
 (.ex 0)))
 (.sq (.bk 1 (.op 0 [om 13 3, oC 14 1 1, oA 15 14 1, om 16 4, oD 17 15 16 2, oC 18 17 1, oA 19 18 1, oo 20 (.bsl t_int 1 false [.int .i64 0] 1 [(0, (.t 19))]), oo 21 (.app (.t 13) (.t 20) t_int 1), om 3 21] (some [1, 3, 4])))
 (oP [om 11 4, oI 12 11 1, om 4 12])))
def Z28 : IR := Hp
theorem Z78 : evC C L π k0 Z28 e s = evC C L π k0 Hp e s := rfl
def Ho : IR :=
 (.sq (.sq (.op 0 [om 22 5, oC 23 1 2, oA 24 23 1, oE 25 24, oG 26 22 25] (some [1, 3, 5, 26]))
 (.cd (.t 26)
 .sk
 (.ex 2)))
 (.sq (.bk 3 (.op 0 [om 29 3, oC 30 1 2, oA 31 30 1, om 32 5, oD 33 31 32 5, oC 34 33 2, oA 35 34 1, oo 36 (.bsl t_int 1 false [.int .i64 0] 1 [(0, (.t 35))]), oo 37 (.app (.t 29) (.t 36) t_int 1), om 3 37] (some [1, 3, 5])))
 (oP [om 27 5, oI 28 27 1, om 5 28])))
def Z27 : IR := Ho
theorem Z77 : evC C L π k0 Z27 e s = evC C L π k0 Ho e s := rfl
def Z81 : FnIR := ⟨39,
 (.sq (oP [oM 1 0 7, oo 2 (.mv (.c (.sl 1 (some true) [])))])
 (.sq (oP [oo 3 (.mv (.c (.sl 1 (some true) [])))])
 (.sq (.sq (oP [oB 4 0])
 (.kp [1, 3] [2] (.bk 0 (.lp [(t_int, .inl 3)] [1, 3, 4] Z28))))
 (.sq (.sq (oP [oB 5 0])
 (.kp [3] [2] (.bk 2 (.lp [(t_int, .inl 3)] [1, 3, 5] Z27))))
 (.sq (oP [om 38 3, om 2 38])
 .rt))))),
 [.t 2]⟩
def U5 : IR :=
 (.sq (oP [oG 35 34 33])
 (.sq (.cd (.t 35)
 .sk
 (.ex 2))
 (.sq (.bk 3 (.sq (oP [om 36 34, om 8 36])
 (.sq (.op 0 [om 37 7, om 38 8, oo 39 (.bin .neq (.t 37) (.t 38)), om 40 39, og 41 40 true (.ld (.t 4) 10 true), oF 42 40 7, oF 43 40 8, og 44 40 true (cv Zv [(.t 41), (.t 42), (.t 43)]), oH 45 40 44] (some [4, 6, 7, 8, 28, 29, 33, 34, 45]))
 (.cd (.t 45)
 (.op 6 [om 46 6, om 47 7, oD 48 46 47 1, oA 49 48 1, om 50 8, oo 51 (.bin .shl (.c (.int .u64 1)) (.t 50)), oo 52 (.bin .or (.t 49) (.t 51)), oD 53 46 47 1, ou (.st (.t 53) (.t 52) 1)] (some [4, 6, 7, 28, 29, 33, 34]))
 .sk))))
 (oP [oI 54 34 1, om 34 54]))))
def Z13 : IR := U5
theorem Mq : evC C L π k0 Z13 e s = evC C L π k0 U5 e s := rfl
def Kb : IR :=
 (.sq (oP [oG 30 29 28])
 (.sq (.cd (.t 30)
 .sk
 (.ex 0))
 (.sq (.bk 1 (.sq (oP [om 31 29, om 7 31])
 (.sq (oP [om 32 6, oE 33 32, oB 34 0])
 (.kp [4, 6, 28, 29] [2, 3] (.bk 2 (.lp [] [4, 6, 7, 28, 29, 33, 34] Z13))))))
 (oP [oI 55 29 1, om 29 55]))))
def Z14 : IR := Kb
theorem Z5a : evC C L π k0 Z14 e s = evC C L π k0 Kb e s := rfl
def Wq : IR :=
 (.sq (oP [oG 74 73 72])
 (.sq (.cd (.t 74)
 .sk
 (.ex 6))
 (.sq (.bk 7 (.sq (oP [om 75 73, om 13 75])
 (.sq (.sq (.op 0 [om 76 11, om 77 13, oo 78 (.bin .shr (.t 76) (.t 77)), oo 79 (.bin .and (.t 78) (.c (.int .u64 1))), oo 80 (.bin .eql (.t 79) (.c (.int .u64 0)))] (some [6, 9, 10, 11, 12, 13, 62, 63, 72, 73, 80]))
 (.cd (.t 80)
 (.ex 7)
 .sk))
 (.sq (.op 0 [om 81 12, om 82 13, oo 83 (.bsl t_int 1 false [.int .i64 0] 1 [(0, (.t 82))]), oo 84 (.app (.t 81) (.t 83) t_int 1), om 12 84] (some [6, 9, 10, 11, 12, 13, 62, 63, 72, 73]))
 (.sq (.op 0 [om 85 11, om 86 13, oo 87 (.bin .shl (.c (.int .u64 1)) (.t 86)), oo 88 (.bin .andNot (.t 85) (.t 87)), om 14 88] (some [6, 9, 10, 11, 12, 13, 14, 62, 63, 72, 73]))
 (.op 0 [om 89 9, om 90 11, om 91 9, om 92 11, oD 93 91 92 1, oA 94 93 1, om 95 94, oN 96 95 14, oN 97 95 6, oN 98 95 13, og 99 95 false (.ia (.t 97) (.t 98) 1), og 100 95 false (.ld (.t 99) 1 false), og 101 95 false (.bin .andNot (.t 96) (.t 100)), og 102 95 false (.bin .eql (.t 101) (.c (.int .u64 0))), oN 103 95 102, oF 104 103 9, oF 105 103 14, og 106 103 true (.ia (.t 104) (.t 105) 1), og 107 103 true (.ld (.t 106) 1 false), og 108 95 false (.pick (.t 103) (.t 107) (.c (.bool false))), oo 109 (.pick (.t 95) (.c (.bool true)) (.t 108)), oD 110 89 90 1, ou (.st (.t 110) (.t 109) 1)] (some [6, 9, 10, 11, 12, 62, 63, 72, 73])))))))
 (oP [oI 111 73 1, om 73 111]))))
def Z11 : IR := Wq
theorem Qo : evC C L π k0 Z11 e s = evC C L π k0 Wq e s := rfl
def Ka : IR :=
 (.sq (oP [oG 64 63 62])
 (.sq (.cd (.t 64)
 .sk
 (.ex 4))
 (.sq (.bk 5 (.sq (oP [om 65 63, om 11 65])
 (.sq (oP [oo 12 (.mv (.c (.sl 1 (some true) [])))])
 (.sq (.op 0 [om 66 9, om 67 11, om 68 11, oo 69 (.bin .eql (.t 68) (.c (.int .u64 0))), oD 70 66 67 1, ou (.st (.t 70) (.t 69) 1)] (some [6, 9, 10, 11, 12, 62, 63]))
 (.sq (.sq (oP [om 71 6, oE 72 71, oB 73 0])
 (.kp [6, 9, 10, 11, 12, 62, 63] [2, 3] (.bk 6 (.lp [(t_int, .inl 12)] [6, 9, 10, 11, 12, 62, 63, 72, 73] Z11))))
 (.sq (.op 0 [om 112 9, om 113 11, oD 114 112 113 1, oA 115 114 1, om 116 115, oF 117 116 12, og 118 116 true (.len false (.t 117)), oF 119 116 10, og 120 116 true (.len false (.t 119)), og 121 116 true (.bin .gtr (.t 118) (.t 120)), oF 122 116 121, oN 123 122 12, og 124 122 false (.len false (.t 123)), oN 125 122 10, og 126 122 false (.len false (.t 125)), og 127 122 false (.bin .eql (.t 124) (.t 126)), oN 128 122 127, oF 129 128 12, oF 130 128 10, og 131 128 true (cv Vi [(.t 129), (.t 130)]), og 132 128 true (.bin .lss (.t 131) (ki 0)), og 133 122 false (.pick (.t 128) (.t 132) (.c (.bool false))), og 134 116 true (.pick (.t 122) (.c (.bool true)) (.t 133)), oH 135 116 134] (some [6, 9, 10, 12, 62, 63, 135]))
 (.cd (.t 135)
 (.fe [10] (oP [om 136 12, om 10 136]))
 .sk)))))))
 (oP [oo 137 (.bin .add (.t 63) (.c (.int .u64 1))), om 63 137]))))
def Z12 : IR := Ka
theorem Z59 : evC C L π k0 Z12 e s = evC C L π k0 Ka e s := rfl
def Z1t : FnIR := ⟨139,
 (.sq (oP [oM 1 0 7, oo 2 (.mv (.c (.sl 1 (some true) []))), oB 3 0])
 (.sq (.op 0 [oJ 16 1 7, oo 17 (cv Vf [(.t 16), (.c (.sl 1 (some true) []))]), om 15 17, oL 18 15 0, oL 19 15 1, oo 4 (.alloc [.str ⟨#[]⟩, .sl 2 (some true) [], .sl 5 (some true) [], .sl 4 (some true) [], .sl 3 (some true) [], .sl 2 (some true) [], .sl 2 (some true) [], .sl 1 (some true) [], .sl 1 (some true) [], .sl 1 (some true) []]), ou (.st (.t 4) (.t 18) 10), om 5 19] (some [1, 4, 5]))
 (.sq (.sq (oP [om 20 5, oo 21 (.bin .neq (.t 20) (ki 0))])
 (.cd (.t 21)
 (.sq (oP [om 22 5, oo 2 (.mv (.c (.sl 1 (some true) []))), om 3 22])
 .rt)
 .sk))
 (.sq (.op 0 [oC 23 1 4, oA 24 23 1, oE 25 24, oo 26 (.mks t_uint 1 false [.int .u64 0] (.t 25) (.t 25)), om 6 26] (some [4, 6]))
 (.sq (.sq (oP [om 27 6, oE 28 27, oB 29 0])
 (.kp [6] [2, 3] (.bk 0 (.lp [] [4, 6, 28, 29] Z14))))
 (.sq (.op 0 [om 56 6, oE 57 56, oo 58 (.bin .shl (ki 1) (.t 57)), oo 59 (.mks Zev 1 false [.bool false] (.t 58) (.t 58)), om 9 59] (some [6, 9]))
 (.sq (oP [oo 10 (.mv (.c (.sl 1 (some true) [])))])
 (.sq (.sq (.op 0 [om 60 9, oE 61 60, oo 62 (.conv .u64 (.t 61)), oo 63 (.mv (.c (.int .u64 0)))] (some [6, 9, 10, 62, 63]))
 (.kp [10] [2, 3] (.bk 4 (.lp [] [6, 9, 10, 62, 63] Z12))))
 (.sq (oP [om 138 10, om 2 138, oB 3 0])
 .rt))))))))),
 [.t 2, .t 3]⟩
def Pb : IR :=
 (.sq (.sq (oP [om 20 7, om 21 3, oG 22 20 21])
 (.cd (.t 22)
 .sk
 (.ex 2)))
 (.sq (.bk 3 (.sq (.op 0 [om 25 5, om 26 7, oo 27 (cv Fo [(.t 26)]), oo 28 (.bin .quo (.t 25) (.t 27)), oo 29 (.bin .rem (.t 28) (ki 2)), oo 30 (.bin .eql (.t 29) (ki 1))] (some [1, 3, 4, 5, 6, 7, 30]))
 (.cd (.t 30)
 (.op 0 [om 31 6, om 32 7, oo 33 (.bsl t_int 1 false [.int .i64 0] 1 [(0, (.t 32))]), oo 34 (.app (.t 31) (.t 33) t_int 1), om 6 34] (some [1, 3, 4, 5, 6, 7]))
 .sk)))
 (oP [om 23 7, oI 24 23 1, om 7 24])))
def Z0n : IR := Pb
theorem Fz : evC C L π k0 Z0n e s = evC C L π k0 Pb e s := rfl
def Lx : IR :=
 (.sq (.sq (.op 0 [om 14 5, om 15 3, oo 16 (cv Fo [(.t 15)]), oG 17 14 16] (some [1, 3, 4, 5, 17]))
 (.cd (.t 17)
 .sk
 (.ex 0)))
 (.sq (.bk 1 (.sq (oP [oo 6 (.mv (.c (.sl 1 (some true) [])))])
 (.sq (.sq (oP [oB 7 0])
 (.kp [1, 3, 4, 5, 6] [2] (.bk 2 (.lp [(t_int, .inl 6)] [1, 3, 4, 5, 6, 7] Z0n))))
 (.sq (.sq (.op 0 [om 35 6, oE 36 35, om 37 4, oE 38 37, oG 39 36 38, om 40 39, oN 41 40 6, og 42 40 false (.len false (.t 41)), oN 43 40 4, og 44 40 false (.len false (.t 43)), og 45 40 false (.bin .eql (.t 42) (.t 44)), oN 46 40 45, oF 47 46 6, oF 48 46 4, og 49 46 true (cv Z3u [(.t 47), (.t 48)]), og 50 46 true (.un .not (.t 49)), og 51 40 false (.pick (.t 46) (.t 50) (.c (.bool false))), oo 52 (.pick (.t 40) (.c (.bool true)) (.t 51))] (some [1, 3, 4, 5, 6, 52]))
 (.cd (.t 52)
 (.ex 1)
 .sk))
 (.sq (.op 0 [oJ 54 1 7, om 55 6, oo 56 (cw Hw [(.t 54), (.t 55)]), om 53 56, oL 57 53 0, oL 58 53 1, om 8 57, om 9 58] (some [1, 3, 4, 5, 6, 9]))
 (.sq (oP [om 59 9])
 (.cd (.t 59)
 (.fe [4] (oP [om 60 6, om 4 60]))
 .sk)))))))
 (oP [om 18 5, oI 19 18 1, om 5 19])))
def Z0o : IR := Lx
theorem Z57 : evC C L π k0 Z0o e s = evC C L π k0 Lx e s := rfl
def Z63 : FnIR := ⟨62,
 (.sq (oP [oM 1 0 7, oo 2 (.mv (.c (.sl 1 (some true) [])))])
 (.sq (.op 0 [oC 10 1 4, oA 11 10 1, oE 12 11, om 3 12] (some [1, 3]))
 (.sq (.fe [4] (oP [oo 13 (.bsl t_int 1 false [.int .i64 0] 0 []), om 4 13]))
 (.sq (.sq (oP [oB 5 0])
 (.kp [4] [2] (.bk 0 (.lp [] [1, 3, 4, 5] Z0o))))
 (.sq (oP [om 61 4, om 2 61])
 .rt))))),
 [.t 2]⟩
def W4 : IR :=
 (.sq (.sq (.op 0 [om 16 7, om 17 1, oE 18 17, oG 19 16 18] (some [1, 2, 6, 7, 19]))
 (.cd (.t 19)
 .sk
 (.ex 2)))
 (.sq (.bk 3 (.sq (.op 9 [oJ 22 2 7, om 23 1, om 24 6, oD 25 23 24 1, oA 26 25 1, om 27 1, om 28 7, oD 29 27 28 1, oA 30 29 1, oo 31 (cv Xo [(.t 22), (.t 26), (.t 30)]), oo 32 (.un .not (.t 31))] (some [1, 2, 6, 7, 32]))
 (.cd (.t 32)
 (.sq (oP [om 33 6, om 4 33, oB 5 29])
 .rt)
 .sk)))
 (oP [om 20 7, oI 21 20 1, om 7 21])))
def N0 : IR := W4
theorem Py : evC C L π k0 N0 e s = evC C L π k0 W4 e s := rfl
def Vl : IR :=
 (.sq (.sq (.op 0 [om 8 6, om 9 1, oE 10 9, oG 11 8 10] (some [1, 2, 6, 11]))
 (.cd (.t 11)
 .sk
 (.ex 0)))
 (.sq (.bk 1 (.sq (oP [om 14 6, oI 15 14 1, om 7 15])
 (.kp [1, 2, 6] [4, 5] (.bk 2 (.lp [] [1, 2, 6, 7] N0)))))
 (oP [om 12 6, oI 13 12 1, om 6 13])))
def N1 : IR := Vl
theorem F1 : evC C L π k0 N1 e s = evC C L π k0 Vl e s := rfl
def Ky : FnIR := ⟨34,
 (.sq (oP [oM 2 0 7, oB 4 0, oB 5 0])
 (.sq (.sq (oP [oB 6 0])
 (.kp [] [4, 5] (.bk 0 (.lp [] [1, 2, 6] N1))))
 (.sq (oP [oB 4 0, oB 5 0])
 .rt))),
 [.t 4, .t 5]⟩
def Xq : IR :=
 (.sq (.sq (.op 0 [om 15 8, om 16 1, oE 17 16, oG 18 15 17] (some [1, 2, 6, 7, 8, 18]))
 (.cd (.t 18)
 .sk
 (.ex 2)))
 (.sq (.bk 3 (.sq (.op 0 [om 21 1, om 22 8, oD 23 21 22 1, oA 24 23 1, om 9 24] (some [1, 2, 6, 7, 8, 9]))
 (.sq (.op 0 [om 25 6, om 26 9, oo 27 (cv Q5 [(.t 25), (.t 26)]), oo 28 (.un .not (.t 27)), om 29 28, og 30 29 true (.ld (.t 2) 7 true), oF 31 29 1, oF 32 29 6, oF 33 29 9, og 34 29 true (cv Z1h [(.t 30), (.t 31), (.t 32), (.t 33)]), oH 35 29 34, om 36 35, oF 37 36 7, og 38 36 true (.bin .lss (.t 37) (ki 0)), oF 39 36 38, oN 40 39 9, oN 41 39 7, og 42 39 false (.bin .lss (.t 40) (.t 41)), og 43 36 true (.pick (.t 39) (.c (.bool true)) (.t 42)), oH 44 36 43] (some [1, 2, 6, 7, 8, 9, 44]))
 (.cd (.t 44)
 (oP [om 45 9, om 7 45])
 .sk))))
 (oP [om 19 8, oI 20 19 1, om 8 20])))
def Z0l : IR := Xq
theorem Vn : evC C L π k0 Z0l e s = evC C L π k0 Xq e s := rfl
def Lw : IR :=
 (.sq (.sq (.op 0 [om 10 6, oE 11 10, om 12 1, oE 13 12, oG 14 11 13] (some [1, 2, 6, 14]))
 (.cd (.t 14)
 .sk
 (.ex 0)))
 (.bk 1 (.sq (oP [oo 7 (.mv (ki (-1)))])
 (.sq (.sq (oP [oB 8 0])
 (.kp [1, 2, 6, 7] [4, 5] (.bk 2 (.lp [] [1, 2, 6, 7, 8] Z0l))))
 (.sq (.sq (oP [om 46 7, oo 47 (.bin .lss (.t 46) (ki 0))])
 (.cd (.t 47)
 (.sq (oP [oo 4 (.mv (.c (.sl 1 (some true) []))), oK 5])
 .rt)
 .sk))
 (.op 0 [om 48 6, om 49 7, oo 50 (.bsl t_int 1 false [.int .i64 0] 1 [(0, (.t 49))]), oo 51 (.app (.t 48) (.t 50) t_int 1), om 6 51] (some [1, 2, 6])))))))
def Z0m : IR := Lw
theorem Z56 : evC C L π k0 Z0m e s = evC C L π k0 Lw e s := rfl
def Z62 : FnIR := ⟨53,
 (.sq (oP [oM 2 0 7, oo 4 (.mv (.c (.sl 1 (some true) []))), oK 5])
 (.sq (oP [oo 6 (.mv (.c (.sl 1 (some true) [])))])
 (.sq (.kp [6] [4, 5] (.bk 0 (.lp [(t_int, .inl 6)] [1, 2, 6] Z0m)))
 (.sq (oP [om 52 6, om 4 52, oo 5 (.mv (.c (.bool true)))])
 .rt)))),
 [.t 4, .t 5]⟩
def Pc : IR :=
 (.sq (.sq (.op 0 [om 7 5, om 8 1, oE 9 8, oo 10 (.bin .leq (.t 7) (.t 9))] (some [1, 2, 5, 10]))
 (.cd (.t 10)
 .sk
 (.ex 0)))
 (.sq (.bk 1 (.sq (.op 0 [oJ 13 2 7, om 14 1, om 15 5, oo 16 (cw Ph [(.t 13), (.t 14), (.c (.sl 1 (some true) [])), (.t 15)]), om 6 16] (some [1, 2, 5, 6]))
 (.sq (oP [om 17 6, oo 18 (.isnil true true (.t 17))])
 (.cd (.t 18)
 (.sq (oP [om 19 6, om 4 19])
 .rt)
 .sk))))
 (oP [om 11 5, oI 12 11 1, om 5 12])))
def Z0p : IR := Pc
theorem Z00 : evC C L π k0 Z0p e s = evC C L π k0 Pc e s := rfl
def Z64 : FnIR := ⟨20,
 (.sq (oP [oM 2 0 7, oo 4 (.mv (.c (.sl 1 (some true) [])))])
 (.sq (.sq (oP [oB 5 2])
 (.kp [] [4] (.bk 0 (.lp [] [1, 2, 5] Z0p))))
 (.sq (oP [oo 4 (.mv (.c (.sl 1 (some true) [])))])
 .rt))),
 [.t 4]⟩
def Zhp : FnIR := ⟨30,
 (.sq (oP [oo 0 (.alloc [.str ⟨#[]⟩, .sl 2 (some true) [], .sl 5 (some true) [], .sl 4 (some true) [], .sl 3 (some true) [], .sl 2 (some true) [], .sl 2 (some true) []])])
 (.sq (.op 0 [oo 1 (.build [.str ⟨#[]⟩, .int .i64 0] [(0, 1, (.c (.str ⟨#[103]⟩))), (1, 1, (ki 1))]), oo 2 (.bsl Fm 2 true [.str ⟨#[]⟩, .int .i64 0] 1 [(0, (.t 1))]), oo 3 (.build [.str ⟨#[]⟩, .int .i64 0, .int .i64 0, .int .i64 0, .int .i64 0] [(0, 1, (.c (.str ⟨#[120]⟩))), (2, 1, (ki 2))]), oo 4 (.build [.str ⟨#[]⟩, .int .i64 0, .int .i64 0, .int .i64 0, .int .i64 0] [(0, 1, (.c (.str ⟨#[121]⟩))), (2, 1, (ki 2)), (3, 1, (ki 1))]), oo 5 (.bsl Mr 5 true [.str ⟨#[]⟩, .int .i64 0, .int .i64 0, .int .i64 0, .int .i64 0] 2 [(0, (.t 3)), (1, (.t 4))]), oo 6 (.build [.int .i64 0, .int .i64 0, .sl 1 (some true) [], .int .i64 0] [(0, 1, (ki 1)), (1, 1, (ki 1))]), oo 7 (.build [.int .i64 0, .int .i64 0, .sl 1 (some true) [], .int .i64 0] [(0, 1, (ki 1)), (1, 1, (ki 2)), (3, 1, (ki 1))]), oo 8 (.build [.int .i64 0, .int .i64 0, .sl 1 (some true) [], .int .i64 0] [(0, 1, (ki 1)), (1, 1, (ki 2)), (3, 1, (ki 2))]), oo 9 (.bsl t_int 1 false [.int .i64 0] 1 [(0, (ki 0))]), oo 10 (.build [.int .i64 0, .int .i64 0, .sl 1 (some true) [], .int .i64 0] [(0, 1, (ki 2)), (1, 1, (ki 1)), (2, 1, (.t 9))]), oo 11 (.build [.int .i64 0, .int .i64 0, .sl 1 (some true) [], .int .i64 0] [(0, 1, (ki 0)), (1, 1, (ki 1)), (3, 1, (ki 1))]), oo 12 (.build [.int .i64 0, .int .i64 0, .sl 1 (some true) [], .int .i64 0] [(0, 1, (ki 0)), (1, 1, (ki 2)), (3, 1, (ki 1))]), oo 13 (.bsl t_int 1 false [.int .i64 0] 2 [(0, (ki 1)), (1, (ki 5))]), oo 14 (.build [.int .i64 0, .int .i64 0, .sl 1 (some true) [], .int .i64 0] [(0, 1, (ki 6)), (1, 1, (ki 2)), (2, 1, (.t 13))]), oo 15 (.bsl Kf 4 true [.int .i64 0, .int .i64 0, .sl 1 (some true) [], .int .i64 0] 7 [(0, (.t 6)), (1, (.t 7)), (2, (.t 8)), (3, (.t 10)), (4, (.t 11)), (5, (.t 12)), (6, (.t 14))]), oo 16 (.build [.int .i64 0, .int .i64 0, .int .i64 0] [(0, 1, (ki 0)), (1, 1, (ki 4)), (2, 1, (ki 6))]), oo 17 (.bsl Ke 3 true [.int .i64 0, .int .i64 0, .int .i64 0] 1 [(0, (.t 16))]), oo 18 (.build [.str ⟨#[]⟩, .int .i64 0, .sl 3 (some true) []] [(0, 1, (.c (.str ⟨#[117, 112]⟩))), (1, 1, (ki 0)), (2, 1, (.t 17))]), oo 19 (.build [.int .i64 0, .int .i64 0, .int .i64 0] [(0, 1, (ki 1)), (1, 1, (ki 4)), (2, 1, (ki 1))]), oo 20 (.bsl Ke 3 true [.int .i64 0, .int .i64 0, .int .i64 0] 1 [(0, (.t 19))]), oo 21 (.build [.str ⟨#[]⟩, .int .i64 0, .sl 3 (some true) []] [(0, 1, (.c (.str ⟨#[99, 111, 112, 121]⟩))), (1, 1, (ki 3)), (2, 1, (.t 20))]), oo 22 (.build [.int .i64 0, .int .i64 0, .int .i64 0] [(0, 1, (ki 0)), (1, 1, (ki 4)), (2, 1, (ki 2))]), oo 23 (.build [.int .i64 0, .int .i64 0, .int .i64 0] [(0, 1, (ki 1)), (1, 1, (ki 4)), (2, 1, (ki 1))]), oo 24 (.bsl Ke 3 true [.int .i64 0, .int .i64 0, .int .i64 0] 2 [(0, (.t 22)), (1, (.t 23))]), oo 25 (.build [.str ⟨#[]⟩, .int .i64 0, .sl 3 (some true) []] [(0, 1, (.c (.str ⟨#[115, 119, 97, 112]⟩))), (1, 1, (ki 4)), (2, 1, (.t 24))]), oo 26 (.bsl Fl 3 true [.str ⟨#[]⟩, .int .i64 0, .sl 3 (some true) []] 3 [(0, (.t 18)), (1, (.t 21)), (2, (.t 25))]), oo 27 (.build [.str ⟨#[]⟩, .int .i64 0] [(0, 1, (.c (.str ⟨#[111]⟩))), (1, 1, (ki 2))]), oo 28 (.bsl M9 2 true [.str ⟨#[]⟩, .int .i64 0] 1 [(0, (.t 27))]), oo 29 (.build [.str ⟨#[]⟩, .sl 2 (some true) [], .sl 5 (some true) [], .sl 4 (some true) [], .sl 3 (some true) [], .sl 2 (some true) [], .sl 2 (some true) []] [(0, 1, (.c (.str ⟨#[100]⟩))), (1, 1, (.t 2)), (2, 1, (.t 5)), (3, 1, (.t 15)), (4, 1, (.t 26)), (5, 1, (.t 28))]), ou (.st (.t 0) (.t 29) 7)] (some [0]))
 .rt)),
 [.c 0 7 true]⟩
def Za4 : IR :=
 (oP [om 11 26])
def Za1 : IR := Za4
def Za3 : IR :=
 (.bk 1 (.sq (.fz [11, 26] (.op 0 [oJ 27 8 8, oA 28 4 1, oA 29 5 1, om 30 11, oo 31 (cv Zbg [(.t 27), (.t 28), (.t 29), (.t 30)])] (some [6, 7, 11, 31])))
 (.cd (.t 31)
 (.sq (oP [om 32 11, ou (.st (.t 6) (.t 32) 1), ou (.st (.t 7) (ki 0) 1)])
 .rt)
 .sk)))
def Za0 : IR := Za3
def Zet : FnIR := ⟨33,
 (.sq (oP [oM 3 0 7, oM 4 1 1, oM 5 2 1, oo 6 (.alloc [.sl 1 (some true) []]), oo 7 (.alloc [.int .i64 0])])
 (.sq (.op 0 [oJ 13 3 7, oA 14 4 1, oA 15 5 1, oo 16 (cw Z5i [(.t 13), (.t 14), (.t 15)]), om 12 16, oL 17 12 0, oL 18 12 1, oL 19 12 2, oo 8 (.alloc [.str ⟨#[]⟩, .sl 2 (some true) [], .sl 5 (some true) [], .sl 4 (some true) [], .sl 3 (some true) [], .sl 2 (some true) [], .sl 2 (some true) [], .sl 1 (some true) []]), ou (.st (.t 8) (.t 17) 8), om 9 18, om 10 19] (some [4, 5, 6, 7, 8, 9, 10]))
 (.sq (.sq (oP [om 20 10, oo 21 (.bin .neq (.t 20) (ki 0))])
 (.cd (.t 21)
 (.sq (oP [om 22 10, ou (.st (.t 6) (.c (.sl 1 (some true) [])) 1), ou (.st (.t 7) (.t 22) 1)])
 .rt)
 .sk))
 (.sq (.sq (.kp [4, 5, 6, 7, 8, 25] [6, 7] (oP [oJ 23 8 8, om 24 9, oo 25 (cw Z7c [(.t 23), (.t 24)])]))
 (.bk 0 (.kp [6, 7] [6, 7] (.rf (.t 25) 33 0 [4, 5, 6, 7, 8] [26] Za1 Za0))))
 (.sq (oP [ou (.st (.t 6) (.c (.sl 1 (some true) [])) 1), ou (.st (.t 7) (ki 12) 1)])
 .rt))))),
 [.c 6 1 false, .c 7 1 false]⟩
def c_cf_openTwo : FnIR := ⟨26,
 (.sq (oP [oM 3 0 7, oo 6 (.alloc [.str ⟨#[]⟩, .sl 2 (some true) [], .sl 5 (some true) [], .sl 4 (some true) [], .sl 3 (some true) [], .sl 2 (some true) [], .sl 2 (some true) [], .sl 1 (some true) []]), oB 7 0])
 (.sq (.op 0 [oJ 11 3 7, om 12 1, om 13 2, oo 14 (.bsp t_int 1 false [.int .i64 0] 2 [(0, (.t 12)), (1, (.t 13))]), oo 15 (cv Z3c [(.t 11), (.t 14)]), om 10 15, oL 16 10 0, oL 17 10 1, oo 8 (.alloc [.str ⟨#[]⟩, .sl 2 (some true) [], .sl 5 (some true) [], .sl 4 (some true) [], .sl 3 (some true) [], .sl 2 (some true) [], .sl 2 (some true) [], .sl 1 (some true) []]), ou (.st (.t 8) (.t 16) 8), om 9 17] (some [1, 2, 6, 8, 9]))
 (.sq (.op 8 [oJ 18 8 8, om 19 9, om 20 1, om 21 2, oo 22 (.bin .neq (.t 20) (.t 21)), oo 23 (cv Ve [(.t 22), (ki 23)]), oo 24 (.bsp Y8 1 false [.int .i64 0] 2 [(0, (.t 19)), (1, (.t 23))]), oo 25 (cv Km [(.t 24)]), ou (.st (.t 6) (.t 18) 8), om 7 25] (some [6, 7]))
 .rt))),
 [.c 6 8 true, .t 7]⟩
def Pu : IR :=
 (.sq (oP [oG 12 11 10])
 (.sq (.cd (.t 12)
 .sk
 (.ex 0))
 (.sq (.bk 1 (.sq (oP [om 13 11, om 4 13])
 (.op 15 [oC 14 3 8, oA 15 14 1, oJ 16 1 8, om 17 4, oo 18 (cv L2 [(.t 16), (.t 17)]), oo 19 (.bsl V0 1 false [.sl 1 (some true) []] 1 [(0, (.t 18))]), oo 20 (.apx (.t 15) (.t 19) V0 1 [0, 1, 2, 3, 4, 5]), oC 21 3 9, oA 22 21 1, oJ 23 1 8, om 24 4, oo 25 (cv N8 [(.t 23), (.t 24)]), oo 26 (.bsl V0 1 false [.sl 1 (some true) []] 1 [(0, (.t 25))]), oo 27 (.apx (.t 22) (.t 26) V0 1 [0, 1, 2, 3, 4, 5, 6, 7, 8, 9, 10, 11, 12]), oC 28 3 8, ou (.st (.t 28) (.t 20) 1), oC 29 3 9, ou (.st (.t 29) (.t 27) 1)] (some [1, 2, 3, 10, 11]))))
 (oP [oI 30 11 1, om 11 30]))))
def U3 : IR := Pu
theorem Z2u : evC C L π k0 U3 e s = evC C L π k0 Pu e s := rfl
def Z2m : FnIR := ⟨32,
 (.sq (oP [oM 1 0 8, oo 2 (.alloc [.str ⟨#[]⟩, .sl 2 (some true) [], .sl 5 (some true) [], .sl 4 (some true) [], .sl 3 (some true) [], .sl 2 (some true) [], .sl 2 (some true) [], .sl 1 (some true) [], .sl 1 (some true) [], .sl 1 (some true) []])])
 (.sq (.op 0 [oJ 5 1 8, oo 6 (.build [.str ⟨#[]⟩, .sl 2 (some true) [], .sl 5 (some true) [], .sl 4 (some true) [], .sl 3 (some true) [], .sl 2 (some true) [], .sl 2 (some true) [], .sl 1 (some true) [], .sl 1 (some true) [], .sl 1 (some true) []] [(0, 8, (.t 5))]), oo 3 (.alloc [.str ⟨#[]⟩, .sl 2 (some true) [], .sl 5 (some true) [], .sl 4 (some true) [], .sl 3 (some true) [], .sl 2 (some true) [], .sl 2 (some true) [], .sl 1 (some true) [], .sl 1 (some true) [], .sl 1 (some true) []]), ou (.st (.t 3) (.t 6) 10)] (some [1, 2, 3]))
 (.sq (.sq (.op 0 [oC 7 1 0, oC 8 7 4, oA 9 8 1, oE 10 9, oB 11 0] (some [1, 2, 3, 10, 11]))
 (.kp [2, 3] [2] (.bk 0 (.lp [(V0, .inr (3, 8)), (V0, .inr (3, 9))] [1, 2, 3, 10, 11] U3))))
 (.sq (oP [oJ 31 3 10, ou (.st (.t 2) (.t 31) 10)])
 .rt)))),
 [.c 2 10 true]⟩
def Zbw : FnIR := ⟨48,
 (.sq (oP [oM 3 0 10, oM 5 2 1, oB 6 0])
 (.sq (.op 7 [oJ 10 3 10, om 11 1, oA 12 5 1, oo 13 (cv Zv [(.t 10), (.t 11), (.t 12)]), oJ 14 3 10, oA 15 5 1, om 16 1, oo 17 (cv Zv [(.t 14), (.t 15), (.t 16)]), om 7 13, om 8 17] (some [1, 3, 5, 7, 8]))
 (.sq (.op 0 [oC 18 3 9, oA 19 18 1, om 20 1, oD 21 19 20 1, oA 22 21 1, oo 23 (.mkf Z1l [(.t 3), (.t 5)]), oo 24 (cv Ym [(.t 22), (.t 23)]), om 9 24] (some [1, 5, 7, 8, 9]))
 (.sq (.bk 0 (.sq (.op 0 [om 26 1, oA 27 5 1, oo 28 (.bin .eql (.t 26) (.t 27)), om 29 28, oN 30 29 7, og 31 29 false (.un .not (.t 30)), oN 32 29 31, oF 33 32 8, og 34 32 true (.un .not (.t 33)), og 35 29 false (.pick (.t 32) (.t 34) (.c (.bool false))), oo 36 (.pick (.t 29) (.c (.bool true)) (.t 35)), om 25 36] (some [7, 8, 9, 25]))
 (.cd (.t 25)
 (.sq (oP [oB 6 4])
 .rt)
 (.sq (.op 0 [om 38 7, om 39 38, oF 40 39 8, og 41 39 true (.un .not (.t 40)), oH 42 39 41, om 37 42] (some [7, 9, 37]))
 (.cd (.t 37)
 (.sq (oP [oB 6 2])
 .rt)
 (.sq (oP [om 44 7, oo 45 (.un .not (.t 44)), om 43 45])
 (.cd (.t 43)
 (.sq (oP [oB 6 3])
 .rt)
 (.sq (oP [om 47 9, om 46 47])
 (.cd (.t 46)
 (.sq (oP [oB 6 1])
 .rt)
 .sk)))))))))
 (.sq (oP [oB 6 0])
 .rt))))),
 [.t 6]⟩
def Hn : FnIR := ⟨6,
 (.sq (oP [oo 2 (.mv (.c (.sl 2 (some true) [])))])
 (.sq (.op 0 [oo 3 (.bsl Fm 2 true [.str ⟨#[]⟩, .int .i64 0] 0 []), om 4 0, oo 5 (.app (.t 3) (.t 4) Fm 2), om 2 5] (some [2]))
 .rt)),
 [.t 2]⟩
def Ps : IR :=
 (.sq (.sq (.op 0 [om 8 4, om 9 0, oE 10 9, oG 11 8 10] (some [0, 3, 4, 11]))
 (.cd (.t 11)
 .sk
 (.ex 0)))
 (.sq (.bk 1 (.sq (.op 0 [om 14 3, om 15 4, om 16 0, om 17 4, oD 18 16 17 4, oJ 19 18 4, oD 20 14 15 4, ou (.st (.t 20) (.t 19) 4)] (some [0, 3, 4]))
 (.op 0 [om 21 3, om 22 4, om 23 0, om 24 4, oD 25 23 24 4, oC 26 25 2, oA 27 26 1, oo 28 (cv Xk [(.t 27)]), oD 29 21 22 4, oC 30 29 2, ou (.st (.t 30) (.t 28) 1)] (some [0, 3, 4]))))
 (oP [om 12 4, oI 13 12 1, om 4 13])))
def H5 : IR := Ps
theorem Z2s : evC C L π k0 H5 e s = evC C L π k0 Ps e s := rfl
def Z2a : FnIR := ⟨32,
 (.sq (oP [oo 2 (.mv (.c (.sl 4 (some true) [])))])
 (.sq (.op 0 [om 5 0, oE 6 5, oo 7 (.mks Kf 4 true [.int .i64 0, .int .i64 0, .sl 1 (some true) [], .int .i64 0] (.t 6) (.t 6)), om 3 7] (some [0, 3]))
 (.sq (.sq (oP [oB 4 0])
 (.kp [3] [2] (.bk 0 (.lp [] [0, 3, 4] H5))))
 (.sq (oP [om 31 3, om 2 31])
 .rt)))),
 [.t 2]⟩
def Nn : FnIR := ⟨6,
 (.sq (oP [oo 2 (.mv (.c (.sl 2 (some true) [])))])
 (.sq (.op 0 [oo 3 (.bsl M9 2 true [.str ⟨#[]⟩, .int .i64 0] 0 []), om 4 0, oo 5 (.app (.t 3) (.t 4) M9 2), om 2 5] (some [2]))
 .rt)),
 [.t 2]⟩
def Ln : FnIR := ⟨6,
 (.sq (oP [oo 2 (.mv (.c (.sl 3 (some true) [])))])
 (.sq (.op 0 [oo 3 (.bsl Ke 3 true [.int .i64 0, .int .i64 0, .int .i64 0] 0 []), om 4 0, oo 5 (.app (.t 3) (.t 4) Ke 3), om 2 5] (some [2]))
 .rt)),
 [.t 2]⟩
def Z1w : IR :=
 (.sq (oP [oG 24 23 22])
 (.sq (.cd (.t 24)
 .sk
 (.ex 0))
 (.sq (.bk 1 (.sq (.op 0 [oD 25 21 23 2, oJ 26 25 2, oo 10 (.alloc [.str ⟨#[]⟩, .int .i64 0]), ou (.st (.t 10) (.t 26) 2)] (some [1, 2, 4, 7, 8, 10, 21, 22, 23]))
 (.op 0 [oC 27 8 7, oA 28 27 1, oC 29 10 1, oA 30 29 1, oo 31 (.bsl t_int 1 false [.int .i64 0] 1 [(0, (.t 30))]), oo 32 (.app (.t 28) (.t 31) t_int 1), oC 33 8 7, ou (.st (.t 33) (.t 32) 1)] (some [1, 2, 4, 7, 8, 21, 22, 23]))))
 (oP [oI 34 23 1, om 23 34]))))
def Z6f : IR := Z1w
theorem Zbc : evC C L π k0 Z6f e s = evC C L π k0 Z1w e s := rfl
def Z1v : IR :=
 (.sq (oP [oG 39 38 37])
 (.sq (.cd (.t 39)
 .sk
 (.ex 2))
 (.sq (.bk 3 (.sq (.op 0 [oD 40 36 38 5, oJ 41 40 5, oo 12 (.alloc [.str ⟨#[]⟩, .int .i64 0, .int .i64 0, .int .i64 0, .int .i64 0]), ou (.st (.t 12) (.t 41) 5)] (some [1, 4, 7, 8, 12, 36, 37, 38]))
 (.op 0 [oC 42 8 7, oA 43 42 1, oC 44 12 2, oA 45 44 1, oo 46 (.bsl t_int 1 false [.int .i64 0] 1 [(0, (.t 45))]), oo 47 (.app (.t 43) (.t 46) t_int 1), oC 48 8 7, ou (.st (.t 48) (.t 47) 1)] (some [1, 4, 7, 8, 36, 37, 38]))))
 (oP [oI 49 38 1, om 38 49]))))
def Z6e : IR := Z1v
theorem Zbb : evC C L π k0 Z6e e s = evC C L π k0 Z1v e s := rfl
def Ze3 : FnIR := ⟨60,
 (.sq (oP [oM 2 0 7, oo 4 (.alloc [.str ⟨#[]⟩, .sl 2 (some true) [], .sl 5 (some true) [], .sl 4 (some true) [], .sl 3 (some true) [], .sl 2 (some true) [], .sl 2 (some true) [], .sl 1 (some true) []]), oB 5 0])
 (.sq (.op 0 [oJ 14 2 7, oo 15 (cv Z6m [(.t 14)]), om 13 15, oL 16 13 0, oL 17 13 1, om 6 16, om 7 17] (some [1, 2, 4, 7]))
 (.sq (.op 0 [oJ 18 2 7, oo 19 (.build [.str ⟨#[]⟩, .sl 2 (some true) [], .sl 5 (some true) [], .sl 4 (some true) [], .sl 3 (some true) [], .sl 2 (some true) [], .sl 2 (some true) [], .sl 1 (some true) []] [(0, 7, (.t 18))]), oo 8 (.alloc [.str ⟨#[]⟩, .sl 2 (some true) [], .sl 5 (some true) [], .sl 4 (some true) [], .sl 3 (some true) [], .sl 2 (some true) [], .sl 2 (some true) [], .sl 1 (some true) []]), ou (.st (.t 8) (.t 19) 8)] (some [1, 2, 4, 7, 8]))
 (.sq (.sq (.op 0 [oC 20 2 1, oA 21 20 1, oE 22 21, oB 23 0] (some [1, 2, 4, 7, 8, 21, 22, 23]))
 (.kp [1, 2, 4, 7, 8] [4, 5] (.bk 0 (.lp [(t_int, .inr (8, 7))] [1, 2, 4, 7, 8, 21, 22, 23] Z6f))))
 (.sq (.sq (.op 0 [oC 35 2 2, oA 36 35 1, oE 37 36, oB 38 0] (some [1, 4, 7, 8, 36, 37, 38]))
 (.kp [1, 4, 7, 8] [4, 5] (.bk 2 (.lp [(t_int, .inr (8, 7))] [1, 4, 7, 8, 36, 37, 38] Z6e))))
 (.sq (.sq (oP [om 50 7, oo 51 (.bin .eql (.t 50) (ki 0))])
 (.cd (.t 51)
 (.op 0 [om 53 1, oo 54 (.mkf Z0a [(.t 8)]), oo 55 (cv Pm [(.t 53), (.t 54)]), om 52 55, oL 56 52 0, oL 57 52 1, om 7 57] (some [4, 7, 8]))
 .sk))
 (.sq (.op 0 [oJ 58 8 8, om 59 7, ou (.st (.t 4) (.t 58) 8), om 5 59] (some [4, 5]))
 .rt))))))),
 [.c 4 8 true, .t 5]⟩
def U4 : IR :=
 (.sq (.sq (oP [om 78 12, om 79 10, oG 80 78 79])
 (.cd (.t 80)
 .sk
 (.ex 2)))
 (.sq (.bk 3 (.sq (.op 8 [oC 83 1 4, oA 84 83 1, om 85 12, oD 86 84 85 3, oC 87 86 0, oA 88 87 1, oC 89 11 0, oA 90 89 1, oo 91 (.bin .eql (.t 88) (.t 90))] (some [1, 10, 11, 12, 91]))
 (.cd (.t 91)
 (.sq (oP [om 92 10, om 2 92, oB 3 5])
 .rt)
 .sk)))
 (oP [om 81 12, oI 82 81 1, om 12 82])))
def H3 : IR := U4
theorem Kd : evC C L π k0 H3 e s = evC C L π k0 U4 e s := rfl
def Yt : IR :=
 (.sq (.sq (.op 0 [om 61 10, oC 62 1 4, oA 63 62 1, oE 64 63, oG 65 61 64] (some [1, 10, 65]))
 (.cd (.t 65)
 .sk
 (.ex 0)))
 (.sq (.bk 1 (.sq (.op 0 [oC 68 1 4, oA 69 68 1, om 70 10, oD 71 69 70 3, oJ 72 71 3, oo 11 (.alloc [.str ⟨#[]⟩, .int .i64 0, .sl 3 (some true) []]), ou (.st (.t 11) (.t 72) 3)] (some [1, 10, 11]))
 (.sq (.sq (.op 0 [oC 73 11 0, oA 74 73 1, oo 75 (cv Qt [(.t 74)]), oo 76 (.un .not (.t 75))] (some [1, 10, 11, 76]))
 (.cd (.t 76)
 (.sq (oP [om 77 10, om 2 77, oB 3 4])
 .rt)
 .sk))
 (.sq (.sq (oP [oB 12 0])
 (.kp [1, 10, 11] [2, 3] (.bk 2 (.lp [] [1, 10, 11, 12] H3))))
 (.sq (.sq (.op 0 [oC 93 1 3, oA 94 93 1, oC 95 11 1, oA 96 95 1, oo 97 (cv Ui [(.t 94), (.t 96)]), oo 98 (.un .not (.t 97))] (some [1, 10, 11, 98]))
 (.cd (.t 98)
 (.sq (oP [om 99 10, om 2 99, oB 3 9])
 .rt)
 .sk))
 (.sq (.op 0 [oC 100 1 2, oA 101 100 1, oC 102 1 3, oA 103 102 1, oC 104 11 2, oA 105 104 1, oo 106 (cv Hg [(.t 101), (.t 103), (.t 105)]), om 13 106] (some [1, 10, 13]))
 (.sq (oP [om 107 13, oo 108 (.bin .neq (.t 107) (ki 0))])
 (.cd (.t 108)
 (.sq (.op 0 [om 109 10, om 110 13, om 2 109, om 3 110] (some [2, 3]))
 .rt)
 .sk))))))))
 (oP [om 66 10, oI 67 66 1, om 10 67])))
def H4 : IR := Yt
theorem Wb : evC C L π k0 H4 e s = evC C L π k0 Yt e s := rfl
def We : IR :=
 (.sq (.sq (.op 0 [om 155 18, oC 156 17 1, oA 157 156 1, oE 158 157, oG 159 155 158] (some [1, 16, 17, 18, 159]))
 (.cd (.t 159)
 .sk
 (.ex 6)))
 (.sq (.bk 7 (.sq (.sq (.op 9 [oC 162 17 1, oA 163 162 1, om 164 18, oD 165 163 164 1, oA 166 165 1, oC 167 1 4, oA 168 167 1, oE 169 168, oo 170 (.bin .sub (.t 169) (ki 1)), oo 171 (cv Yf [(.t 166), (ki 0), (.t 170)]), oo 172 (.un .not (.t 171))] (some [1, 16, 17, 18, 172]))
 (.cd (.t 172)
 (.sq (oP [om 173 16, om 2 173, oB 3 6])
 .rt)
 .sk))
 (.sq (.op 9 [oC 174 17 1, oA 175 174 1, om 176 18, oo 177 (.slc false (.t 175) none (some (.t 176)) 1), oC 178 17 1, oA 179 178 1, om 180 18, oD 181 179 180 1, oA 182 181 1, oo 183 (cv Q5 [(.t 177), (.t 182)])] (some [1, 16, 17, 18, 183]))
 (.cd (.t 183)
 (.sq (oP [om 184 16, om 2 184, oB 3 23])
 .rt)
 .sk))))
 (oP [om 160 18, oI 161 160 1, om 18 161])))
def H1 : IR := We
theorem Pg : evC C L π k0 H1 e s = evC C L π k0 We e s := rfl
def Ys : IR :=
 (.sq (.sq (.op 0 [om 127 16, oC 128 1 6, oA 129 128 1, oE 130 129, oG 131 127 130] (some [1, 16, 131]))
 (.cd (.t 131)
 .sk
 (.ex 4)))
 (.sq (.bk 5 (.sq (.op 0 [oC 134 1 6, oA 135 134 1, om 136 16, oD 137 135 136 2, oJ 138 137 2, oo 17 (.alloc [.int .i64 0, .sl 1 (some true) []]), ou (.st (.t 17) (.t 138) 2)] (some [1, 16, 17]))
 (.sq (.sq (.op 0 [oC 139 17 0, oA 140 139 1, oo 141 (cv Yf [(.t 140), (ki 0), (ki 3)]), oo 142 (.un .not (.t 141))] (some [1, 16, 17, 142]))
 (.cd (.t 142)
 (.sq (oP [om 143 16, om 2 143, oB 3 15])
 .rt)
 .sk))
 (.sq (.sq (.op 0 [oC 144 17 1, oA 145 144 1, oE 146 145, oo 147 (.bin .eql (.t 146) (ki 0)), om 148 147, og 149 148 false (.fa (.t 17) 1), og 150 148 false (.ld (.t 149) 1 false), og 151 148 false (.len false (.t 150)), og 152 148 false (.bin .gtr (.t 151) (ki 16)), oo 153 (.pick (.t 148) (.c (.bool true)) (.t 152))] (some [1, 16, 17, 153]))
 (.cd (.t 153)
 (.sq (oP [om 154 16, om 2 154, oB 3 10])
 .rt)
 .sk))
 (.sq (oP [oB 18 0])
 (.kp [1, 16] [2, 3] (.bk 6 (.lp [] [1, 16, 17, 18] H1))))))))
 (oP [om 132 16, oI 133 132 1, om 16 133])))
def H2 : IR := Ys
theorem Wa : evC C L π k0 H2 e s = evC C L π k0 Ys e s := rfl
def Yk : FnIR := ⟨185,
 (.sq (oP [oM 1 0 7, oB 2 0, oB 3 0])
 (.sq (.sq (.op 0 [oC 19 1 0, oA 20 19 1, oo 21 (cv Qt [(.t 20)]), oo 22 (.un .not (.t 21))] (some [1, 22]))
 (.cd (.t 22)
 (.sq (oP [oB 2 0, oB 3 4])
 .rt)
 .sk))
 (.sq (.sq (.op 0 [oC 24 1 1, oA 25 24 1, oo 26 (cv F5 [(.t 25)]), om 23 26, oL 27 23 0, oL 28 23 1, om 4 27, om 5 28] (some [1, 4, 5]))
 (.sq (oP [om 29 5, oo 30 (.bin .neq (.t 29) (ki 0))])
 (.cd (.t 30)
 (.sq (.op 0 [om 31 4, om 32 5, om 2 31, om 3 32] (some [2, 3]))
 .rt)
 .sk)))
 (.sq (.sq (.op 0 [oC 34 1 1, oA 35 34 1, oC 36 1 2, oA 37 36 1, oo 38 (cv Ni [(.t 35), (.t 37)]), om 33 38, oL 39 33 0, oL 40 33 1, om 6 39, om 7 40] (some [1, 6, 7]))
 (.sq (oP [om 41 7, oo 42 (.bin .neq (.t 41) (ki 0))])
 (.cd (.t 42)
 (.sq (.op 0 [om 43 6, om 44 7, om 2 43, om 3 44] (some [2, 3]))
 .rt)
 .sk)))
 (.sq (.sq (.op 9 [oJ 46 1 7, oo 47 (cv Z3t [(.t 46)]), oC 48 1 3, oA 49 48 1, oo 50 (cv F6 [(.t 47), (.t 49)]), om 45 50, oL 51 45 0, oL 52 45 1, om 8 51, om 9 52] (some [1, 8, 9]))
 (.sq (oP [om 53 9, oo 54 (.bin .neq (.t 53) (ki 0))])
 (.cd (.t 54)
 (.sq (.op 0 [om 55 8, om 56 9, om 2 55, om 3 56] (some [2, 3]))
 .rt)
 .sk)))
 (.sq (.sq (.op 0 [oC 57 1 4, oA 58 57 1, oE 59 58, oo 60 (.bin .gtr (.t 59) (ki 16))] (some [1, 60]))
 (.cd (.t 60)
 (.sq (oP [oB 2 0, oB 3 8])
 .rt)
 .sk))
 (.sq (.sq (oP [oB 10 0])
 (.kp [1] [2, 3] (.bk 0 (.lp [] [1, 10] H4))))
 (.sq (.sq (.op 0 [oC 112 1 3, oA 113 112 1, oC 114 1 5, oA 115 114 1, oo 116 (cv Mw [(.t 113), (.t 115)]), om 111 116, oL 117 111 0, oL 118 111 1, om 14 117, om 15 118] (some [1, 14, 15]))
 (.sq (oP [om 119 15, oo 120 (.bin .neq (.t 119) (ki 0))])
 (.cd (.t 120)
 (.sq (.op 0 [om 121 14, om 122 15, om 2 121, om 3 122] (some [2, 3]))
 .rt)
 .sk)))
 (.sq (.sq (.op 0 [oC 123 1 6, oA 124 123 1, oE 125 124, oo 126 (.bin .gtr (.t 125) (ki 16))] (some [1, 126]))
 (.cd (.t 126)
 (.sq (oP [oB 2 0, oB 3 8])
 .rt)
 .sk))
 (.sq (.sq (oP [oB 16 0])
 (.kp [] [2, 3] (.bk 4 (.lp [] [1, 16] H2))))
 (.sq (oP [oB 2 0, oB 3 0])
 .rt))))))))))),
 [.t 2, .t 3]⟩
def Z8h : FnIR := ⟨15,
 (.sq (oP [oK 6])
 (.sq (.op 0 [om 7 1, om 8 0, oo 9 (.bin .leq (.t 7) (.t 8)), om 10 9, oF 11 10 0, oF 12 10 2, og 13 10 true (.bin .leq (.t 11) (.t 12)), oH 14 10 13, om 6 14] (some [6]))
 .rt)),
 [.t 6]⟩
def Z80 : FnIR := ⟨15,
 (.sq (oP [oK 6])
 (.sq (.op 0 [om 7 1, om 8 0, oo 9 (.bin .leq (.t 7) (.t 8)), om 10 9, oF 11 10 0, oF 12 10 2, og 13 10 true (.bin .leq (.t 11) (.t 12)), oH 14 10 13, om 6 14] (some [6]))
 .rt)),
 [.t 6]⟩
def Uu : FnIR := ⟨39,
 (.sq (.op 0 [oM 2 0 7, oM 3 1 1, oo 4 (.alloc [.str ⟨#[]⟩, .sl 2 (some true) [], .sl 5 (some true) [], .sl 4 (some true) [], .sl 3 (some true) [], .sl 2 (some true) [], .sl 2 (some true) [], .sl 1 (some true) [], .sl 1 (some true) [], .sl 1 (some true) []]), oB 5 0] (some [2, 3, 4]))
 (.sq (.op 0 [oJ 9 2 7, oo 10 (cv Z3c [(.t 9), (.c (.sl 1 (some true) []))]), om 8 10, oL 11 8 0, oL 12 8 1, oo 6 (.alloc [.str ⟨#[]⟩, .sl 2 (some true) [], .sl 5 (some true) [], .sl 4 (some true) [], .sl 3 (some true) [], .sl 2 (some true) [], .sl 2 (some true) [], .sl 1 (some true) []]), ou (.st (.t 6) (.t 11) 8), om 7 12] (some [2, 3, 4, 6, 7]))
 (.sq (.sq (.op 0 [om 13 7, oA 14 3 1, oE 15 14, oC 16 2 4, oA 17 16 1, oE 18 17, oo 19 (.bin .leq (.t 15) (.t 18)), oo 20 (cv Ve [(.t 19), (ki 8)]), oo 21 (.bsp Y8 1 false [.int .i64 0] 2 [(0, (.t 13)), (1, (.t 20))]), oo 22 (cv Km [(.t 21)]), om 7 22] (some [3, 4, 6, 7]))
 (.sq (oP [om 23 7, oo 24 (.bin .neq (.t 23) (ki 0))])
 (.cd (.t 24)
 (.sq (.op 0 [oo 25 (.build [.str ⟨#[]⟩, .sl 2 (some true) [], .sl 5 (some true) [], .sl 4 (some true) [], .sl 3 (some true) [], .sl 2 (some true) [], .sl 2 (some true) [], .sl 1 (some true) [], .sl 1 (some true) [], .sl 1 (some true) []] []), om 26 7, ou (.st (.t 4) (.t 25) 10), om 5 26] (some [4, 5]))
 .rt)
 .sk)))
 (.sq (.sq (.op 0 [oA 28 3 1, oo 29 (.mkf Um [(.t 6), (.t 3)]), oo 30 (cv Pm [(.t 28), (.t 29)]), om 27 30, oL 31 27 0, oL 32 27 1, om 7 32] (some [4, 6, 7]))
 (.sq (oP [om 33 7, oo 34 (.bin .neq (.t 33) (ki 0))])
 (.cd (.t 34)
 (.sq (.op 0 [oo 35 (.build [.str ⟨#[]⟩, .sl 2 (some true) [], .sl 5 (some true) [], .sl 4 (some true) [], .sl 3 (some true) [], .sl 2 (some true) [], .sl 2 (some true) [], .sl 1 (some true) [], .sl 1 (some true) [], .sl 1 (some true) []] []), om 36 7, ou (.st (.t 4) (.t 35) 10), om 5 36] (some [4, 5]))
 .rt)
 .sk)))
 (.sq (.op 0 [oJ 37 6 8, oo 38 (cw N9 [(.t 37)]), ou (.st (.t 4) (.t 38) 10), oB 5 0] (some [4, 5]))
 .rt))))),
 [.c 4 10 true, .t 5]⟩
def Z0j : FnIR := ⟨9,
 (.sq (oP [oo 2 (.mv (.c (.sl 1 (some true) [])))])
 (.sq (oP [om 4 0, oo 5 (cw Gj [(.t 4)]), om 3 5])
 (.sq (oP [om 6 3, oo 7 (.callS (.c (.fn Vs [])) [(.t 6)])])
 (.sq (oP [om 8 3, om 2 8])
 .rt)))),
 [.t 2]⟩
def Ny : FnIR := ⟨4,
 (.sq (oP [oM 1 0 1, oo 2 (.mv (.c (.nilf)))])
 (.sq (oP [oo 3 (.mkf Zx [(.t 1)]), om 2 3])
 .rt)),
 [.t 2]⟩
def Wl : IR :=
 (.sq (oP [oG 9 8 7])
 (.sq (.cd (.t 9)
 .sk
 (.ex 0))
 (.sq (.bk 1 (.sq (oP [om 10 8, om 5 10])
 (.sq (.op 0 [om 11 1, om 12 0, om 13 5, oD 14 12 13 1, oA 15 14 1, oo 16 (.callV true (.t 11) [(.t 15)])] (some [0, 1, 5, 7, 8, 16]))
 (.cd (.t 16)
 (.sq (oP [om 17 5, om 4 17])
 .rt)
 .sk))))
 (oP [oI 18 8 1, om 8 18]))))
def Nz : IR := Wl
theorem Nt : evC C L π k0 Nz e s = evC C L π k0 Wl e s := rfl
def Gk : FnIR := ⟨19,
 (.sq (oP [oB 4 0])
 (.sq (.sq (oP [om 6 0, oE 7 6, oB 8 0])
 (.kp [] [4] (.bk 0 (.lp [] [0, 1, 7, 8] Nz))))
 (.sq (oP [oo 4 (.mv (ki (-1)))])
 .rt))),
 [.t 4]⟩
def Z10 : FnIR := ⟨9,
 (.sq (oP [oK 4])
 (.sq (.op 0 [oJ 5 1 10, om 6 0, oA 7 2 1, oo 8 (cv Qy [(.t 5), (.t 6), (.t 7)]), om 4 8] (some [4]))
 .rt)),
 [.t 4]⟩
def Z0x : FnIR := ⟨11,
 (.sq (oP [oM 3 0 10, oM 4 1 1, oK 6])
 (.sq (.op 0 [om 7 2, oo 8 (.mkf Vv [(.t 4), (.t 3)]), oo 9 (cv Ym [(.t 7), (.t 8)]), oo 10 (.un .not (.t 9)), om 6 10] (some [6]))
 .rt)),
 [.t 6]⟩
def Xh : IR :=
 (.sq (oP [oG 45 44 43])
 (.sq (.cd (.t 45)
 .sk
 (.ex 2))
 (.sq (.bk 3 (.sq (oP [oD 46 42 44 1, oA 47 46 1, om 12 47])
 (.sq (.op 0 [om 48 12, om 49 1, oo 50 (.bin .gtr (.t 48) (.t 49)), om 51 50, oF 52 51 7, oF 53 51 12, og 54 51 true (.lkp (.t 52) (.t 53) (.int .i64 0) (.bool false) false), og 55 51 true (.un .not (.t 54)), oH 56 51 55, om 57 56, og 58 57 true (.ld (.t 3) 10 true), oF 59 57 12, oF 60 57 10, og 61 57 true (cv Zv [(.t 58), (.t 59), (.t 60)]), og 62 57 true (.un .not (.t 61)), oH 63 57 62] (some [1, 2, 3, 7, 8, 9, 10, 12, 42, 43, 44, 63]))
 (.cd (.t 63)
 (.sq (oP [om 64 7, om 65 12, ou (.mpu (.t 64) (.t 65) (.c (.bool true)) (.int .i64 0))])
 (.op 0 [om 66 8, om 67 9, oo 68 (cw V8 [(.t 67)]), om 69 12, oo 70 (.bsl t_int 1 false [.int .i64 0] 1 [(0, (.t 69))]), oo 71 (.app (.t 68) (.t 70) t_int 1), oo 72 (.bsl V0 1 false [.sl 1 (some true) []] 1 [(0, (.t 71))]), oo 73 (.app (.t 66) (.t 72) V0 1), om 8 73] (some [1, 2, 3, 7, 8, 9, 10, 42, 43, 44])))
 .sk))))
 (oP [oI 74 44 1, om 44 74]))))
def H7 : IR := Xh
theorem Vp : evC C L π k0 H7 e s = evC C L π k0 Xh e s := rfl
def Xi : IR :=
 (.sq (.sq (oP [om 17 8, oE 18 17, oo 19 (.bin .gtr (.t 18) (ki 0))])
 (.cd (.t 19)
 .sk
 (.ex 0)))
 (.sq (.bk 1 (.sq (.op 0 [om 22 8, oo 23 (.ia (.t 22) (ki 0) 1), oA 24 23 1, om 9 24] (some [1, 2, 3, 7, 8, 9]))
 (.sq (.op 0 [om 25 9, om 26 9, oE 27 26, oo 28 (.bin .sub (.t 27) (ki 1)), oD 29 25 28 1, oA 30 29 1, om 10 30] (some [1, 2, 3, 7, 8, 9, 10]))
 (.sq (.sq (.op 0 [om 31 9, oE 32 31, oo 33 (.bin .gtr (.t 32) (ki 1)), om 34 33, og 35 34 true (.ld (.t 3) 10 true), oF 36 34 1, oF 37 34 10, og 38 34 true (cv Zv [(.t 35), (.t 36), (.t 37)]), og 39 34 true (.un .not (.t 38)), oH 40 34 39] (some [1, 2, 3, 7, 8, 9, 10, 40]))
 (.cd (.t 40)
 (.sq (oP [om 41 9, om 6 41])
 .rt)
 .sk))
 (.sq (oP [om 42 2, oE 43 42, oB 44 0])
 (.kp [1, 2, 3, 7, 8] [6] (.bk 2 (.lp [(V0, .inl 8)] [1, 2, 3, 7, 8, 9, 10, 42, 43, 44] H7))))))))
 (oP [om 20 8, oo 21 (.shf (.t 20) (ki 1) 1), om 8 21])))
def H8 : IR := Xi
theorem Vq : evC C L π k0 H8 e s = evC C L π k0 Xi e s := rfl
def Z2k : FnIR := ⟨75,
 (.sq (oP [oM 3 0 10, oo 6 (.mv (.c (.sl 1 (some true) [])))])
 (.sq (oP [oo 13 (.mkp), om 7 13])
 (.sq (.sq (.op 0 [om 14 1, oo 15 (.bsl t_int 1 false [.int .i64 0] 1 [(0, (.t 14))]), oo 16 (.bsl V0 1 false [.sl 1 (some true) []] 1 [(0, (.t 15))]), om 8 16] (some [1, 2, 3, 7, 8]))
 (.kp [] [6] (.bk 0 (.lp [(V0, .inl 8)] [1, 2, 3, 7, 8] H8))))
 (.sq (oP [oo 6 (.mv (.c (.sl 1 (some true) [])))])
 .rt)))),
 [.t 6]⟩
def Z8i : FnIR := ⟨7,
 (.sq (oP [oB 4 0])
 (.sq (.sq (oP [om 5 0])
 (.cd (.t 5)
 (.sq (oP [oB 4 0])
 .rt)
 .sk))
 (.sq (oP [om 6 1, om 4 6])
 .rt))),
 [.t 4]⟩
def Us : IR :=
 (.sq (oP [oG 12 11 10])
 (.sq (.cd (.t 12)
 .sk
 (.ex 0))
 (.sq (.bk 1 (.sq (.op 0 [om 13 11, oD 14 9 11 1, oA 15 14 1, om 6 13, om 7 15] (some [1, 6, 7, 9, 10, 11]))
 (.sq (.op 0 [om 16 1, om 17 6, om 18 7, oo 19 (.callV true (.t 16) [(.t 17), (.t 18)]), om 8 19] (some [1, 6, 8, 9, 10, 11]))
 (.sq (oP [om 20 8, oo 21 (.bin .neq (.t 20) (ki 0))])
 (.cd (.t 21)
 (.sq (.op 0 [om 22 6, om 23 8, om 4 22, om 5 23] (some [4, 5]))
 .rt)
 .sk)))))
 (oP [oI 24 11 1, om 11 24]))))
def Gy : IR := Us
theorem Gh : evC C L π k0 Gy e s = evC C L π k0 Us e s := rfl
def Z4v : FnIR := ⟨25,
 (.sq (oP [oB 4 0, oB 5 0])
 (.sq (.sq (oP [om 9 0, oE 10 9, oB 11 0])
 (.kp [] [4, 5] (.bk 0 (.lp [] [1, 9, 10, 11] Gy))))
 (.sq (oP [oB 4 0, oB 5 0])
 .rt))),
 [.t 4, .t 5]⟩
def Ha : FnIR := ⟨14,
 (.sq (oP [oB 6 0])
 (.sq (.op 5 [oJ 7 2 10, om 8 1, oA 9 3 1, om 10 0, oo 11 (.slc false (.t 9) (some (.t 10)) none 1), oo 12 (cv Qy [(.t 7), (.t 8), (.t 11)]), oo 13 (cv Ve [(.t 12), (ki 29)]), om 6 13] (some [6]))
 .rt)),
 [.t 6]⟩

end Go.Proofs.YteecfnfjlclhdaaGreat.V
