/- The functions of the program in the small language. Printed by a program of this work. -/
import Derived.Test.YteecfnfjlclhdaaGreatK5

set_option linter.unusedSimpArgs false
set_option linter.unusedVariables false

/- The functions of the program in the small language. Printed by a program of this work. -/
namespace Go.Proofs.YteecfnfjlclhdaaGreat.V
open Go (IntKind BinOp UnOp)

def Zs : Nat := 4
def H1 : Nat := 8
def n_rl16_Few : Nat := 9
def We : Nat := 11
def Z2a : Nat := 12
def Pw : Nat := 13
def Lv : Nat := 16
def Xj : Nat := 21
def U6 : Nat := 22
def V3 : Nat := 23
def M3 : Nat := 24
def Kg : Nat := 25
def P5 : Nat := 26
def Vk : Nat := 27
def Mi : Nat := 28
def Kf : Nat := 31
def Gz : Nat := 32
def Z1g : Nat := 33
def Gy : Nat := 34
def Z27 : Nat := 37
def Yu : Nat := 49
def Pr : Nat := 50
def n_cf_openTwo : Nat := 51
def Pq : Nat := 52
def n_cf_sh_relation : Nat := 53
def Kj : Nat := 54
def Kk : Nat := 55
def Pz : Nat := 56
def Md : Nat := 57
def Z1s : Nat := 58
def Pl : Nat := 59
def F4 : Nat := 60
def Z0f : Nat := 61
def Yc : Nat := 62
def Un : Nat := 63
def Qg : Nat := 64
def Wd : Nat := 65
def Ub : Nat := 66
def Qo : Nat := 67
def Qm : Nat := 68
def Nc : Nat := 69
def Kl : Nat := 70
def V9 : Nat := 71
def P8 : Nat := 72
def Vo : Nat := 73
def Mh : Nat := 74
def Pp : Nat := 75
def Px : Nat := 76
def Lu : Nat := 77
def n_cf_nw_meet : Nat := 79
def n_cf_nw_bits : Nat := 81
def n_cf_nw_points : Nat := 82
def n_rb_Power : Nat := 83
def Y0 : Nat := 88
def n_cf_openGuards : Nat := 93
def Yj : Nat := 94
def Z04 : Nat := 95
def Y6 : Nat := 96
def n_ds_CkD : Nat := 97
def F5 : Nat := 98
def Qn : Nat := 99
def Qh : Nat := 100
def G3 : Nat := 101
def Py : Nat := 102
def G4 : Nat := 103
def Uc : Nat := 104
def Ki : Nat := 105
def Mc : Nat := 106
def Uf : Nat := 110
def Hl : Nat := 111
def Vj : Nat := 112
def Zr : Nat := 113
def Vn : Nat := 114
def V2 : Nat := 115
def Hb : Nat := 116
def Va : Nat := 117
def n_rb_Below : Nat := 118
def n_gr_ValuesOf : Nat := 119
def n_cf_nw_points_1 : Nat := 122
def H0 : Nat := 123
def n_rb_Fits : Nat := 124
def Po : Nat := 127
def Uv : Nat := 129
def Z1r : Nat := 130
def X6 : Nat := 131
def Ze : Nat := 132
def F1 : Nat := 133
def Z1q : Nat := 134
def Uy : Nat := 135
def M2 : Nat := 136
def Xg : Nat := 137
def Ha : Nat := 138
def Z1p : Nat := 139
def Z1o : Nat := 140
def V4 : Nat := 141
def M1 : Nat := 142
def Ye : Nat := 143
def n_ds_fits : Nat := 144
def Z1n : Nat := 145
def Qk : Nat := 146
def Z29 : Nat := 147
def Z1m : Nat := 148
def Z1l : Nat := 149
def Ux : Nat := 150
def M0 : Nat := 151
def Ud : Nat := 152
def U5 : Nat := 153
def Pn : Nat := 154
def G9 : Nat := 155
def Z1k : Nat := 156
def Z1j : Nat := 157
def Vb : Nat := 158
def Nz : Nat := 159
def Lt : Nat := 160
def F3 : Nat := 161
def F2 : Nat := 162
def W0 : Nat := 163
def Mg : Nat := 164
def Ga : Nat := 165
def Ql : Nat := 166
def Nt : Nat := 167
def Z03 : Nat := 168
def Ls : Nat := 169
def Wo : Nat := 172
def G8 : Nat := 175
def P7 : Nat := 176
def Me : Nat := 177
def Yd : Nat := 178
def Mf : Nat := 179
def n_gr_ValuesOf_1 : Nat := 180
def n_gr_fits : Nat := 181
def n_gr_valued : Nat := 182
def Mb : Nat := 183
def Ue : Nat := 186
def Vm : Nat := 188
def H9 : Nat := 189
def Qi : Nat := 190
def Uw : Nat := 191
def Vl : Nat := 192
def V8 : Nat := 193
def Wf : Nat := 194
def G6 : Nat := 195
def G5 : Nat := 196
def Kh : Nat := 197
def G7 : Nat := 211
def N0 : Nat := 212
def n_gr_applied : Nat := 213
def Pm : Nat := 214
def Y9 : Nat := 215
def Zd : Nat := 216
def Z1h : Nat := 217
def Z1i : Nat := 218
def U4 : Nat := 219
def H8 : Nat := 220
def H7 : Nat := 221
def H6 : Nat := 222
def H5 : Nat := 223
def H4 : Nat := 224
def H3 : Nat := 225
def P6 : Nat := 226
def H2 : Nat := 227
def Ny : Nat := 228
def Nx : Nat := 229
def Z28 : Nat := 230
def Nw : Nat := 231
def Gs : Nat := 232
def Nv : Nat := 233
def Gr : Nat := 234
def Nu : Nat := 235
def Gq : Nat := 236
def Y8 : Nat := 237
def Gp : Nat := 238
def Gn : Nat := 239
def Yl : Nat := 240
def Gm : Nat := 241
def Gl : Nat := 242
def Qj : Nat := 248
def n_gr_below : Nat := 249
def F0 : Nat := 250
def Zp : Nat := 251
def Zm : Nat := 252
def Yg : Nat := 253
def n_gr_truth : Nat := 254
def X4 : Nat := 256
def Zz : Nat := 257
@[simp] theorem y0_ : ¬ Zs = Z2 ∧ ¬ H1 = Z2 ∧ ¬ n_rl16_Few = Z2 ∧ ¬ We = Z2 ∧ ¬ Z2a = Z2 ∧ ¬ Pw = Z2 ∧ ¬ Lv = Z2 ∧ ¬ Xj = Z2 ∧ ¬ U6 = Z2 ∧ ¬ V3 = Z2 ∧ ¬ M3 = Z2 ∧ ¬ Kg = Z2 ∧ ¬ P5 = Z2 ∧ ¬ Vk = Z2 ∧ ¬ Mi = Z2 ∧ ¬ Kf = Z2 ∧ ¬ Gz = Z2 ∧ ¬ Z1g = Z2 ∧ ¬ Gy = Z2 ∧ ¬ Z27 = Z2 ∧ ¬ Yu = Z2 ∧ ¬ Pr = Z2 ∧ ¬ n_cf_openTwo = Z2 ∧ ¬ Pq = Z2 ∧ ¬ n_cf_sh_relation = Z2 ∧ ¬ Kj = Z2 ∧ ¬ Kk = Z2 ∧ ¬ Pz = Z2 ∧ ¬ Md = Z2 ∧ ¬ Z1s = Z2 ∧ ¬ Pl = Z2 ∧ ¬ F4 = Z2 ∧ ¬ Z0f = Z2 ∧ ¬ Yc = Z2 ∧ ¬ Un = Z2 ∧ ¬ Qg = Z2 ∧ ¬ Wd = Z2 ∧ ¬ Ub = Z2 ∧ ¬ Qo = Z2 ∧ ¬ Qm = Z2 := by and_intros <;> decide
@[simp] theorem y1_ : ¬ Nc = Z2 ∧ ¬ Kl = Z2 ∧ ¬ V9 = Z2 ∧ ¬ P8 = Z2 ∧ ¬ Vo = Z2 ∧ ¬ Mh = Z2 ∧ ¬ Pp = Z2 ∧ ¬ Px = Z2 ∧ ¬ Lu = Z2 ∧ ¬ n_cf_nw_meet = Z2 ∧ ¬ n_cf_nw_bits = Z2 ∧ ¬ n_cf_nw_points = Z2 ∧ ¬ n_rb_Power = Z2 ∧ ¬ Y0 = Z2 ∧ ¬ n_cf_openGuards = Z2 ∧ ¬ Yj = Z2 ∧ ¬ Z04 = Z2 ∧ ¬ Y6 = Z2 ∧ ¬ n_ds_CkD = Z2 ∧ ¬ F5 = Z2 ∧ ¬ Qn = Z2 ∧ ¬ Qh = Z2 ∧ ¬ G3 = Z2 ∧ ¬ Py = Z2 ∧ ¬ G4 = Z2 ∧ ¬ Uc = Z2 ∧ ¬ Ki = Z2 ∧ ¬ Mc = Z2 ∧ ¬ Uf = Z2 ∧ ¬ Hl = Z2 ∧ ¬ Vj = Z2 ∧ ¬ Zr = Z2 ∧ ¬ Vn = Z2 ∧ ¬ V2 = Z2 ∧ ¬ Hb = Z2 ∧ ¬ Va = Z2 ∧ ¬ n_rb_Below = Z2 ∧ ¬ n_gr_ValuesOf = Z2 ∧ ¬ n_cf_nw_points_1 = Z2 ∧ ¬ H0 = Z2 := by and_intros <;> decide
@[simp] theorem y2_ : ¬ n_rb_Fits = Z2 ∧ ¬ Po = Z2 ∧ ¬ Uv = Z2 ∧ ¬ Z1r = Z2 ∧ ¬ X6 = Z2 ∧ ¬ Ze = Z2 ∧ ¬ F1 = Z2 ∧ ¬ Z1q = Z2 ∧ ¬ Uy = Z2 ∧ ¬ M2 = Z2 ∧ ¬ Xg = Z2 ∧ ¬ Ha = Z2 ∧ ¬ Z1p = Z2 ∧ ¬ Z1o = Z2 ∧ ¬ V4 = Z2 ∧ ¬ M1 = Z2 ∧ ¬ Ye = Z2 ∧ ¬ n_ds_fits = Z2 ∧ ¬ Z1n = Z2 ∧ ¬ Qk = Z2 ∧ ¬ Z29 = Z2 ∧ ¬ Z1m = Z2 ∧ ¬ Z1l = Z2 ∧ ¬ Ux = Z2 ∧ ¬ M0 = Z2 ∧ ¬ Ud = Z2 ∧ ¬ U5 = Z2 ∧ ¬ Pn = Z2 ∧ ¬ G9 = Z2 ∧ ¬ Z1k = Z2 ∧ ¬ Z1j = Z2 ∧ ¬ Vb = Z2 ∧ ¬ Nz = Z2 ∧ ¬ Lt = Z2 ∧ ¬ F3 = Z2 ∧ ¬ F2 = Z2 ∧ ¬ W0 = Z2 ∧ ¬ Mg = Z2 ∧ ¬ Ga = Z2 ∧ ¬ Ql = Z2 := by and_intros <;> decide
@[simp] theorem y3_ : ¬ Nt = Z2 ∧ ¬ Z03 = Z2 ∧ ¬ Ls = Z2 ∧ ¬ Wo = Z2 ∧ ¬ G8 = Z2 ∧ ¬ P7 = Z2 ∧ ¬ Me = Z2 ∧ ¬ Yd = Z2 ∧ ¬ Mf = Z2 ∧ ¬ n_gr_ValuesOf_1 = Z2 ∧ ¬ n_gr_fits = Z2 ∧ ¬ n_gr_valued = Z2 ∧ ¬ Mb = Z2 ∧ ¬ Ue = Z2 ∧ ¬ Vm = Z2 ∧ ¬ H9 = Z2 ∧ ¬ Qi = Z2 ∧ ¬ Uw = Z2 ∧ ¬ Vl = Z2 ∧ ¬ V8 = Z2 ∧ ¬ Wf = Z2 ∧ ¬ G6 = Z2 ∧ ¬ G5 = Z2 ∧ ¬ Kh = Z2 ∧ ¬ G7 = Z2 ∧ ¬ N0 = Z2 ∧ ¬ n_gr_applied = Z2 ∧ ¬ Pm = Z2 ∧ ¬ Y9 = Z2 ∧ ¬ Zd = Z2 ∧ ¬ Z1h = Z2 ∧ ¬ Z1i = Z2 ∧ ¬ U4 = Z2 ∧ ¬ H8 = Z2 ∧ ¬ H7 = Z2 ∧ ¬ H6 = Z2 ∧ ¬ H5 = Z2 ∧ ¬ H4 = Z2 ∧ ¬ H3 = Z2 ∧ ¬ P6 = Z2 := by and_intros <;> decide
@[simp] theorem y4_ : ¬ H2 = Z2 ∧ ¬ Ny = Z2 ∧ ¬ Nx = Z2 ∧ ¬ Z28 = Z2 ∧ ¬ Nw = Z2 ∧ ¬ Gs = Z2 ∧ ¬ Nv = Z2 ∧ ¬ Gr = Z2 ∧ ¬ Nu = Z2 ∧ ¬ Gq = Z2 ∧ ¬ Y8 = Z2 ∧ ¬ Gp = Z2 ∧ ¬ Gn = Z2 ∧ ¬ Yl = Z2 ∧ ¬ Gm = Z2 ∧ ¬ Gl = Z2 ∧ ¬ Qj = Z2 ∧ ¬ n_gr_below = Z2 ∧ ¬ F0 = Z2 ∧ ¬ Zp = Z2 ∧ ¬ Zm = Z2 ∧ ¬ Yg = Z2 ∧ ¬ n_gr_truth = Z2 ∧ ¬ X4 = Z2 ∧ ¬ Zz = Z2 := by and_intros <;> decide
@[simp] abbrev oo (d : Nat) (x : IOp) : Ins := ⟨some d, none, x⟩
@[simp] abbrev og (d g : Nat) (b : Bool) (x : IOp) : Ins := ⟨some d, some (g, b), x⟩
@[simp] abbrev ou (x : IOp) : Ins := ⟨none, none, x⟩
@[simp] abbrev om (d t : Nat) : Ins := ⟨some d, none, .mv (.t t)⟩
@[simp] abbrev ki (n : Int) : Opd := .c (.int .i64 n)
@[simp] abbrev cv (f : Nat) (l : List Opd) : IOp := .callV true (.c (.fn f [])) l
@[simp] abbrev cw (f : Nat) (l : List Opd) : IOp := .callV false (.c (.fn f [])) l
def t_int : Nat := 3
def t_bool : Nat := 4
def t_string : Nat := 9
def Y5 : Nat := 32
def Wu : Nat := 46
def Ln : Nat := 76
def Gj : Nat := 79
def M9 : Nat := 81
def M8 : Nat := 112
def Lm : Nat := 117
def Gk : Nat := 120
def Nr : Nat := 137
def k_102_101_98_97_99 : ByteArray := ⟨#[102, 101, 98, 97, 99]⟩
def k_47 : ByteArray := ⟨#[47]⟩
def k_63 : ByteArray := ⟨#[63]⟩

variable {C : Call} {L : Loop} {π : Id} {k0 : List Id} {e : Env} {s : Sto}
def Xw : IR :=
 (.sq (.sq (.op 0 [om 71 9, om 72 7, oo 73 (.len false (.t 72)), oo 74 (.bin .lss (.t 71) (.t 73))] (some [1, 2, 7, 9, 74]))
 (.cd (.t 74)
 .sk
 (.ex 0)))
 (.sq (.bk 1 (.sq (.op 0 [om 77 1, om 78 7, om 79 9, oo 80 (.ia (.t 78) (.t 79) 1), oo 81 (.ld (.t 80) 1 false), oo 82 (cv P5 [(.t 77), (.t 81)]), oo 83 (.un .not (.t 82))] (some [1, 2, 7, 9, 83]))
 (.cd (.t 83)
 (.sq (.op 0 [oo 4 (.mv (.c (.bool false)))] none)
 .rt)
 .sk)))
 (.op 0 [om 75 9, oo 76 (.bin .add (.t 75) (ki 1)), om 9 76] none)))
def Vt : IR := Xw
theorem Nq : evC C L π k0 Vt e s = evC C L π k0 Xw e s := rfl
def Yo : IR :=
 (.sq (.sq (.op 0 [om 84 10, oo 85 (.fa (.t 2) 4), oo 86 (.ld (.t 85) 1 false), oo 87 (.len false (.t 86)), oo 88 (.bin .lss (.t 84) (.t 87))] (some [1, 2, 10, 88]))
 (.cd (.t 88)
 .sk
 (.ex 2)))
 (.sq (.bk 3 (.sq (.sq (.op 0 [om 91 1, om 92 10, oo 93 (cv P5 [(.t 91), (.t 92)])] none)
 (.cd (.t 93)
 (.ex 3)
 .sk))
 (.sq (.op 0 [oo 95 (.ld (.t 2) 7 true), oo 96 (cw We [(.t 95)]), om 97 1, oo 98 (cw V3 [(.t 97)]), om 99 10, oo 100 (.bsl t_int 1 false [.int .i64 0] 1 [(0, (.t 99))]), oo 101 (.app (.t 98) (.t 100) t_int 1), oo 102 (cw U6 [(.t 96), (.t 101)]), om 94 102, oo 103 (.ext (.t 94) 0), oo 104 (.ext (.t 94) 1), om 11 103, om 12 104] (some [1, 2, 10, 12]))
 (.sq (.op 0 [om 105 12, oo 106 (.bin .neq (.t 105) (ki 27))] none)
 (.cd (.t 106)
 (.sq (.op 0 [oo 4 (.mv (.c (.bool false)))] none)
 .rt)
 .sk)))))
 (.op 0 [om 89 10, oo 90 (.bin .add (.t 89) (ki 1)), om 10 90] none)))
def Vs : IR := Yo
theorem Ve : evC C L π k0 Vs e s = evC C L π k0 Yo e s := rfl
def Y4 : IR :=
 (.sq (.sq (.op 0 [om 126 13, om 127 5, oo 128 (.len false (.t 127)), oo 129 (.bin .lss (.t 126) (.t 128))] (some [1, 2, 5, 13, 129]))
 (.cd (.t 129)
 .sk
 (.ex 4)))
 (.sq (.bk 5 (.sq (.sq (.op 0 [om 132 1, om 133 5, om 134 13, oo 135 (.ia (.t 133) (.t 134) 1), oo 136 (.ld (.t 135) 1 false), oo 137 (cv P5 [(.t 132), (.t 136)]), oo 138 (.un .not (.t 137))] (some [1, 2, 5, 13, 138]))
 (.cd (.t 138)
 (.sq (.op 0 [oo 4 (.mv (.c (.bool false)))] none)
 .rt)
 .sk))
 (.sq (.op 25 [om 139 13, oo 140 (.bin .gtr (.t 139) (ki 0)), om 141 140, og 142 141 true (.mv (.t 5)), og 143 141 true (.mv (.t 13)), og 144 141 true (.ia (.t 142) (.t 143) 1), og 145 141 true (.ld (.t 144) 1 false), og 146 141 true (.mv (.t 5)), og 147 141 true (.mv (.t 13)), og 148 141 true (.bin .sub (.t 147) (ki 1)), og 149 141 true (.ia (.t 146) (.t 148) 1), og 150 141 true (.ld (.t 149) 1 false), og 151 141 true (.bin .lss (.t 145) (.t 150)), oo 152 (.pick (.t 141) (.t 151) (.c (.bool false))), om 153 152, og 154 153 true (.ld (.t 2) 7 true), og 155 153 true (.mv (.t 5)), og 156 153 true (.mv (.t 13)), og 157 153 true (.ia (.t 155) (.t 156) 1), og 158 153 true (.ld (.t 157) 1 false), og 159 153 true (.mv (.t 5)), og 160 153 true (.mv (.t 13)), og 161 153 true (.bin .sub (.t 160) (ki 1)), og 162 153 true (.ia (.t 159) (.t 161) 1), og 163 153 true (.ld (.t 162) 1 false), og 164 153 true (cv Vk [(.t 154), (.t 158), (.t 163)]), oo 165 (.pick (.t 153) (.t 164) (.c (.bool false)))] (some [1, 2, 5, 13, 165]))
 (.cd (.t 165)
 (.sq (.op 0 [oo 4 (.mv (.c (.bool false)))] none)
 .rt)
 .sk))))
 (.op 0 [om 130 13, oo 131 (.bin .add (.t 130) (ki 1)), om 13 131] none)))
def Vr : IR := Y4
theorem Xq : evC C L π k0 Vr e s = evC C L π k0 Y4 e s := rfl
def Y7 : FnIR := ⟨179,
 (.sq (.op 0 [oo 2 (.box (.t 0) 7), oo 4 (.mv (.c (.bool false)))] none)
 (.sq (.sq (.op 0 [oo 16 (cv H1 []), oo 17 (.un .not (.t 16))] none)
 (.cd (.t 17)
 (.sq (.op 0 [oo 4 (.mv (.c (.bool false)))] none)
 .rt)
 .sk))
 (.sq (.sq (.op 0 [oo 18 (.ld (.t 2) 7 true), oo 19 (cv n_rl16_Few [(.t 18)]), oo 20 (.un .not (.t 19)), om 21 20, og 22 21 false (.ld (.t 2) 7 true), og 23 21 false (cv Pw [(.t 22)]), og 24 21 false (.bin .neq (.t 23) (ki 0)), oo 25 (.pick (.t 21) (.c (.bool true)) (.t 24)), om 26 25, og 27 26 false (.ld (.t 2) 7 true), og 28 26 false (.mv (.t 1)), og 29 26 false (cv Xj [(.t 27), (.t 28)]), og 30 26 false (.bin .neq (.t 29) (ki 0)), oo 31 (.pick (.t 26) (.c (.bool true)) (.t 30))] (some [1, 2, 31]))
 (.cd (.t 31)
 (.sq (.op 0 [oo 4 (.mv (.c (.bool true)))] none)
 .rt)
 .sk))
 (.sq (.op 0 [oo 33 (.ld (.t 2) 7 true), oo 34 (cw We [(.t 33)]), om 35 1, oo 36 (cw V3 [(.t 35)]), oo 37 (cw U6 [(.t 34), (.t 36)]), om 32 37, oo 38 (.ext (.t 32) 0), oo 39 (.ext (.t 32) 1), om 5 38, om 6 39] (some [1, 2, 5, 6]))
 (.sq (.op 0 [oo 41 (.ld (.t 2) 7 true), oo 42 (cw We [(.t 41)]), om 43 1, oo 44 (cw V3 [(.t 43)]), oo 45 (cw M3 [(.t 42), (.t 44)]), om 40 45, oo 46 (.ext (.t 40) 0), oo 47 (.ext (.t 40) 1), om 7 46, om 8 47] (some [1, 2, 5, 6, 7, 8]))
 (.sq (.sq (.op 0 [om 48 6, oo 49 (.bin .eql (.t 48) (ki 27))] none)
 (.cd (.t 49)
 (.sq (.sq (.op 0 [om 50 8, oo 51 (.bin .neq (.t 50) (ki 0)), om 52 51, og 53 52 false (.mv (.t 7)), og 54 52 false (.len false (.t 53)), og 55 52 false (.mv (.t 1)), og 56 52 false (.len false (.t 55)), og 57 52 false (.bin .gtr (.t 54) (.t 56)), oo 58 (.pick (.t 52) (.c (.bool true)) (.t 57)), om 59 58, og 60 59 false (.ld (.t 2) 7 true), og 61 59 false (.mv (.t 7)), og 62 59 false (cv Xj [(.t 60), (.t 61)]), og 63 59 false (.bin .neq (.t 62) (ki 0)), oo 64 (.pick (.t 59) (.c (.bool true)) (.t 63)), om 65 64, og 66 65 false (.ld (.t 2) 7 true), og 67 65 false (.mv (.t 7)), og 68 65 false (cv Kg [(.t 66), (.t 67)]), og 69 65 false (.un .not (.t 68)), oo 70 (.pick (.t 65) (.c (.bool true)) (.t 69))] (some [1, 2, 7, 70]))
 (.cd (.t 70)
 (.sq (.op 0 [oo 4 (.mv (.c (.bool false)))] none)
 .rt)
 .sk))
 (.sq (.sq (.op 0 [oo 9 (.mv (ki 0))] none)
 (.kp [1, 2] [4] (.bk 0 (.lp [] [1, 2, 7, 9] Vt))))
 (.sq (.sq (.op 0 [oo 10 (.mv (ki 0))] none)
 (.kp [] [4] (.bk 2 (.lp [] [1, 2, 10] Vs))))
 (.sq (.op 0 [oo 4 (.mv (.c (.bool true)))] none)
 .rt))))
 .sk))
 (.sq (.sq (.op 0 [om 107 6, oo 108 (.bin .neq (.t 107) (ki 0)), om 109 108, og 110 109 false (.mv (.t 8)), og 111 109 false (.bin .neq (.t 110) (ki 12)), oo 112 (.pick (.t 109) (.c (.bool true)) (.t 111)), om 113 112, og 114 113 false (.mv (.t 5)), og 115 113 false (.len false (.t 114)), og 116 113 false (.mv (.t 1)), og 117 113 false (.len false (.t 116)), og 118 113 false (.bin .neq (.t 115) (.t 117)), oo 119 (.pick (.t 113) (.c (.bool true)) (.t 118)), om 120 119, og 121 120 false (.ld (.t 2) 7 true), og 122 120 false (.mv (.t 5)), og 123 120 false (cv Xj [(.t 121), (.t 122)]), og 124 120 false (.bin .neq (.t 123) (ki 0)), oo 125 (.pick (.t 120) (.c (.bool true)) (.t 124))] (some [1, 2, 5, 125]))
 (.cd (.t 125)
 (.sq (.op 0 [oo 4 (.mv (.c (.bool false)))] none)
 .rt)
 .sk))
 (.sq (.sq (.op 0 [oo 13 (.mv (ki 0))] none)
 (.kp [2, 5] [4] (.bk 4 (.lp [] [1, 2, 5, 13] Vr))))
 (.sq (.op 0 [oo 167 (.ld (.t 2) 7 true), oo 168 (cw We [(.t 167)]), om 169 5, oo 170 (cv Mi [(.t 168), (.t 169)]), om 166 170, oo 171 (.ext (.t 166) 0), oo 172 (.ext (.t 166) 1), om 14 171, om 15 172] (some [14, 15]))
 (.sq (.op 0 [om 173 15, oo 174 (.bin .eql (.t 173) (ki 0)), om 175 174, og 176 175 true (.mv (.t 14)), og 177 175 true (.bin .eql (.t 176) (ki 0)), oo 178 (.pick (.t 175) (.t 177) (.c (.bool false))), om 4 178] (some [4]))
 .rt)))))))))),
 [.t 4]⟩
def c_rl16_awake : FnIR := ⟨76,
 (.sq (.op 0 [oo 0 (.mv (.c (.bool false)))] none)
 (.sq (.op 0 [oo 12 (cv Yu []), oo 13 (cv Z2a [(.t 12)]), om 11 13, oo 14 (.ext (.t 11) 0), oo 15 (.ext (.t 11) 1), om 1 14, om 2 15] (some [1, 2]))
 (.sq (.op 0 [oo 17 (cv Yu []), oo 18 (.bsp t_int 1 false [.int .i64 0] 2 [(0, (ki 0)), (1, (ki 1))]), oo 19 (cv U6 [(.t 17), (.t 18)]), om 16 19, oo 20 (.ext (.t 16) 0), oo 21 (.ext (.t 16) 1), om 3 20, om 4 21] (some [1, 2, 3, 4]))
 (.sq (.op 0 [oo 23 (cv Yu []), oo 24 (.bsp t_int 1 false [.int .i64 0] 3 [(0, (ki 0)), (1, (ki 1)), (2, (ki 2))]), oo 25 (cv M3 [(.t 23), (.t 24)]), om 22 25, oo 26 (.ext (.t 22) 0), oo 27 (.ext (.t 22) 1), om 5 26, om 6 27] (some [1, 2, 3, 4, 5, 6]))
 (.sq (.op 0 [oo 29 (cv Yu []), oo 30 (cv Pr [(.t 29), (ki 0), (ki 2)]), om 28 30, oo 31 (.ext (.t 28) 0), oo 32 (.ext (.t 28) 1), om 7 31, om 8 32] (some [1, 2, 3, 4, 5, 6, 7, 8]))
 (.sq (.op 0 [oo 34 (cv Yu []), oo 35 (cv Pr [(.t 34), (ki 0), (ki 1)]), om 33 35, oo 36 (.ext (.t 33) 0), oo 37 (.ext (.t 33) 1), om 9 36, om 10 37] (some [1, 2, 3, 4, 5, 6, 7, 8, 10]))
 (.sq (.op 0 [om 38 2, oo 39 (.bin .eql (.t 38) (ki 0)), om 40 39, og 41 40 true (.mv (.t 1)), og 42 40 true (cv Lv [(.t 41)]), og 43 40 true (.bin .eql (.t 42) (.c (.str ⟨#[99, 97, 99, 47, 98, 99, 99, 47, 99, 99, 99]⟩))), oo 44 (.pick (.t 40) (.t 43) (.c (.bool false))), om 45 44, og 46 45 true (.mv (.t 4)), og 47 45 true (.bin .eql (.t 46) (ki 0)), oo 48 (.pick (.t 45) (.t 47) (.c (.bool false))), om 49 48, og 50 49 true (.mv (.t 3)), og 51 49 true (.bsp t_int 1 false [.int .i64 0] 2 [(0, (ki 1)), (1, (ki 0))]), og 52 49 true (cv Gz [(.t 50), (.t 51)]), oo 53 (.pick (.t 49) (.t 52) (.c (.bool false))), om 54 53, og 55 54 true (.mv (.t 6)), og 56 54 true (.bin .eql (.t 55) (ki 0)), oo 57 (.pick (.t 54) (.t 56) (.c (.bool false))), om 58 57, og 59 58 true (.mv (.t 5)), og 60 58 true (.bsp t_int 1 false [.int .i64 0] 2 [(0, (ki 0)), (1, (ki 2))]), og 61 58 true (cv Gz [(.t 59), (.t 60)]), oo 62 (.pick (.t 58) (.t 61) (.c (.bool false))), om 63 62, og 64 63 true (.mv (.t 8)), og 65 63 true (.bin .eql (.t 64) (ki 0)), oo 66 (.pick (.t 63) (.t 65) (.c (.bool false))), om 67 66, og 68 67 true (.mv (.t 7)), og 69 67 true (.bsp t_int 1 false [.int .i64 0] 3 [(0, (ki 1)), (1, (ki 0)), (2, (ki 0))]), og 70 67 true (cv Gz [(.t 68), (.t 69)]), oo 71 (.pick (.t 67) (.t 70) (.c (.bool false))), om 72 71, og 73 72 true (.mv (.t 10)), og 74 72 true (.bin .eql (.t 73) (ki 12)), oo 75 (.pick (.t 72) (.t 74) (.c (.bool false))), om 0 75] (some [0]))
 .rt))))))),
 [.t 0]⟩
def La : IR :=
 (.sq (.sq (.op 0 [om 40 3, oo 41 (.fa (.t 1) 3), oo 42 (.ld (.t 41) 1 false), oo 43 (.len false (.t 42)), oo 44 (.bin .lss (.t 40) (.t 43))] (some [1, 3, 44]))
 (.cd (.t 44)
 .sk
 (.ex 0)))
 (.sq (.bk 1 (.sq (.op 0 [oo 47 (.fa (.t 1) 3), oo 48 (.ld (.t 47) 1 false), om 49 3, oo 50 (.ia (.t 48) (.t 49) 4), oo 51 (.fa (.t 50) 2), oo 52 (.ld (.t 51) 1 false), oo 53 (.len false (.t 52)), oo 54 (.bin .gtr (.t 53) (ki 4))] (some [1, 3, 54]))
 (.cd (.t 54)
 (.sq (.op 0 [oo 2 (.mv (.c (.bool false)))] none)
 .rt)
 .sk)))
 (.op 0 [om 45 3, oo 46 (.bin .add (.t 45) (ki 1)), om 3 46] none)))
def Z2m : IR := La
theorem Z1z : evC C L π k0 Z2m e s = evC C L π k0 La e s := rfl
def L9 : IR :=
 (.sq (.sq (.op 0 [om 55 4, oo 56 (.fa (.t 1) 4), oo 57 (.ld (.t 56) 1 false), oo 58 (.len false (.t 57)), oo 59 (.bin .lss (.t 55) (.t 58))] (some [1, 4, 59]))
 (.cd (.t 59)
 .sk
 (.ex 2)))
 (.sq (.bk 3 (.sq (.op 0 [oo 62 (.fa (.t 1) 4), oo 63 (.ld (.t 62) 1 false), om 64 4, oo 65 (.ia (.t 63) (.t 64) 3), oo 66 (.fa (.t 65) 2), oo 67 (.ld (.t 66) 1 false), oo 68 (.len false (.t 67)), oo 69 (.bin .gtr (.t 68) (ki 6))] (some [1, 4, 69]))
 (.cd (.t 69)
 (.sq (.op 0 [oo 2 (.mv (.c (.bool false)))] none)
 .rt)
 .sk)))
 (.op 0 [om 60 4, oo 61 (.bin .add (.t 60) (ki 1)), om 4 61] none)))
def Z2l : IR := L9
theorem Z1y : evC C L π k0 Z2l e s = evC C L π k0 L9 e s := rfl
def L8 : IR :=
 (.sq (.sq (.op 0 [om 70 5, oo 71 (.fa (.t 1) 6), oo 72 (.ld (.t 71) 1 false), oo 73 (.len false (.t 72)), oo 74 (.bin .lss (.t 70) (.t 73))] (some [1, 5, 74]))
 (.cd (.t 74)
 .sk
 (.ex 4)))
 (.sq (.bk 5 (.sq (.op 0 [oo 77 (.fa (.t 1) 6), oo 78 (.ld (.t 77) 1 false), om 79 5, oo 80 (.ia (.t 78) (.t 79) 2), oo 81 (.fa (.t 80) 1), oo 82 (.ld (.t 81) 1 false), oo 83 (.len false (.t 82)), oo 84 (.bin .gtr (.t 83) (ki 8))] (some [1, 5, 84]))
 (.cd (.t 84)
 (.sq (.op 0 [oo 2 (.mv (.c (.bool false)))] none)
 .rt)
 .sk)))
 (.op 0 [om 75 5, oo 76 (.bin .add (.t 75) (ki 1)), om 5 76] none)))
def Z2k : IR := L8
theorem Z1x : evC C L π k0 Z2k e s = evC C L π k0 L8 e s := rfl
def Pa : FnIR := ⟨85,
 (.sq (.op 0 [oo 1 (.box (.t 0) 7), oo 2 (.mv (.c (.bool false)))] none)
 (.sq (.sq (.op 0 [oo 6 (.fa (.t 1) 3), oo 7 (.ld (.t 6) 1 false), oo 8 (.len false (.t 7)), oo 9 (.bin .gtr (.t 8) (ki 30)), om 10 9, og 11 10 false (.fa (.t 1) 1), og 12 10 false (.ld (.t 11) 1 false), og 13 10 false (.len false (.t 12)), og 14 10 false (.bin .gtr (.t 13) (ki 8)), oo 15 (.pick (.t 10) (.c (.bool true)) (.t 14)), om 16 15, og 17 16 false (.fa (.t 1) 2), og 18 16 false (.ld (.t 17) 1 false), og 19 16 false (.len false (.t 18)), og 20 16 false (.bin .gtr (.t 19) (ki 10)), oo 21 (.pick (.t 16) (.c (.bool true)) (.t 20)), om 22 21, og 23 22 false (.fa (.t 1) 4), og 24 22 false (.ld (.t 23) 1 false), og 25 22 false (.len false (.t 24)), og 26 22 false (.bin .gtr (.t 25) (ki 7)), oo 27 (.pick (.t 22) (.c (.bool true)) (.t 26)), om 28 27, og 29 28 false (.fa (.t 1) 5), og 30 28 false (.ld (.t 29) 1 false), og 31 28 false (.len false (.t 30)), og 32 28 false (.bin .gtr (.t 31) (ki 8)), oo 33 (.pick (.t 28) (.c (.bool true)) (.t 32)), om 34 33, og 35 34 false (.fa (.t 1) 6), og 36 34 false (.ld (.t 35) 1 false), og 37 34 false (.len false (.t 36)), og 38 34 false (.bin .gtr (.t 37) (ki 6)), oo 39 (.pick (.t 34) (.c (.bool true)) (.t 38))] (some [1, 39]))
 (.cd (.t 39)
 (.sq (.op 0 [oo 2 (.mv (.c (.bool false)))] none)
 .rt)
 .sk))
 (.sq (.sq (.op 0 [oo 3 (.mv (ki 0))] none)
 (.kp [1] [2] (.bk 0 (.lp [] [1, 3] Z2m))))
 (.sq (.sq (.op 0 [oo 4 (.mv (ki 0))] none)
 (.kp [1] [2] (.bk 2 (.lp [] [1, 4] Z2l))))
 (.sq (.sq (.op 0 [oo 5 (.mv (ki 0))] none)
 (.kp [] [2] (.bk 4 (.lp [] [1, 5] Z2k))))
 (.sq (.op 0 [oo 2 (.mv (.c (.bool true)))] none)
 .rt)))))),
 [.t 2]⟩
def Q7 : IR :=
 (.sq (.sq (.op 0 [om 28 4, oo 29 (.fa (.t 1) 4), oo 30 (.ld (.t 29) 1 false), oo 31 (.len false (.t 30)), oo 32 (.bin .lss (.t 28) (.t 31))] (some [1, 2, 3, 4, 32]))
 (.cd (.t 32)
 .sk
 (.ex 0)))
 (.sq (.bk 1 (.sq (.op 0 [om 35 3, om 36 4, oo 37 (.fa (.t 1) 4), oo 38 (.ld (.t 37) 1 false), om 39 4, oo 40 (.ia (.t 38) (.t 39) 3), oo 41 (.ld (.t 40) 3 true), oo 42 (.ia (.t 35) (.t 36) 3), ou (.st (.t 42) (.t 41) 3)] (some [1, 2, 3, 4]))
 (.op 0 [om 43 3, om 44 4, oo 45 (.fa (.t 1) 4), oo 46 (.ld (.t 45) 1 false), om 47 4, oo 48 (.ia (.t 46) (.t 47) 3), oo 49 (.fa (.t 48) 2), oo 50 (.ld (.t 49) 1 false), oo 51 (cw Md [(.t 50)]), oo 52 (.ia (.t 43) (.t 44) 3), oo 53 (.fa (.t 52) 2), ou (.st (.t 53) (.t 51) 1)] (some [1, 2, 3, 4]))))
 (.op 0 [om 33 4, oo 34 (.bin .add (.t 33) (ki 1)), om 4 34] none)))
def L0 : IR := Q7
theorem Z02 : evC C L π k0 L0 e s = evC C L π k0 Q7 e s := rfl
def Q6 : IR :=
 (.sq (.sq (.op 0 [om 58 6, oo 59 (.fa (.t 1) 6), oo 60 (.ld (.t 59) 1 false), oo 61 (.len false (.t 60)), oo 62 (.bin .lss (.t 58) (.t 61))] (some [1, 2, 3, 5, 6, 62]))
 (.cd (.t 62)
 .sk
 (.ex 2)))
 (.sq (.bk 3 (.op 15 [om 65 5, om 66 6, oo 67 (.fa (.t 1) 6), oo 68 (.ld (.t 67) 1 false), om 69 6, oo 70 (.ia (.t 68) (.t 69) 2), oo 71 (.fa (.t 70) 0), oo 72 (.ld (.t 71) 1 false), oo 73 (.fa (.t 1) 6), oo 74 (.ld (.t 73) 1 false), om 75 6, oo 76 (.ia (.t 74) (.t 75) 2), oo 77 (.fa (.t 76) 1), oo 78 (.ld (.t 77) 1 false), oo 79 (cw V3 [(.t 78)]), oo 80 (.build [.int .i64 0, .sl 1 (some true) []] [(0, 1, (.t 72)), (1, 1, (.t 79))]), oo 81 (.ia (.t 65) (.t 66) 2), ou (.st (.t 81) (.t 80) 2)] (some [1, 2, 3, 5, 6])))
 (.op 0 [om 63 6, oo 64 (.bin .add (.t 63) (ki 1)), om 6 64] none)))
def Mz : IR := Q6
theorem Z01 : evC C L π k0 Mz e s = evC C L π k0 Q6 e s := rfl
def Fj : FnIR := ⟨87,
 (.sq (.op 0 [oo 1 (.box (.t 0) 7), oo 2 (.alloc [.str ⟨#[]⟩, .sl 2 (some true) [], .sl 5 (some true) [], .sl 4 (some true) [], .sl 3 (some true) [], .sl 2 (some true) [], .sl 2 (some true) []])] none)
 (.sq (.op 10 [oo 7 (.fa (.t 1) 1), oo 8 (.ld (.t 7) 1 false), oo 9 (cw Kj [(.t 8)]), oo 10 (.fa (.t 1) 3), oo 11 (.ld (.t 10) 1 false), oo 12 (cw Kk [(.t 11)]), oo 13 (.fa (.t 1) 5), oo 14 (.ld (.t 13) 1 false), oo 15 (cw Pz [(.t 14)]), oo 16 (.fa (.t 1) 1), ou (.st (.t 16) (.t 9) 1), oo 17 (.fa (.t 1) 3), ou (.st (.t 17) (.t 12) 1), oo 18 (.fa (.t 1) 5), ou (.st (.t 18) (.t 15) 1)] (some [1, 2]))
 (.sq (.op 0 [oo 19 (.bsl M8 5 true [.str ⟨#[]⟩, .int .i64 0, .int .i64 0, .int .i64 0, .int .i64 0] 0 []), oo 20 (.fa (.t 1) 2), oo 21 (.ld (.t 20) 1 false), oo 22 (.app (.t 19) (.t 21) M8 5), oo 23 (.fa (.t 1) 2), ou (.st (.t 23) (.t 22) 1)] (some [1, 2]))
 (.sq (.op 0 [oo 24 (.fa (.t 1) 4), oo 25 (.ld (.t 24) 1 false), oo 26 (.len false (.t 25)), oo 27 (.mks Gj 3 true [.str ⟨#[]⟩, .int .i64 0, .sl 3 (some true) []] (.t 26) (.t 26)), om 3 27] (some [1, 2, 3]))
 (.sq (.sq (.op 0 [oo 4 (.mv (ki 0))] none)
 (.kp [1, 2, 3] [2] (.bk 0 (.lp [] [1, 2, 3, 4] L0))))
 (.sq (.op 0 [oo 54 (.fa (.t 1) 6), oo 55 (.ld (.t 54) 1 false), oo 56 (.len false (.t 55)), oo 57 (.mks M9 2 true [.int .i64 0, .sl 1 (some true) []] (.t 56) (.t 56)), om 5 57] (some [1, 2, 3, 5]))
 (.sq (.sq (.op 0 [oo 6 (.mv (ki 0))] none)
 (.kp [1, 2, 3, 5] [2] (.bk 2 (.lp [] [1, 2, 3, 5, 6] Mz))))
 (.sq (.op 0 [om 82 3, om 83 5, oo 84 (.fa (.t 1) 4), ou (.st (.t 84) (.t 82) 1), oo 85 (.fa (.t 1) 6), ou (.st (.t 85) (.t 83) 1)] (some [1, 2]))
 (.sq (.op 0 [oo 86 (.ld (.t 1) 7 true), ou (.st (.t 2) (.t 86) 7)] none)
 .rt))))))))),
 [.c 2 7 true]⟩
def b_cf_MatrixOf_L1 : IR :=
 (.sq (.op 0 [oo 31 (.bin .lss (.t 30) (.t 29))] none)
 (.sq (.cd (.t 31)
 .sk
 (.ex 2))
 (.sq (.bk 3 (.sq (.op 0 [om 32 30, om 10 32] none)
 (.op 0 [om 33 9, oo 34 (.ld (.t 6) 10 true), om 35 8, om 36 10, oo 37 (cv n_cf_sh_relation [(.t 34), (.t 35), (.t 36)]), oo 38 (.bsl t_int 1 false [.int .i64 0] 1 [(0, (.t 37))]), oo 39 (.app (.t 33) (.t 38) t_int 1), om 9 39] (some [1, 6, 7, 8, 9, 23, 24, 29, 30]))))
 (.op 0 [oo 40 (.bin .add (.t 30) (ki 1)), om 30 40] none))))
def c_cf_MatrixOf_L1 : IR := b_cf_MatrixOf_L1
def b_cf_MatrixOf_L0 : IR :=
 (.sq (.op 0 [oo 25 (.bin .lss (.t 24) (.t 23))] none)
 (.sq (.cd (.t 25)
 .sk
 (.ex 0))
 (.sq (.bk 1 (.sq (.op 0 [om 26 24, om 8 26] none)
 (.sq (.op 0 [oo 9 (.mv (.c (.sl 1 (some true) [])))] none)
 (.sq (.sq (.op 0 [oo 27 (.fa (.t 1) 4), oo 28 (.ld (.t 27) 1 false), oo 29 (.len false (.t 28)), oo 30 (.mv (ki 0))] (some [1, 6, 7, 8, 9, 23, 24, 29, 30]))
 (.kp [1, 6, 7, 9, 23, 24] [2, 3] (.bk 2 (.lp [(t_int, .inl 9)] [1, 6, 7, 8, 9, 23, 24, 29, 30] c_cf_MatrixOf_L1))))
 (.op 0 [om 41 7, om 42 9, oo 43 (.bsl Wu 1 false [.sl 1 (some true) []] 1 [(0, (.t 42))]), oo 44 (.app (.t 41) (.t 43) Wu 1), om 7 44] (some [1, 6, 7, 23, 24]))))))
 (.op 0 [oo 45 (.bin .add (.t 24) (ki 1)), om 24 45] none))))
def c_cf_MatrixOf_L0 : IR := b_cf_MatrixOf_L0
def c_cf_MatrixOf : FnIR := ⟨47,
 (.sq (.op 0 [oo 1 (.box (.t 0) 7), oo 2 (.mv (.c (.sl 1 (some true) []))), oo 3 (.mv (ki 0))] none)
 (.sq (.op 0 [oo 12 (.ld (.t 1) 7 true), oo 13 (cv Z1s [(.t 12), (.c (.sl 1 (some true) []))]), om 11 13, oo 14 (.ext (.t 11) 0), oo 15 (.ext (.t 11) 1), oo 4 (.alloc [.str ⟨#[]⟩, .sl 2 (some true) [], .sl 5 (some true) [], .sl 4 (some true) [], .sl 3 (some true) [], .sl 2 (some true) [], .sl 2 (some true) [], .sl 1 (some true) []]), ou (.st (.t 4) (.t 14) 8), om 5 15] (some [1, 4, 5]))
 (.sq (.sq (.op 0 [om 16 5, oo 17 (.bin .neq (.t 16) (ki 0))] none)
 (.cd (.t 17)
 (.sq (.op 0 [om 18 5, oo 2 (.mv (.c (.sl 1 (some true) []))), om 3 18] none)
 .rt)
 .sk))
 (.sq (.op 0 [oo 19 (.ld (.t 4) 8 true), oo 20 (cw Pq [(.t 19)]), oo 6 (.alloc [.str ⟨#[]⟩, .sl 2 (some true) [], .sl 5 (some true) [], .sl 4 (some true) [], .sl 3 (some true) [], .sl 2 (some true) [], .sl 2 (some true) [], .sl 1 (some true) [], .sl 1 (some true) [], .sl 1 (some true) []]), ou (.st (.t 6) (.t 20) 10)] (some [1, 6]))
 (.sq (.op 0 [oo 7 (.mv (.c (.sl 1 (some true) [])))] none)
 (.sq (.sq (.op 0 [oo 21 (.fa (.t 1) 4), oo 22 (.ld (.t 21) 1 false), oo 23 (.len false (.t 22)), oo 24 (.mv (ki 0))] (some [1, 6, 7, 23, 24]))
 (.kp [7] [2, 3] (.bk 0 (.lp [(Wu, .inl 7)] [1, 6, 7, 23, 24] c_cf_MatrixOf_L0))))
 (.sq (.op 0 [om 46 7, om 2 46, oo 3 (.mv (ki 0))] none)
 .rt))))))),
 [.t 2, .t 3]⟩
def Hp : FnIR := ⟨11,
 (.sq (.op 0 [oo 1 (.box (.t 0) 7), oo 2 (.mv (ki 0))] none)
 (.sq (.op 0 [oo 6 (.ld (.t 1) 7 true), oo 7 (cv Pl [(.t 6)]), om 5 7, oo 8 (.ext (.t 5) 0), oo 9 (.ext (.t 5) 1), om 3 8, om 4 9] (some [4]))
 (.sq (.op 0 [om 10 4, om 2 10] none)
 .rt))),
 [.t 2]⟩
def b_cf_FormatMatrix_L1 : IR :=
 (.sq (.op 0 [oo 19 (.bin .lss (.t 18) (.t 17))] none)
 (.sq (.cd (.t 19)
 .sk
 (.ex 2))
 (.sq (.bk 3 (.sq (.op 0 [oo 20 (.ia (.t 16) (.t 18) 1), oo 21 (.ld (.t 20) 1 false), om 8 21] none)
 (.sq (.op 0 [oo 9 (.mv (.c (.str k_63)))] none)
 (.sq (.sq (.op 0 [om 22 8, oo 23 (cv F4 [(.t 22), (ki 0), (ki 4)])] none)
 (.cd (.t 23)
 (.op 0 [om 24 8, om 25 8, oo 26 (.bin .add (.t 25) (ki 1)), oo 27 (.slc true (.c (.str k_102_101_98_97_99)) (some (.t 24)) (some (.t 26)) 0), om 9 27] (some [3, 6, 9, 10, 11, 12, 16, 17, 18]))
 .sk))
 (.op 0 [om 28 6, om 29 9, oo 30 (.bin .add (.t 28) (.t 29)), om 6 30] (some [3, 6, 10, 11, 12, 16, 17, 18]))))))
 (.op 0 [oo 31 (.bin .add (.t 18) (ki 1)), om 18 31] none))))
def c_cf_FormatMatrix_L1 : IR := b_cf_FormatMatrix_L1
def b_cf_FormatMatrix_L0 : IR :=
 (.sq (.op 0 [oo 13 (.bin .lss (.t 12) (.t 11))] none)
 (.sq (.cd (.t 13)
 .sk
 (.ex 0))
 (.sq (.bk 1 (.sq (.op 0 [oo 14 (.ia (.t 10) (.t 12) 1), oo 15 (.ld (.t 14) 1 false), om 5 15] none)
 (.sq (.op 0 [oo 6 (.mv (.c (.str ⟨#[]⟩)))] none)
 (.sq (.sq (.op 0 [om 16 5, oo 17 (.len false (.t 16)), oo 18 (.mv (ki 0))] none)
 (.kp [3, 6, 10, 11, 12] [2] (.bk 2 (.lp [] [3, 6, 10, 11, 12, 16, 17, 18] c_cf_FormatMatrix_L1))))
 (.op 0 [om 32 3, om 33 6, oo 34 (.bsl t_string 1 false [.str ⟨#[]⟩] 1 [(0, (.t 33))]), oo 35 (.app (.t 32) (.t 34) t_string 1), om 3 35] (some [3, 10, 11, 12]))))))
 (.op 0 [oo 36 (.bin .add (.t 12) (ki 1)), om 12 36] none))))
def c_cf_FormatMatrix_L0 : IR := b_cf_FormatMatrix_L0
def c_cf_FormatMatrix : FnIR := ⟨39,
 (.sq (.op 0 [oo 2 (.mv (.c (.str ⟨#[]⟩)))] none)
 (.sq (.op 0 [oo 3 (.mv (.c (.sl 1 (some true) [])))] none)
 (.sq (.sq (.op 0 [om 10 0, oo 11 (.len false (.t 10)), oo 12 (.mv (ki 0))] none)
 (.kp [3] [2] (.bk 0 (.lp [(t_string, .inl 3)] [3, 10, 11, 12] c_cf_FormatMatrix_L0))))
 (.sq (.op 0 [om 37 3, oo 38 (cv Z0f [(.t 37), (.c (.str k_47))]), om 2 38] none)
 .rt)))),
 [.t 2]⟩
def Xv : IR :=
 (.sq (.sq (.op 0 [om 13 5, om 14 1, oo 15 (.len false (.t 14)), oo 16 (.bin .lss (.t 13) (.t 15))] (some [1, 2, 5, 16]))
 (.cd (.t 16)
 .sk
 (.ex 0)))
 (.sq (.bk 1 (.sq (.sq (.op 5 [oo 19 (.ld (.t 2) 7 true), om 20 1, om 21 5, oo 22 (.ia (.t 20) (.t 21) 1), oo 23 (.ld (.t 22) 1 false), oo 24 (cv Kf [(.t 19), (.t 23)]), om 6 24] (some [1, 2, 5, 6]))
 (.sq (.op 0 [om 25 6, oo 26 (.bin .neq (.t 25) (ki 0))] none)
 (.cd (.t 26)
 (.sq (.op 0 [om 27 6, om 4 27] none)
 .rt)
 .sk)))
 (.sq (.op 7 [om 28 1, om 29 5, oo 30 (.slc false (.t 28) none (some (.t 29)) 1), om 31 1, om 32 5, oo 33 (.ia (.t 31) (.t 32) 1), oo 34 (.ld (.t 33) 1 false), oo 35 (cv P5 [(.t 30), (.t 34)])] (some [1, 2, 5, 35]))
 (.cd (.t 35)
 (.sq (.op 0 [oo 4 (.mv (ki 23))] none)
 .rt)
 .sk))))
 (.op 0 [om 17 5, oo 18 (.bin .add (.t 17) (ki 1)), om 5 18] none)))
def Mt : IR := Xv
theorem Uu : evC C L π k0 Mt e s = evC C L π k0 Xv e s := rfl
def Qv : FnIR := ⟨36,
 (.sq (.op 0 [oo 2 (.box (.t 0) 7), oo 4 (.mv (ki 0))] none)
 (.sq (.sq (.op 0 [om 7 1, oo 8 (.len false (.t 7)), oo 9 (.fa (.t 2) 4), oo 10 (.ld (.t 9) 1 false), oo 11 (.len false (.t 10)), oo 12 (.bin .gtr (.t 8) (.t 11))] (some [1, 2, 12]))
 (.cd (.t 12)
 (.sq (.op 0 [oo 4 (.mv (ki 8))] none)
 .rt)
 .sk))
 (.sq (.sq (.op 0 [oo 5 (.mv (ki 0))] none)
 (.kp [] [4] (.bk 0 (.lp [] [1, 2, 5] Mt))))
 (.sq (.op 0 [oo 4 (.mv (ki 0))] none)
 .rt)))),
 [.t 4]⟩
def Um : IR :=
 (.sq (.sq (.op 0 [oo 23 (.ld (.t 8) 1 false), oo 24 (.len false (.t 23)), oo 25 (.bin .gtr (.t 24) (ki 0))] none)
 (.cd (.t 25)
 .sk
 (.ex 0)))
 (.bk 1 (.sq (.op 0 [oo 26 (.ld (.t 8) 1 false), oo 27 (.mkf Qo [(.t 6), (.t 8)]), oo 28 (cv Ub [(.t 26), (.t 27)]), om 10 28] (some [6, 8, 9, 10]))
 (.sq (.sq (.op 0 [om 29 10, oo 30 (.bin .lss (.t 29) (ki 0))] none)
 (.cd (.t 30)
 (.sq (.op 0 [oo 4 (.mv (.c (.sl 1 (some true) []))), oo 5 (.mv (ki 27))] none)
 .rt)
 .sk))
 (.sq (.op 0 [om 31 9, oo 32 (.ld (.t 8) 1 false), om 33 10, oo 34 (.ia (.t 32) (.t 33) 1), oo 35 (.ld (.t 34) 1 false), oo 36 (.bsl t_int 1 false [.int .i64 0] 1 [(0, (.t 35))]), oo 37 (.app (.t 31) (.t 36) t_int 1), om 9 37] (some [6, 8, 9, 10]))
 (.op 0 [oo 38 (.ld (.t 8) 1 false), om 39 10, om 40 10, oo 41 (.bin .add (.t 40) (ki 1)), oo 42 (.callS (.c (.fn Nc [])) [(.t 38), (.t 39), (.t 41)]), ou (.st (.t 8) (.t 42) 1)] (some [6, 8, 9])))))))
def Hz : IR := Um
theorem Hk : evC C L π k0 Hz e s = evC C L π k0 Um e s := rfl
def Gf : FnIR := ⟨44,
 (.sq (.op 0 [oo 2 (.box (.t 0) 7), oo 4 (.mv (.c (.sl 1 (some true) []))), oo 5 (.mv (ki 0))] none)
 (.sq (.op 0 [oo 12 (.ld (.t 2) 7 true), om 13 1, oo 14 (cv Un [(.t 12), (.t 13)]), om 11 14, oo 15 (.ext (.t 11) 0), oo 16 (.ext (.t 11) 1), oo 6 (.alloc [.str ⟨#[]⟩, .sl 2 (some true) [], .sl 5 (some true) [], .sl 4 (some true) [], .sl 3 (some true) [], .sl 2 (some true) [], .sl 2 (some true) [], .sl 1 (some true) [], .sl 1 (some true) [], .sl 1 (some true) []]), ou (.st (.t 6) (.t 15) 10), om 7 16] (some [1, 6, 7]))
 (.sq (.sq (.op 0 [om 17 7, oo 18 (.bin .neq (.t 17) (ki 0))] none)
 (.cd (.t 18)
 (.sq (.op 0 [om 19 7, oo 4 (.mv (.c (.sl 1 (some true) []))), om 5 19] none)
 .rt)
 .sk))
 (.sq (.op 0 [om 20 1, oo 21 (cw Wd [(.t 20)]), oo 22 (cw Qg [(.t 21)]), oo 8 (.alloc [.sl 1 (some true) []]), ou (.st (.t 8) (.t 22) 1)] (some [6, 8]))
 (.sq (.op 0 [oo 9 (.mv (.c (.sl 1 (some true) [])))] none)
 (.sq (.kp [9] [4, 5] (.bk 0 (.lp [(t_int, .inl 9)] [6, 8, 9] Hz)))
 (.sq (.op 0 [om 43 9, om 4 43, oo 5 (.mv (ki 0))] none)
 .rt))))))),
 [.t 4, .t 5]⟩
def Z2p : FnIR := ⟨6,
 (.sq (.op 0 [oo 2 (.mv (.c (.sl 1 (some true) [])))] none)
 (.sq (.op 0 [oo 3 (.bsl t_int 1 false [.int .i64 0] 0 []), om 4 0, oo 5 (.app (.t 3) (.t 4) t_int 1), om 2 5] (some [2]))
 .rt)),
 [.t 2]⟩
def Wm : IR :=
 (.sq (.op 0 [oo 28 (.bin .lss (.t 27) (.t 26))] none)
 (.sq (.cd (.t 28)
 .sk
 (.ex 0))
 (.sq (.bk 1 (.sq (.op 0 [oo 29 (.ia (.t 25) (.t 27) 1), oo 30 (.ld (.t 29) 1 false), om 11 30] none)
 (.sq (.op 0 [oo 31 (.ld (.t 6) 10 true), om 32 11, om 33 8, oo 34 (cw Kl [(.t 31), (.t 32), (.t 33)]), om 12 34] (some [6, 8, 9, 12, 25, 26, 27]))
 (.sq (.op 0 [om 35 12, oo 36 (.isnil true true (.t 35)), om 37 36, og 38 37 true (.mv (.t 9)), og 39 37 true (.isnil true false (.t 38)), og 40 37 true (.mv (.t 39)), og 41 40 false (.mv (.t 12)), og 42 40 false (.len false (.t 41)), og 43 40 false (.mv (.t 9)), og 44 40 false (.len false (.t 43)), og 45 40 false (.bin .lss (.t 42) (.t 44)), og 46 37 true (.pick (.t 40) (.c (.bool true)) (.t 45)), oo 47 (.pick (.t 37) (.t 46) (.c (.bool false)))] (some [6, 8, 9, 12, 25, 26, 27, 47]))
 (.cd (.t 47)
 (.op 0 [om 48 12, om 9 48] none)
 .sk)))))
 (.op 0 [oo 49 (.bin .add (.t 27) (ki 1)), om 27 49] none))))
def Fs : IR := Wm
theorem Qd : evC C L π k0 Fs e s = evC C L π k0 Wm e s := rfl
def Z0a : FnIR := ⟨54,
 (.sq (.op 0 [oo 2 (.box (.t 0) 7), oo 4 (.mv (.c (.sl 1 (some true) []))), oo 5 (.mv (ki 0))] none)
 (.sq (.op 0 [oo 14 (.ld (.t 2) 7 true), om 15 1, oo 16 (cv Un [(.t 14), (.t 15)]), om 13 16, oo 17 (.ext (.t 13) 0), oo 18 (.ext (.t 13) 1), oo 6 (.alloc [.str ⟨#[]⟩, .sl 2 (some true) [], .sl 5 (some true) [], .sl 4 (some true) [], .sl 3 (some true) [], .sl 2 (some true) [], .sl 2 (some true) [], .sl 1 (some true) [], .sl 1 (some true) [], .sl 1 (some true) []]), ou (.st (.t 6) (.t 17) 10), om 7 18] (some [1, 6, 7]))
 (.sq (.sq (.op 0 [om 19 7, oo 20 (.bin .neq (.t 19) (ki 0))] none)
 (.cd (.t 20)
 (.sq (.op 0 [om 21 7, oo 4 (.mv (.c (.sl 1 (some true) []))), om 5 21] none)
 .rt)
 .sk))
 (.sq (.op 0 [om 22 1, oo 23 (cw Wd [(.t 22)]), oo 24 (cw Qg [(.t 23)]), om 8 24] (some [6, 8]))
 (.sq (.op 0 [oo 9 (.mv (.c (.sl 1 (some true) [])))] none)
 (.sq (.sq (.op 0 [om 25 8, oo 26 (.len false (.t 25)), oo 27 (.mv (ki 0))] none)
 (.kp [9] [4, 5] (.bk 0 (.lp [] [6, 8, 9, 25, 26, 27] Fs))))
 (.sq (.op 0 [om 50 9, om 51 9, oo 52 (.isnil true true (.t 51)), oo 53 (cv V9 [(.t 52), (ki 12)]), om 4 50, om 5 53] (some [4, 5]))
 .rt))))))),
 [.t 4, .t 5]⟩
def Wa : IR :=
 (.sq (.sq (.op 0 [om 7 5, om 8 1, oo 9 (.len false (.t 8)), oo 10 (.bin .lss (.t 7) (.t 9))] (some [1, 2, 5, 10]))
 (.cd (.t 10)
 .sk
 (.ex 0)))
 (.sq (.bk 1 (.sq (.op 0 [om 13 1, om 14 5, om 15 1, oo 16 (.len false (.t 15)), oo 17 (.bin .add (.t 14) (.t 16)), oo 18 (.bin .sub (.t 17) (ki 1)), om 19 1, oo 20 (.len false (.t 19)), oo 21 (.bin .rem (.t 18) (.t 20)), oo 22 (.ia (.t 13) (.t 21) 1), oo 23 (.ld (.t 22) 1 false), om 6 23] (some [1, 2, 5, 6]))
 (.sq (.fz [1] (.op 15 [om 24 1, om 25 5, oo 26 (.slc false (.t 24) none (some (.t 25)) 1), om 27 1, om 28 5, oo 29 (.ia (.t 27) (.t 28) 1), oo 30 (.ld (.t 29) 1 false), oo 31 (cv P5 [(.t 26), (.t 30)]), om 32 31, og 33 32 false (.ld (.t 2) 7 true), og 34 32 false (.mv (.t 1)), og 35 32 false (.mv (.t 5)), og 36 32 false (.ia (.t 34) (.t 35) 1), og 37 32 false (.ld (.t 36) 1 false), og 38 32 false (.mv (.t 6)), og 39 32 false (cv Vk [(.t 33), (.t 37), (.t 38)]), oo 40 (.pick (.t 32) (.c (.bool true)) (.t 39))] (some [1, 2, 5, 40])))
 (.cd (.t 40)
 (.sq (.op 0 [oo 4 (.mv (.c (.bool false)))] none)
 .rt)
 .sk))))
 (.op 0 [om 11 5, oo 12 (.bin .add (.t 11) (ki 1)), om 5 12] none)))
def Lz : IR := Wa
theorem P3 : evC C L π k0 Lz e s = evC C L π k0 Wa e s := rfl
def Z0j : FnIR := ⟨44,
 (.sq (.op 0 [oo 2 (.box (.t 0) 7), oo 4 (.mv (.c (.bool false)))] none)
 (.sq (.sq (.op 0 [oo 5 (.mv (ki 0))] none)
 (.kp [1] [4] (.bk 0 (.lp [] [1, 2, 5] Lz))))
 (.sq (.op 0 [om 41 1, oo 42 (.len false (.t 41)), oo 43 (.bin .gtr (.t 42) (ki 1)), om 4 43] (some [4]))
 .rt))),
 [.t 4]⟩
def Fu : IR :=
 (.sq (.sq (.op 0 [om 6 5, om 7 0, oo 8 (.len false (.t 7)), oo 9 (.bin .lss (.t 6) (.t 8))] (some [0, 1, 5, 9]))
 (.cd (.t 9)
 .sk
 (.ex 0)))
 (.sq (.bk 1 (.sq (.op 0 [om 12 0, om 13 5, oo 14 (.ia (.t 12) (.t 13) 1), oo 15 (.ld (.t 14) 1 false), om 16 1, oo 17 (.bin .eql (.t 15) (.t 16))] (some [0, 1, 5, 17]))
 (.cd (.t 17)
 (.sq (.op 0 [oo 4 (.mv (.c (.bool true)))] none)
 .rt)
 .sk)))
 (.op 0 [om 10 5, oo 11 (.bin .add (.t 10) (ki 1)), om 5 11] none)))
def c_rb_Has_L0 : IR := Fu
theorem u_rb_Has_L0 : evC C L π k0 c_rb_Has_L0 e s = evC C L π k0 Fu e s := rfl
def c_rb_Has : FnIR := ⟨18,
 (.sq (.op 0 [oo 4 (.mv (.c (.bool false)))] none)
 (.sq (.sq (.op 0 [oo 5 (.mv (ki 0))] none)
 (.kp [] [4] (.bk 0 (.lp [] [0, 1, 5] c_rb_Has_L0))))
 (.sq (.op 0 [oo 4 (.mv (.c (.bool false)))] none)
 .rt))),
 [.t 4]⟩
def Y2 : IR :=
 (.sq (.sq (.op 0 [om 9 7, oo 10 (.fa (.t 3) 2), oo 11 (.ld (.t 10) 1 false), oo 12 (.len false (.t 11)), oo 13 (.bin .lss (.t 9) (.t 12))] (some [1, 2, 3, 7, 13]))
 (.cd (.t 13)
 .sk
 (.ex 0)))
 (.sq (.bk 1 (.sq (.op 0 [oo 16 (.fa (.t 3) 2), oo 17 (.ld (.t 16) 1 false), om 18 7, oo 19 (.ia (.t 17) (.t 18) 5), oo 20 (.fa (.t 19) 1), oo 21 (.ld (.t 20) 1 false), oo 22 (.bin .eql (.t 21) (ki 1)), om 8 22] (some [1, 2, 3, 7, 8]))
 (.sq (.op 0 [om 23 8, oo 24 (.un .not (.t 23)), om 25 24, og 26 25 true (.ld (.t 3) 7 true), og 27 25 true (.mv (.t 1)), og 28 25 true (cw Gy [(.t 26), (.t 27)]), og 29 25 true (.mv (.t 7)), og 30 25 true (cv P5 [(.t 28), (.t 29)]), oo 31 (.pick (.t 25) (.t 30) (.c (.bool false))), om 32 31, og 33 32 true (.ld (.t 3) 7 true), og 34 32 true (.mv (.t 2)), og 35 32 true (cw Z1g [(.t 33), (.t 34)]), og 36 32 true (.mv (.t 7)), og 37 32 true (cv P5 [(.t 35), (.t 36)]), oo 38 (.pick (.t 32) (.t 37) (.c (.bool false))), om 39 38, og 40 39 false (.mv (.t 8)), og 41 39 false (.mv (.t 40)), og 42 41 true (.ld (.t 3) 7 true), og 43 41 true (.mv (.t 1)), og 44 41 true (cw Z1g [(.t 42), (.t 43)]), og 45 41 true (.mv (.t 7)), og 46 41 true (cv P5 [(.t 44), (.t 45)]), og 47 39 false (.pick (.t 41) (.t 46) (.c (.bool false))), og 48 39 false (.mv (.t 47)), og 49 48 true (.ld (.t 3) 7 true), og 50 48 true (.mv (.t 2)), og 51 48 true (cw Gy [(.t 49), (.t 50)]), og 52 48 true (.mv (.t 7)), og 53 48 true (cv P5 [(.t 51), (.t 52)]), og 54 39 false (.pick (.t 48) (.t 53) (.c (.bool false))), oo 55 (.pick (.t 39) (.c (.bool true)) (.t 54))] (some [1, 2, 3, 7, 55]))
 (.cd (.t 55)
 (.sq (.op 0 [oo 6 (.mv (.c (.bool false)))] none)
 .rt)
 .sk))))
 (.op 0 [om 14 7, oo 15 (.bin .add (.t 14) (ki 1)), om 7 15] none)))
def Mx : IR := Y2
theorem Yt : evC C L π k0 Mx e s = evC C L π k0 Y2 e s := rfl
def Fh : FnIR := ⟨56,
 (.sq (.op 0 [oo 3 (.box (.t 0) 7), oo 6 (.mv (.c (.bool false)))] none)
 (.sq (.sq (.op 0 [oo 7 (.mv (ki 0))] none)
 (.kp [] [6] (.bk 0 (.lp [] [1, 2, 3, 7] Mx))))
 (.sq (.op 0 [oo 6 (.mv (.c (.bool true)))] none)
 .rt))),
 [.t 6]⟩
def L6 : FnIR := ⟨22,
 (.sq (.op 0 [oo 2 (.box (.t 0) 7), oo 3 (.box (.t 1) 1), oo 4 (.mv (ki 0)), oo 5 (.mv (ki 0))] (some [2, 3]))
 (.sq (.op 0 [oo 9 (.ld (.t 2) 7 true), oo 10 (.ld (.t 3) 1 false), oo 11 (cv Un [(.t 9), (.t 10)]), om 8 11, oo 12 (.ext (.t 8) 0), oo 13 (.ext (.t 8) 1), oo 6 (.alloc [.str ⟨#[]⟩, .sl 2 (some true) [], .sl 5 (some true) [], .sl 4 (some true) [], .sl 3 (some true) [], .sl 2 (some true) [], .sl 2 (some true) [], .sl 1 (some true) [], .sl 1 (some true) [], .sl 1 (some true) []]), ou (.st (.t 6) (.t 12) 10), om 7 13] (some [3, 6, 7]))
 (.sq (.sq (.op 0 [om 14 7, oo 15 (.bin .neq (.t 14) (ki 0))] none)
 (.cd (.t 15)
 (.sq (.op 0 [om 16 7, oo 4 (.mv (ki 0)), om 5 16] none)
 .rt)
 .sk))
 (.sq (.op 0 [oo 17 (.ld (.t 3) 1 false), oo 18 (.mkf Vo [(.t 6), (.t 3)]), oo 19 (cv P8 [(.t 17), (.t 18)]), oo 20 (.ext (.t 19) 0), oo 21 (.ext (.t 19) 1), om 4 20, om 5 21] (some [4, 5]))
 .rt)))),
 [.t 4, .t 5]⟩
def Z0i : FnIR := ⟨12,
 (.sq (.op 0 [oo 2 (.box (.t 0) 7), oo 4 (.mv (ki 0))] none)
 (.sq (.sq (.op 0 [om 5 1, oo 6 (.fa (.t 2) 4), oo 7 (.ld (.t 6) 1 false), oo 8 (.len false (.t 7)), oo 9 (.bin .sub (.t 8) (ki 1)), oo 10 (cv Yc [(.t 5), (ki 0), (.t 9)]), oo 11 (.un .not (.t 10))] (some [11]))
 (.cd (.t 11)
 (.sq (.op 0 [oo 4 (.mv (ki 6))] none)
 .rt)
 .sk))
 (.sq (.op 0 [oo 4 (.mv (ki 0))] none)
 .rt))),
 [.t 4]⟩
def b_rb_Ints_L0 : IR :=
 (.sq (.sq (.op 0 [om 11 5, om 12 0, oo 13 (.len false (.t 12)), oo 14 (.bin .lss (.t 11) (.t 13))] (some [0, 1, 5, 14]))
 (.cd (.t 14)
 .sk
 (.ex 0)))
 (.sq (.bk 1 (.sq (.op 8 [om 17 0, om 18 5, oo 19 (.ia (.t 17) (.t 18) 1), oo 20 (.ld (.t 19) 1 false), om 21 1, om 22 5, oo 23 (.ia (.t 21) (.t 22) 1), oo 24 (.ld (.t 23) 1 false), oo 25 (.bin .neq (.t 20) (.t 24))] (some [0, 1, 5, 25]))
 (.cd (.t 25)
 (.sq (.op 0 [oo 4 (.mv (.c (.bool false)))] none)
 .rt)
 .sk)))
 (.op 0 [om 15 5, oo 16 (.bin .add (.t 15) (ki 1)), om 5 16] none)))
def c_rb_Ints_L0 : IR := b_rb_Ints_L0
def c_rb_Ints : FnIR := ⟨26,
 (.sq (.op 0 [oo 4 (.mv (.c (.bool false)))] none)
 (.sq (.sq (.op 0 [om 6 0, oo 7 (.len false (.t 6)), om 8 1, oo 9 (.len false (.t 8)), oo 10 (.bin .neq (.t 7) (.t 9))] (some [0, 1, 10]))
 (.cd (.t 10)
 (.sq (.op 0 [oo 4 (.mv (.c (.bool false)))] none)
 .rt)
 .sk))
 (.sq (.sq (.op 0 [oo 5 (.mv (ki 0))] none)
 (.kp [] [4] (.bk 0 (.lp [] [0, 1, 5] c_rb_Ints_L0))))
 (.sq (.op 0 [oo 4 (.mv (.c (.bool true)))] none)
 .rt)))),
 [.t 4]⟩
def Gg : IR :=
 (.sq (.sq (.op 0 [om 19 7, oo 20 (.fa (.t 5) 2), oo 21 (.ld (.t 20) 1 false), oo 22 (.len false (.t 21)), oo 23 (.bin .lss (.t 19) (.t 22))] (some [2, 5, 6, 7, 23]))
 (.cd (.t 23)
 .sk
 (.ex 0)))
 (.sq (.bk 1 (.op 13 [om 26 6, oo 27 (.fa (.t 5) 2), oo 28 (.ld (.t 27) 1 false), om 29 7, oo 30 (.ia (.t 28) (.t 29) 3), oo 31 (.fa (.t 30) 1), oo 32 (.ld (.t 31) 1 false), oo 33 (.fa (.t 5) 2), oo 34 (.ld (.t 33) 1 false), om 35 7, oo 36 (.ia (.t 34) (.t 35) 3), oo 37 (.fa (.t 36) 2), oo 38 (.ld (.t 37) 1 false), oo 39 (.bsl t_int 1 false [.int .i64 0] 2 [(0, (.t 32)), (1, (.t 38))]), oo 40 (.app (.t 26) (.t 39) t_int 1), om 6 40] (some [2, 5, 6, 7])))
 (.op 0 [om 24 7, oo 25 (.bin .add (.t 24) (ki 1)), om 7 25] none)))
def Z2o : IR := Gg
theorem u_rb_Reads_L0 : evC C L π k0 Z2o e s = evC C L π k0 Gg e s := rfl
def Lb : IR :=
 (.sq (.sq (.op 0 [om 52 10, om 53 8, oo 54 (.len false (.t 53)), oo 55 (.bin .lss (.t 52) (.t 54))] (some [2, 8, 9, 10, 55]))
 (.cd (.t 55)
 .sk
 (.ex 2)))
 (.sq (.bk 3 (.sq (.op 7 [om 58 8, om 59 10, oo 60 (.ia (.t 58) (.t 59) 1), oo 61 (.ld (.t 60) 1 false), oo 62 (.fa (.t 2) 1), oo 63 (.ld (.t 62) 1 false), oo 64 (.len false (.t 63)), oo 65 (.bin .geq (.t 61) (.t 64))] (some [2, 8, 9, 10, 65]))
 (.cd (.t 65)
 (.op 8 [om 66 9, om 67 8, om 68 10, oo 69 (.ia (.t 67) (.t 68) 1), oo 70 (.ld (.t 69) 1 false), oo 71 (.fa (.t 2) 1), oo 72 (.ld (.t 71) 1 false), oo 73 (.len false (.t 72)), oo 74 (.bin .sub (.t 70) (.t 73)), oo 75 (.bsl t_int 1 false [.int .i64 0] 1 [(0, (.t 74))]), oo 76 (.app (.t 66) (.t 75) t_int 1), om 9 76] (some [2, 8, 9, 10]))
 .sk)))
 (.op 0 [om 56 10, oo 57 (.bin .add (.t 56) (ki 1)), om 10 57] none)))
def Z2n : IR := Lb
theorem Z20 : evC C L π k0 Z2n e s = evC C L π k0 Lb e s := rfl
def c_rb_Reads : FnIR := ⟨78,
 (.sq (.op 0 [oo 2 (.box (.t 0) 7), oo 4 (.mv (.c (.sl 1 (some true) [])))] none)
 (.sq (.op 0 [oo 11 (.fa (.t 2) 4), oo 12 (.ld (.t 11) 1 false), om 13 1, oo 14 (.ia (.t 12) (.t 13) 3), oo 15 (.ld (.t 14) 3 true), oo 5 (.alloc [.str ⟨#[]⟩, .int .i64 0, .sl 3 (some true) []]), ou (.st (.t 5) (.t 15) 3)] (some [2, 5]))
 (.sq (.op 0 [oo 16 (.fa (.t 5) 1), oo 17 (.ld (.t 16) 1 false), oo 18 (.bsl t_int 1 false [.int .i64 0] 1 [(0, (.t 17))]), om 6 18] (some [2, 5, 6]))
 (.sq (.sq (.op 0 [oo 7 (.mv (ki 0))] none)
 (.kp [2, 6] [4] (.bk 0 (.lp [(t_int, .inl 6)] [2, 5, 6, 7] Z2o))))
 (.sq (.op 0 [oo 41 (.fa (.t 2) 3), oo 42 (.ld (.t 41) 1 false), om 43 6, oo 44 (.fa (.t 2) 1), oo 45 (.ld (.t 44) 1 false), oo 46 (.len false (.t 45)), oo 47 (.fa (.t 2) 2), oo 48 (.ld (.t 47) 1 false), oo 49 (.len false (.t 48)), oo 50 (.bin .add (.t 46) (.t 49)), oo 51 (cw Px [(.t 42), (.t 43), (.t 50)]), om 8 51] (some [2, 8]))
 (.sq (.op 0 [oo 9 (.mv (.c (.sl 1 (some true) [])))] none)
 (.sq (.sq (.op 0 [oo 10 (.mv (ki 0))] none)
 (.kp [9] [4] (.bk 2 (.lp [(t_int, .inl 9)] [2, 8, 9, 10] Z2n))))
 (.sq (.op 0 [om 77 9, om 4 77] none)
 .rt)))))))),
 [.t 4]⟩
def Up : IR :=
 (.sq (.sq (.op 0 [om 16 8, oo 17 (.fa (.t 2) 4), oo 18 (.ld (.t 17) 1 false), om 19 1, oo 20 (.ia (.t 18) (.t 19) 3), oo 21 (.fa (.t 20) 2), oo 22 (.ld (.t 21) 1 false), oo 23 (.len false (.t 22)), oo 24 (.bin .lss (.t 16) (.t 23))] (some [1, 2, 5, 6, 7, 8, 24]))
 (.cd (.t 24)
 .sk
 (.ex 2)))
 (.sq (.bk 3 (.op 0 [om 27 7, om 28 27, og 29 28 false (.fa (.t 2) 4), og 30 28 false (.ld (.t 29) 1 false), og 31 28 false (.mv (.t 1)), og 32 28 false (.ia (.t 30) (.t 31) 3), og 33 28 false (.fa (.t 32) 2), og 34 28 false (.ld (.t 33) 1 false), og 35 28 false (.mv (.t 8)), og 36 28 false (.ia (.t 34) (.t 35) 3), og 37 28 false (.fa (.t 36) 0), og 38 28 false (.ld (.t 37) 1 false), og 39 28 false (.mv (.t 6)), og 40 28 false (.bin .eql (.t 38) (.t 39)), oo 41 (.pick (.t 28) (.c (.bool true)) (.t 40)), om 7 41] (some [1, 2, 5, 6, 7, 8])))
 (.op 0 [om 25 8, oo 26 (.bin .add (.t 25) (ki 1)), om 8 26] none)))
def Z0l : IR := Up
theorem Ke : evC C L π k0 Z0l e s = evC C L π k0 Up e s := rfl
def Pu : IR :=
 (.sq (.sq (.op 0 [om 9 6, oo 10 (.fa (.t 2) 2), oo 11 (.ld (.t 10) 1 false), oo 12 (.len false (.t 11)), oo 13 (.bin .lss (.t 9) (.t 12))] (some [1, 2, 5, 6, 13]))
 (.cd (.t 13)
 .sk
 (.ex 0)))
 (.sq (.bk 1 (.sq (.op 0 [oo 7 (.mv (.c (.bool false)))] none)
 (.sq (.sq (.op 0 [oo 8 (.mv (ki 0))] none)
 (.kp [1, 2, 5, 6, 7] [4] (.bk 2 (.lp [] [1, 2, 5, 6, 7, 8] Z0l))))
 (.sq (.op 0 [om 42 7] none)
 (.cd (.t 42)
 (.op 0 [om 43 5, om 44 6, oo 45 (.bsl t_int 1 false [.int .i64 0] 1 [(0, (.t 44))]), oo 46 (.app (.t 43) (.t 45) t_int 1), om 5 46] (some [1, 2, 5, 6]))
 .sk)))))
 (.op 0 [om 14 6, oo 15 (.bin .add (.t 14) (ki 1)), om 6 15] none)))
def Z0m : IR := Pu
theorem Z0d : evC C L π k0 Z0m e s = evC C L π k0 Pu e s := rfl
def c_rb_Writes : FnIR := ⟨48,
 (.sq (.op 0 [oo 2 (.box (.t 0) 7), oo 4 (.mv (.c (.sl 1 (some true) [])))] none)
 (.sq (.op 0 [oo 5 (.mv (.c (.sl 1 (some true) [])))] none)
 (.sq (.sq (.op 0 [oo 6 (.mv (ki 0))] none)
 (.kp [5] [4] (.bk 0 (.lp [(t_int, .inl 5)] [1, 2, 5, 6] Z0m))))
 (.sq (.op 0 [om 47 5, om 4 47] none)
 .rt)))),
 [.t 4]⟩
def Kv : IR :=
 (.sq (.sq (.op 0 [om 6 4, oo 7 (.fa (.t 1) 1), oo 8 (.ld (.t 7) 1 false), oo 9 (.len false (.t 8)), oo 10 (.bin .lss (.t 6) (.t 9))] (some [1, 3, 4, 10]))
 (.cd (.t 10)
 .sk
 (.ex 0)))
 (.sq (.bk 1 (.op 0 [om 13 3, oo 14 (.fa (.t 1) 1), oo 15 (.ld (.t 14) 1 false), om 16 4, oo 17 (.ia (.t 15) (.t 16) 2), oo 18 (.fa (.t 17) 1), oo 19 (.ld (.t 18) 1 false), oo 20 (.bsl t_int 1 false [.int .i64 0] 1 [(0, (.t 19))]), oo 21 (.app (.t 13) (.t 20) t_int 1), om 3 21] (some [1, 3, 4])))
 (.op 0 [om 11 4, oo 12 (.bin .add (.t 11) (ki 1)), om 4 12] none)))
def Z0o : IR := Kv
theorem u_rb_Leaves_L0 : evC C L π k0 Z0o e s = evC C L π k0 Kv e s := rfl
def Ku : IR :=
 (.sq (.sq (.op 0 [om 22 5, oo 23 (.fa (.t 1) 2), oo 24 (.ld (.t 23) 1 false), oo 25 (.len false (.t 24)), oo 26 (.bin .lss (.t 22) (.t 25))] (some [1, 3, 5, 26]))
 (.cd (.t 26)
 .sk
 (.ex 2)))
 (.sq (.bk 3 (.op 0 [om 29 3, oo 30 (.fa (.t 1) 2), oo 31 (.ld (.t 30) 1 false), om 32 5, oo 33 (.ia (.t 31) (.t 32) 5), oo 34 (.fa (.t 33) 2), oo 35 (.ld (.t 34) 1 false), oo 36 (.bsl t_int 1 false [.int .i64 0] 1 [(0, (.t 35))]), oo 37 (.app (.t 29) (.t 36) t_int 1), om 3 37] (some [1, 3, 5])))
 (.op 0 [om 27 5, oo 28 (.bin .add (.t 27) (ki 1)), om 5 28] none)))
def Z0n : IR := Ku
theorem u_rb_Leaves_L1 : evC C L π k0 Z0n e s = evC C L π k0 Ku e s := rfl
def c_rb_Leaves : FnIR := ⟨39,
 (.sq (.op 0 [oo 1 (.box (.t 0) 7), oo 2 (.mv (.c (.sl 1 (some true) [])))] none)
 (.sq (.op 0 [oo 3 (.mv (.c (.sl 1 (some true) [])))] none)
 (.sq (.sq (.op 0 [oo 4 (.mv (ki 0))] none)
 (.kp [1, 3] [2] (.bk 0 (.lp [(t_int, .inl 3)] [1, 3, 4] Z0o))))
 (.sq (.sq (.op 0 [oo 5 (.mv (ki 0))] none)
 (.kp [3] [2] (.bk 2 (.lp [(t_int, .inl 3)] [1, 3, 5] Z0n))))
 (.sq (.op 0 [om 38 3, om 2 38] none)
 .rt))))),
 [.t 2]⟩
def c_rl16_Design : FnIR := ⟨30,
 (.sq (.op 0 [oo 0 (.alloc [.str ⟨#[]⟩, .sl 2 (some true) [], .sl 5 (some true) [], .sl 4 (some true) [], .sl 3 (some true) [], .sl 2 (some true) [], .sl 2 (some true) []])] none)
 (.sq (.op 0 [oo 1 (.build [.str ⟨#[]⟩, .int .i64 0] [(0, 1, (.c (.str ⟨#[103]⟩))), (1, 1, (ki 1))]), oo 2 (.bsl Gk 2 true [.str ⟨#[]⟩, .int .i64 0] 1 [(0, (.t 1))]), oo 3 (.build [.str ⟨#[]⟩, .int .i64 0, .int .i64 0, .int .i64 0, .int .i64 0] [(0, 1, (.c (.str ⟨#[120]⟩))), (2, 1, (ki 2))]), oo 4 (.build [.str ⟨#[]⟩, .int .i64 0, .int .i64 0, .int .i64 0, .int .i64 0] [(0, 1, (.c (.str ⟨#[121]⟩))), (2, 1, (ki 2)), (3, 1, (ki 1))]), oo 5 (.bsl M8 5 true [.str ⟨#[]⟩, .int .i64 0, .int .i64 0, .int .i64 0, .int .i64 0] 2 [(0, (.t 3)), (1, (.t 4))]), oo 6 (.build [.int .i64 0, .int .i64 0, .sl 1 (some true) [], .int .i64 0] [(0, 1, (ki 1)), (1, 1, (ki 1))]), oo 7 (.build [.int .i64 0, .int .i64 0, .sl 1 (some true) [], .int .i64 0] [(0, 1, (ki 1)), (1, 1, (ki 2)), (3, 1, (ki 1))]), oo 8 (.build [.int .i64 0, .int .i64 0, .sl 1 (some true) [], .int .i64 0] [(0, 1, (ki 1)), (1, 1, (ki 2)), (3, 1, (ki 2))]), oo 9 (.bsl t_int 1 false [.int .i64 0] 1 [(0, (ki 0))]), oo 10 (.build [.int .i64 0, .int .i64 0, .sl 1 (some true) [], .int .i64 0] [(0, 1, (ki 2)), (1, 1, (ki 1)), (2, 1, (.t 9))]), oo 11 (.build [.int .i64 0, .int .i64 0, .sl 1 (some true) [], .int .i64 0] [(0, 1, (ki 0)), (1, 1, (ki 1)), (3, 1, (ki 1))]), oo 12 (.build [.int .i64 0, .int .i64 0, .sl 1 (some true) [], .int .i64 0] [(0, 1, (ki 0)), (1, 1, (ki 2)), (3, 1, (ki 1))]), oo 13 (.bsl t_int 1 false [.int .i64 0] 2 [(0, (ki 1)), (1, (ki 5))]), oo 14 (.build [.int .i64 0, .int .i64 0, .sl 1 (some true) [], .int .i64 0] [(0, 1, (ki 6)), (1, 1, (ki 2)), (2, 1, (.t 13))]), oo 15 (.bsl Ln 4 true [.int .i64 0, .int .i64 0, .sl 1 (some true) [], .int .i64 0] 7 [(0, (.t 6)), (1, (.t 7)), (2, (.t 8)), (3, (.t 10)), (4, (.t 11)), (5, (.t 12)), (6, (.t 14))]), oo 16 (.build [.int .i64 0, .int .i64 0, .int .i64 0] [(0, 1, (ki 0)), (1, 1, (ki 4)), (2, 1, (ki 6))]), oo 17 (.bsl Lm 3 true [.int .i64 0, .int .i64 0, .int .i64 0] 1 [(0, (.t 16))]), oo 18 (.build [.str ⟨#[]⟩, .int .i64 0, .sl 3 (some true) []] [(0, 1, (.c (.str ⟨#[117, 112]⟩))), (1, 1, (ki 0)), (2, 1, (.t 17))]), oo 19 (.build [.int .i64 0, .int .i64 0, .int .i64 0] [(0, 1, (ki 1)), (1, 1, (ki 4)), (2, 1, (ki 1))]), oo 20 (.bsl Lm 3 true [.int .i64 0, .int .i64 0, .int .i64 0] 1 [(0, (.t 19))]), oo 21 (.build [.str ⟨#[]⟩, .int .i64 0, .sl 3 (some true) []] [(0, 1, (.c (.str ⟨#[99, 111, 112, 121]⟩))), (1, 1, (ki 3)), (2, 1, (.t 20))]), oo 22 (.build [.int .i64 0, .int .i64 0, .int .i64 0] [(0, 1, (ki 0)), (1, 1, (ki 4)), (2, 1, (ki 2))]), oo 23 (.build [.int .i64 0, .int .i64 0, .int .i64 0] [(0, 1, (ki 1)), (1, 1, (ki 4)), (2, 1, (ki 1))]), oo 24 (.bsl Lm 3 true [.int .i64 0, .int .i64 0, .int .i64 0] 2 [(0, (.t 22)), (1, (.t 23))]), oo 25 (.build [.str ⟨#[]⟩, .int .i64 0, .sl 3 (some true) []] [(0, 1, (.c (.str ⟨#[115, 119, 97, 112]⟩))), (1, 1, (ki 4)), (2, 1, (.t 24))]), oo 26 (.bsl Gj 3 true [.str ⟨#[]⟩, .int .i64 0, .sl 3 (some true) []] 3 [(0, (.t 18)), (1, (.t 21)), (2, (.t 25))]), oo 27 (.build [.str ⟨#[]⟩, .int .i64 0] [(0, 1, (.c (.str ⟨#[111]⟩))), (1, 1, (ki 2))]), oo 28 (.bsl Nr 2 true [.str ⟨#[]⟩, .int .i64 0] 1 [(0, (.t 27))]), oo 29 (.build [.str ⟨#[]⟩, .sl 2 (some true) [], .sl 5 (some true) [], .sl 4 (some true) [], .sl 3 (some true) [], .sl 2 (some true) [], .sl 2 (some true) []] [(0, 1, (.c (.str ⟨#[100]⟩))), (1, 1, (.t 2)), (2, 1, (.t 5)), (3, 1, (.t 15)), (4, 1, (.t 26)), (5, 1, (.t 28))]), ou (.st (.t 0) (.t 29) 7)] (some [0]))
 .rt)),
 [.c 0 7 true]⟩
def b_cf_MeetingOf_R0A : IR :=
 (.op 0 [om 11 26] none)
def c_cf_MeetingOf_R0A : IR := b_cf_MeetingOf_R0A
def b_cf_MeetingOf_R0B : IR :=
 (.bk 1 (.sq (.fz [11, 26] (.op 0 [oo 27 (.ld (.t 8) 8 true), oo 28 (.ld (.t 4) 1 false), oo 29 (.ld (.t 5) 1 false), om 30 11, oo 31 (cv n_cf_nw_meet [(.t 27), (.t 28), (.t 29), (.t 30)])] (some [6, 7, 11, 31])))
 (.cd (.t 31)
 (.sq (.op 0 [om 32 11, ou (.st (.t 6) (.t 32) 1), ou (.st (.t 7) (ki 0) 1)] none)
 .rt)
 .sk)))
def c_cf_MeetingOf_R0B : IR := b_cf_MeetingOf_R0B
def c_cf_MeetingOf : FnIR := ⟨33,
 (.sq (.op 0 [oo 3 (.box (.t 0) 7), oo 4 (.box (.t 1) 1), oo 5 (.box (.t 2) 1), oo 6 (.alloc [.sl 1 (some true) []]), oo 7 (.alloc [.int .i64 0])] none)
 (.sq (.op 0 [oo 13 (.ld (.t 3) 7 true), oo 14 (.ld (.t 4) 1 false), oo 15 (.ld (.t 5) 1 false), oo 16 (cw n_cf_openGuards [(.t 13), (.t 14), (.t 15)]), om 12 16, oo 17 (.ext (.t 12) 0), oo 18 (.ext (.t 12) 1), oo 19 (.ext (.t 12) 2), oo 8 (.alloc [.str ⟨#[]⟩, .sl 2 (some true) [], .sl 5 (some true) [], .sl 4 (some true) [], .sl 3 (some true) [], .sl 2 (some true) [], .sl 2 (some true) [], .sl 1 (some true) []]), ou (.st (.t 8) (.t 17) 8), om 9 18, om 10 19] (some [4, 5, 6, 7, 8, 9, 10]))
 (.sq (.sq (.op 0 [om 20 10, oo 21 (.bin .neq (.t 20) (ki 0))] none)
 (.cd (.t 21)
 (.sq (.op 0 [om 22 10, ou (.st (.t 6) (.c (.sl 1 (some true) [])) 1), ou (.st (.t 7) (.t 22) 1)] none)
 .rt)
 .sk))
 (.sq (.sq (.kp [4, 5, 6, 7, 8, 25] [6, 7] (.op 0 [oo 23 (.ld (.t 8) 8 true), om 24 9, oo 25 (cw n_cf_nw_points [(.t 23), (.t 24)])] none))
 (.bk 0 (.kp [6, 7] [6, 7] (.rf (.t 25) 33 0 [4, 5, 6, 7, 8] [26] c_cf_MeetingOf_R0A c_cf_MeetingOf_R0B))))
 (.sq (.op 0 [ou (.st (.t 6) (.c (.sl 1 (some true) [])) 1), ou (.st (.t 7) (ki 12) 1)] none)
 .rt))))),
 [.c 6 1 false, .c 7 1 false]⟩
def c_cf_openTwo : FnIR := ⟨26,
 (.sq (.op 0 [oo 3 (.box (.t 0) 7), oo 6 (.alloc [.str ⟨#[]⟩, .sl 2 (some true) [], .sl 5 (some true) [], .sl 4 (some true) [], .sl 3 (some true) [], .sl 2 (some true) [], .sl 2 (some true) [], .sl 1 (some true) []]), oo 7 (.mv (ki 0))] none)
 (.sq (.op 0 [oo 11 (.ld (.t 3) 7 true), om 12 1, om 13 2, oo 14 (.bsp t_int 1 false [.int .i64 0] 2 [(0, (.t 12)), (1, (.t 13))]), oo 15 (cv Z1s [(.t 11), (.t 14)]), om 10 15, oo 16 (.ext (.t 10) 0), oo 17 (.ext (.t 10) 1), oo 8 (.alloc [.str ⟨#[]⟩, .sl 2 (some true) [], .sl 5 (some true) [], .sl 4 (some true) [], .sl 3 (some true) [], .sl 2 (some true) [], .sl 2 (some true) [], .sl 1 (some true) []]), ou (.st (.t 8) (.t 16) 8), om 9 17] (some [1, 2, 6, 8, 9]))
 (.sq (.op 8 [oo 18 (.ld (.t 8) 8 true), om 19 9, om 20 1, om 21 2, oo 22 (.bin .neq (.t 20) (.t 21)), oo 23 (cv V9 [(.t 22), (ki 23)]), oo 24 (.bsp Y5 1 false [.int .i64 0] 2 [(0, (.t 19)), (1, (.t 23))]), oo 25 (cv Lu [(.t 24)]), ou (.st (.t 6) (.t 18) 8), om 7 25] (some [6, 7]))
 .rt))),
 [.c 6 8 true, .t 7]⟩
def Pf : IR :=
 (.sq (.op 0 [oo 12 (.bin .lss (.t 11) (.t 10))] none)
 (.sq (.cd (.t 12)
 .sk
 (.ex 0))
 (.sq (.bk 1 (.sq (.op 0 [om 13 11, om 4 13] none)
 (.op 15 [oo 14 (.fa (.t 3) 8), oo 15 (.ld (.t 14) 1 false), oo 16 (.ld (.t 1) 8 true), om 17 4, oo 18 (cv Mh [(.t 16), (.t 17)]), oo 19 (.bsl Wu 1 false [.sl 1 (some true) []] 1 [(0, (.t 18))]), oo 20 (.apx (.t 15) (.t 19) Wu 1 [0, 1, 2, 3, 4, 5]), oo 21 (.fa (.t 3) 9), oo 22 (.ld (.t 21) 1 false), oo 23 (.ld (.t 1) 8 true), om 24 4, oo 25 (cv Pp [(.t 23), (.t 24)]), oo 26 (.bsl Wu 1 false [.sl 1 (some true) []] 1 [(0, (.t 25))]), oo 27 (.apx (.t 22) (.t 26) Wu 1 [0, 1, 2, 3, 4, 5, 6, 7, 8, 9, 10, 11, 12]), oo 28 (.fa (.t 3) 8), ou (.st (.t 28) (.t 20) 1), oo 29 (.fa (.t 3) 9), ou (.st (.t 29) (.t 27) 1)] (some [1, 2, 3, 10, 11]))))
 (.op 0 [oo 30 (.bin .add (.t 11) (ki 1)), om 11 30] none))))
def Vw : IR := Pf
theorem Z19 : evC C L π k0 Vw e s = evC C L π k0 Pf e s := rfl
def Z11 : FnIR := ⟨32,
 (.sq (.op 0 [oo 1 (.box (.t 0) 8), oo 2 (.alloc [.str ⟨#[]⟩, .sl 2 (some true) [], .sl 5 (some true) [], .sl 4 (some true) [], .sl 3 (some true) [], .sl 2 (some true) [], .sl 2 (some true) [], .sl 1 (some true) [], .sl 1 (some true) [], .sl 1 (some true) []])] none)
 (.sq (.op 0 [oo 5 (.ld (.t 1) 8 true), oo 6 (.build [.str ⟨#[]⟩, .sl 2 (some true) [], .sl 5 (some true) [], .sl 4 (some true) [], .sl 3 (some true) [], .sl 2 (some true) [], .sl 2 (some true) [], .sl 1 (some true) [], .sl 1 (some true) [], .sl 1 (some true) []] [(0, 8, (.t 5))]), oo 3 (.alloc [.str ⟨#[]⟩, .sl 2 (some true) [], .sl 5 (some true) [], .sl 4 (some true) [], .sl 3 (some true) [], .sl 2 (some true) [], .sl 2 (some true) [], .sl 1 (some true) [], .sl 1 (some true) [], .sl 1 (some true) []]), ou (.st (.t 3) (.t 6) 10)] (some [1, 2, 3]))
 (.sq (.sq (.op 0 [oo 7 (.fa (.t 1) 0), oo 8 (.fa (.t 7) 4), oo 9 (.ld (.t 8) 1 false), oo 10 (.len false (.t 9)), oo 11 (.mv (ki 0))] (some [1, 2, 3, 10, 11]))
 (.kp [2, 3] [2] (.bk 0 (.lp [(Wu, .inr (3, 8)), (Wu, .inr (3, 9))] [1, 2, 3, 10, 11] Vw))))
 (.sq (.op 0 [oo 31 (.ld (.t 3) 10 true), ou (.st (.t 2) (.t 31) 10)] none)
 .rt)))),
 [.c 2 10 true]⟩
def c_cf_sh_relation : FnIR := ⟨48,
 (.sq (.op 0 [oo 3 (.box (.t 0) 10), oo 5 (.box (.t 2) 1), oo 6 (.mv (ki 0))] none)
 (.sq (.op 7 [oo 10 (.ld (.t 3) 10 true), om 11 1, oo 12 (.ld (.t 5) 1 false), oo 13 (cv Y0 [(.t 10), (.t 11), (.t 12)]), oo 14 (.ld (.t 3) 10 true), oo 15 (.ld (.t 5) 1 false), om 16 1, oo 17 (cv Y0 [(.t 14), (.t 15), (.t 16)]), om 7 13, om 8 17] (some [1, 3, 5, 7, 8]))
 (.sq (.op 0 [oo 18 (.fa (.t 3) 9), oo 19 (.ld (.t 18) 1 false), om 20 1, oo 21 (.ia (.t 19) (.t 20) 1), oo 22 (.ld (.t 21) 1 false), oo 23 (.mkf Z04 [(.t 3), (.t 5)]), oo 24 (cv Yj [(.t 22), (.t 23)]), om 9 24] (some [1, 5, 7, 8, 9]))
 (.sq (.bk 0 (.sq (.op 0 [om 26 1, oo 27 (.ld (.t 5) 1 false), oo 28 (.bin .eql (.t 26) (.t 27)), om 29 28, og 30 29 false (.mv (.t 7)), og 31 29 false (.un .not (.t 30)), og 32 29 false (.mv (.t 31)), og 33 32 true (.mv (.t 8)), og 34 32 true (.un .not (.t 33)), og 35 29 false (.pick (.t 32) (.t 34) (.c (.bool false))), oo 36 (.pick (.t 29) (.c (.bool true)) (.t 35)), om 25 36] (some [7, 8, 9, 25]))
 (.cd (.t 25)
 (.sq (.op 0 [oo 6 (.mv (ki 4))] none)
 .rt)
 (.sq (.op 0 [om 38 7, om 39 38, og 40 39 true (.mv (.t 8)), og 41 39 true (.un .not (.t 40)), oo 42 (.pick (.t 39) (.t 41) (.c (.bool false))), om 37 42] (some [7, 9, 37]))
 (.cd (.t 37)
 (.sq (.op 0 [oo 6 (.mv (ki 2))] none)
 .rt)
 (.sq (.op 0 [om 44 7, oo 45 (.un .not (.t 44)), om 43 45] none)
 (.cd (.t 43)
 (.sq (.op 0 [oo 6 (.mv (ki 3))] none)
 .rt)
 (.sq (.op 0 [om 47 9, om 46 47] none)
 (.cd (.t 46)
 (.sq (.op 0 [oo 6 (.mv (ki 1))] none)
 .rt)
 .sk)))))))))
 (.sq (.op 0 [oo 6 (.mv (ki 0))] none)
 .rt))))),
 [.t 6]⟩
def Kt : FnIR := ⟨6,
 (.sq (.op 0 [oo 2 (.mv (.c (.sl 2 (some true) [])))] none)
 (.sq (.op 0 [oo 3 (.bsl Gk 2 true [.str ⟨#[]⟩, .int .i64 0] 0 []), om 4 0, oo 5 (.app (.t 3) (.t 4) Gk 2), om 2 5] (some [2]))
 .rt)),
 [.t 2]⟩
def Pd : IR :=
 (.sq (.sq (.op 0 [om 8 4, om 9 0, oo 10 (.len false (.t 9)), oo 11 (.bin .lss (.t 8) (.t 10))] (some [0, 3, 4, 11]))
 (.cd (.t 11)
 .sk
 (.ex 0)))
 (.sq (.bk 1 (.sq (.op 0 [om 14 3, om 15 4, om 16 0, om 17 4, oo 18 (.ia (.t 16) (.t 17) 4), oo 19 (.ld (.t 18) 4 true), oo 20 (.ia (.t 14) (.t 15) 4), ou (.st (.t 20) (.t 19) 4)] (some [0, 3, 4]))
 (.op 0 [om 21 3, om 22 4, om 23 0, om 24 4, oo 25 (.ia (.t 23) (.t 24) 4), oo 26 (.fa (.t 25) 2), oo 27 (.ld (.t 26) 1 false), oo 28 (cv V3 [(.t 27)]), oo 29 (.ia (.t 21) (.t 22) 4), oo 30 (.fa (.t 29) 2), ou (.st (.t 30) (.t 28) 1)] (some [0, 3, 4]))))
 (.op 0 [om 12 4, oo 13 (.bin .add (.t 12) (ki 1)), om 4 13] none)))
def K8 : IR := Pd
theorem Z17 : evC C L π k0 K8 e s = evC C L π k0 Pd e s := rfl
def Z0q : FnIR := ⟨32,
 (.sq (.op 0 [oo 2 (.mv (.c (.sl 4 (some true) [])))] none)
 (.sq (.op 0 [om 5 0, oo 6 (.len false (.t 5)), oo 7 (.mks Ln 4 true [.int .i64 0, .int .i64 0, .sl 1 (some true) [], .int .i64 0] (.t 6) (.t 6)), om 3 7] (some [0, 3]))
 (.sq (.sq (.op 0 [oo 4 (.mv (ki 0))] none)
 (.kp [3] [2] (.bk 0 (.lp [] [0, 3, 4] K8))))
 (.sq (.op 0 [om 31 3, om 2 31] none)
 .rt)))),
 [.t 2]⟩
def N3 : FnIR := ⟨6,
 (.sq (.op 0 [oo 2 (.mv (.c (.sl 2 (some true) [])))] none)
 (.sq (.op 0 [oo 3 (.bsl Nr 2 true [.str ⟨#[]⟩, .int .i64 0] 0 []), om 4 0, oo 5 (.app (.t 3) (.t 4) Nr 2), om 2 5] (some [2]))
 .rt)),
 [.t 2]⟩
def My : FnIR := ⟨6,
 (.sq (.op 0 [oo 2 (.mv (.c (.sl 3 (some true) [])))] none)
 (.sq (.op 0 [oo 3 (.bsl Lm 3 true [.int .i64 0, .int .i64 0, .int .i64 0] 0 []), om 4 0, oo 5 (.app (.t 3) (.t 4) Lm 3), om 2 5] (some [2]))
 .rt)),
 [.t 2]⟩
def Z0c : IR :=
 (.sq (.op 0 [oo 24 (.bin .lss (.t 23) (.t 22))] none)
 (.sq (.cd (.t 24)
 .sk
 (.ex 0))
 (.sq (.bk 1 (.sq (.op 0 [oo 25 (.ia (.t 21) (.t 23) 2), oo 26 (.ld (.t 25) 2 true), oo 10 (.alloc [.str ⟨#[]⟩, .int .i64 0]), ou (.st (.t 10) (.t 26) 2)] (some [1, 2, 4, 7, 8, 10, 21, 22, 23]))
 (.op 0 [oo 27 (.fa (.t 8) 7), oo 28 (.ld (.t 27) 1 false), oo 29 (.fa (.t 10) 1), oo 30 (.ld (.t 29) 1 false), oo 31 (.bsl t_int 1 false [.int .i64 0] 1 [(0, (.t 30))]), oo 32 (.app (.t 28) (.t 31) t_int 1), oo 33 (.fa (.t 8) 7), ou (.st (.t 33) (.t 32) 1)] (some [1, 2, 4, 7, 8, 21, 22, 23]))))
 (.op 0 [oo 34 (.bin .add (.t 23) (ki 1)), om 23 34] none))))
def c_cf_open_L0 : IR := Z0c
theorem u_cf_open_L0 : evC C L π k0 c_cf_open_L0 e s = evC C L π k0 Z0c e s := rfl
def Z0b : IR :=
 (.sq (.op 0 [oo 39 (.bin .lss (.t 38) (.t 37))] none)
 (.sq (.cd (.t 39)
 .sk
 (.ex 2))
 (.sq (.bk 3 (.sq (.op 0 [oo 40 (.ia (.t 36) (.t 38) 5), oo 41 (.ld (.t 40) 5 true), oo 12 (.alloc [.str ⟨#[]⟩, .int .i64 0, .int .i64 0, .int .i64 0, .int .i64 0]), ou (.st (.t 12) (.t 41) 5)] (some [1, 4, 7, 8, 12, 36, 37, 38]))
 (.op 0 [oo 42 (.fa (.t 8) 7), oo 43 (.ld (.t 42) 1 false), oo 44 (.fa (.t 12) 2), oo 45 (.ld (.t 44) 1 false), oo 46 (.bsl t_int 1 false [.int .i64 0] 1 [(0, (.t 45))]), oo 47 (.app (.t 43) (.t 46) t_int 1), oo 48 (.fa (.t 8) 7), ou (.st (.t 48) (.t 47) 1)] (some [1, 4, 7, 8, 36, 37, 38]))))
 (.op 0 [oo 49 (.bin .add (.t 38) (ki 1)), om 38 49] none))))
def c_cf_open_L1 : IR := Z0b
theorem u_cf_open_L1 : evC C L π k0 c_cf_open_L1 e s = evC C L π k0 Z0b e s := rfl
def c_cf_open : FnIR := ⟨60,
 (.sq (.op 0 [oo 2 (.box (.t 0) 7), oo 4 (.alloc [.str ⟨#[]⟩, .sl 2 (some true) [], .sl 5 (some true) [], .sl 4 (some true) [], .sl 3 (some true) [], .sl 2 (some true) [], .sl 2 (some true) [], .sl 1 (some true) []]), oo 5 (.mv (ki 0))] none)
 (.sq (.op 0 [oo 14 (.ld (.t 2) 7 true), oo 15 (cv n_ds_CkD [(.t 14)]), om 13 15, oo 16 (.ext (.t 13) 0), oo 17 (.ext (.t 13) 1), om 6 16, om 7 17] (some [1, 2, 4, 7]))
 (.sq (.op 0 [oo 18 (.ld (.t 2) 7 true), oo 19 (.build [.str ⟨#[]⟩, .sl 2 (some true) [], .sl 5 (some true) [], .sl 4 (some true) [], .sl 3 (some true) [], .sl 2 (some true) [], .sl 2 (some true) [], .sl 1 (some true) []] [(0, 7, (.t 18))]), oo 8 (.alloc [.str ⟨#[]⟩, .sl 2 (some true) [], .sl 5 (some true) [], .sl 4 (some true) [], .sl 3 (some true) [], .sl 2 (some true) [], .sl 2 (some true) [], .sl 1 (some true) []]), ou (.st (.t 8) (.t 19) 8)] (some [1, 2, 4, 7, 8]))
 (.sq (.sq (.op 0 [oo 20 (.fa (.t 2) 1), oo 21 (.ld (.t 20) 1 false), oo 22 (.len false (.t 21)), oo 23 (.mv (ki 0))] (some [1, 2, 4, 7, 8, 21, 22, 23]))
 (.kp [1, 2, 4, 7, 8] [4, 5] (.bk 0 (.lp [(t_int, .inr (8, 7))] [1, 2, 4, 7, 8, 21, 22, 23] c_cf_open_L0))))
 (.sq (.sq (.op 0 [oo 35 (.fa (.t 2) 2), oo 36 (.ld (.t 35) 1 false), oo 37 (.len false (.t 36)), oo 38 (.mv (ki 0))] (some [1, 4, 7, 8, 36, 37, 38]))
 (.kp [1, 4, 7, 8] [4, 5] (.bk 2 (.lp [(t_int, .inr (8, 7))] [1, 4, 7, 8, 36, 37, 38] c_cf_open_L1))))
 (.sq (.sq (.op 0 [om 50 7, oo 51 (.bin .eql (.t 50) (ki 0))] none)
 (.cd (.t 51)
 (.op 0 [om 53 1, oo 54 (.mkf F5 [(.t 8)]), oo 55 (cv P8 [(.t 53), (.t 54)]), om 52 55, oo 56 (.ext (.t 52) 0), oo 57 (.ext (.t 52) 1), om 7 57] (some [4, 7, 8]))
 .sk))
 (.sq (.op 0 [oo 58 (.ld (.t 8) 8 true), om 59 7, ou (.st (.t 4) (.t 58) 8), om 5 59] (some [4, 5]))
 .rt))))))),
 [.c 4 8 true, .t 5]⟩
def Vx : IR :=
 (.sq (.sq (.op 0 [om 78 12, om 79 10, oo 80 (.bin .lss (.t 78) (.t 79))] none)
 (.cd (.t 80)
 .sk
 (.ex 2)))
 (.sq (.bk 3 (.sq (.op 8 [oo 83 (.fa (.t 1) 4), oo 84 (.ld (.t 83) 1 false), om 85 12, oo 86 (.ia (.t 84) (.t 85) 3), oo 87 (.fa (.t 86) 0), oo 88 (.ld (.t 87) 1 false), oo 89 (.fa (.t 11) 0), oo 90 (.ld (.t 89) 1 false), oo 91 (.bin .eql (.t 88) (.t 90))] (some [1, 10, 11, 12, 91]))
 (.cd (.t 91)
 (.sq (.op 0 [om 92 10, om 2 92, oo 3 (.mv (ki 5))] none)
 .rt)
 .sk)))
 (.op 0 [om 81 12, oo 82 (.bin .add (.t 81) (ki 1)), om 12 82] none)))
def K6 : IR := Vx
theorem Ll : evC C L π k0 K6 e s = evC C L π k0 Vx e s := rfl
def Yr : IR :=
 (.sq (.sq (.op 0 [om 61 10, oo 62 (.fa (.t 1) 4), oo 63 (.ld (.t 62) 1 false), oo 64 (.len false (.t 63)), oo 65 (.bin .lss (.t 61) (.t 64))] (some [1, 10, 65]))
 (.cd (.t 65)
 .sk
 (.ex 0)))
 (.sq (.bk 1 (.sq (.op 0 [oo 68 (.fa (.t 1) 4), oo 69 (.ld (.t 68) 1 false), om 70 10, oo 71 (.ia (.t 69) (.t 70) 3), oo 72 (.ld (.t 71) 3 true), oo 11 (.alloc [.str ⟨#[]⟩, .int .i64 0, .sl 3 (some true) []]), ou (.st (.t 11) (.t 72) 3)] (some [1, 10, 11]))
 (.sq (.sq (.op 0 [oo 73 (.fa (.t 11) 0), oo 74 (.ld (.t 73) 1 false), oo 75 (cv Qh [(.t 74)]), oo 76 (.un .not (.t 75))] (some [1, 10, 11, 76]))
 (.cd (.t 76)
 (.sq (.op 0 [om 77 10, om 2 77, oo 3 (.mv (ki 4))] none)
 .rt)
 .sk))
 (.sq (.sq (.op 0 [oo 12 (.mv (ki 0))] none)
 (.kp [1, 10, 11] [2, 3] (.bk 2 (.lp [] [1, 10, 11, 12] K6))))
 (.sq (.sq (.op 0 [oo 93 (.fa (.t 1) 3), oo 94 (.ld (.t 93) 1 false), oo 95 (.fa (.t 11) 1), oo 96 (.ld (.t 95) 1 false), oo 97 (cv Uc [(.t 94), (.t 96)]), oo 98 (.un .not (.t 97))] (some [1, 10, 11, 98]))
 (.cd (.t 98)
 (.sq (.op 0 [om 99 10, om 2 99, oo 3 (.mv (ki 9))] none)
 .rt)
 .sk))
 (.sq (.op 0 [oo 100 (.fa (.t 1) 2), oo 101 (.ld (.t 100) 1 false), oo 102 (.fa (.t 1) 3), oo 103 (.ld (.t 102) 1 false), oo 104 (.fa (.t 11) 2), oo 105 (.ld (.t 104) 1 false), oo 106 (cv Ki [(.t 101), (.t 103), (.t 105)]), om 13 106] (some [1, 10, 13]))
 (.sq (.op 0 [om 107 13, oo 108 (.bin .neq (.t 107) (ki 0))] none)
 (.cd (.t 108)
 (.sq (.op 0 [om 109 10, om 110 13, om 2 109, om 3 110] (some [2, 3]))
 .rt)
 .sk))))))))
 (.op 0 [om 66 10, oo 67 (.bin .add (.t 66) (ki 1)), om 10 67] none)))
def K7 : IR := Yr
theorem W8 : evC C L π k0 K7 e s = evC C L π k0 Yr e s := rfl
def Wb : IR :=
 (.sq (.sq (.op 0 [om 155 18, oo 156 (.fa (.t 17) 1), oo 157 (.ld (.t 156) 1 false), oo 158 (.len false (.t 157)), oo 159 (.bin .lss (.t 155) (.t 158))] (some [1, 16, 17, 18, 159]))
 (.cd (.t 159)
 .sk
 (.ex 6)))
 (.sq (.bk 7 (.sq (.sq (.op 9 [oo 162 (.fa (.t 17) 1), oo 163 (.ld (.t 162) 1 false), om 164 18, oo 165 (.ia (.t 163) (.t 164) 1), oo 166 (.ld (.t 165) 1 false), oo 167 (.fa (.t 1) 4), oo 168 (.ld (.t 167) 1 false), oo 169 (.len false (.t 168)), oo 170 (.bin .sub (.t 169) (ki 1)), oo 171 (cv Yc [(.t 166), (ki 0), (.t 170)]), oo 172 (.un .not (.t 171))] (some [1, 16, 17, 18, 172]))
 (.cd (.t 172)
 (.sq (.op 0 [om 173 16, om 2 173, oo 3 (.mv (ki 6))] none)
 .rt)
 .sk))
 (.sq (.op 9 [oo 174 (.fa (.t 17) 1), oo 175 (.ld (.t 174) 1 false), om 176 18, oo 177 (.slc false (.t 175) none (some (.t 176)) 1), oo 178 (.fa (.t 17) 1), oo 179 (.ld (.t 178) 1 false), om 180 18, oo 181 (.ia (.t 179) (.t 180) 1), oo 182 (.ld (.t 181) 1 false), oo 183 (cv P5 [(.t 177), (.t 182)])] (some [1, 16, 17, 18, 183]))
 (.cd (.t 183)
 (.sq (.op 0 [om 184 16, om 2 184, oo 3 (.mv (ki 23))] none)
 .rt)
 .sk))))
 (.op 0 [om 160 18, oo 161 (.bin .add (.t 160) (ki 1)), om 18 161] none)))
def K4 : IR := Wb
theorem P4 : evC C L π k0 K4 e s = evC C L π k0 Wb e s := rfl
def Yq : IR :=
 (.sq (.sq (.op 0 [om 127 16, oo 128 (.fa (.t 1) 6), oo 129 (.ld (.t 128) 1 false), oo 130 (.len false (.t 129)), oo 131 (.bin .lss (.t 127) (.t 130))] (some [1, 16, 131]))
 (.cd (.t 131)
 .sk
 (.ex 4)))
 (.sq (.bk 5 (.sq (.op 0 [oo 134 (.fa (.t 1) 6), oo 135 (.ld (.t 134) 1 false), om 136 16, oo 137 (.ia (.t 135) (.t 136) 2), oo 138 (.ld (.t 137) 2 true), oo 17 (.alloc [.int .i64 0, .sl 1 (some true) []]), ou (.st (.t 17) (.t 138) 2)] (some [1, 16, 17]))
 (.sq (.sq (.op 0 [oo 139 (.fa (.t 17) 0), oo 140 (.ld (.t 139) 1 false), oo 141 (cv Yc [(.t 140), (ki 0), (ki 3)]), oo 142 (.un .not (.t 141))] (some [1, 16, 17, 142]))
 (.cd (.t 142)
 (.sq (.op 0 [om 143 16, om 2 143, oo 3 (.mv (ki 15))] none)
 .rt)
 .sk))
 (.sq (.sq (.op 0 [oo 144 (.fa (.t 17) 1), oo 145 (.ld (.t 144) 1 false), oo 146 (.len false (.t 145)), oo 147 (.bin .eql (.t 146) (ki 0)), om 148 147, og 149 148 false (.fa (.t 17) 1), og 150 148 false (.ld (.t 149) 1 false), og 151 148 false (.len false (.t 150)), og 152 148 false (.bin .gtr (.t 151) (ki 16)), oo 153 (.pick (.t 148) (.c (.bool true)) (.t 152))] (some [1, 16, 17, 153]))
 (.cd (.t 153)
 (.sq (.op 0 [om 154 16, om 2 154, oo 3 (.mv (ki 10))] none)
 .rt)
 .sk))
 (.sq (.op 0 [oo 18 (.mv (ki 0))] none)
 (.kp [1, 16] [2, 3] (.bk 6 (.lp [] [1, 16, 17, 18] K4))))))))
 (.op 0 [om 132 16, oo 133 (.bin .add (.t 132) (ki 1)), om 16 133] none)))
def K5 : IR := Yq
theorem W7 : evC C L π k0 K5 e s = evC C L π k0 Yq e s := rfl
def Yi : FnIR := ⟨185,
 (.sq (.op 0 [oo 1 (.box (.t 0) 7), oo 2 (.mv (ki 0)), oo 3 (.mv (ki 0))] none)
 (.sq (.sq (.op 0 [oo 19 (.fa (.t 1) 0), oo 20 (.ld (.t 19) 1 false), oo 21 (cv Qh [(.t 20)]), oo 22 (.un .not (.t 21))] (some [1, 22]))
 (.cd (.t 22)
 (.sq (.op 0 [oo 2 (.mv (ki 0)), oo 3 (.mv (ki 4))] none)
 .rt)
 .sk))
 (.sq (.sq (.op 0 [oo 24 (.fa (.t 1) 1), oo 25 (.ld (.t 24) 1 false), oo 26 (cv G3 [(.t 25)]), om 23 26, oo 27 (.ext (.t 23) 0), oo 28 (.ext (.t 23) 1), om 4 27, om 5 28] (some [1, 4, 5]))
 (.sq (.op 0 [om 29 5, oo 30 (.bin .neq (.t 29) (ki 0))] none)
 (.cd (.t 30)
 (.sq (.op 0 [om 31 4, om 32 5, om 2 31, om 3 32] (some [2, 3]))
 .rt)
 .sk)))
 (.sq (.sq (.op 0 [oo 34 (.fa (.t 1) 1), oo 35 (.ld (.t 34) 1 false), oo 36 (.fa (.t 1) 2), oo 37 (.ld (.t 36) 1 false), oo 38 (cv Py [(.t 35), (.t 37)]), om 33 38, oo 39 (.ext (.t 33) 0), oo 40 (.ext (.t 33) 1), om 6 39, om 7 40] (some [1, 6, 7]))
 (.sq (.op 0 [om 41 7, oo 42 (.bin .neq (.t 41) (ki 0))] none)
 (.cd (.t 42)
 (.sq (.op 0 [om 43 6, om 44 7, om 2 43, om 3 44] (some [2, 3]))
 .rt)
 .sk)))
 (.sq (.sq (.op 9 [oo 46 (.ld (.t 1) 7 true), oo 47 (cv Z27 [(.t 46)]), oo 48 (.fa (.t 1) 3), oo 49 (.ld (.t 48) 1 false), oo 50 (cv G4 [(.t 47), (.t 49)]), om 45 50, oo 51 (.ext (.t 45) 0), oo 52 (.ext (.t 45) 1), om 8 51, om 9 52] (some [1, 8, 9]))
 (.sq (.op 0 [om 53 9, oo 54 (.bin .neq (.t 53) (ki 0))] none)
 (.cd (.t 54)
 (.sq (.op 0 [om 55 8, om 56 9, om 2 55, om 3 56] (some [2, 3]))
 .rt)
 .sk)))
 (.sq (.sq (.op 0 [oo 57 (.fa (.t 1) 4), oo 58 (.ld (.t 57) 1 false), oo 59 (.len false (.t 58)), oo 60 (.bin .gtr (.t 59) (ki 16))] (some [1, 60]))
 (.cd (.t 60)
 (.sq (.op 0 [oo 2 (.mv (ki 0)), oo 3 (.mv (ki 8))] none)
 .rt)
 .sk))
 (.sq (.sq (.op 0 [oo 10 (.mv (ki 0))] none)
 (.kp [1] [2, 3] (.bk 0 (.lp [] [1, 10] K7))))
 (.sq (.sq (.op 0 [oo 112 (.fa (.t 1) 3), oo 113 (.ld (.t 112) 1 false), oo 114 (.fa (.t 1) 5), oo 115 (.ld (.t 114) 1 false), oo 116 (cv Mc [(.t 113), (.t 115)]), om 111 116, oo 117 (.ext (.t 111) 0), oo 118 (.ext (.t 111) 1), om 14 117, om 15 118] (some [1, 14, 15]))
 (.sq (.op 0 [om 119 15, oo 120 (.bin .neq (.t 119) (ki 0))] none)
 (.cd (.t 120)
 (.sq (.op 0 [om 121 14, om 122 15, om 2 121, om 3 122] (some [2, 3]))
 .rt)
 .sk)))
 (.sq (.sq (.op 0 [oo 123 (.fa (.t 1) 6), oo 124 (.ld (.t 123) 1 false), oo 125 (.len false (.t 124)), oo 126 (.bin .gtr (.t 125) (ki 16))] (some [1, 126]))
 (.cd (.t 126)
 (.sq (.op 0 [oo 2 (.mv (ki 0)), oo 3 (.mv (ki 8))] none)
 .rt)
 .sk))
 (.sq (.sq (.op 0 [oo 16 (.mv (ki 0))] none)
 (.kp [] [2, 3] (.bk 4 (.lp [] [1, 16] K5))))
 (.sq (.op 0 [oo 2 (.mv (ki 0)), oo 3 (.mv (ki 0))] none)
 .rt))))))))))),
 [.t 2, .t 3]⟩
def c_cf_within : FnIR := ⟨15,
 (.sq (.op 0 [oo 6 (.mv (.c (.bool false)))] none)
 (.sq (.op 0 [om 7 1, om 8 0, oo 9 (.bin .leq (.t 7) (.t 8)), om 10 9, og 11 10 true (.mv (.t 0)), og 12 10 true (.mv (.t 2)), og 13 10 true (.bin .leq (.t 11) (.t 12)), oo 14 (.pick (.t 10) (.t 13) (.c (.bool false))), om 6 14] (some [6]))
 .rt)),
 [.t 6]⟩
def c_rb_Within : FnIR := ⟨15,
 (.sq (.op 0 [oo 6 (.mv (.c (.bool false)))] none)
 (.sq (.op 0 [om 7 1, om 8 0, oo 9 (.bin .leq (.t 7) (.t 8)), om 10 9, og 11 10 true (.mv (.t 0)), og 12 10 true (.mv (.t 2)), og 13 10 true (.bin .leq (.t 11) (.t 12)), oo 14 (.pick (.t 10) (.t 13) (.c (.bool false))), om 6 14] (some [6]))
 .rt)),
 [.t 6]⟩
def Uo : FnIR := ⟨39,
 (.sq (.op 0 [oo 2 (.box (.t 0) 7), oo 3 (.box (.t 1) 1), oo 4 (.alloc [.str ⟨#[]⟩, .sl 2 (some true) [], .sl 5 (some true) [], .sl 4 (some true) [], .sl 3 (some true) [], .sl 2 (some true) [], .sl 2 (some true) [], .sl 1 (some true) [], .sl 1 (some true) [], .sl 1 (some true) []]), oo 5 (.mv (ki 0))] (some [2, 3, 4]))
 (.sq (.op 0 [oo 9 (.ld (.t 2) 7 true), oo 10 (cv Z1s [(.t 9), (.c (.sl 1 (some true) []))]), om 8 10, oo 11 (.ext (.t 8) 0), oo 12 (.ext (.t 8) 1), oo 6 (.alloc [.str ⟨#[]⟩, .sl 2 (some true) [], .sl 5 (some true) [], .sl 4 (some true) [], .sl 3 (some true) [], .sl 2 (some true) [], .sl 2 (some true) [], .sl 1 (some true) []]), ou (.st (.t 6) (.t 11) 8), om 7 12] (some [2, 3, 4, 6, 7]))
 (.sq (.sq (.op 0 [om 13 7, oo 14 (.ld (.t 3) 1 false), oo 15 (.len false (.t 14)), oo 16 (.fa (.t 2) 4), oo 17 (.ld (.t 16) 1 false), oo 18 (.len false (.t 17)), oo 19 (.bin .leq (.t 15) (.t 18)), oo 20 (cv V9 [(.t 19), (ki 8)]), oo 21 (.bsp Y5 1 false [.int .i64 0] 2 [(0, (.t 13)), (1, (.t 20))]), oo 22 (cv Lu [(.t 21)]), om 7 22] (some [3, 4, 6, 7]))
 (.sq (.op 0 [om 23 7, oo 24 (.bin .neq (.t 23) (ki 0))] none)
 (.cd (.t 24)
 (.sq (.op 0 [oo 25 (.build [.str ⟨#[]⟩, .sl 2 (some true) [], .sl 5 (some true) [], .sl 4 (some true) [], .sl 3 (some true) [], .sl 2 (some true) [], .sl 2 (some true) [], .sl 1 (some true) [], .sl 1 (some true) [], .sl 1 (some true) []] []), om 26 7, ou (.st (.t 4) (.t 25) 10), om 5 26] (some [4, 5]))
 .rt)
 .sk)))
 (.sq (.sq (.op 0 [oo 28 (.ld (.t 3) 1 false), oo 29 (.mkf Uf [(.t 6), (.t 3)]), oo 30 (cv P8 [(.t 28), (.t 29)]), om 27 30, oo 31 (.ext (.t 27) 0), oo 32 (.ext (.t 27) 1), om 7 32] (some [4, 6, 7]))
 (.sq (.op 0 [om 33 7, oo 34 (.bin .neq (.t 33) (ki 0))] none)
 (.cd (.t 34)
 (.sq (.op 0 [oo 35 (.build [.str ⟨#[]⟩, .sl 2 (some true) [], .sl 5 (some true) [], .sl 4 (some true) [], .sl 3 (some true) [], .sl 2 (some true) [], .sl 2 (some true) [], .sl 1 (some true) [], .sl 1 (some true) [], .sl 1 (some true) []] []), om 36 7, ou (.st (.t 4) (.t 35) 10), om 5 36] (some [4, 5]))
 .rt)
 .sk)))
 (.sq (.op 0 [oo 37 (.ld (.t 6) 8 true), oo 38 (cw Pq [(.t 37)]), ou (.st (.t 4) (.t 38) 10), oo 5 (.mv (ki 0))] (some [4, 5]))
 .rt))))),
 [.c 4 10 true, .t 5]⟩
def Ff : FnIR := ⟨9,
 (.sq (.op 0 [oo 2 (.mv (.c (.sl 1 (some true) [])))] none)
 (.sq (.op 0 [om 4 0, oo 5 (cw Hl [(.t 4)]), om 3 5] none)
 (.sq (.op 0 [om 6 3, oo 7 (.callS (.c (.fn Vj [])) [(.t 6)])] none)
 (.sq (.op 0 [om 8 3, om 2 8] none)
 .rt)))),
 [.t 2]⟩
def Nd : FnIR := ⟨4,
 (.sq (.op 0 [oo 1 (.box (.t 0) 1), oo 2 (.mv (.c (.nilf)))] none)
 (.sq (.op 0 [oo 3 (.mkf Zr [(.t 1)]), om 2 3] none)
 .rt)),
 [.t 2]⟩
def Wi : IR :=
 (.sq (.op 0 [oo 9 (.bin .lss (.t 8) (.t 7))] none)
 (.sq (.cd (.t 9)
 .sk
 (.ex 0))
 (.sq (.bk 1 (.sq (.op 0 [om 10 8, om 5 10] none)
 (.sq (.op 0 [om 11 1, om 12 0, om 13 5, oo 14 (.ia (.t 12) (.t 13) 1), oo 15 (.ld (.t 14) 1 false), oo 16 (.callV true (.t 11) [(.t 15)])] (some [0, 1, 5, 7, 8, 16]))
 (.cd (.t 16)
 (.sq (.op 0 [om 17 5, om 4 17] none)
 .rt)
 .sk))))
 (.op 0 [oo 18 (.bin .add (.t 8) (ki 1)), om 8 18] none))))
def Nf : IR := Wi
theorem N8 : evC C L π k0 Nf e s = evC C L π k0 Wi e s := rfl
def Hm : FnIR := ⟨19,
 (.sq (.op 0 [oo 4 (.mv (ki 0))] none)
 (.sq (.sq (.op 0 [om 6 0, oo 7 (.len false (.t 6)), oo 8 (.mv (ki 0))] none)
 (.kp [] [4] (.bk 0 (.lp [] [0, 1, 7, 8] Nf))))
 (.sq (.op 0 [oo 4 (.mv (ki (-1)))] none)
 .rt))),
 [.t 4]⟩
def Fr : FnIR := ⟨9,
 (.sq (.op 0 [oo 4 (.mv (.c (.bool false)))] none)
 (.sq (.op 0 [oo 5 (.ld (.t 1) 10 true), om 6 0, oo 7 (.ld (.t 2) 1 false), oo 8 (cv Qm [(.t 5), (.t 6), (.t 7)]), om 4 8] (some [4]))
 .rt)),
 [.t 4]⟩
def Fo : FnIR := ⟨11,
 (.sq (.op 0 [oo 3 (.box (.t 0) 10), oo 4 (.box (.t 1) 1), oo 6 (.mv (.c (.bool false)))] none)
 (.sq (.op 0 [om 7 2, oo 8 (.mkf Vn [(.t 4), (.t 3)]), oo 9 (cv Yj [(.t 7), (.t 8)]), oo 10 (.un .not (.t 9)), om 6 10] (some [6]))
 .rt)),
 [.t 6]⟩
def Xd : IR :=
 (.sq (.op 0 [oo 45 (.bin .lss (.t 44) (.t 43))] none)
 (.sq (.cd (.t 45)
 .sk
 (.ex 2))
 (.sq (.bk 3 (.sq (.op 0 [oo 46 (.ia (.t 42) (.t 44) 1), oo 47 (.ld (.t 46) 1 false), om 12 47] none)
 (.sq (.op 0 [om 48 12, om 49 1, oo 50 (.bin .gtr (.t 48) (.t 49)), om 51 50, og 52 51 true (.mv (.t 7)), og 53 51 true (.mv (.t 12)), og 54 51 true (.lkp (.t 52) (.t 53) (.int .i64 0) (.bool false) false), og 55 51 true (.un .not (.t 54)), oo 56 (.pick (.t 51) (.t 55) (.c (.bool false))), om 57 56, og 58 57 true (.ld (.t 3) 10 true), og 59 57 true (.mv (.t 12)), og 60 57 true (.mv (.t 10)), og 61 57 true (cv Y0 [(.t 58), (.t 59), (.t 60)]), og 62 57 true (.un .not (.t 61)), oo 63 (.pick (.t 57) (.t 62) (.c (.bool false)))] (some [1, 2, 3, 7, 8, 9, 10, 12, 42, 43, 44, 63]))
 (.cd (.t 63)
 (.sq (.op 0 [om 64 7, om 65 12, ou (.mpu (.t 64) (.t 65) (.c (.bool true)) (.int .i64 0))] none)
 (.op 0 [om 66 8, om 67 9, oo 68 (cw V2 [(.t 67)]), om 69 12, oo 70 (.bsl t_int 1 false [.int .i64 0] 1 [(0, (.t 69))]), oo 71 (.app (.t 68) (.t 70) t_int 1), oo 72 (.bsl Wu 1 false [.sl 1 (some true) []] 1 [(0, (.t 71))]), oo 73 (.app (.t 66) (.t 72) Wu 1), om 8 73] (some [1, 2, 3, 7, 8, 9, 10, 42, 43, 44])))
 .sk))))
 (.op 0 [oo 74 (.bin .add (.t 44) (ki 1)), om 44 74] none))))
def Ka : IR := Xd
theorem Vg : evC C L π k0 Ka e s = evC C L π k0 Xd e s := rfl
def Xe : IR :=
 (.sq (.sq (.op 0 [om 17 8, oo 18 (.len false (.t 17)), oo 19 (.bin .gtr (.t 18) (ki 0))] none)
 (.cd (.t 19)
 .sk
 (.ex 0)))
 (.sq (.bk 1 (.sq (.op 0 [om 22 8, oo 23 (.ia (.t 22) (ki 0) 1), oo 24 (.ld (.t 23) 1 false), om 9 24] (some [1, 2, 3, 7, 8, 9]))
 (.sq (.op 0 [om 25 9, om 26 9, oo 27 (.len false (.t 26)), oo 28 (.bin .sub (.t 27) (ki 1)), oo 29 (.ia (.t 25) (.t 28) 1), oo 30 (.ld (.t 29) 1 false), om 10 30] (some [1, 2, 3, 7, 8, 9, 10]))
 (.sq (.sq (.op 0 [om 31 9, oo 32 (.len false (.t 31)), oo 33 (.bin .gtr (.t 32) (ki 1)), om 34 33, og 35 34 true (.ld (.t 3) 10 true), og 36 34 true (.mv (.t 1)), og 37 34 true (.mv (.t 10)), og 38 34 true (cv Y0 [(.t 35), (.t 36), (.t 37)]), og 39 34 true (.un .not (.t 38)), oo 40 (.pick (.t 34) (.t 39) (.c (.bool false)))] (some [1, 2, 3, 7, 8, 9, 10, 40]))
 (.cd (.t 40)
 (.sq (.op 0 [om 41 9, om 6 41] none)
 .rt)
 .sk))
 (.sq (.op 0 [om 42 2, oo 43 (.len false (.t 42)), oo 44 (.mv (ki 0))] none)
 (.kp [1, 2, 3, 7, 8] [6] (.bk 2 (.lp [(Wu, .inl 8)] [1, 2, 3, 7, 8, 9, 10, 42, 43, 44] Ka))))))))
 (.op 0 [om 20 8, oo 21 (.shf (.t 20) (ki 1) 1), om 8 21] none)))
def Kb : IR := Xe
theorem Vh : evC C L π k0 Kb e s = evC C L π k0 Xe e s := rfl
def Z0z : FnIR := ⟨75,
 (.sq (.op 0 [oo 3 (.box (.t 0) 10), oo 6 (.mv (.c (.sl 1 (some true) [])))] none)
 (.sq (.op 0 [oo 13 (.mkp), om 7 13] none)
 (.sq (.sq (.op 0 [om 14 1, oo 15 (.bsl t_int 1 false [.int .i64 0] 1 [(0, (.t 14))]), oo 16 (.bsl Wu 1 false [.sl 1 (some true) []] 1 [(0, (.t 15))]), om 8 16] (some [1, 2, 3, 7, 8]))
 (.kp [] [6] (.bk 0 (.lp [(Wu, .inl 8)] [1, 2, 3, 7, 8] Kb))))
 (.sq (.op 0 [oo 6 (.mv (.c (.sl 1 (some true) [])))] none)
 .rt)))),
 [.t 6]⟩
def c_cf_unless : FnIR := ⟨7,
 (.sq (.op 0 [oo 4 (.mv (ki 0))] none)
 (.sq (.sq (.op 0 [om 5 0] none)
 (.cd (.t 5)
 (.sq (.op 0 [oo 4 (.mv (ki 0))] none)
 .rt)
 .sk))
 (.sq (.op 0 [om 6 1, om 4 6] none)
 .rt))),
 [.t 4]⟩
def Ul : IR :=
 (.sq (.op 0 [oo 12 (.bin .lss (.t 11) (.t 10))] none)
 (.sq (.cd (.t 12)
 .sk
 (.ex 0))
 (.sq (.bk 1 (.sq (.op 0 [om 13 11, oo 14 (.ia (.t 9) (.t 11) 1), oo 15 (.ld (.t 14) 1 false), om 6 13, om 7 15] (some [1, 6, 7, 9, 10, 11]))
 (.sq (.op 0 [om 16 1, om 17 6, om 18 7, oo 19 (.callV true (.t 16) [(.t 17), (.t 18)]), om 8 19] (some [1, 6, 8, 9, 10, 11]))
 (.sq (.op 0 [om 20 8, oo 21 (.bin .neq (.t 20) (ki 0))] none)
 (.cd (.t 21)
 (.sq (.op 0 [om 22 6, om 23 8, om 4 22, om 5 23] (some [4, 5]))
 .rt)
 .sk)))))
 (.op 0 [oo 24 (.bin .add (.t 11) (ki 1)), om 11 24] none))))
def Hy : IR := Ul
theorem Hj : evC C L π k0 Hy e s = evC C L π k0 Ul e s := rfl
def Z37 : FnIR := ⟨25,
 (.sq (.op 0 [oo 4 (.mv (ki 0)), oo 5 (.mv (ki 0))] none)
 (.sq (.sq (.op 0 [om 9 0, oo 10 (.len false (.t 9)), oo 11 (.mv (ki 0))] none)
 (.kp [] [4, 5] (.bk 0 (.lp [] [1, 9, 10, 11] Hy))))
 (.sq (.op 0 [oo 4 (.mv (ki 0)), oo 5 (.mv (ki 0))] none)
 .rt))),
 [.t 4, .t 5]⟩
def Kd : FnIR := ⟨14,
 (.sq (.op 0 [oo 6 (.mv (ki 0))] none)
 (.sq (.op 5 [oo 7 (.ld (.t 2) 10 true), om 8 1, oo 9 (.ld (.t 3) 1 false), om 10 0, oo 11 (.slc false (.t 9) (some (.t 10)) none 1), oo 12 (cv Qm [(.t 7), (.t 8), (.t 11)]), oo 13 (cv V9 [(.t 12), (ki 29)]), om 6 13] (some [6]))
 .rt)),
 [.t 6]⟩
def N7 : IR :=
 (.sq (.op 0 [oo 27 (.bin .lss (.t 26) (.t 25))] none)
 (.sq (.cd (.t 27)
 .sk
 (.ex 0))
 (.sq (.bk 1 (.sq (.op 0 [oo 28 (.ia (.t 24) (.t 26) 3), oo 29 (.ld (.t 28) 3 true), oo 7 (.alloc [.int .i64 0, .int .i64 0, .int .i64 0]), ou (.st (.t 7) (.t 29) 3)] (some [2, 5, 7, 24, 25, 26]))
 (.op 0 [om 30 5, oo 31 (.fa (.t 7) 1), oo 32 (.ld (.t 31) 1 false), oo 33 (.fa (.t 7) 2), oo 34 (.ld (.t 33) 1 false), oo 35 (.bsl t_int 1 false [.int .i64 0] 2 [(0, (.t 32)), (1, (.t 34))]), oo 36 (.app (.t 30) (.t 35) t_int 1), om 5 36] (some [2, 5, 24, 25, 26]))))
 (.op 0 [oo 37 (.bin .add (.t 26) (ki 1)), om 26 37] none))))
def N6 : IR := N7
theorem u_cf_nw_reads_L0 : evC C L π k0 N6 e s = evC C L π k0 N7 e s := rfl
def Z35 : FnIR := ⟨45,
 (.sq (.op 0 [oo 2 (.box (.t 0) 8), oo 4 (.mv (.c (.sl 1 (some true) [])))] none)
 (.sq (.op 0 [oo 10 (.fa (.t 2) 0), oo 11 (.fa (.t 10) 4), oo 12 (.ld (.t 11) 1 false), om 13 1, oo 14 (.ia (.t 12) (.t 13) 3), oo 15 (.fa (.t 14) 1), oo 16 (.ld (.t 15) 1 false), oo 17 (.bsl t_int 1 false [.int .i64 0] 1 [(0, (.t 16))]), om 5 17] (some [1, 2, 5]))
 (.sq (.sq (.op 0 [oo 18 (.fa (.t 2) 0), oo 19 (.fa (.t 18) 4), oo 20 (.ld (.t 19) 1 false), om 21 1, oo 22 (.ia (.t 20) (.t 21) 3), oo 23 (.fa (.t 22) 2), oo 24 (.ld (.t 23) 1 false), oo 25 (.len false (.t 24)), oo 26 (.mv (ki 0))] (some [2, 5, 24, 25, 26]))
 (.kp [2, 5] [4] (.bk 0 (.lp [(t_int, .inl 5)] [2, 5, 24, 25, 26] N6))))
 (.sq (.op 0 [oo 39 (.ld (.t 2) 8 true), om 40 5, oo 41 (cw Hb [(.t 39), (.t 40)]), om 38 41, oo 42 (.ext (.t 38) 0), oo 43 (.ext (.t 38) 1), om 8 42, om 9 43] (some [8]))
 (.sq (.op 0 [om 44 8, om 4 44] none)
 .rt))))),
 [.t 4]⟩
def Pe : IR :=
 (.sq (.op 0 [oo 17 (.bin .lss (.t 16) (.t 15))] none)
 (.sq (.cd (.t 17)
 .sk
 (.ex 0))
 (.sq (.bk 1 (.sq (.op 0 [oo 18 (.ia (.t 14) (.t 16) 3), oo 19 (.ld (.t 18) 3 true), oo 7 (.alloc [.int .i64 0, .int .i64 0, .int .i64 0]), ou (.st (.t 7) (.t 19) 3)] (some [5, 7, 14, 15, 16]))
 (.op 0 [om 20 5, oo 21 (.fa (.t 7) 0), oo 22 (.ld (.t 21) 1 false), oo 23 (.bsl t_int 1 false [.int .i64 0] 1 [(0, (.t 22))]), oo 24 (.app (.t 20) (.t 23) t_int 1), om 5 24] (some [5, 14, 15, 16]))))
 (.op 0 [oo 25 (.bin .add (.t 16) (ki 1)), om 16 25] none))))
def Kc : IR := Pe
theorem Z18 : evC C L π k0 Kc e s = evC C L π k0 Pe e s := rfl
def Z10 : FnIR := ⟨30,
 (.sq (.op 0 [oo 2 (.box (.t 0) 8), oo 4 (.mv (.c (.sl 1 (some true) [])))] none)
 (.sq (.op 0 [oo 5 (.mv (.c (.sl 1 (some true) [])))] none)
 (.sq (.sq (.op 0 [oo 8 (.fa (.t 2) 0), oo 9 (.fa (.t 8) 4), oo 10 (.ld (.t 9) 1 false), om 11 1, oo 12 (.ia (.t 10) (.t 11) 3), oo 13 (.fa (.t 12) 2), oo 14 (.ld (.t 13) 1 false), oo 15 (.len false (.t 14)), oo 16 (.mv (ki 0))] (some [5, 14, 15, 16]))
 (.kp [5] [4] (.bk 0 (.lp [(t_int, .inl 5)] [5, 14, 15, 16] Kc))))
 (.sq (.op 0 [om 26 5, oo 27 (.callS (.c (.fn Vj [])) [(.t 26)])] none)
 (.sq (.op 0 [om 28 5, oo 29 (.callS (.c (.fn Va [])) [(.t 28)]), om 4 29] none)
 .rt))))),
 [.t 4]⟩
def Xa : IR :=
 (.sq (.sq (.op 0 [om 17 9, om 18 0, oo 19 (.len false (.t 18)), oo 20 (.bin .lss (.t 17) (.t 19))] (some [0, 2, 7, 8, 9, 20]))
 (.cd (.t 20)
 .sk
 (.ex 0)))
 (.sq (.bk 1 (.sq (.op 0 [om 23 7, om 24 9, oo 25 (.ia (.t 23) (.t 24) 1), oo 26 (.ld (.t 25) 1 false), om 27 26, og 28 27 true (.mv (.t 0)), og 29 27 true (.mv (.t 9)), og 30 27 true (.ia (.t 28) (.t 29) 4), og 31 27 true (.fa (.t 30) 0), og 32 27 true (.ld (.t 31) 1 false), og 33 27 true (.bin .eql (.t 32) (ki 1)), oo 34 (.pick (.t 27) (.t 33) (.c (.bool false)))] (some [0, 2, 7, 8, 9, 34]))
 (.cd (.t 34)
 (.op 0 [om 35 8, om 36 0, om 37 9, oo 38 (.ia (.t 36) (.t 37) 4), oo 39 (.fa (.t 38) 3), oo 40 (.ld (.t 39) 1 false), oo 41 (.ia (.t 35) (.t 40) 1), ou (.st (.t 41) (.c (.bool true)) 1)] (some [0, 2, 7, 8, 9]))
 .sk)))
 (.op 0 [om 21 9, oo 22 (.bin .add (.t 21) (ki 1)), om 9 22] none)))
def Nh : IR := Xa
theorem Vz : evC C L π k0 Nh e s = evC C L π k0 Xa e s := rfl
def Wj : IR :=
 (.sq (.sq (.op 0 [om 42 11, om 43 2, oo 44 (.bin .lss (.t 42) (.t 43))] none)
 (.cd (.t 44)
 .sk
 (.ex 2)))
 (.sq (.bk 3 (.sq (.op 0 [om 47 8, om 48 11, oo 49 (.ia (.t 47) (.t 48) 1), oo 50 (.ld (.t 49) 1 false)] (some [2, 8, 10, 11, 50]))
 (.cd (.t 50)
 (.op 0 [om 51 10, om 52 11, oo 53 (.bsl t_int 1 false [.int .i64 0] 1 [(0, (.t 52))]), oo 54 (.app (.t 51) (.t 53) t_int 1), om 10 54] (some [2, 8, 10, 11]))
 .sk)))
 (.op 0 [om 45 11, oo 46 (.bin .add (.t 45) (ki 1)), om 11 46] none)))
def Ng : IR := Wj
theorem N9 : evC C L π k0 Ng e s = evC C L π k0 Wj e s := rfl
def Ht : FnIR := ⟨56,
 (.sq (.op 0 [oo 6 (.mv (.c (.sl 1 (some true) [])))] none)
 (.sq (.op 0 [om 12 0, om 13 1, oo 14 (cw n_rb_Below [(.t 12), (.t 13)]), om 7 14] (some [0, 2, 7]))
 (.sq (.op 0 [om 15 2, oo 16 (.mks t_bool 1 false [.bool false] (.t 15) (.t 15)), om 8 16] none)
 (.sq (.sq (.op 0 [oo 9 (.mv (ki 0))] none)
 (.kp [2, 8] [6] (.bk 0 (.lp [] [0, 2, 7, 8, 9] Nh))))
 (.sq (.op 0 [oo 10 (.mv (.c (.sl 1 (some true) [])))] none)
 (.sq (.sq (.op 0 [oo 11 (.mv (ki 0))] none)
 (.kp [10] [6] (.bk 2 (.lp [(t_int, .inl 10)] [2, 8, 10, 11] Ng))))
 (.sq (.op 0 [om 55 10, om 6 55] none)
 .rt))))))),
 [.t 6]⟩
def Lh : IR :=
 (.sq (.op 0 [oo 8 (.bin .lss (.t 7) (.t 6))] none)
 (.sq (.cd (.t 8)
 .sk
 (.ex 0))
 (.sq (.bk 1 (.sq (.op 0 [oo 9 (.ia (.t 5) (.t 7) 1), oo 10 (.ld (.t 9) 1 false), om 4 10] none)
 (.sq (.op 0 [om 11 4, oo 12 (.bin .neq (.t 11) (ki 0))] none)
 (.cd (.t 12)
 (.sq (.op 0 [om 13 4, om 2 13] none)
 .rt)
 .sk))))
 (.op 0 [oo 14 (.bin .add (.t 7) (ki 1)), om 7 14] none))))
def Z36 : IR := Lh
theorem Z25 : evC C L π k0 Z36 e s = evC C L π k0 Lh e s := rfl
def c_cf_first : FnIR := ⟨15,
 (.sq (.op 0 [oo 2 (.mv (ki 0))] none)
 (.sq (.sq (.op 0 [om 5 0, oo 6 (.len false (.t 5)), oo 7 (.mv (ki 0))] none)
 (.kp [] [2] (.bk 0 (.lp [] [5, 6, 7] Z36))))
 (.sq (.op 0 [oo 2 (.mv (ki 0))] none)
 .rt))),
 [.t 2]⟩
def c_cf_nw_meet : FnIR := ⟨49,
 (.sq (.op 0 [oo 4 (.box (.t 0) 8), oo 8 (.mv (.c (.bool false)))] none)
 (.sq (.op 0 [oo 12 (.fa (.t 4) 7), oo 13 (.ld (.t 12) 1 false), oo 14 (.fa (.t 4) 0), oo 15 (.fa (.t 14) 3), oo 16 (.ld (.t 15) 1 false), om 17 3, oo 18 (cw n_gr_ValuesOf [(.t 13), (.t 16), (.t 17)]), om 11 18, oo 19 (.ext (.t 11) 0), oo 20 (.ext (.t 11) 1), om 9 19, om 10 20] (some [1, 2, 4, 9, 10]))
 (.sq (.op 0 [om 21 10, oo 22 (.bin .eql (.t 21) (ki 0)), om 23 22, og 24 23 true (.mv (.t 9)), og 25 23 true (.fa (.t 4) 0), og 26 23 true (.fa (.t 25) 4), og 27 23 true (.ld (.t 26) 1 false), og 28 23 true (.mv (.t 1)), og 29 23 true (.ia (.t 27) (.t 28) 3), og 30 23 true (.fa (.t 29) 1), og 31 23 true (.ld (.t 30) 1 false), og 32 23 true (.ia (.t 24) (.t 31) 1), og 33 23 true (.ld (.t 32) 1 false), og 34 23 true (.bin .eql (.t 33) (ki 1)), oo 35 (.pick (.t 23) (.t 34) (.c (.bool false))), om 36 35, og 37 36 true (.mv (.t 9)), og 38 36 true (.fa (.t 4) 0), og 39 36 true (.fa (.t 38) 4), og 40 36 true (.ld (.t 39) 1 false), og 41 36 true (.mv (.t 2)), og 42 36 true (.ia (.t 40) (.t 41) 3), og 43 36 true (.fa (.t 42) 1), og 44 36 true (.ld (.t 43) 1 false), og 45 36 true (.ia (.t 37) (.t 44) 1), og 46 36 true (.ld (.t 45) 1 false), og 47 36 true (.bin .eql (.t 46) (ki 1)), oo 48 (.pick (.t 36) (.t 47) (.c (.bool false))), om 8 48] (some [8]))
 .rt))),
 [.t 8]⟩
def b_cf_nw_bits_L0 : IR :=
 (.sq (.op 0 [oo 11 (.bin .lss (.t 10) (.t 9))] none)
 (.sq (.cd (.t 11)
 .sk
 (.ex 0))
 (.sq (.bk 1 (.sq (.op 0 [oo 12 (.ia (.t 8) (.t 10) 1), oo 13 (.ld (.t 12) 1 false), om 7 13] none)
 (.op 0 [om 14 5, oo 15 (.fa (.t 2) 7), oo 16 (.ld (.t 15) 1 false), om 17 7, oo 18 (.ia (.t 16) (.t 17) 1), oo 19 (.ld (.t 18) 1 false), oo 20 (.bin .add (.t 14) (.t 19)), om 5 20] (some [2, 5, 8, 9, 10]))))
 (.op 0 [oo 21 (.bin .add (.t 10) (ki 1)), om 10 21] none))))
def c_cf_nw_bits_L0 : IR := b_cf_nw_bits_L0
def c_cf_nw_bits : FnIR := ⟨23,
 (.sq (.op 0 [oo 2 (.box (.t 0) 8), oo 4 (.mv (ki 0))] none)
 (.sq (.op 0 [oo 5 (.mv (ki 0))] none)
 (.sq (.sq (.op 0 [om 8 1, oo 9 (.len false (.t 8)), oo 10 (.mv (ki 0))] none)
 (.kp [5] [4] (.bk 0 (.lp [] [2, 5, 8, 9, 10] c_cf_nw_bits_L0))))
 (.sq (.op 0 [om 22 5, om 4 22] none)
 .rt)))),
 [.t 4]⟩
def c_cf_nw_points : FnIR := ⟨6,
 (.sq (.op 0 [oo 2 (.box (.t 0) 8), oo 3 (.box (.t 1) 1), oo 4 (.mv (.c (.nilf)))] none)
 (.sq (.op 0 [oo 5 (.mkf n_cf_nw_points_1 [(.t 2), (.t 3)]), om 4 5] none)
 .rt)),
 [.t 4]⟩
def c_rb_Power : FnIR := ⟨5,
 (.sq (.op 0 [oo 2 (.mv (ki 0))] none)
 (.sq (.op 0 [om 3 0, oo 4 (.bin .shl (ki 1) (.t 3)), om 2 4] none)
 .rt)),
 [.t 2]⟩
def Q5 : FnIR := ⟨35,
 (.sq (.op 0 [oo 3 (.box (.t 0) 10), oo 6 (.mv (.c (.bool false)))] none)
 (.sq (.op 25 [oo 7 (.ld (.t 3) 10 true), oo 8 (.fa (.t 3) 9), oo 9 (.ld (.t 8) 1 false), om 10 1, oo 11 (.ia (.t 9) (.t 10) 1), oo 12 (.ld (.t 11) 1 false), oo 13 (.fa (.t 3) 8), oo 14 (.ld (.t 13) 1 false), om 15 2, oo 16 (.ia (.t 14) (.t 15) 1), oo 17 (.ld (.t 16) 1 false), oo 18 (cv Po [(.t 7), (.t 12), (.t 17), (ki 0)]), oo 19 (.un .not (.t 18)), om 20 19, og 21 20 true (.ld (.t 3) 10 true), og 22 20 true (.fa (.t 3) 8), og 23 20 true (.ld (.t 22) 1 false), og 24 20 true (.mv (.t 1)), og 25 20 true (.ia (.t 23) (.t 24) 1), og 26 20 true (.ld (.t 25) 1 false), og 27 20 true (.fa (.t 3) 9), og 28 20 true (.ld (.t 27) 1 false), og 29 20 true (.mv (.t 2)), og 30 20 true (.ia (.t 28) (.t 29) 1), og 31 20 true (.ld (.t 30) 1 false), og 32 20 true (cv Po [(.t 21), (.t 26), (.t 31), (ki 1)]), og 33 20 true (.un .not (.t 32)), oo 34 (.pick (.t 20) (.t 33) (.c (.bool false))), om 6 34] (some [6]))
 .rt)),
 [.t 6]⟩
def c_cf_openGuards : FnIR := ⟨49,
 (.sq (.op 0 [oo 3 (.box (.t 0) 7), oo 6 (.alloc [.str ⟨#[]⟩, .sl 2 (some true) [], .sl 5 (some true) [], .sl 4 (some true) [], .sl 3 (some true) [], .sl 2 (some true) [], .sl 2 (some true) [], .sl 1 (some true) []]), oo 7 (.mv (.c (.sl 1 (some true) []))), oo 8 (.mv (ki 0))] (some [1, 2, 3, 6]))
 (.sq (.op 0 [oo 14 (.ld (.t 3) 7 true), om 15 1, om 16 2, oo 17 (cv n_cf_openTwo [(.t 14), (.t 15), (.t 16)]), om 13 17, oo 18 (.ext (.t 13) 0), oo 19 (.ext (.t 13) 1), oo 9 (.alloc [.str ⟨#[]⟩, .sl 2 (some true) [], .sl 5 (some true) [], .sl 4 (some true) [], .sl 3 (some true) [], .sl 2 (some true) [], .sl 2 (some true) [], .sl 1 (some true) []]), ou (.st (.t 9) (.t 18) 8), om 10 19] (some [1, 2, 3, 6, 9, 10]))
 (.sq (.sq (.op 0 [om 20 10, oo 21 (.bin .neq (.t 20) (ki 0))] none)
 (.cd (.t 21)
 (.sq (.op 0 [oo 22 (.ld (.t 9) 8 true), om 23 10, ou (.st (.t 6) (.t 22) 8), oo 7 (.mv (.c (.sl 1 (some true) []))), om 8 23] (some [6, 7, 8]))
 .rt)
 .sk))
 (.sq (.op 19 [oo 25 (.ld (.t 9) 8 true), oo 26 (.fa (.t 3) 4), oo 27 (.ld (.t 26) 1 false), om 28 1, oo 29 (.ia (.t 27) (.t 28) 3), oo 30 (.fa (.t 29) 1), oo 31 (.ld (.t 30) 1 false), oo 32 (.fa (.t 3) 4), oo 33 (.ld (.t 32) 1 false), om 34 2, oo 35 (.ia (.t 33) (.t 34) 3), oo 36 (.fa (.t 35) 1), oo 37 (.ld (.t 36) 1 false), oo 38 (.bsp t_int 1 false [.int .i64 0] 2 [(0, (.t 31)), (1, (.t 37))]), oo 39 (cw Hb [(.t 25), (.t 38)]), om 24 39, oo 40 (.ext (.t 24) 0), oo 41 (.ext (.t 24) 1), om 11 40, om 12 41] (some [6, 9, 12]))
 (.sq (.op 7 [oo 42 (.ld (.t 9) 8 true), om 43 12, oo 44 (.ld (.t 9) 8 true), om 45 12, oo 46 (cv n_cf_nw_bits [(.t 44), (.t 45)]), oo 47 (.bin .leq (.t 46) (ki 12)), oo 48 (cv V9 [(.t 47), (ki 8)]), ou (.st (.t 6) (.t 42) 8), om 7 43, om 8 48] (some [6, 7, 8]))
 .rt))))),
 [.c 6 8 true, .t 7, .t 8]⟩
def Ho : FnIR := ⟨9,
 (.sq (.op 0 [oo 4 (.mv (.c (.bool false)))] none)
 (.sq (.op 0 [om 5 0, om 6 1, oo 7 (cv Ub [(.t 5), (.t 6)]), oo 8 (.bin .geq (.t 7) (ki 0)), om 4 8] (some [4]))
 .rt)),
 [.t 4]⟩
def c_cf_sh_relation_1 : FnIR := ⟨12,
 (.sq (.op 0 [oo 4 (.mv (.c (.bool false)))] none)
 (.sq (.op 0 [oo 5 (.fa (.t 1) 9), oo 6 (.ld (.t 5) 1 false), oo 7 (.ld (.t 2) 1 false), oo 8 (.ia (.t 6) (.t 7) 1), oo 9 (.ld (.t 8) 1 false), om 10 0, oo 11 (cv Y6 [(.t 9), (.t 10)]), om 4 11] (some [4]))
 .rt)),
 [.t 4]⟩
def Qu : FnIR := ⟨9,
 (.sq (.op 0 [oo 4 (.mv (.c (.bool false)))] none)
 (.sq (.op 0 [om 5 0, om 6 1, oo 7 (cv Uv [(.t 5), (.t 6)]), oo 8 (.bin .geq (.t 7) (ki 0)), om 4 8] (some [4]))
 .rt)),
 [.t 4]⟩
def Zf : IR :=
 (.sq (.op 0 [oo 31 (.bin .lss (.t 30) (ki 11))] none)
 (.sq (.cd (.t 31)
 .sk
 (.ex 0))
 (.sq (.bk 1 (.sq (.op 0 [oo 32 (.xag (.t 29) (.t 30) 11), om 10 32] none)
 (.sq (.op 0 [om 34 10, oo 35 (.callS (.t 34) []), om 33 35, oo 36 (.ext (.t 33) 0), oo 37 (.ext (.t 33) 1), om 11 36, om 12 37] (some [11, 12, 29, 30]))
 (.sq (.op 0 [om 38 12, oo 39 (.bin .neq (.t 38) (ki 0))] none)
 (.cd (.t 39)
 (.sq (.op 0 [om 40 11, om 41 12, om 2 40, om 3 41] (some [2, 3]))
 .rt)
 .sk)))))
 (.op 0 [oo 42 (.bin .add (.t 30) (ki 1)), om 30 42] none))))
def c_ds_CkD_L0 : IR := Zf
theorem Zi : evC C L π k0 c_ds_CkD_L0 e s = evC C L π k0 Zf e s := rfl
def c_ds_CkD : FnIR := ⟨43,
 (.sq (.op 0 [oo 1 (.box (.t 0) 7), oo 2 (.mv (ki 0)), oo 3 (.mv (ki 0))] none)
 (.sq (.op 0 [oo 13 (.mkp), oo 4 (.alt 1), ou (.st (.t 4) (.t 13) 1)] none)
 (.sq (.op 0 [oo 14 (.mkp), oo 15 (.mkp), oo 16 (.mkp), oo 5 (.alt 1), oo 6 (.alt 1), oo 7 (.alt 1), ou (.st (.t 5) (.t 14) 1), ou (.st (.t 6) (.t 15) 1), ou (.st (.t 7) (.t 16) 1)] (some [1, 4, 5, 6, 7]))
 (.sq (.op 0 [oo 17 (.mkf Z1r [(.t 1)]), oo 18 (.mkf Z1q [(.t 1), (.t 4), (.t 5)]), oo 19 (.mkf Z1p [(.t 1)]), oo 20 (.mkf Z1o [(.t 1), (.t 4)]), oo 21 (.mkf Z1n [(.t 1)]), oo 22 (.mkf Z1m [(.t 1)]), oo 23 (.mkf Z1l [(.t 1), (.t 6)]), oo 24 (.mkf Z1k [(.t 1)]), oo 25 (.mkf Z1j [(.t 1), (.t 7)]), oo 26 (.mkf F3 [(.t 1)]), oo 27 (.mkf F2 [(.t 1)]), oo 28 (.build [.nilf, .nilf, .nilf, .nilf, .nilf, .nilf, .nilf, .nilf, .nilf, .nilf, .nilf] [(0, 1, (.t 17)), (1, 1, (.t 18)), (2, 1, (.t 19)), (3, 1, (.t 20)), (4, 1, (.t 21)), (5, 1, (.t 22)), (6, 1, (.t 23)), (7, 1, (.t 24)), (8, 1, (.t 25)), (9, 1, (.t 26)), (10, 1, (.t 27))]), oo 8 (.alloc [.nilf, .nilf, .nilf, .nilf, .nilf, .nilf, .nilf, .nilf, .nilf, .nilf, .nilf]), ou (.st (.t 8) (.t 28) 11)] (some [8]))
 (.sq (.sq (.op 0 [oo 29 (.ld (.t 8) 11 true), oo 30 (.mv (ki 0))] none)
 (.kp [] [2, 3] (.bk 0 (.lp [] [29, 30] c_ds_CkD_L0))))
 (.sq (.op 0 [oo 2 (.mv (ki 0)), oo 3 (.mv (ki 0))] none)
 .rt)))))),
 [.t 2, .t 3]⟩
def c_cf_open_1 : FnIR := ⟨9,
 (.sq (.op 0 [oo 5 (.mv (ki 0))] none)
 (.sq (.op 0 [oo 6 (.ld (.t 2) 8 true), om 7 1, oo 8 (cv Qn [(.t 6), (.t 7)]), om 5 8] (some [5]))
 .rt)),
 [.t 5]⟩
def Fq : FnIR := ⟨13,
 (.sq (.op 0 [oo 2 (.box (.t 0) 8), oo 4 (.mv (ki 0))] none)
 (.sq (.op 0 [om 5 1, oo 6 (.fa (.t 2) 0), oo 7 (.fa (.t 6) 4), oo 8 (.ld (.t 7) 1 false), oo 9 (.len false (.t 8)), oo 10 (.bin .sub (.t 9) (ki 1)), oo 11 (cv F4 [(.t 5), (ki 0), (.t 10)]), oo 12 (cv V9 [(.t 11), (ki 6)]), om 4 12] (some [4]))
 .rt)),
 [.t 4]⟩

end Go.Proofs.YteecfnfjlclhdaaGreat.V
