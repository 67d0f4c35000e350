/- The table of functions, and that it is right. Printed by a program of this work. -/
import Derived.Test.YteecfnfjlclhdaaGreatT0
import Derived.Test.YteecfnfjlclhdaaGreatT1
import Derived.Test.YteecfnfjlclhdaaGreatProg
import Derived.Test.YteecfnfjlclhdaaGreatO0

set_option linter.unusedSimpArgs false
set_option linter.unusedVariables false

/- The table of functions, and that it is right. Printed by a program of this work. -/
namespace Go.Proofs.YteecfnfjlclhdaaGreat.V
open Go Go.Proofs


def T0 : Tab := fun f => match f with
  | 6 => some Z6
  | 8 => some Z5m
  | 9 => some Pj
  | 11 => some Z0f
  | 12 => some Zil
  | 13 => some Gx
  | 16 => some Zb2
  | 19 => some Uo
  | 20 => some P5
  | 22 => some Zik
  | 23 => some Z3w
  | 24 => some c_cf_CycleIn
  | 26 => some Zic
  | 27 => some Z0d
  | 31 => some Z1u
  | 32 => some Z9g
  | 33 => some Za7
  | 34 => some Z7i
  | 35 => some Fk
  | 36 => some Z1w
  | 37 => some Z7l
  | 38 => some Wb
  | 39 => some Kf
  | 40 => some Z5l
  | 41 => some P6
  | 42 => some Z1e
  | 43 => some Z1v
  | 49 => some Zib
  | 50 => some Zfe
  | 51 => some Z5y
  | 52 => some Zfd
  | 53 => some Zby
  | 54 => some Hz
  | 55 => some Z23
  | 56 => some Nt
  | 57 => some K7
  | 58 => some Zem
  | 59 => some Ym
  | 60 => some Z82
  | 62 => some Z7j
  | _ => none

theorem tabOk0 : TabOk Tryz.prog T0 := fun f F h => by
  unfold T0 at h
  split at h
  · cases h; exact ⟨_, Tryz.func6, by kernel_rfl⟩
  · cases h; exact ⟨_, Tryz.func8, by kernel_rfl⟩
  · cases h; exact ⟨_, Tryz.func9, by kernel_rfl⟩
  · cases h; exact ⟨_, Tryz.func11, by kernel_rfl⟩
  · cases h; exact ⟨_, Tryz.func12, by kernel_rfl⟩
  · cases h; exact ⟨_, Tryz.func13, by kernel_rfl⟩
  · cases h; exact ⟨_, Tryz.func16, by kernel_rfl⟩
  · cases h; exact ⟨_, Tryz.func19, by kernel_rfl⟩
  · cases h; exact ⟨_, Tryz.func20, by kernel_rfl⟩
  · cases h; exact ⟨_, Tryz.func22, by kernel_rfl⟩
  · cases h; exact ⟨_, Tryz.func23, by kernel_rfl⟩
  · cases h; exact ⟨_, Tryz.func24, by kernel_rfl⟩
  · cases h; exact ⟨_, Tryz.func26, by kernel_rfl⟩
  · cases h; exact ⟨_, Tryz.func27, by kernel_rfl⟩
  · cases h; exact ⟨_, Tryz.func31, by kernel_rfl⟩
  · cases h; exact ⟨_, Tryz.func32, by kernel_rfl⟩
  · cases h; exact ⟨_, Tryz.func33, by kernel_rfl⟩
  · cases h; exact ⟨_, Tryz.func34, by kernel_rfl⟩
  · cases h; exact ⟨_, Tryz.func35, by kernel_rfl⟩
  · cases h; exact ⟨_, Tryz.func36, by kernel_rfl⟩
  · cases h; exact ⟨_, Tryz.func37, by kernel_rfl⟩
  · cases h; exact ⟨_, Tryz.func38, by kernel_rfl⟩
  · cases h; exact ⟨_, Tryz.func39, by kernel_rfl⟩
  · cases h; exact ⟨_, Tryz.func40, by kernel_rfl⟩
  · cases h; exact ⟨_, Tryz.func41, by kernel_rfl⟩
  · cases h; exact ⟨_, Tryz.func42, by kernel_rfl⟩
  · cases h; exact ⟨_, Tryz.func43, by kernel_rfl⟩
  · cases h; exact ⟨_, Tryz.func49, by kernel_rfl⟩
  · cases h; exact ⟨_, Tryz.func50, by kernel_rfl⟩
  · cases h; exact ⟨_, Tryz.func51, by kernel_rfl⟩
  · cases h; exact ⟨_, Tryz.func52, by kernel_rfl⟩
  · cases h; exact ⟨_, Tryz.func53, by kernel_rfl⟩
  · cases h; exact ⟨_, Tryz.func54, by kernel_rfl⟩
  · cases h; exact ⟨_, Tryz.func55, by kernel_rfl⟩
  · cases h; exact ⟨_, Tryz.func56, by kernel_rfl⟩
  · cases h; exact ⟨_, Tryz.func57, by kernel_rfl⟩
  · cases h; exact ⟨_, Tryz.func58, by kernel_rfl⟩
  · cases h; exact ⟨_, Tryz.func59, by kernel_rfl⟩
  · cases h; exact ⟨_, Tryz.func60, by kernel_rfl⟩
  · cases h; exact ⟨_, Tryz.func62, by kernel_rfl⟩
  · cases h


def T1 : Tab := fun f => match f with
  | 63 => some Zfb
  | 64 => some Ze6
  | 65 => some Z7h
  | 66 => some Gv
  | 67 => some Zeo
  | 68 => some Zek
  | 70 => some Zfa
  | 71 => some Z83
  | 72 => some Z4d
  | 74 => some Zij
  | 75 => some Zfc
  | 76 => some F1
  | 77 => some Zb1
  | 78 => some F9
  | 79 => some Z1g
  | 80 => some Z0m
  | 81 => some Z5z
  | 82 => some G1
  | 83 => some Za8
  | 84 => some Z0a
  | 85 => some Z3u
  | 86 => some Z0c
  | 87 => some Z3v
  | 88 => some Z9k
  | 93 => some Zel
  | 94 => some Gw
  | 95 => some Z9j
  | 96 => some P4
  | 97 => some Zii
  | 98 => some Z84
  | 99 => some Z0l
  | 100 => some Z0e
  | 101 => some K1
  | 102 => some Ub
  | 103 => some Fl
  | 104 => some Ns
  | 105 => some Nj
  | 106 => some P7
  | 110 => some Zc0
  | 111 => some Zbw
  | _ => none

theorem tabOk1 : TabOk Tryz.prog T1 := fun f F h => by
  unfold T1 at h
  split at h
  · cases h; exact ⟨_, Tryz.func63, by kernel_rfl⟩
  · cases h; exact ⟨_, Tryz.func64, by kernel_rfl⟩
  · cases h; exact ⟨_, Tryz.func65, by kernel_rfl⟩
  · cases h; exact ⟨_, Tryz.func66, by kernel_rfl⟩
  · cases h; exact ⟨_, Tryz.func67, by kernel_rfl⟩
  · cases h; exact ⟨_, Tryz.func68, by kernel_rfl⟩
  · cases h; exact ⟨_, Tryz.func70, by kernel_rfl⟩
  · cases h; exact ⟨_, Tryz.func71, by kernel_rfl⟩
  · cases h; exact ⟨_, Tryz.func72, by kernel_rfl⟩
  · cases h; exact ⟨_, Tryz.func74, by kernel_rfl⟩
  · cases h; exact ⟨_, Tryz.func75, by kernel_rfl⟩
  · cases h; exact ⟨_, Tryz.func76, by kernel_rfl⟩
  · cases h; exact ⟨_, Tryz.func77, by kernel_rfl⟩
  · cases h; exact ⟨_, Tryz.func78, by kernel_rfl⟩
  · cases h; exact ⟨_, Tryz.func79, by kernel_rfl⟩
  · cases h; exact ⟨_, Tryz.func80, by kernel_rfl⟩
  · cases h; exact ⟨_, Tryz.func81, by kernel_rfl⟩
  · cases h; exact ⟨_, Tryz.func82, by kernel_rfl⟩
  · cases h; exact ⟨_, Tryz.func83, by kernel_rfl⟩
  · cases h; exact ⟨_, Tryz.func84, by kernel_rfl⟩
  · cases h; exact ⟨_, Tryz.func85, by kernel_rfl⟩
  · cases h; exact ⟨_, Tryz.func86, by kernel_rfl⟩
  · cases h; exact ⟨_, Tryz.func87, by kernel_rfl⟩
  · cases h; exact ⟨_, Tryz.func88, by kernel_rfl⟩
  · cases h; exact ⟨_, Tryz.func93, by kernel_rfl⟩
  · cases h; exact ⟨_, Tryz.func94, by kernel_rfl⟩
  · cases h; exact ⟨_, Tryz.func95, by kernel_rfl⟩
  · cases h; exact ⟨_, Tryz.func96, by kernel_rfl⟩
  · cases h; exact ⟨_, Tryz.func97, by kernel_rfl⟩
  · cases h; exact ⟨_, Tryz.func98, by kernel_rfl⟩
  · cases h; exact ⟨_, Tryz.func99, by kernel_rfl⟩
  · cases h; exact ⟨_, Tryz.func100, by kernel_rfl⟩
  · cases h; exact ⟨_, Tryz.func101, by kernel_rfl⟩
  · cases h; exact ⟨_, Tryz.func102, by kernel_rfl⟩
  · cases h; exact ⟨_, Tryz.func103, by kernel_rfl⟩
  · cases h; exact ⟨_, Tryz.func104, by kernel_rfl⟩
  · cases h; exact ⟨_, Tryz.func105, by kernel_rfl⟩
  · cases h; exact ⟨_, Tryz.func106, by kernel_rfl⟩
  · cases h; exact ⟨_, Tryz.func110, by kernel_rfl⟩
  · cases h; exact ⟨_, Tryz.func111, by kernel_rfl⟩
  · cases h


def T2 : Tab := fun f => match f with
  | 113 => some Z5k
  | 114 => some Zaw
  | 115 => some Q5
  | 116 => some c_cf_nw_used
  | 118 => some Za9
  | 119 => some Pk
  | 120 => some Q4
  | 121 => some Z4b
  | 122 => some F6
  | 123 => some V4
  | 124 => some Ze7
  | 125 => some Zv
  | 126 => some K6
  | 127 => some Zf9
  | 129 => some Lx
  | 130 => some Zav
  | 131 => some Zam
  | 132 => some Z7v
  | 133 => some Z7y
  | 134 => some Zau
  | 135 => some Kd
  | 136 => some Z5v
  | 137 => some Z25
  | 138 => some Z5s
  | 139 => some Zat
  | 140 => some Zas
  | 141 => some Pb
  | 142 => some Z1f
  | 143 => some Z7u
  | 144 => some Z9i
  | 145 => some Zar
  | 146 => some Vk
  | 147 => some Z7w
  | 148 => some Zaq
  | 149 => some Zap
  | 150 => some Kc
  | 151 => some Z5u
  | 152 => some Nu
  | 153 => some Md
  | 154 => some Z29
  | _ => none

theorem tabOk2 : TabOk Tryz.prog T2 := fun f F h => by
  unfold T2 at h
  split at h
  · cases h; exact ⟨_, Tryz.func113, by kernel_rfl⟩
  · cases h; exact ⟨_, Tryz.func114, by kernel_rfl⟩
  · cases h; exact ⟨_, Tryz.func115, by kernel_rfl⟩
  · cases h; exact ⟨_, Tryz.func116, by kernel_rfl⟩
  · cases h; exact ⟨_, Tryz.func118, by kernel_rfl⟩
  · cases h; exact ⟨_, Tryz.func119, by kernel_rfl⟩
  · cases h; exact ⟨_, Tryz.func120, by kernel_rfl⟩
  · cases h; exact ⟨_, Tryz.func121, by kernel_rfl⟩
  · cases h; exact ⟨_, Tryz.func122, by kernel_rfl⟩
  · cases h; exact ⟨_, Tryz.func123, by kernel_rfl⟩
  · cases h; exact ⟨_, Tryz.func124, by kernel_rfl⟩
  · cases h; exact ⟨_, Tryz.func125, by kernel_rfl⟩
  · cases h; exact ⟨_, Tryz.func126, by kernel_rfl⟩
  · cases h; exact ⟨_, Tryz.func127, by kernel_rfl⟩
  · cases h; exact ⟨_, Tryz.func129, by kernel_rfl⟩
  · cases h; exact ⟨_, Tryz.func130, by kernel_rfl⟩
  · cases h; exact ⟨_, Tryz.func131, by kernel_rfl⟩
  · cases h; exact ⟨_, Tryz.func132, by kernel_rfl⟩
  · cases h; exact ⟨_, Tryz.func133, by kernel_rfl⟩
  · cases h; exact ⟨_, Tryz.func134, by kernel_rfl⟩
  · cases h; exact ⟨_, Tryz.func135, by kernel_rfl⟩
  · cases h; exact ⟨_, Tryz.func136, by kernel_rfl⟩
  · cases h; exact ⟨_, Tryz.func137, by kernel_rfl⟩
  · cases h; exact ⟨_, Tryz.func138, by kernel_rfl⟩
  · cases h; exact ⟨_, Tryz.func139, by kernel_rfl⟩
  · cases h; exact ⟨_, Tryz.func140, by kernel_rfl⟩
  · cases h; exact ⟨_, Tryz.func141, by kernel_rfl⟩
  · cases h; exact ⟨_, Tryz.func142, by kernel_rfl⟩
  · cases h; exact ⟨_, Tryz.func143, by kernel_rfl⟩
  · cases h; exact ⟨_, Tryz.func144, by kernel_rfl⟩
  · cases h; exact ⟨_, Tryz.func145, by kernel_rfl⟩
  · cases h; exact ⟨_, Tryz.func146, by kernel_rfl⟩
  · cases h; exact ⟨_, Tryz.func147, by kernel_rfl⟩
  · cases h; exact ⟨_, Tryz.func148, by kernel_rfl⟩
  · cases h; exact ⟨_, Tryz.func149, by kernel_rfl⟩
  · cases h; exact ⟨_, Tryz.func150, by kernel_rfl⟩
  · cases h; exact ⟨_, Tryz.func151, by kernel_rfl⟩
  · cases h; exact ⟨_, Tryz.func152, by kernel_rfl⟩
  · cases h; exact ⟨_, Tryz.func153, by kernel_rfl⟩
  · cases h; exact ⟨_, Tryz.func154, by kernel_rfl⟩
  · cases h


def T3 : Tab := fun f => match f with
  | 155 => some Kb
  | 156 => some Zao
  | 157 => some Zan
  | 158 => some Ps
  | 159 => some Z5t
  | 160 => some Z7x
  | 161 => some Z81
  | 162 => some Z80
  | 163 => some Vy
  | 164 => some Z4a
  | 165 => some Z49
  | 166 => some Z0k
  | 167 => some Z5n
  | 168 => some Wa
  | 169 => some Z7m
  | 172 => some Z4m
  | 175 => some Zih
  | 176 => some Zal
  | 177 => some Z41
  | 178 => some Z7q
  | 179 => some Z44
  | 180 => some Z0j
  | 181 => some Z9h
  | 182 => some Z7p
  | 183 => some Vw
  | 184 => some Zid
  | 185 => some Z7k
  | 186 => some Zbz
  | 188 => some Hp
  | 189 => some Z5q
  | 190 => some Z0h
  | 191 => some Ka
  | 192 => some Yq
  | 193 => some Z7o
  | 194 => some Mc
  | 195 => some V5
  | 196 => some Ze
  | 197 => some Z1x
  | 211 => some Zie
  | 212 => some Zbx
  | _ => none

theorem tabOk3 : TabOk Tryz.prog T3 := fun f F h => by
  unfold T3 at h
  split at h
  · cases h; exact ⟨_, Tryz.func155, by kernel_rfl⟩
  · cases h; exact ⟨_, Tryz.func156, by kernel_rfl⟩
  · cases h; exact ⟨_, Tryz.func157, by kernel_rfl⟩
  · cases h; exact ⟨_, Tryz.func158, by kernel_rfl⟩
  · cases h; exact ⟨_, Tryz.func159, by kernel_rfl⟩
  · cases h; exact ⟨_, Tryz.func160, by kernel_rfl⟩
  · cases h; exact ⟨_, Tryz.func161, by kernel_rfl⟩
  · cases h; exact ⟨_, Tryz.func162, by kernel_rfl⟩
  · cases h; exact ⟨_, Tryz.func163, by kernel_rfl⟩
  · cases h; exact ⟨_, Tryz.func164, by kernel_rfl⟩
  · cases h; exact ⟨_, Tryz.func165, by kernel_rfl⟩
  · cases h; exact ⟨_, Tryz.func166, by kernel_rfl⟩
  · cases h; exact ⟨_, Tryz.func167, by kernel_rfl⟩
  · cases h; exact ⟨_, Tryz.func168, by kernel_rfl⟩
  · cases h; exact ⟨_, Tryz.func169, by kernel_rfl⟩
  · cases h; exact ⟨_, Tryz.func172, by kernel_rfl⟩
  · cases h; exact ⟨_, Tryz.func175, by kernel_rfl⟩
  · cases h; exact ⟨_, Tryz.func176, by kernel_rfl⟩
  · cases h; exact ⟨_, Tryz.func177, by kernel_rfl⟩
  · cases h; exact ⟨_, Tryz.func178, by kernel_rfl⟩
  · cases h; exact ⟨_, Tryz.func179, by kernel_rfl⟩
  · cases h; exact ⟨_, Tryz.func180, by kernel_rfl⟩
  · cases h; exact ⟨_, Tryz.func181, by kernel_rfl⟩
  · cases h; exact ⟨_, Tryz.func182, by kernel_rfl⟩
  · cases h; exact ⟨_, Tryz.func183, by kernel_rfl⟩
  · cases h; exact ⟨_, Tryz.func184, by kernel_rfl⟩
  · cases h; exact ⟨_, Tryz.func185, by kernel_rfl⟩
  · cases h; exact ⟨_, Tryz.func186, by kernel_rfl⟩
  · cases h; exact ⟨_, Tryz.func188, by kernel_rfl⟩
  · cases h; exact ⟨_, Tryz.func189, by kernel_rfl⟩
  · cases h; exact ⟨_, Tryz.func190, by kernel_rfl⟩
  · cases h; exact ⟨_, Tryz.func191, by kernel_rfl⟩
  · cases h; exact ⟨_, Tryz.func192, by kernel_rfl⟩
  · cases h; exact ⟨_, Tryz.func193, by kernel_rfl⟩
  · cases h; exact ⟨_, Tryz.func194, by kernel_rfl⟩
  · cases h; exact ⟨_, Tryz.func195, by kernel_rfl⟩
  · cases h; exact ⟨_, Tryz.func196, by kernel_rfl⟩
  · cases h; exact ⟨_, Tryz.func197, by kernel_rfl⟩
  · cases h; exact ⟨_, Tryz.func211, by kernel_rfl⟩
  · cases h; exact ⟨_, Tryz.func212, by kernel_rfl⟩
  · cases h


def T4 : Tab := fun f => match f with
  | 213 => some Z5r
  | 214 => some Zeh
  | 215 => some Z47
  | 216 => some Ze8
  | 217 => some Zeg
  | 218 => some Zej
  | 219 => some Z7t
  | 220 => some Zef
  | 221 => some Zee
  | 222 => some Zed
  | 223 => some Zec
  | 224 => some Zeb
  | 225 => some Zea
  | 226 => some Z40
  | 227 => some Ze9
  | 228 => some Zak
  | 229 => some Zaj
  | 230 => some Z3z
  | 231 => some Zai
  | 232 => some Zah
  | 233 => some Zag
  | 234 => some Zaf
  | 235 => some Zae
  | 236 => some Zad
  | 237 => some Z43
  | 238 => some Zac
  | 239 => some Zab
  | 240 => some Z5p
  | 241 => some Z6e
  | 242 => some Z6d
  | 248 => some Zei
  | 249 => some c_gr_below
  | 250 => some Z7r
  | 251 => some Z46
  | 252 => some Z45
  | 253 => some Z0g
  | 254 => some Zaa
  | 256 => some Hg
  | 257 => some Ly
  | _ => none

theorem tabOk4 : TabOk Tryz.prog T4 := fun f F h => by
  unfold T4 at h
  split at h
  · cases h; exact ⟨_, Tryz.func213, by kernel_rfl⟩
  · cases h; exact ⟨_, Tryz.func214, by kernel_rfl⟩
  · cases h; exact ⟨_, Tryz.func215, by kernel_rfl⟩
  · cases h; exact ⟨_, Tryz.func216, by kernel_rfl⟩
  · cases h; exact ⟨_, Tryz.func217, by kernel_rfl⟩
  · cases h; exact ⟨_, Tryz.func218, by kernel_rfl⟩
  · cases h; exact ⟨_, Tryz.func219, by kernel_rfl⟩
  · cases h; exact ⟨_, Tryz.func220, by kernel_rfl⟩
  · cases h; exact ⟨_, Tryz.func221, by kernel_rfl⟩
  · cases h; exact ⟨_, Tryz.func222, by kernel_rfl⟩
  · cases h; exact ⟨_, Tryz.func223, by kernel_rfl⟩
  · cases h; exact ⟨_, Tryz.func224, by kernel_rfl⟩
  · cases h; exact ⟨_, Tryz.func225, by kernel_rfl⟩
  · cases h; exact ⟨_, Tryz.func226, by kernel_rfl⟩
  · cases h; exact ⟨_, Tryz.func227, by kernel_rfl⟩
  · cases h; exact ⟨_, Tryz.func228, by kernel_rfl⟩
  · cases h; exact ⟨_, Tryz.func229, by kernel_rfl⟩
  · cases h; exact ⟨_, Tryz.func230, by kernel_rfl⟩
  · cases h; exact ⟨_, Tryz.func231, by kernel_rfl⟩
  · cases h; exact ⟨_, Tryz.func232, by kernel_rfl⟩
  · cases h; exact ⟨_, Tryz.func233, by kernel_rfl⟩
  · cases h; exact ⟨_, Tryz.func234, by kernel_rfl⟩
  · cases h; exact ⟨_, Tryz.func235, by kernel_rfl⟩
  · cases h; exact ⟨_, Tryz.func236, by kernel_rfl⟩
  · cases h; exact ⟨_, Tryz.func237, by kernel_rfl⟩
  · cases h; exact ⟨_, Tryz.func238, by kernel_rfl⟩
  · cases h; exact ⟨_, Tryz.func239, by kernel_rfl⟩
  · cases h; exact ⟨_, Tryz.func240, by kernel_rfl⟩
  · cases h; exact ⟨_, Tryz.func241, by kernel_rfl⟩
  · cases h; exact ⟨_, Tryz.func242, by kernel_rfl⟩
  · cases h; exact ⟨_, Tryz.func248, by kernel_rfl⟩
  · cases h; exact ⟨_, Tryz.func249, by kernel_rfl⟩
  · cases h; exact ⟨_, Tryz.func250, by kernel_rfl⟩
  · cases h; exact ⟨_, Tryz.func251, by kernel_rfl⟩
  · cases h; exact ⟨_, Tryz.func252, by kernel_rfl⟩
  · cases h; exact ⟨_, Tryz.func253, by kernel_rfl⟩
  · cases h; exact ⟨_, Tryz.func254, by kernel_rfl⟩
  · cases h; exact ⟨_, Tryz.func256, by kernel_rfl⟩
  · cases h; exact ⟨_, Tryz.func257, by kernel_rfl⟩
  · cases h

def T : Tab := fun f => if f < 63 then T0 f else if f < 113 then T1 f else if f < 155 then T2 f else if f < 213 then T3 f else T4 f
theorem tabOk : TabOk Tryz.prog T := fun f F h => by
  unfold T at h
  split at h
  · exact tabOk0 f F h
  split at h
  · exact tabOk1 f F h
  split at h
  · exact tabOk2 f F h
  split at h
  · exact tabOk3 f F h
  exact tabOk4 f F h

theorem Z0v {π : Id} {args : List AV} {s : Sto} : E T noO π Xu args s = runF (E T noO) iter Q5 π args s := E_fn (by decide) (by rfl) (by rfl)
theorem Z8i : Z60 Tryz.prog Xu (Zgm t_int 1) := clone_ok (C := E T noO) (E_ok tabOk (noO_ok _)) (by decide)
  (fun π l hl => ⟨5 :: π, by rw [Z0v]; simp [Z0, Q5, hl]⟩)
  (fun π => by rw [Z0v]; simp [Z0, Q5])
def orc : Orc := fun f => match f with
  | 115 => some (Zgm t_int 1)
  | 61 => some joinO
  | 69 => some delO
  | 112 => some sortO
  | 117 => some Z9f
  | _ => none

theorem orcOk : OrcOk Tryz.prog orc := fun f g h => by
  unfold orc at h
  split at h
  · cases h; exact Z8i
  · cases h; exact Zex
  · cases h; exact Z75
  · cases h; exact Z9v
  · cases h; exact Z6i
  · cases h

noncomputable def EE : Call := E T orc

theorem o_strings_Join {π : Id} {args : List AV} {s : Sto} : EE π Z1n args s = joinO π args s := E_orc (by decide) (by rfl)
theorem o_sl_Delete_int_int {π : Id} {args : List AV} {s : Sto} : EE π M3 args s = delO π args s := E_orc (by decide) (by rfl)
theorem o_sl_Sort_int_int {π : Id} {args : List AV} {s : Sto} : EE π Vg args s = sortO π args s := E_orc (by decide) (by rfl)
theorem o_sl_Compact_int_int {π : Id} {args : List AV} {s : Sto} : EE π Vb args s = Z9f π args s := E_orc (by decide) (by rfl)
theorem Z8l {π : Id} {args : List AV} {s : Sto} : EE π Xu args s = Zgm t_int 1 π args s := E_orc (by decide) (by rfl)
variable {π : Id} {args : List AV} {s : Sto}
theorem Z7 : EE π Zh args s = runF EE iter Z6 π args s := E_fn (by decide) (by rfl) (by rfl)
theorem e_rl16_awake : EE π Ga args s = runF EE iter Z5m π args s := E_fn (by decide) (by rfl) (by rfl)
theorem He : EE π Z62 args s = runF EE iter Pj π args s := E_fn (by decide) (by rfl) (by rfl)
theorem Zdr : EE π Qs args s = runF EE iter Z0f π args s := E_fn (by decide) (by rfl) (by rfl)
theorem Zbs : EE π U3 args s = runF EE iter Gx π args s := E_fn (by decide) (by rfl) (by rfl)
theorem Hy : EE π Hs args s = runF EE iter Uo π args s := E_fn (by decide) (by rfl) (by rfl)
theorem Z04 : EE π Ql args s = runF EE iter P5 π args s := E_fn (by decide) (by rfl) (by rfl)
theorem Zhn : EE π V1 args s = runF EE iter Z3w π args s := E_fn (by decide) (by rfl) (by rfl)
theorem e_rb_Has : EE π Fe args s = runF EE iter Zic π args s := E_fn (by decide) (by rfl) (by rfl)
theorem Zdq : EE π Qo args s = runF EE iter Z0d π args s := E_fn (by decide) (by rfl) (by rfl)
theorem Zez : EE π Py args s = runF EE iter Z1u π args s := E_fn (by decide) (by rfl) (by rfl)
theorem e_rb_Ints : EE π Qr args s = runF EE iter Z9g π args s := E_fn (by decide) (by rfl) (by rfl)
theorem e_rb_Reads : EE π Z2j args s = runF EE iter Za7 π args s := E_fn (by decide) (by rfl) (by rfl)
theorem e_rb_Writes : EE π M4 args s = runF EE iter Z7i π args s := E_fn (by decide) (by rfl) (by rfl)
theorem Z98 : EE π Lg args s = runF EE iter Fk π args s := E_fn (by decide) (by rfl) (by rfl)
theorem Zf1 : EE π Uk args s = runF EE iter Z1w π args s := E_fn (by decide) (by rfl) (by rfl)
theorem e_rb_Leaves : EE π Qp args s = runF EE iter Z7l π args s := E_fn (by decide) (by rfl) (by rfl)
theorem Un : EE π Hx args s = runF EE iter Wb π args s := E_fn (by decide) (by rfl) (by rfl)
theorem Z5e : EE π Lp args s = runF EE iter Kf π args s := E_fn (by decide) (by rfl) (by rfl)
theorem e_rr16_First : EE π Z15 args s = runF EE iter Z5l π args s := E_fn (by decide) (by rfl) (by rfl)
theorem Z05 : EE π Lf args s = runF EE iter P6 π args s := E_fn (by decide) (by rfl) (by rfl)
theorem Zbi : EE π G9 args s = runF EE iter Z1e π args s := E_fn (by decide) (by rfl) (by rfl)
theorem Zf0 : EE π Pz args s = runF EE iter Z1v π args s := E_fn (by decide) (by rfl) (by rfl)
theorem e_cf_openTwo : EE π Mz args s = runF EE iter Z5y π args s := E_fn (by decide) (by rfl) (by rfl)
theorem Z6z : EE π Hu args s = runF EE iter Hz π args s := E_fn (by decide) (by rfl) (by rfl)
theorem Zf3 : EE π Hv args s = runF EE iter Z23 π args s := E_fn (by decide) (by rfl) (by rfl)
theorem Z4k : EE π Np args s = runF EE iter Nt π args s := E_fn (by decide) (by rfl) (by rfl)
theorem Z5b : EE π Lk args s = runF EE iter K7 π args s := E_fn (by decide) (by rfl) (by rfl)
theorem e_cf_open : EE π Z2v args s = runF EE iter Zem π args s := E_fn (by decide) (by rfl) (by rfl)
theorem Xl : EE π N1 args s = runF EE iter Ym π args s := E_fn (by decide) (by rfl) (by rfl)
theorem e_cf_within : EE π Ha args s = runF EE iter Z82 π args s := E_fn (by decide) (by rfl) (by rfl)
theorem e_rb_Within : EE π Ye args s = runF EE iter Z7j π args s := E_fn (by decide) (by rfl) (by rfl)
theorem Zbq : EE π U0 args s = runF EE iter Gv π args s := E_fn (by decide) (by rfl) (by rfl)
theorem e_cf_unless : EE π Xz args s = runF EE iter Z83 π args s := E_fn (by decide) (by rfl) (by rfl)
theorem Zhy : EE π Ph args s = runF EE iter Z4d π args s := E_fn (by decide) (by rfl) (by rfl)
theorem Zbt : EE π No args s = runF EE iter F1 π args s := E_fn (by decide) (by rfl) (by rfl)
theorem e_cf_first : EE π Pg args s = runF EE iter Zb1 π args s := E_fn (by decide) (by rfl) (by rfl)
theorem Zbv : EE π U8 args s = runF EE iter F9 π args s := E_fn (by decide) (by rfl) (by rfl)
theorem Zbl : EE π L0 args s = runF EE iter Z1g π args s := E_fn (by decide) (by rfl) (by rfl)
theorem Zdz : EE π Qy args s = runF EE iter Z0m π args s := E_fn (by decide) (by rfl) (by rfl)
theorem e_cf_nw_bits : EE π L3 args s = runF EE iter Z5z π args s := E_fn (by decide) (by rfl) (by rfl)
theorem Z70 : EE π Hw args s = runF EE iter G1 π args s := E_fn (by decide) (by rfl) (by rfl)
theorem e_rb_Power : EE π Xg args s = runF EE iter Za8 π args s := E_fn (by decide) (by rfl) (by rfl)
theorem Zdo : EE π Lh args s = runF EE iter Z0a π args s := E_fn (by decide) (by rfl) (by rfl)
theorem Zhl : EE π Fd args s = runF EE iter Z3u π args s := E_fn (by decide) (by rfl) (by rfl)
theorem Zdp : EE π Qn args s = runF EE iter Z0c π args s := E_fn (by decide) (by rfl) (by rfl)
theorem Zhm : EE π Vs args s = runF EE iter Z3v π args s := E_fn (by decide) (by rfl) (by rfl)
theorem Zbr : EE π Yn args s = runF EE iter Gw π args s := E_fn (by decide) (by rfl) (by rfl)
theorem Z59 : EE π Y8 args s = runF EE iter P4 π args s := E_fn (by decide) (by rfl) (by rfl)
theorem e_ds_CkD : EE π Z66 args s = runF EE iter Zii π args s := E_fn (by decide) (by rfl) (by rfl)
theorem e_cf_open_1 : EE π Z00 args s = runF EE iter Z84 π args s := E_fn (by decide) (by rfl) (by rfl)
theorem Zdy : EE π Qx args s = runF EE iter Z0l π args s := E_fn (by decide) (by rfl) (by rfl)
theorem Z7b : EE π Qq args s = runF EE iter Z0e π args s := E_fn (by decide) (by rfl) (by rfl)
theorem Z3l : EE π Li args s = runF EE iter K1 π args s := E_fn (by decide) (by rfl) (by rfl)
theorem Gu : EE π U5 args s = runF EE iter Ub π args s := E_fn (by decide) (by rfl) (by rfl)
theorem Z99 : EE π Fc args s = runF EE iter Fl π args s := E_fn (by decide) (by rfl) (by rfl)
theorem Z4j : EE π U4 args s = runF EE iter Ns π args s := E_fn (by decide) (by rfl) (by rfl)
theorem Z1t : EE π N0 args s = runF EE iter Nj π args s := E_fn (by decide) (by rfl) (by rfl)
theorem Z06 : EE π Qm args s = runF EE iter P7 π args s := E_fn (by decide) (by rfl) (by rfl)
theorem e_rb_Below : EE π Z64 args s = runF EE iter Za9 π args s := E_fn (by decide) (by rfl) (by rfl)
theorem Fj : EE π Ln args s = runF EE iter Pk π args s := E_fn (by decide) (by rfl) (by rfl)
theorem Z1c : EE π Uv args s = runF EE iter Q4 π args s := E_fn (by decide) (by rfl) (by rfl)
theorem Zhx : EE π Vv args s = runF EE iter Z4b π args s := E_fn (by decide) (by rfl) (by rfl)
theorem Zbu : EE π Nq args s = runF EE iter F6 π args s := E_fn (by decide) (by rfl) (by rfl)
theorem Gg : EE π Qk args s = runF EE iter V4 π args s := E_fn (by decide) (by rfl) (by rfl)
theorem e_rb_Fits : EE π Z2k args s = runF EE iter Ze7 π args s := E_fn (by decide) (by rfl) (by rfl)
theorem Y4 : EE π Zs args s = runF EE iter Zv π args s := E_fn (by decide) (by rfl) (by rfl)
theorem Z5a : EE π Lj args s = runF EE iter K6 π args s := E_fn (by decide) (by rfl) (by rfl)
theorem Z97 : EE π Uu args s = runF EE iter Lx π args s := E_fn (by decide) (by rfl) (by rfl)
theorem e_ds_CkD_1 : EE π Z2t args s = runF EE iter Zav π args s := E_fn (by decide) (by rfl) (by rfl)
theorem e_ds_first : EE π Xh args s = runF EE iter Zam π args s := E_fn (by decide) (by rfl) (by rfl)
theorem e_ds_unless : EE π Zi args s = runF EE iter Z7v π args s := E_fn (by decide) (by rfl) (by rfl)
theorem e_ds_isName : EE π Fx args s = runF EE iter Z7y π args s := E_fn (by decide) (by rfl) (by rfl)
theorem e_ds_CkD_2 : EE π Z2s args s = runF EE iter Zau π args s := E_fn (by decide) (by rfl) (by rfl)
theorem Z9d : EE π Uy args s = runF EE iter Kd π args s := E_fn (by decide) (by rfl) (by rfl)
theorem e_ds_CkD_2_1 : EE π My args s = runF EE iter Z5v π args s := E_fn (by decide) (by rfl) (by rfl)
theorem Zf4 : EE π Xk args s = runF EE iter Z25 π args s := E_fn (by decide) (by rfl) (by rfl)
theorem e_ds_isWidth : EE π Gf args s = runF EE iter Z5s π args s := E_fn (by decide) (by rfl) (by rfl)
theorem e_ds_CkD_3 : EE π Z2r args s = runF EE iter Zat π args s := E_fn (by decide) (by rfl) (by rfl)
theorem e_ds_CkD_4 : EE π Z2q args s = runF EE iter Zas π args s := E_fn (by decide) (by rfl) (by rfl)
theorem Z5d : EE π V3 args s = runF EE iter Pb π args s := E_fn (by decide) (by rfl) (by rfl)
theorem Zbk : EE π Mx args s = runF EE iter Z1f π args s := E_fn (by decide) (by rfl) (by rfl)
theorem e_ds_within : EE π Yg args s = runF EE iter Z7u π args s := E_fn (by decide) (by rfl) (by rfl)
theorem e_ds_fits : EE π Z8o args s = runF EE iter Z9i π args s := E_fn (by decide) (by rfl) (by rfl)
theorem e_ds_CkD_5 : EE π Z2p args s = runF EE iter Zar π args s := E_fn (by decide) (by rfl) (by rfl)
theorem Lu : EE π Qv args s = runF EE iter Vk π args s := E_fn (by decide) (by rfl) (by rfl)
theorem e_ds_leaves : EE π Z3d args s = runF EE iter Z7w π args s := E_fn (by decide) (by rfl) (by rfl)
theorem e_ds_CkD_6 : EE π Z2o args s = runF EE iter Zaq π args s := E_fn (by decide) (by rfl) (by rfl)
theorem e_ds_CkD_7 : EE π Z2n args s = runF EE iter Zap π args s := E_fn (by decide) (by rfl) (by rfl)
theorem Z9c : EE π Ux args s = runF EE iter Kc π args s := E_fn (by decide) (by rfl) (by rfl)
theorem e_ds_CkD_7_1 : EE π Mw args s = runF EE iter Z5u π args s := E_fn (by decide) (by rfl) (by rfl)
theorem Z4l : EE π U7 args s = runF EE iter Nu π args s := E_fn (by decide) (by rfl) (by rfl)
theorem Z7d : EE π Vu args s = runF EE iter Md π args s := E_fn (by decide) (by rfl) (by rfl)
theorem Zf5 : EE π N9 args s = runF EE iter Z29 π args s := E_fn (by decide) (by rfl) (by rfl)
theorem Z3m : EE π Fh args s = runF EE iter Kb π args s := E_fn (by decide) (by rfl) (by rfl)
theorem e_ds_CkD_8 : EE π Z2m args s = runF EE iter Zao π args s := E_fn (by decide) (by rfl) (by rfl)
theorem e_ds_CkD_9 : EE π Z2l args s = runF EE iter Zan π args s := E_fn (by decide) (by rfl) (by rfl)
theorem Z6j : EE π Vc args s = runF EE iter Ps π args s := E_fn (by decide) (by rfl) (by rfl)
theorem e_ds_CkD_9_1 : EE π Mv args s = runF EE iter Z5t π args s := E_fn (by decide) (by rfl) (by rfl)
theorem e_ds_isNode : EE π H9 args s = runF EE iter Z7x π args s := E_fn (by decide) (by rfl) (by rfl)
theorem e_ds_CkD_10 : EE π Fz args s = runF EE iter Z81 π args s := E_fn (by decide) (by rfl) (by rfl)
theorem e_ds_CkD_11 : EE π Fy args s = runF EE iter Z80 π args s := E_fn (by decide) (by rfl) (by rfl)
theorem Z3n : EE π W7 args s = runF EE iter Vy π args s := E_fn (by decide) (by rfl) (by rfl)
theorem Zhw : EE π Lo args s = runF EE iter Z4a π args s := E_fn (by decide) (by rfl) (by rfl)
theorem Zhv : EE π Fi args s = runF EE iter Z49 π args s := E_fn (by decide) (by rfl) (by rfl)
theorem Zdx : EE π Qw args s = runF EE iter Z0k π args s := E_fn (by decide) (by rfl) (by rfl)
theorem e_rb_IsWidth : EE π Mk args s = runF EE iter Z5n π args s := E_fn (by decide) (by rfl) (by rfl)
theorem Vo : EE π Gb args s = runF EE iter Wa π args s := E_fn (by decide) (by rfl) (by rfl)
theorem e_rb_IsNode : EE π H7 args s = runF EE iter Z7m π args s := E_fn (by decide) (by rfl) (by rfl)
theorem e_gr_first : EE π Pf args s = runF EE iter Zal π args s := E_fn (by decide) (by rfl) (by rfl)
theorem Zhp : EE π Ll args s = runF EE iter Z41 π args s := E_fn (by decide) (by rfl) (by rfl)
theorem e_gr_unless : EE π Yf args s = runF EE iter Z7q π args s := E_fn (by decide) (by rfl) (by rfl)
theorem Zhr : EE π Lm args s = runF EE iter Z44 π args s := E_fn (by decide) (by rfl) (by rfl)
theorem Zdw : EE π Qu args s = runF EE iter Z0j π args s := E_fn (by decide) (by rfl) (by rfl)
theorem e_gr_fits : EE π Z4z args s = runF EE iter Z9h π args s := E_fn (by decide) (by rfl) (by rfl)
theorem e_gr_valued : EE π Z3c args s = runF EE iter Z7p π args s := E_fn (by decide) (by rfl) (by rfl)
theorem Z3k : EE π W6 args s = runF EE iter Vw π args s := E_fn (by decide) (by rfl) (by rfl)
theorem e_rb_Bit : EE π Z63 args s = runF EE iter Zid π args s := E_fn (by decide) (by rfl) (by rfl)
theorem e_rb_Signed : EE π H6 args s = runF EE iter Z7k π args s := E_fn (by decide) (by rfl) (by rfl)
theorem Za3 : EE π Vj args s = runF EE iter Hp π args s := E_fn (by decide) (by rfl) (by rfl)
theorem e_gr_isWidth : EE π Ge args s = runF EE iter Z5q π args s := E_fn (by decide) (by rfl) (by rfl)
theorem Zdv : EE π Qt args s = runF EE iter Z0h π args s := E_fn (by decide) (by rfl) (by rfl)
theorem Z9a : EE π Uw args s = runF EE iter Ka π args s := E_fn (by decide) (by rfl) (by rfl)
theorem Wf : EE π Vi args s = runF EE iter Yq π args s := E_fn (by decide) (by rfl) (by rfl)
theorem e_gr_within : EE π V9 args s = runF EE iter Z7o π args s := E_fn (by decide) (by rfl) (by rfl)
theorem Z7c : EE π Wi args s = runF EE iter Mc π args s := E_fn (by decide) (by rfl) (by rfl)
theorem Pi : EE π Fg args s = runF EE iter V5 π args s := E_fn (by decide) (by rfl) (by rfl)
theorem Zk : EE π Ff args s = runF EE iter Ze π args s := E_fn (by decide) (by rfl) (by rfl)
theorem Zf2 : EE π Ht args s = runF EE iter Z1x π args s := E_fn (by decide) (by rfl) (by rfl)
theorem e_gr_applied : EE π Z16 args s = runF EE iter Z5r π args s := E_fn (by decide) (by rfl) (by rfl)
theorem e_gr_op_1 : EE π U6 args s = runF EE iter Zeh π args s := E_fn (by decide) (by rfl) (by rfl)
theorem Zhu : EE π Ya args s = runF EE iter Z47 π args s := E_fn (by decide) (by rfl) (by rfl)
theorem e_gr_same : EE π Zg args s = runF EE iter Ze8 π args s := E_fn (by decide) (by rfl) (by rfl)
theorem e_gr_op_2 : EE π Gc args s = runF EE iter Zeg π args s := E_fn (by decide) (by rfl) (by rfl)
theorem e_gr_mask : EE π Gd args s = runF EE iter Zej π args s := E_fn (by decide) (by rfl) (by rfl)
theorem e_gr_binary : EE π Vt args s = runF EE iter Z7t π args s := E_fn (by decide) (by rfl) (by rfl)
theorem e_gr_op_3 : EE π N8 args s = runF EE iter Zef π args s := E_fn (by decide) (by rfl) (by rfl)
theorem e_gr_op_4 : EE π N7 args s = runF EE iter Zee π args s := E_fn (by decide) (by rfl) (by rfl)
theorem e_gr_op_5 : EE π N6 args s = runF EE iter Zed π args s := E_fn (by decide) (by rfl) (by rfl)
theorem e_gr_op_6 : EE π N5 args s = runF EE iter Zec π args s := E_fn (by decide) (by rfl) (by rfl)
theorem e_gr_op_7 : EE π N4 args s = runF EE iter Zeb π args s := E_fn (by decide) (by rfl) (by rfl)
theorem e_gr_op_8 : EE π N3 args s = runF EE iter Zea π args s := E_fn (by decide) (by rfl) (by rfl)
theorem Zho : EE π Pe args s = runF EE iter Z40 π args s := E_fn (by decide) (by rfl) (by rfl)
theorem e_gr_op_9 : EE π N2 args s = runF EE iter Ze9 π args s := E_fn (by decide) (by rfl) (by rfl)
theorem e_gr_op_10 : EE π Um args s = runF EE iter Zak π args s := E_fn (by decide) (by rfl) (by rfl)
theorem e_gr_op_11 : EE π Ul args s = runF EE iter Zaj π args s := E_fn (by decide) (by rfl) (by rfl)
theorem Zdt : EE π H8 args s = runF EE iter Z3z π args s := E_fn (by decide) (by rfl) (by rfl)
theorem e_gr_op_12 : EE π Mu args s = runF EE iter Zai π args s := E_fn (by decide) (by rfl) (by rfl)
theorem e_gr_op_13 : EE π Mt args s = runF EE iter Zah π args s := E_fn (by decide) (by rfl) (by rfl)
theorem e_gr_op_14 : EE π Ms args s = runF EE iter Zag π args s := E_fn (by decide) (by rfl) (by rfl)
theorem e_gr_op_15 : EE π Mr args s = runF EE iter Zaf π args s := E_fn (by decide) (by rfl) (by rfl)
theorem e_gr_op_16 : EE π Mq args s = runF EE iter Zae π args s := E_fn (by decide) (by rfl) (by rfl)
theorem e_gr_op_17 : EE π Mp args s = runF EE iter Zad π args s := E_fn (by decide) (by rfl) (by rfl)
theorem Zhq : EE π Y9 args s = runF EE iter Z43 π args s := E_fn (by decide) (by rfl) (by rfl)
theorem e_gr_op_18 : EE π Mo args s = runF EE iter Zac π args s := E_fn (by decide) (by rfl) (by rfl)
theorem e_gr_op_19 : EE π Mn args s = runF EE iter Zab π args s := E_fn (by decide) (by rfl) (by rfl)
theorem e_gr_shifted : EE π Yp args s = runF EE iter Z5p π args s := E_fn (by decide) (by rfl) (by rfl)
theorem Zge : EE π Mm args s = runF EE iter Z6e π args s := E_fn (by decide) (by rfl) (by rfl)
theorem Zgd : EE π Ml args s = runF EE iter Z6d π args s := E_fn (by decide) (by rfl) (by rfl)
theorem e_gr_same_1 : EE π Fw args s = runF EE iter Z7r π args s := E_fn (by decide) (by rfl) (by rfl)
theorem Zht : EE π Zo args s = runF EE iter Z46 π args s := E_fn (by decide) (by rfl) (by rfl)
theorem Zhs : EE π Zq args s = runF EE iter Z45 π args s := E_fn (by decide) (by rfl) (by rfl)
theorem Zdu : EE π Y2 args s = runF EE iter Z0g π args s := E_fn (by decide) (by rfl) (by rfl)
theorem e_gr_truth : EE π Z65 args s = runF EE iter Zaa π args s := E_fn (by decide) (by rfl) (by rfl)

end Go.Proofs.YteecfnfjlclhdaaGreat.V
