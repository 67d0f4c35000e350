/- The table of functions, and that it is right. Printed by a program of this work. -/
import Derived.Test.YteecfnfjlclhdaaGreatT0
import Derived.Test.YteecfnfjlclhdaaGreatT1
import Derived.Test.YteecfnfjlclhdaaGreatProg
import Derived.Test.YteecfnfjlclhdaaGreatO0

set_option linter.unusedSimpArgs false
set_option linter.unusedVariables false

/- The table of functions, and that it is right. Printed by a program of this work. -/
namespace Go.Proofs.YteecfnfjlclhdaaGreat.V
open Go Go.Proofs


def T0 : Tab := fun f => match f with
  | 7 => some Zj
  | 8 => some Z65
  | 9 => some Pp
  | 11 => some Z0t
  | 12 => some Zhu
  | 13 => some Gp
  | 16 => some Zb6
  | 21 => some Li
  | 22 => some Fh
  | 23 => some Z4d
  | 24 => some Z1u
  | 25 => some Z23
  | 26 => some Zhq
  | 27 => some Z0r
  | 28 => some Lu
  | 31 => some Z22
  | 32 => some Z9w
  | 33 => some Zan
  | 34 => some Z7z
  | 37 => some Z81
  | 44 => some Z1t
  | 45 => some Z63
  | 46 => some Ky
  | 47 => some Z62
  | 48 => some Z64
  | 49 => some Zhp
  | 50 => some Zet
  | 51 => some c_cf_openTwo
  | 52 => some Z2m
  | 53 => some Zbw
  | 54 => some Hn
  | 55 => some Z2a
  | 56 => some Nn
  | 57 => some Ln
  | 58 => some Ze3
  | 59 => some Yk
  | 60 => some Z8h
  | 62 => some Z80
  | 63 => some Uu
  | 64 => some Z0j
  | _ => none

theorem tabOk0 : TabOk Tryz.prog T0 := fun f F h => by
  unfold T0 at h
  split at h
  · cases h; exact ⟨_, Tryz.func7, by kernel_rfl⟩
  · cases h; exact ⟨_, Tryz.func8, by kernel_rfl⟩
  · cases h; exact ⟨_, Tryz.func9, by kernel_rfl⟩
  · cases h; exact ⟨_, Tryz.func11, by kernel_rfl⟩
  · cases h; exact ⟨_, Tryz.func12, by kernel_rfl⟩
  · cases h; exact ⟨_, Tryz.func13, by kernel_rfl⟩
  · cases h; exact ⟨_, Tryz.func16, by kernel_rfl⟩
  · cases h; exact ⟨_, Tryz.func21, by kernel_rfl⟩
  · cases h; exact ⟨_, Tryz.func22, by kernel_rfl⟩
  · cases h; exact ⟨_, Tryz.func23, by kernel_rfl⟩
  · cases h; exact ⟨_, Tryz.func24, by kernel_rfl⟩
  · cases h; exact ⟨_, Tryz.func25, by kernel_rfl⟩
  · cases h; exact ⟨_, Tryz.func26, by kernel_rfl⟩
  · cases h; exact ⟨_, Tryz.func27, by kernel_rfl⟩
  · cases h; exact ⟨_, Tryz.func28, by kernel_rfl⟩
  · cases h; exact ⟨_, Tryz.func31, by kernel_rfl⟩
  · cases h; exact ⟨_, Tryz.func32, by kernel_rfl⟩
  · cases h; exact ⟨_, Tryz.func33, by kernel_rfl⟩
  · cases h; exact ⟨_, Tryz.func34, by kernel_rfl⟩
  · cases h; exact ⟨_, Tryz.func37, by kernel_rfl⟩
  · cases h; exact ⟨_, Tryz.func44, by kernel_rfl⟩
  · cases h; exact ⟨_, Tryz.func45, by kernel_rfl⟩
  · cases h; exact ⟨_, Tryz.func46, by kernel_rfl⟩
  · cases h; exact ⟨_, Tryz.func47, by kernel_rfl⟩
  · cases h; exact ⟨_, Tryz.func48, by kernel_rfl⟩
  · cases h; exact ⟨_, Tryz.func49, by kernel_rfl⟩
  · cases h; exact ⟨_, Tryz.func50, by kernel_rfl⟩
  · cases h; exact ⟨_, Tryz.func51, by kernel_rfl⟩
  · cases h; exact ⟨_, Tryz.func52, by kernel_rfl⟩
  · cases h; exact ⟨_, Tryz.func53, by kernel_rfl⟩
  · cases h; exact ⟨_, Tryz.func54, by kernel_rfl⟩
  · cases h; exact ⟨_, Tryz.func55, by kernel_rfl⟩
  · cases h; exact ⟨_, Tryz.func56, by kernel_rfl⟩
  · cases h; exact ⟨_, Tryz.func57, by kernel_rfl⟩
  · cases h; exact ⟨_, Tryz.func58, by kernel_rfl⟩
  · cases h; exact ⟨_, Tryz.func59, by kernel_rfl⟩
  · cases h; exact ⟨_, Tryz.func60, by kernel_rfl⟩
  · cases h; exact ⟨_, Tryz.func62, by kernel_rfl⟩
  · cases h; exact ⟨_, Tryz.func63, by kernel_rfl⟩
  · cases h; exact ⟨_, Tryz.func64, by kernel_rfl⟩
  · cases h


def T1 : Tab := fun f => match f with
  | 65 => some Ny
  | 66 => some Gk
  | 67 => some Z10
  | 68 => some Z0x
  | 70 => some Z2k
  | 71 => some Z8i
  | 72 => some Z4v
  | 73 => some Ha
  | 74 => some Z4t
  | 75 => some Z2l
  | 76 => some Gt
  | 77 => some Zb5
  | 79 => some c_cf_nw_meet
  | 81 => some c_cf_nw_bits
  | 82 => some Zes
  | 83 => some Zao
  | 88 => some Qf
  | 89 => some Pz
  | 90 => some Z84
  | 91 => some Z61
  | 92 => some Lg
  | 93 => some Ze2
  | 94 => some Gm
  | 95 => some Z9z
  | 96 => some P4
  | 97 => some Zht
  | 98 => some Z8j
  | 99 => some Z0z
  | 100 => some Z0s
  | 101 => some Fd
  | 102 => some Nm
  | 103 => some Fe
  | 104 => some Nl
  | 105 => some Hm
  | 106 => some Ll
  | 110 => some Gx
  | 111 => some Gl
  | 113 => some P2
  | 114 => some Pq
  | 115 => some Qe
  | _ => none

theorem tabOk1 : TabOk Tryz.prog T1 := fun f F h => by
  unfold T1 at h
  split at h
  · cases h; exact ⟨_, Tryz.func65, by kernel_rfl⟩
  · cases h; exact ⟨_, Tryz.func66, by kernel_rfl⟩
  · cases h; exact ⟨_, Tryz.func67, by kernel_rfl⟩
  · cases h; exact ⟨_, Tryz.func68, by kernel_rfl⟩
  · cases h; exact ⟨_, Tryz.func70, by kernel_rfl⟩
  · cases h; exact ⟨_, Tryz.func71, by kernel_rfl⟩
  · cases h; exact ⟨_, Tryz.func72, by kernel_rfl⟩
  · cases h; exact ⟨_, Tryz.func73, by kernel_rfl⟩
  · cases h; exact ⟨_, Tryz.func74, by kernel_rfl⟩
  · cases h; exact ⟨_, Tryz.func75, by kernel_rfl⟩
  · cases h; exact ⟨_, Tryz.func76, by kernel_rfl⟩
  · cases h; exact ⟨_, Tryz.func77, by kernel_rfl⟩
  · cases h; exact ⟨_, Tryz.func79, by kernel_rfl⟩
  · cases h; exact ⟨_, Tryz.func81, by kernel_rfl⟩
  · cases h; exact ⟨_, Tryz.func82, by kernel_rfl⟩
  · cases h; exact ⟨_, Tryz.func83, by kernel_rfl⟩
  · cases h; exact ⟨_, Tryz.func88, by kernel_rfl⟩
  · cases h; exact ⟨_, Tryz.func89, by kernel_rfl⟩
  · cases h; exact ⟨_, Tryz.func90, by kernel_rfl⟩
  · cases h; exact ⟨_, Tryz.func91, by kernel_rfl⟩
  · cases h; exact ⟨_, Tryz.func92, by kernel_rfl⟩
  · cases h; exact ⟨_, Tryz.func93, by kernel_rfl⟩
  · cases h; exact ⟨_, Tryz.func94, by kernel_rfl⟩
  · cases h; exact ⟨_, Tryz.func95, by kernel_rfl⟩
  · cases h; exact ⟨_, Tryz.func96, by kernel_rfl⟩
  · cases h; exact ⟨_, Tryz.func97, by kernel_rfl⟩
  · cases h; exact ⟨_, Tryz.func98, by kernel_rfl⟩
  · cases h; exact ⟨_, Tryz.func99, by kernel_rfl⟩
  · cases h; exact ⟨_, Tryz.func100, by kernel_rfl⟩
  · cases h; exact ⟨_, Tryz.func101, by kernel_rfl⟩
  · cases h; exact ⟨_, Tryz.func102, by kernel_rfl⟩
  · cases h; exact ⟨_, Tryz.func103, by kernel_rfl⟩
  · cases h; exact ⟨_, Tryz.func104, by kernel_rfl⟩
  · cases h; exact ⟨_, Tryz.func105, by kernel_rfl⟩
  · cases h; exact ⟨_, Tryz.func106, by kernel_rfl⟩
  · cases h; exact ⟨_, Tryz.func110, by kernel_rfl⟩
  · cases h; exact ⟨_, Tryz.func111, by kernel_rfl⟩
  · cases h; exact ⟨_, Tryz.func113, by kernel_rfl⟩
  · cases h; exact ⟨_, Tryz.func114, by kernel_rfl⟩
  · cases h; exact ⟨_, Tryz.func115, by kernel_rfl⟩
  · cases h


def T2 : Tab := fun f => match f with
  | 116 => some Z6g
  | 118 => some Zap
  | 119 => some Zhs
  | 122 => some Zbx
  | 123 => some Z60
  | 124 => some Zdx
  | 127 => some Z2j
  | 128 => some U0
  | 129 => some Lf
  | 130 => some Zb4
  | 131 => some Zav
  | 132 => some Z8a
  | 133 => some Z8d
  | 134 => some Zb3
  | 135 => some Lt
  | 136 => some Z6d
  | 137 => some Z2e
  | 138 => some Z6a
  | 139 => some Zb2
  | 140 => some Zb1
  | 141 => some P9
  | 142 => some Z1s
  | 143 => some Z89
  | 144 => some Z9y
  | 145 => some Zb0
  | 146 => some Vy
  | 147 => some Z8b
  | 148 => some Zaz
  | 149 => some Zay
  | 150 => some Ls
  | 151 => some Z6c
  | 152 => some Np
  | 153 => some M7
  | 154 => some Z2i
  | 155 => some Lr
  | 156 => some Zax
  | 157 => some Zaw
  | 158 => some N3
  | 159 => some Z6b
  | 160 => some Z8c
  | _ => none

theorem tabOk2 : TabOk Tryz.prog T2 := fun f F h => by
  unfold T2 at h
  split at h
  · cases h; exact ⟨_, Tryz.func116, by kernel_rfl⟩
  · cases h; exact ⟨_, Tryz.func118, by kernel_rfl⟩
  · cases h; exact ⟨_, Tryz.func119, by kernel_rfl⟩
  · cases h; exact ⟨_, Tryz.func122, by kernel_rfl⟩
  · cases h; exact ⟨_, Tryz.func123, by kernel_rfl⟩
  · cases h; exact ⟨_, Tryz.func124, by kernel_rfl⟩
  · cases h; exact ⟨_, Tryz.func127, by kernel_rfl⟩
  · cases h; exact ⟨_, Tryz.func128, by kernel_rfl⟩
  · cases h; exact ⟨_, Tryz.func129, by kernel_rfl⟩
  · cases h; exact ⟨_, Tryz.func130, by kernel_rfl⟩
  · cases h; exact ⟨_, Tryz.func131, by kernel_rfl⟩
  · cases h; exact ⟨_, Tryz.func132, by kernel_rfl⟩
  · cases h; exact ⟨_, Tryz.func133, by kernel_rfl⟩
  · cases h; exact ⟨_, Tryz.func134, by kernel_rfl⟩
  · cases h; exact ⟨_, Tryz.func135, by kernel_rfl⟩
  · cases h; exact ⟨_, Tryz.func136, by kernel_rfl⟩
  · cases h; exact ⟨_, Tryz.func137, by kernel_rfl⟩
  · cases h; exact ⟨_, Tryz.func138, by kernel_rfl⟩
  · cases h; exact ⟨_, Tryz.func139, by kernel_rfl⟩
  · cases h; exact ⟨_, Tryz.func140, by kernel_rfl⟩
  · cases h; exact ⟨_, Tryz.func141, by kernel_rfl⟩
  · cases h; exact ⟨_, Tryz.func142, by kernel_rfl⟩
  · cases h; exact ⟨_, Tryz.func143, by kernel_rfl⟩
  · cases h; exact ⟨_, Tryz.func144, by kernel_rfl⟩
  · cases h; exact ⟨_, Tryz.func145, by kernel_rfl⟩
  · cases h; exact ⟨_, Tryz.func146, by kernel_rfl⟩
  · cases h; exact ⟨_, Tryz.func147, by kernel_rfl⟩
  · cases h; exact ⟨_, Tryz.func148, by kernel_rfl⟩
  · cases h; exact ⟨_, Tryz.func149, by kernel_rfl⟩
  · cases h; exact ⟨_, Tryz.func150, by kernel_rfl⟩
  · cases h; exact ⟨_, Tryz.func151, by kernel_rfl⟩
  · cases h; exact ⟨_, Tryz.func152, by kernel_rfl⟩
  · cases h; exact ⟨_, Tryz.func153, by kernel_rfl⟩
  · cases h; exact ⟨_, Tryz.func154, by kernel_rfl⟩
  · cases h; exact ⟨_, Tryz.func155, by kernel_rfl⟩
  · cases h; exact ⟨_, Tryz.func156, by kernel_rfl⟩
  · cases h; exact ⟨_, Tryz.func157, by kernel_rfl⟩
  · cases h; exact ⟨_, Tryz.func158, by kernel_rfl⟩
  · cases h; exact ⟨_, Tryz.func159, by kernel_rfl⟩
  · cases h; exact ⟨_, Tryz.func160, by kernel_rfl⟩
  · cases h


def T3 : Tab := fun f => match f with
  | 161 => some Z8g
  | 162 => some Z8f
  | 163 => some Ue
  | 164 => some Z4s
  | 165 => some Z4r
  | 166 => some Z0w
  | 167 => some Z66
  | 168 => some P5
  | 169 => some Z82
  | 172 => some Q1
  | 175 => some Fg
  | 176 => some Zat
  | 177 => some Z4i
  | 178 => some Z86
  | 179 => some Z4l
  | 180 => some Ze1
  | 181 => some Z9x
  | 182 => some c_gr_valued
  | 183 => some Z47
  | 186 => some Nq
  | 187 => some Pa
  | 188 => some H6
  | 189 => some Z69
  | 190 => some Z0u
  | 191 => some Lq
  | 192 => some Yp
  | 193 => some Z85
  | 194 => some M6
  | 195 => some Va
  | 196 => some Zd
  | 197 => some Z24
  | 211 => some Z4h
  | 212 => some Gu
  | 213 => some c_gr_applied
  | 214 => some c_gr_op_1
  | 215 => some Z4p
  | 216 => some Zdy
  | 217 => some c_gr_op_2
  | 218 => some c_gr_mask
  | 219 => some Z88
  | _ => none

theorem tabOk3 : TabOk Tryz.prog T3 := fun f F h => by
  unfold T3 at h
  split at h
  · cases h; exact ⟨_, Tryz.func161, by kernel_rfl⟩
  · cases h; exact ⟨_, Tryz.func162, by kernel_rfl⟩
  · cases h; exact ⟨_, Tryz.func163, by kernel_rfl⟩
  · cases h; exact ⟨_, Tryz.func164, by kernel_rfl⟩
  · cases h; exact ⟨_, Tryz.func165, by kernel_rfl⟩
  · cases h; exact ⟨_, Tryz.func166, by kernel_rfl⟩
  · cases h; exact ⟨_, Tryz.func167, by kernel_rfl⟩
  · cases h; exact ⟨_, Tryz.func168, by kernel_rfl⟩
  · cases h; exact ⟨_, Tryz.func169, by kernel_rfl⟩
  · cases h; exact ⟨_, Tryz.func172, by kernel_rfl⟩
  · cases h; exact ⟨_, Tryz.func175, by kernel_rfl⟩
  · cases h; exact ⟨_, Tryz.func176, by kernel_rfl⟩
  · cases h; exact ⟨_, Tryz.func177, by kernel_rfl⟩
  · cases h; exact ⟨_, Tryz.func178, by kernel_rfl⟩
  · cases h; exact ⟨_, Tryz.func179, by kernel_rfl⟩
  · cases h; exact ⟨_, Tryz.func180, by kernel_rfl⟩
  · cases h; exact ⟨_, Tryz.func181, by kernel_rfl⟩
  · cases h; exact ⟨_, Tryz.func182, by kernel_rfl⟩
  · cases h; exact ⟨_, Tryz.func183, by kernel_rfl⟩
  · cases h; exact ⟨_, Tryz.func186, by kernel_rfl⟩
  · cases h; exact ⟨_, Tryz.func187, by kernel_rfl⟩
  · cases h; exact ⟨_, Tryz.func188, by kernel_rfl⟩
  · cases h; exact ⟨_, Tryz.func189, by kernel_rfl⟩
  · cases h; exact ⟨_, Tryz.func190, by kernel_rfl⟩
  · cases h; exact ⟨_, Tryz.func191, by kernel_rfl⟩
  · cases h; exact ⟨_, Tryz.func192, by kernel_rfl⟩
  · cases h; exact ⟨_, Tryz.func193, by kernel_rfl⟩
  · cases h; exact ⟨_, Tryz.func194, by kernel_rfl⟩
  · cases h; exact ⟨_, Tryz.func195, by kernel_rfl⟩
  · cases h; exact ⟨_, Tryz.func196, by kernel_rfl⟩
  · cases h; exact ⟨_, Tryz.func197, by kernel_rfl⟩
  · cases h; exact ⟨_, Tryz.func211, by kernel_rfl⟩
  · cases h; exact ⟨_, Tryz.func212, by kernel_rfl⟩
  · cases h; exact ⟨_, Tryz.func213, by kernel_rfl⟩
  · cases h; exact ⟨_, Tryz.func214, by kernel_rfl⟩
  · cases h; exact ⟨_, Tryz.func215, by kernel_rfl⟩
  · cases h; exact ⟨_, Tryz.func216, by kernel_rfl⟩
  · cases h; exact ⟨_, Tryz.func217, by kernel_rfl⟩
  · cases h; exact ⟨_, Tryz.func218, by kernel_rfl⟩
  · cases h; exact ⟨_, Tryz.func219, by kernel_rfl⟩
  · cases h


def T4 : Tab := fun f => match f with
  | 220 => some c_gr_op_3
  | 221 => some c_gr_op_4
  | 222 => some c_gr_op_5
  | 223 => some c_gr_op_6
  | 224 => some c_gr_op_7
  | 225 => some c_gr_op_8
  | 226 => some Z4g
  | 227 => some c_gr_op_9
  | 228 => some c_gr_op_10
  | 229 => some c_gr_op_11
  | 230 => some c_gr_signed
  | 231 => some Zas
  | 232 => some c_gr_op_13
  | 233 => some Zar
  | 234 => some c_gr_op_15
  | 235 => some Zaq
  | 236 => some c_gr_op_17
  | 237 => some Z4k
  | 238 => some c_gr_op_18
  | 239 => some c_gr_op_19
  | 240 => some Z68
  | 241 => some c_gr_op_20
  | 242 => some c_gr_op_21
  | 248 => some Z0v
  | 249 => some Zau
  | 250 => some Z87
  | 251 => some Zhr
  | 252 => some Z4m
  | 253 => some Zdz
  | 254 => some c_gr_truth
  | 256 => some Xe
  | 257 => some Yy
  | _ => none

theorem tabOk4 : TabOk Tryz.prog T4 := fun f F h => by
  unfold T4 at h
  split at h
  · cases h; exact ⟨_, Tryz.func220, by kernel_rfl⟩
  · cases h; exact ⟨_, Tryz.func221, by kernel_rfl⟩
  · cases h; exact ⟨_, Tryz.func222, by kernel_rfl⟩
  · cases h; exact ⟨_, Tryz.func223, by kernel_rfl⟩
  · cases h; exact ⟨_, Tryz.func224, by kernel_rfl⟩
  · cases h; exact ⟨_, Tryz.func225, by kernel_rfl⟩
  · cases h; exact ⟨_, Tryz.func226, by kernel_rfl⟩
  · cases h; exact ⟨_, Tryz.func227, by kernel_rfl⟩
  · cases h; exact ⟨_, Tryz.func228, by kernel_rfl⟩
  · cases h; exact ⟨_, Tryz.func229, by kernel_rfl⟩
  · cases h; exact ⟨_, Tryz.func230, by kernel_rfl⟩
  · cases h; exact ⟨_, Tryz.func231, by kernel_rfl⟩
  · cases h; exact ⟨_, Tryz.func232, by kernel_rfl⟩
  · cases h; exact ⟨_, Tryz.func233, by kernel_rfl⟩
  · cases h; exact ⟨_, Tryz.func234, by kernel_rfl⟩
  · cases h; exact ⟨_, Tryz.func235, by kernel_rfl⟩
  · cases h; exact ⟨_, Tryz.func236, by kernel_rfl⟩
  · cases h; exact ⟨_, Tryz.func237, by kernel_rfl⟩
  · cases h; exact ⟨_, Tryz.func238, by kernel_rfl⟩
  · cases h; exact ⟨_, Tryz.func239, by kernel_rfl⟩
  · cases h; exact ⟨_, Tryz.func240, by kernel_rfl⟩
  · cases h; exact ⟨_, Tryz.func241, by kernel_rfl⟩
  · cases h; exact ⟨_, Tryz.func242, by kernel_rfl⟩
  · cases h; exact ⟨_, Tryz.func248, by kernel_rfl⟩
  · cases h; exact ⟨_, Tryz.func249, by kernel_rfl⟩
  · cases h; exact ⟨_, Tryz.func250, by kernel_rfl⟩
  · cases h; exact ⟨_, Tryz.func251, by kernel_rfl⟩
  · cases h; exact ⟨_, Tryz.func252, by kernel_rfl⟩
  · cases h; exact ⟨_, Tryz.func253, by kernel_rfl⟩
  · cases h; exact ⟨_, Tryz.func254, by kernel_rfl⟩
  · cases h; exact ⟨_, Tryz.func256, by kernel_rfl⟩
  · cases h; exact ⟨_, Tryz.func257, by kernel_rfl⟩
  · cases h

def T : Tab := fun f => if f < 65 then T0 f else if f < 116 then T1 f else if f < 161 then T2 f else if f < 220 then T3 f else T4 f
theorem tabOk : TabOk Tryz.prog T := fun f F h => by
  unfold T at h
  split at h
  · exact tabOk0 f F h
  split at h
  · exact tabOk1 f F h
  split at h
  · exact tabOk2 f F h
  split at h
  · exact tabOk3 f F h
  exact tabOk4 f F h

theorem Z1d {π : Id} {args : List AV} {s : Sto} : E T noO π V8 args s = runF (E T noO) iter Qe π args s := E_fn (by decide) (by rfl) (by rfl)
theorem Z8y : Z6h Tryz.prog V8 (Zg0 t_int 1) := clone_ok (C := E T noO) (E_ok tabOk (noO_ok _)) (by decide)
  (fun π l hl => ⟨5 :: π, by rw [Z1d]; simp [Z1, Qe, hl]⟩)
  (fun π => by rw [Z1d]; simp [Z1, Qe])
def orc : Orc := fun f => match f with
  | 115 => some (Zg0 t_int 1)
  | 61 => some joinO
  | 69 => some delO
  | 112 => some sortO
  | 117 => some Z46
  | _ => none

theorem orcOk : OrcOk Tryz.prog orc := fun f g h => by
  unfold orc at h
  split at h
  · cases h; exact Z8y
  · cases h; exact Zef
  · cases h; exact Z7k
  · cases h; exact Zaa
  · cases h; exact Z6w
  · cases h

noncomputable def EE : Call := E T orc

theorem o_strings_Join {π : Id} {args : List AV} {s : Sto} : EE π Z1z args s = joinO π args s := E_orc (by decide) (by rfl)
theorem Z7l {π : Id} {args : List AV} {s : Sto} : EE π Nx args s = delO π args s := E_orc (by decide) (by rfl)
theorem Kj {π : Id} {args : List AV} {s : Sto} : EE π Vs args s = sortO π args s := E_orc (by decide) (by rfl)
theorem F4 {π : Id} {args : List AV} {s : Sto} : EE π Vj args s = Z46 π args s := E_orc (by decide) (by rfl)
theorem Z8z {π : Id} {args : List AV} {s : Sto} : EE π V8 args s = Zg0 t_int 1 π args s := E_orc (by decide) (by rfl)
variable {π : Id} {args : List AV} {s : Sto}
theorem Zy : EE π Zp args s = runF EE iter Zj π args s := E_fn (by decide) (by rfl) (by rfl)
theorem e_rl16_awake : EE π Hx args s = runF EE iter Z65 π args s := E_fn (by decide) (by rfl) (by rfl)
theorem Ku : EE π Z6j args s = runF EE iter Pp π args s := E_fn (by decide) (by rfl) (by rfl)
theorem Zdh : EE π Wh args s = runF EE iter Z0t π args s := E_fn (by decide) (by rfl) (by rfl)
theorem Zbs : EE π Ng args s = runF EE iter Gp π args s := E_fn (by decide) (by rfl) (by rfl)
theorem Z5q : EE π Mv args s = runF EE iter Li π args s := E_fn (by decide) (by rfl) (by rfl)
theorem Z9v : EE π Pn args s = runF EE iter Fh π args s := E_fn (by decide) (by rfl) (by rfl)
theorem Zh0 : EE π Xk args s = runF EE iter Z4d π args s := E_fn (by decide) (by rfl) (by rfl)
theorem Zbl : EE π Ml args s = runF EE iter Z1u π args s := E_fn (by decide) (by rfl) (by rfl)
theorem Zei : EE π He args s = runF EE iter Z23 π args s := E_fn (by decide) (by rfl) (by rfl)
theorem e_rb_Has : EE π Q5 args s = runF EE iter Zhq π args s := E_fn (by decide) (by rfl) (by rfl)
theorem Zdg : EE π Xo args s = runF EE iter Z0r π args s := E_fn (by decide) (by rfl) (by rfl)
theorem Z5w : EE π L4 args s = runF EE iter Lu π args s := E_fn (by decide) (by rfl) (by rfl)
theorem Zeh : EE π Hd args s = runF EE iter Z22 π args s := E_fn (by decide) (by rfl) (by rfl)
theorem e_rb_Ints : EE π Uj args s = runF EE iter Z9w π args s := E_fn (by decide) (by rfl) (by rfl)
theorem e_rb_Reads : EE π Z30 args s = runF EE iter Zan π args s := E_fn (by decide) (by rfl) (by rfl)
theorem e_rb_Writes : EE π Z04 args s = runF EE iter Z7z π args s := E_fn (by decide) (by rfl) (by rfl)
theorem e_rb_Leaves : EE π Z3t args s = runF EE iter Z81 π args s := E_fn (by decide) (by rfl) (by rfl)
theorem Zbk : EE π Z1m args s = runF EE iter Z1t π args s := E_fn (by decide) (by rfl) (by rfl)
theorem e_rr16_Group : EE π Z1i args s = runF EE iter Z63 π args s := E_fn (by decide) (by rfl) (by rfl)
theorem Zaf : EE π Pi args s = runF EE iter Ky π args s := E_fn (by decide) (by rfl) (by rfl)
theorem e_rr16_Order : EE π Hw args s = runF EE iter Z62 π args s := E_fn (by decide) (by rfl) (by rfl)
theorem e_rr16_Cycle : EE π Z1j args s = runF EE iter Z64 π args s := E_fn (by decide) (by rfl) (by rfl)
theorem Zeq : EE π N9 args s = runF EE iter Z2m π args s := E_fn (by decide) (by rfl) (by rfl)
theorem Z7f : EE π Hh args s = runF EE iter Hn π args s := E_fn (by decide) (by rfl) (by rfl)
theorem Zek : EE π Hi args s = runF EE iter Z2a π args s := E_fn (by decide) (by rfl) (by rfl)
theorem Z51 : EE π Nj args s = runF EE iter Nn π args s := E_fn (by decide) (by rfl) (by rfl)
theorem Z5s : EE π Mx args s = runF EE iter Ln π args s := E_fn (by decide) (by rfl) (by rfl)
theorem e_cf_open : EE π Z3c args s = runF EE iter Ze3 π args s := E_fn (by decide) (by rfl) (by rfl)
theorem Xm : EE π N4 args s = runF EE iter Yk π args s := E_fn (by decide) (by rfl) (by rfl)
theorem e_cf_within : EE π Z09 args s = runF EE iter Z8h π args s := E_fn (by decide) (by rfl) (by rfl)
theorem e_rb_Within : EE π Yf args s = runF EE iter Z80 π args s := E_fn (by decide) (by rfl) (by rfl)
theorem Hl : EE π Vf args s = runF EE iter Uu π args s := E_fn (by decide) (by rfl) (by rfl)
theorem Zde : EE π Qs args s = runF EE iter Z0j π args s := E_fn (by decide) (by rfl) (by rfl)
theorem Z7r : EE π Wg args s = runF EE iter Ny π args s := E_fn (by decide) (by rfl) (by rfl)
theorem Zbp : EE π Uh args s = runF EE iter Gk π args s := E_fn (by decide) (by rfl) (by rfl)
theorem Zdo : EE π P0 args s = runF EE iter Z10 π args s := E_fn (by decide) (by rfl) (by rfl)
theorem Zdm : EE π Qy args s = runF EE iter Z0x π args s := E_fn (by decide) (by rfl) (by rfl)
theorem Zeo : EE π Hj args s = runF EE iter Z2k π args s := E_fn (by decide) (by rfl) (by rfl)
theorem e_cf_unless : EE π Ve args s = runF EE iter Z8i π args s := E_fn (by decide) (by rfl) (by rfl)
theorem Zhc : EE π Pm args s = runF EE iter Z4v π args s := E_fn (by decide) (by rfl) (by rfl)
theorem Zaj : EE π Vw args s = runF EE iter Ha π args s := E_fn (by decide) (by rfl) (by rfl)
theorem Zhb : EE π L2 args s = runF EE iter Z4t π args s := E_fn (by decide) (by rfl) (by rfl)
theorem Zep : EE π N8 args s = runF EE iter Z2l π args s := E_fn (by decide) (by rfl) (by rfl)
theorem Zbt : EE π Nh args s = runF EE iter Gt π args s := E_fn (by decide) (by rfl) (by rfl)
theorem e_cf_first : EE π Km args s = runF EE iter Zb5 π args s := E_fn (by decide) (by rfl) (by rfl)
theorem e_rb_Power : EE π Fo args s = runF EE iter Zao π args s := E_fn (by decide) (by rfl) (by rfl)
theorem Z1q : EE π Zv args s = runF EE iter Qf π args s := E_fn (by decide) (by rfl) (by rfl)
theorem Z6x : EE π Vi args s = runF EE iter Pz π args s := E_fn (by decide) (by rfl) (by rfl)
theorem e_rb_Before : EE π Z3u args s = runF EE iter Z84 π args s := E_fn (by decide) (by rfl) (by rfl)
theorem e_rr16_leads : EE π Z1h args s = runF EE iter Z61 π args s := E_fn (by decide) (by rfl) (by rfl)
theorem Z42 : EE π Ph args s = runF EE iter Lg π args s := E_fn (by decide) (by rfl) (by rfl)
theorem Zbr : EE π Ym args s = runF EE iter Gm π args s := E_fn (by decide) (by rfl) (by rfl)
theorem Z5p : EE π Y9 args s = runF EE iter P4 π args s := E_fn (by decide) (by rfl) (by rfl)
theorem e_ds_CkD : EE π Z6m args s = runF EE iter Zht π args s := E_fn (by decide) (by rfl) (by rfl)
theorem e_cf_open_1 : EE π Z0a args s = runF EE iter Z8j π args s := E_fn (by decide) (by rfl) (by rfl)
theorem Zdn : EE π Qz args s = runF EE iter Z0z π args s := E_fn (by decide) (by rfl) (by rfl)
theorem Z7s : EE π Qt args s = runF EE iter Z0s π args s := E_fn (by decide) (by rfl) (by rfl)
theorem Z9o : EE π F5 args s = runF EE iter Fd π args s := E_fn (by decide) (by rfl) (by rfl)
theorem Z50 : EE π Ni args s = runF EE iter Nm π args s := E_fn (by decide) (by rfl) (by rfl)
theorem Z9p : EE π F6 args s = runF EE iter Fe π args s := E_fn (by decide) (by rfl) (by rfl)
theorem Z4z : EE π Ui args s = runF EE iter Nl π args s := E_fn (by decide) (by rfl) (by rfl)
theorem Z7e : EE π Hg args s = runF EE iter Hm π args s := E_fn (by decide) (by rfl) (by rfl)
theorem Z5r : EE π Mw args s = runF EE iter Ll π args s := E_fn (by decide) (by rfl) (by rfl)
theorem Zbv : EE π Um args s = runF EE iter Gx π args s := E_fn (by decide) (by rfl) (by rfl)
theorem Zbq : EE π Gj args s = runF EE iter Gl π args s := E_fn (by decide) (by rfl) (by rfl)
theorem Z5o : EE π Zx args s = runF EE iter P2 π args s := E_fn (by decide) (by rfl) (by rfl)
theorem Z3h : EE π Vv args s = runF EE iter Pq π args s := E_fn (by decide) (by rfl) (by rfl)
theorem e_cf_nw_used : EE π G8 args s = runF EE iter Z6g π args s := E_fn (by decide) (by rfl) (by rfl)
theorem e_rb_Below : EE π Z6k args s = runF EE iter Zap π args s := E_fn (by decide) (by rfl) (by rfl)
theorem e_rb_Fits : EE π Z5f args s = runF EE iter Zdx π args s := E_fn (by decide) (by rfl) (by rfl)
theorem Zen : EE π N7 args s = runF EE iter Z2j π args s := E_fn (by decide) (by rfl) (by rfl)
theorem Kv : EE π Pl args s = runF EE iter U0 π args s := E_fn (by decide) (by rfl) (by rfl)
theorem Z9n : EE π Q4 args s = runF EE iter Lf π args s := E_fn (by decide) (by rfl) (by rfl)
theorem e_ds_CkD_1 : EE π Z3b args s = runF EE iter Zb4 π args s := E_fn (by decide) (by rfl) (by rfl)
theorem e_ds_first : EE π Xa args s = runF EE iter Zav π args s := E_fn (by decide) (by rfl) (by rfl)
theorem e_ds_unless : EE π Zf args s = runF EE iter Z8a π args s := E_fn (by decide) (by rfl) (by rfl)
theorem e_ds_isName : EE π Z06 args s = runF EE iter Z8d π args s := E_fn (by decide) (by rfl) (by rfl)
theorem e_ds_CkD_2 : EE π Z3a args s = runF EE iter Zb3 π args s := E_fn (by decide) (by rfl) (by rfl)
theorem Z9u : EE π Q8 args s = runF EE iter Lt π args s := E_fn (by decide) (by rfl) (by rfl)
theorem e_ds_CkD_2_1 : EE π Mk args s = runF EE iter Z6d π args s := E_fn (by decide) (by rfl) (by rfl)
theorem Zel : EE π Xl args s = runF EE iter Z2e π args s := E_fn (by decide) (by rfl) (by rfl)
theorem e_ds_isWidth : EE π G7 args s = runF EE iter Z6a π args s := E_fn (by decide) (by rfl) (by rfl)
theorem e_ds_CkD_3 : EE π Z39 args s = runF EE iter Zb2 π args s := E_fn (by decide) (by rfl) (by rfl)
theorem e_ds_CkD_4 : EE π Z38 args s = runF EE iter Zb1 π args s := E_fn (by decide) (by rfl) (by rfl)
theorem Z5v : EE π V9 args s = runF EE iter P9 π args s := E_fn (by decide) (by rfl) (by rfl)
theorem Zbj : EE π Mj args s = runF EE iter Z1s π args s := E_fn (by decide) (by rfl) (by rfl)
theorem e_ds_within : EE π Yh args s = runF EE iter Z89 π args s := E_fn (by decide) (by rfl) (by rfl)
theorem e_ds_fits : EE π Z92 args s = runF EE iter Z9y π args s := E_fn (by decide) (by rfl) (by rfl)
theorem e_ds_CkD_5 : EE π Z37 args s = runF EE iter Zb0 π args s := E_fn (by decide) (by rfl) (by rfl)
theorem Lb : EE π Qw args s = runF EE iter Vy π args s := E_fn (by decide) (by rfl) (by rfl)
theorem e_ds_leaves : EE π Z3w args s = runF EE iter Z8b π args s := E_fn (by decide) (by rfl) (by rfl)
theorem e_ds_CkD_6 : EE π Z36 args s = runF EE iter Zaz π args s := E_fn (by decide) (by rfl) (by rfl)
theorem e_ds_CkD_7 : EE π Z35 args s = runF EE iter Zay π args s := E_fn (by decide) (by rfl) (by rfl)
theorem Z9t : EE π Q7 args s = runF EE iter Ls π args s := E_fn (by decide) (by rfl) (by rfl)
theorem e_ds_CkD_7_1 : EE π Mi args s = runF EE iter Z6c π args s := E_fn (by decide) (by rfl) (by rfl)
theorem Z52 : EE π Uk args s = runF EE iter Np π args s := E_fn (by decide) (by rfl) (by rfl)
theorem Z7u : EE π Ub args s = runF EE iter M7 π args s := E_fn (by decide) (by rfl) (by rfl)
theorem Zem : EE π N6 args s = runF EE iter Z2i π args s := E_fn (by decide) (by rfl) (by rfl)
theorem Z44 : EE π Fb args s = runF EE iter Lr π args s := E_fn (by decide) (by rfl) (by rfl)
theorem e_ds_CkD_8 : EE π Z34 args s = runF EE iter Zax π args s := E_fn (by decide) (by rfl) (by rfl)
theorem e_ds_CkD_9 : EE π Z33 args s = runF EE iter Zaw π args s := E_fn (by decide) (by rfl) (by rfl)
theorem Z6y : EE π Vk args s = runF EE iter N3 π args s := E_fn (by decide) (by rfl) (by rfl)
theorem e_ds_CkD_9_1 : EE π Mh args s = runF EE iter Z6b π args s := E_fn (by decide) (by rfl) (by rfl)
theorem e_ds_isNode : EE π Kl args s = runF EE iter Z8c π args s := E_fn (by decide) (by rfl) (by rfl)
theorem e_ds_CkD_10 : EE π Z08 args s = runF EE iter Z8g π args s := E_fn (by decide) (by rfl) (by rfl)
theorem e_ds_CkD_11 : EE π Z07 args s = runF EE iter Z8f π args s := E_fn (by decide) (by rfl) (by rfl)
theorem Z45 : EE π W5 args s = runF EE iter Ue π args s := E_fn (by decide) (by rfl) (by rfl)
theorem Zha : EE π L0 args s = runF EE iter Z4s π args s := E_fn (by decide) (by rfl) (by rfl)
theorem Zh9 : EE π Fc args s = runF EE iter Z4r π args s := E_fn (by decide) (by rfl) (by rfl)
theorem Zdl : EE π Qx args s = runF EE iter Z0w π args s := E_fn (by decide) (by rfl) (by rfl)
theorem e_rb_IsWidth : EE π Mb args s = runF EE iter Z66 π args s := E_fn (by decide) (by rfl) (by rfl)
theorem G9 : EE π Z1k args s = runF EE iter P5 π args s := E_fn (by decide) (by rfl) (by rfl)
theorem e_rb_IsNode : EE π Kk args s = runF EE iter Z82 π args s := E_fn (by decide) (by rfl) (by rfl)
theorem Z54 : EE π Wu args s = runF EE iter Q1 π args s := E_fn (by decide) (by rfl) (by rfl)
theorem Z9r : EE π Fa args s = runF EE iter Fg π args s := E_fn (by decide) (by rfl) (by rfl)
theorem e_gr_first : EE π Pk args s = runF EE iter Zat π args s := E_fn (by decide) (by rfl) (by rfl)
theorem Zh4 : EE π My args s = runF EE iter Z4i π args s := E_fn (by decide) (by rfl) (by rfl)
theorem e_gr_unless : EE π Yg args s = runF EE iter Z86 π args s := E_fn (by decide) (by rfl) (by rfl)
theorem Zh6 : EE π Mz args s = runF EE iter Z4l π args s := E_fn (by decide) (by rfl) (by rfl)
theorem e_gr_fits : EE π Z5g args s = runF EE iter Z9x π args s := E_fn (by decide) (by rfl) (by rfl)
theorem Z53 : EE π Ul args s = runF EE iter Nq π args s := E_fn (by decide) (by rfl) (by rfl)
theorem Z0h : EE π L1 args s = runF EE iter Pa π args s := E_fn (by decide) (by rfl) (by rfl)
theorem Zah : EE π Vu args s = runF EE iter H6 π args s := E_fn (by decide) (by rfl) (by rfl)
theorem e_gr_isWidth : EE π G6 args s = runF EE iter Z69 π args s := E_fn (by decide) (by rfl) (by rfl)
theorem Zdj : EE π Qu args s = runF EE iter Z0u π args s := E_fn (by decide) (by rfl) (by rfl)
theorem Z9q : EE π Q6 args s = runF EE iter Lq π args s := E_fn (by decide) (by rfl) (by rfl)
theorem Wc : EE π Vt args s = runF EE iter Yp π args s := E_fn (by decide) (by rfl) (by rfl)
theorem e_gr_within : EE π Vd args s = runF EE iter Z85 π args s := E_fn (by decide) (by rfl) (by rfl)
theorem Z7t : EE π Wi args s = runF EE iter M6 π args s := E_fn (by decide) (by rfl) (by rfl)
theorem Po : EE π F8 args s = runF EE iter Va π args s := E_fn (by decide) (by rfl) (by rfl)
theorem Zi : EE π F7 args s = runF EE iter Zd π args s := E_fn (by decide) (by rfl) (by rfl)
theorem Zej : EE π Hf args s = runF EE iter Z24 π args s := E_fn (by decide) (by rfl) (by rfl)
theorem Zh3 : EE π F9 args s = runF EE iter Z4h π args s := E_fn (by decide) (by rfl) (by rfl)
theorem Zbu : EE π Nk args s = runF EE iter Gu π args s := E_fn (by decide) (by rfl) (by rfl)
theorem Zh8 : EE π Yb args s = runF EE iter Z4p π args s := E_fn (by decide) (by rfl) (by rfl)
theorem e_gr_same : EE π Ze args s = runF EE iter Zdy π args s := E_fn (by decide) (by rfl) (by rfl)
theorem e_gr_binary : EE π Ua args s = runF EE iter Z88 π args s := E_fn (by decide) (by rfl) (by rfl)
theorem Zh2 : EE π Pj args s = runF EE iter Z4g π args s := E_fn (by decide) (by rfl) (by rfl)
theorem e_gr_op_12 : EE π Me args s = runF EE iter Zas π args s := E_fn (by decide) (by rfl) (by rfl)
theorem e_gr_op_14 : EE π Md args s = runF EE iter Zar π args s := E_fn (by decide) (by rfl) (by rfl)
theorem e_gr_op_16 : EE π Mc args s = runF EE iter Zaq π args s := E_fn (by decide) (by rfl) (by rfl)
theorem Zh5 : EE π Ya args s = runF EE iter Z4k π args s := E_fn (by decide) (by rfl) (by rfl)
theorem e_gr_shifted : EE π Yo args s = runF EE iter Z68 π args s := E_fn (by decide) (by rfl) (by rfl)
theorem Zdk : EE π Qv args s = runF EE iter Z0v π args s := E_fn (by decide) (by rfl) (by rfl)
theorem e_gr_below : EE π Z6l args s = runF EE iter Zau π args s := E_fn (by decide) (by rfl) (by rfl)
theorem e_gr_same_1 : EE π Z05 args s = runF EE iter Z87 π args s := E_fn (by decide) (by rfl) (by rfl)
theorem Zh7 : EE π Zq args s = runF EE iter Z4m π args s := E_fn (by decide) (by rfl) (by rfl)
theorem Kt : EE π X9 args s = runF EE iter Xe π args s := E_fn (by decide) (by rfl) (by rfl)
theorem La : EE π Y4 args s = runF EE iter Yy π args s := E_fn (by decide) (by rfl) (by rfl)

end Go.Proofs.YteecfnfjlclhdaaGreat.V
