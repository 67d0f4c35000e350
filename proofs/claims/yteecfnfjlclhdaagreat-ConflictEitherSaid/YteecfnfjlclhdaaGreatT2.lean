/- The table of functions, and that it is right. Printed by a program of this work. -/
import Derived.Test.YteecfnfjlclhdaaGreatT0
import Derived.Test.YteecfnfjlclhdaaGreatT1
import Derived.Test.YteecfnfjlclhdaaGreatProg
import Derived.Test.YteecfnfjlclhdaaGreatO0

set_option linter.unusedSimpArgs false
set_option linter.unusedVariables false

/- The table of functions, and that it is right. Printed by a program of this work. -/
namespace Go.Proofs.YteecfnfjlclhdaaGreat.V
open Go Go.Proofs


def T0 : Tab := fun f => match f with
  | 4 => some Y7
  | 8 => some c_rl16_awake
  | 9 => some Pa
  | 11 => some Fj
  | 12 => some c_cf_MatrixOf
  | 13 => some Hp
  | 16 => some c_cf_FormatMatrix
  | 21 => some Qv
  | 22 => some Gf
  | 23 => some Z2p
  | 24 => some Z0a
  | 25 => some Z0j
  | 26 => some c_rb_Has
  | 27 => some Fh
  | 28 => some L6
  | 31 => some Z0i
  | 32 => some c_rb_Ints
  | 33 => some c_rb_Reads
  | 34 => some c_rb_Writes
  | 37 => some c_rb_Leaves
  | 49 => some c_rl16_Design
  | 50 => some c_cf_MeetingOf
  | 51 => some c_cf_openTwo
  | 52 => some Z11
  | 53 => some c_cf_sh_relation
  | 54 => some Kt
  | 55 => some Z0q
  | 56 => some N3
  | 57 => some My
  | 58 => some c_cf_open
  | 59 => some Yi
  | 60 => some c_cf_within
  | 62 => some c_rb_Within
  | 63 => some Uo
  | 64 => some Ff
  | 65 => some Nd
  | 66 => some Hm
  | 67 => some Fr
  | 68 => some Fo
  | 70 => some Z0z
  | _ => none

theorem tabOk0 : TabOk Tryz.prog T0 := fun f F h => by
  unfold T0 at h
  split at h
  · cases h; exact ⟨_, Tryz.func4, by kernel_rfl⟩
  · cases h; exact ⟨_, Tryz.func8, by kernel_rfl⟩
  · cases h; exact ⟨_, Tryz.func9, by kernel_rfl⟩
  · cases h; exact ⟨_, Tryz.func11, by kernel_rfl⟩
  · cases h; exact ⟨_, Tryz.func12, by kernel_rfl⟩
  · cases h; exact ⟨_, Tryz.func13, by kernel_rfl⟩
  · cases h; exact ⟨_, Tryz.func16, by kernel_rfl⟩
  · cases h; exact ⟨_, Tryz.func21, by kernel_rfl⟩
  · cases h; exact ⟨_, Tryz.func22, by kernel_rfl⟩
  · cases h; exact ⟨_, Tryz.func23, by kernel_rfl⟩
  · cases h; exact ⟨_, Tryz.func24, by kernel_rfl⟩
  · cases h; exact ⟨_, Tryz.func25, by kernel_rfl⟩
  · cases h; exact ⟨_, Tryz.func26, by kernel_rfl⟩
  · cases h; exact ⟨_, Tryz.func27, by kernel_rfl⟩
  · cases h; exact ⟨_, Tryz.func28, by kernel_rfl⟩
  · cases h; exact ⟨_, Tryz.func31, by kernel_rfl⟩
  · cases h; exact ⟨_, Tryz.func32, by kernel_rfl⟩
  · cases h; exact ⟨_, Tryz.func33, by kernel_rfl⟩
  · cases h; exact ⟨_, Tryz.func34, by kernel_rfl⟩
  · cases h; exact ⟨_, Tryz.func37, by kernel_rfl⟩
  · cases h; exact ⟨_, Tryz.func49, by kernel_rfl⟩
  · cases h; exact ⟨_, Tryz.func50, by kernel_rfl⟩
  · cases h; exact ⟨_, Tryz.func51, by kernel_rfl⟩
  · cases h; exact ⟨_, Tryz.func52, by kernel_rfl⟩
  · cases h; exact ⟨_, Tryz.func53, by kernel_rfl⟩
  · cases h; exact ⟨_, Tryz.func54, by kernel_rfl⟩
  · cases h; exact ⟨_, Tryz.func55, by kernel_rfl⟩
  · cases h; exact ⟨_, Tryz.func56, by kernel_rfl⟩
  · cases h; exact ⟨_, Tryz.func57, by kernel_rfl⟩
  · cases h; exact ⟨_, Tryz.func58, by kernel_rfl⟩
  · cases h; exact ⟨_, Tryz.func59, by kernel_rfl⟩
  · cases h; exact ⟨_, Tryz.func60, by kernel_rfl⟩
  · cases h; exact ⟨_, Tryz.func62, by kernel_rfl⟩
  · cases h; exact ⟨_, Tryz.func63, by kernel_rfl⟩
  · cases h; exact ⟨_, Tryz.func64, by kernel_rfl⟩
  · cases h; exact ⟨_, Tryz.func65, by kernel_rfl⟩
  · cases h; exact ⟨_, Tryz.func66, by kernel_rfl⟩
  · cases h; exact ⟨_, Tryz.func67, by kernel_rfl⟩
  · cases h; exact ⟨_, Tryz.func68, by kernel_rfl⟩
  · cases h; exact ⟨_, Tryz.func70, by kernel_rfl⟩
  · cases h


def T1 : Tab := fun f => match f with
  | 71 => some c_cf_unless
  | 72 => some Z37
  | 73 => some Kd
  | 74 => some Z35
  | 75 => some Z10
  | 76 => some Ht
  | 77 => some c_cf_first
  | 79 => some c_cf_nw_meet
  | 81 => some c_cf_nw_bits
  | 82 => some c_cf_nw_points
  | 83 => some c_rb_Power
  | 88 => some Q5
  | 93 => some c_cf_openGuards
  | 94 => some Ho
  | 95 => some c_cf_sh_relation_1
  | 96 => some Qu
  | 97 => some c_ds_CkD
  | 98 => some c_cf_open_1
  | 99 => some Fq
  | 100 => some Fi
  | 101 => some Gb
  | 102 => some N2
  | 103 => some Gc
  | 104 => some N1
  | 105 => some Ks
  | 106 => some Mw
  | 110 => some Hx
  | 111 => some Hn
  | 113 => some Qs
  | 114 => some Pb
  | 115 => some Q4
  | 116 => some c_cf_nw_used
  | 118 => some c_rb_Below
  | 119 => some c_gr_ValuesOf
  | 122 => some c_cf_nw_points_1
  | 123 => some c_sl_Backward_int_int
  | 124 => some c_rb_Fits
  | 127 => some Z0y
  | 129 => some Ms
  | 130 => some c_ds_CkD_1
  | _ => none

theorem tabOk1 : TabOk Tryz.prog T1 := fun f F h => by
  unfold T1 at h
  split at h
  · cases h; exact ⟨_, Tryz.func71, by kernel_rfl⟩
  · cases h; exact ⟨_, Tryz.func72, by kernel_rfl⟩
  · cases h; exact ⟨_, Tryz.func73, by kernel_rfl⟩
  · cases h; exact ⟨_, Tryz.func74, by kernel_rfl⟩
  · cases h; exact ⟨_, Tryz.func75, by kernel_rfl⟩
  · cases h; exact ⟨_, Tryz.func76, by kernel_rfl⟩
  · cases h; exact ⟨_, Tryz.func77, by kernel_rfl⟩
  · cases h; exact ⟨_, Tryz.func79, by kernel_rfl⟩
  · cases h; exact ⟨_, Tryz.func81, by kernel_rfl⟩
  · cases h; exact ⟨_, Tryz.func82, by kernel_rfl⟩
  · cases h; exact ⟨_, Tryz.func83, by kernel_rfl⟩
  · cases h; exact ⟨_, Tryz.func88, by kernel_rfl⟩
  · cases h; exact ⟨_, Tryz.func93, by kernel_rfl⟩
  · cases h; exact ⟨_, Tryz.func94, by kernel_rfl⟩
  · cases h; exact ⟨_, Tryz.func95, by kernel_rfl⟩
  · cases h; exact ⟨_, Tryz.func96, by kernel_rfl⟩
  · cases h; exact ⟨_, Tryz.func97, by kernel_rfl⟩
  · cases h; exact ⟨_, Tryz.func98, by kernel_rfl⟩
  · cases h; exact ⟨_, Tryz.func99, by kernel_rfl⟩
  · cases h; exact ⟨_, Tryz.func100, by kernel_rfl⟩
  · cases h; exact ⟨_, Tryz.func101, by kernel_rfl⟩
  · cases h; exact ⟨_, Tryz.func102, by kernel_rfl⟩
  · cases h; exact ⟨_, Tryz.func103, by kernel_rfl⟩
  · cases h; exact ⟨_, Tryz.func104, by kernel_rfl⟩
  · cases h; exact ⟨_, Tryz.func105, by kernel_rfl⟩
  · cases h; exact ⟨_, Tryz.func106, by kernel_rfl⟩
  · cases h; exact ⟨_, Tryz.func110, by kernel_rfl⟩
  · cases h; exact ⟨_, Tryz.func111, by kernel_rfl⟩
  · cases h; exact ⟨_, Tryz.func113, by kernel_rfl⟩
  · cases h; exact ⟨_, Tryz.func114, by kernel_rfl⟩
  · cases h; exact ⟨_, Tryz.func115, by kernel_rfl⟩
  · cases h; exact ⟨_, Tryz.func116, by kernel_rfl⟩
  · cases h; exact ⟨_, Tryz.func118, by kernel_rfl⟩
  · cases h; exact ⟨_, Tryz.func119, by kernel_rfl⟩
  · cases h; exact ⟨_, Tryz.func122, by kernel_rfl⟩
  · cases h; exact ⟨_, Tryz.func123, by kernel_rfl⟩
  · cases h; exact ⟨_, Tryz.func124, by kernel_rfl⟩
  · cases h; exact ⟨_, Tryz.func127, by kernel_rfl⟩
  · cases h; exact ⟨_, Tryz.func129, by kernel_rfl⟩
  · cases h; exact ⟨_, Tryz.func130, by kernel_rfl⟩
  · cases h


def T2 : Tab := fun f => match f with
  | 131 => some c_ds_first
  | 132 => some c_ds_unless
  | 133 => some c_ds_isName
  | 134 => some c_ds_CkD_2
  | 135 => some L5
  | 136 => some c_ds_CkD_2_1
  | 137 => some Z0t
  | 138 => some c_ds_isWidth
  | 139 => some c_ds_CkD_3
  | 140 => some c_ds_CkD_4
  | 141 => some P0
  | 142 => some Z09
  | 143 => some c_ds_within
  | 144 => some c_ds_fits
  | 145 => some c_ds_CkD_5
  | 146 => some Vu
  | 147 => some c_ds_leaves
  | 148 => some c_ds_CkD_6
  | 149 => some c_ds_CkD_7
  | 150 => some L4
  | 151 => some c_ds_CkD_7_1
  | 152 => some N4
  | 153 => some Nn
  | 154 => some Z0x
  | 155 => some L2
  | 156 => some c_ds_CkD_8
  | 157 => some c_ds_CkD_9
  | 158 => some Pk
  | 159 => some c_ds_CkD_9_1
  | 160 => some c_ds_isNode
  | 161 => some c_ds_CkD_10
  | 162 => some c_ds_CkD_11
  | 163 => some U8
  | 164 => some Z34
  | 165 => some Z33
  | 166 => some Fm
  | 167 => some c_rb_IsWidth
  | 168 => some Qw
  | 169 => some c_rb_IsNode
  | 172 => some Us
  | _ => none

theorem tabOk2 : TabOk Tryz.prog T2 := fun f F h => by
  unfold T2 at h
  split at h
  · cases h; exact ⟨_, Tryz.func131, by kernel_rfl⟩
  · cases h; exact ⟨_, Tryz.func132, by kernel_rfl⟩
  · cases h; exact ⟨_, Tryz.func133, by kernel_rfl⟩
  · cases h; exact ⟨_, Tryz.func134, by kernel_rfl⟩
  · cases h; exact ⟨_, Tryz.func135, by kernel_rfl⟩
  · cases h; exact ⟨_, Tryz.func136, by kernel_rfl⟩
  · cases h; exact ⟨_, Tryz.func137, by kernel_rfl⟩
  · cases h; exact ⟨_, Tryz.func138, by kernel_rfl⟩
  · cases h; exact ⟨_, Tryz.func139, by kernel_rfl⟩
  · cases h; exact ⟨_, Tryz.func140, by kernel_rfl⟩
  · cases h; exact ⟨_, Tryz.func141, by kernel_rfl⟩
  · cases h; exact ⟨_, Tryz.func142, by kernel_rfl⟩
  · cases h; exact ⟨_, Tryz.func143, by kernel_rfl⟩
  · cases h; exact ⟨_, Tryz.func144, by kernel_rfl⟩
  · cases h; exact ⟨_, Tryz.func145, by kernel_rfl⟩
  · cases h; exact ⟨_, Tryz.func146, by kernel_rfl⟩
  · cases h; exact ⟨_, Tryz.func147, by kernel_rfl⟩
  · cases h; exact ⟨_, Tryz.func148, by kernel_rfl⟩
  · cases h; exact ⟨_, Tryz.func149, by kernel_rfl⟩
  · cases h; exact ⟨_, Tryz.func150, by kernel_rfl⟩
  · cases h; exact ⟨_, Tryz.func151, by kernel_rfl⟩
  · cases h; exact ⟨_, Tryz.func152, by kernel_rfl⟩
  · cases h; exact ⟨_, Tryz.func153, by kernel_rfl⟩
  · cases h; exact ⟨_, Tryz.func154, by kernel_rfl⟩
  · cases h; exact ⟨_, Tryz.func155, by kernel_rfl⟩
  · cases h; exact ⟨_, Tryz.func156, by kernel_rfl⟩
  · cases h; exact ⟨_, Tryz.func157, by kernel_rfl⟩
  · cases h; exact ⟨_, Tryz.func158, by kernel_rfl⟩
  · cases h; exact ⟨_, Tryz.func159, by kernel_rfl⟩
  · cases h; exact ⟨_, Tryz.func160, by kernel_rfl⟩
  · cases h; exact ⟨_, Tryz.func161, by kernel_rfl⟩
  · cases h; exact ⟨_, Tryz.func162, by kernel_rfl⟩
  · cases h; exact ⟨_, Tryz.func163, by kernel_rfl⟩
  · cases h; exact ⟨_, Tryz.func164, by kernel_rfl⟩
  · cases h; exact ⟨_, Tryz.func165, by kernel_rfl⟩
  · cases h; exact ⟨_, Tryz.func166, by kernel_rfl⟩
  · cases h; exact ⟨_, Tryz.func167, by kernel_rfl⟩
  · cases h; exact ⟨_, Tryz.func168, by kernel_rfl⟩
  · cases h; exact ⟨_, Tryz.func169, by kernel_rfl⟩
  · cases h; exact ⟨_, Tryz.func172, by kernel_rfl⟩
  · cases h


def T3 : Tab := fun f => match f with
  | 175 => some Ge
  | 176 => some c_gr_first
  | 177 => some Z2u
  | 178 => some c_gr_unless
  | 179 => some Z2x
  | 180 => some c_gr_ValuesOf_1
  | 181 => some c_gr_fits
  | 182 => some c_gr_valued
  | 183 => some Z2j
  | 186 => some N5
  | 188 => some K9
  | 189 => some c_gr_isWidth
  | 190 => some Fk
  | 191 => some L1
  | 192 => some Ym
  | 193 => some c_gr_within
  | 194 => some Nm
  | 195 => some V5
  | 196 => some Zb
  | 197 => some Z0k
  | 211 => some Z2t
  | 212 => some Hu
  | 213 => some c_gr_applied
  | 214 => some c_gr_op_1
  | 215 => some Z31
  | 216 => some c_gr_same
  | 217 => some c_gr_op_2
  | 218 => some c_gr_mask
  | 219 => some c_gr_binary
  | 220 => some c_gr_op_3
  | 221 => some c_gr_op_4
  | 222 => some c_gr_op_5
  | 223 => some c_gr_op_6
  | 224 => some c_gr_op_7
  | 225 => some c_gr_op_8
  | 226 => some Z2s
  | 227 => some c_gr_op_9
  | 228 => some c_gr_op_10
  | 229 => some c_gr_op_11
  | 230 => some c_gr_signed
  | _ => none

theorem tabOk3 : TabOk Tryz.prog T3 := fun f F h => by
  unfold T3 at h
  split at h
  · cases h; exact ⟨_, Tryz.func175, by kernel_rfl⟩
  · cases h; exact ⟨_, Tryz.func176, by kernel_rfl⟩
  · cases h; exact ⟨_, Tryz.func177, by kernel_rfl⟩
  · cases h; exact ⟨_, Tryz.func178, by kernel_rfl⟩
  · cases h; exact ⟨_, Tryz.func179, by kernel_rfl⟩
  · cases h; exact ⟨_, Tryz.func180, by kernel_rfl⟩
  · cases h; exact ⟨_, Tryz.func181, by kernel_rfl⟩
  · cases h; exact ⟨_, Tryz.func182, by kernel_rfl⟩
  · cases h; exact ⟨_, Tryz.func183, by kernel_rfl⟩
  · cases h; exact ⟨_, Tryz.func186, by kernel_rfl⟩
  · cases h; exact ⟨_, Tryz.func188, by kernel_rfl⟩
  · cases h; exact ⟨_, Tryz.func189, by kernel_rfl⟩
  · cases h; exact ⟨_, Tryz.func190, by kernel_rfl⟩
  · cases h; exact ⟨_, Tryz.func191, by kernel_rfl⟩
  · cases h; exact ⟨_, Tryz.func192, by kernel_rfl⟩
  · cases h; exact ⟨_, Tryz.func193, by kernel_rfl⟩
  · cases h; exact ⟨_, Tryz.func194, by kernel_rfl⟩
  · cases h; exact ⟨_, Tryz.func195, by kernel_rfl⟩
  · cases h; exact ⟨_, Tryz.func196, by kernel_rfl⟩
  · cases h; exact ⟨_, Tryz.func197, by kernel_rfl⟩
  · cases h; exact ⟨_, Tryz.func211, by kernel_rfl⟩
  · cases h; exact ⟨_, Tryz.func212, by kernel_rfl⟩
  · cases h; exact ⟨_, Tryz.func213, by kernel_rfl⟩
  · cases h; exact ⟨_, Tryz.func214, by kernel_rfl⟩
  · cases h; exact ⟨_, Tryz.func215, by kernel_rfl⟩
  · cases h; exact ⟨_, Tryz.func216, by kernel_rfl⟩
  · cases h; exact ⟨_, Tryz.func217, by kernel_rfl⟩
  · cases h; exact ⟨_, Tryz.func218, by kernel_rfl⟩
  · cases h; exact ⟨_, Tryz.func219, by kernel_rfl⟩
  · cases h; exact ⟨_, Tryz.func220, by kernel_rfl⟩
  · cases h; exact ⟨_, Tryz.func221, by kernel_rfl⟩
  · cases h; exact ⟨_, Tryz.func222, by kernel_rfl⟩
  · cases h; exact ⟨_, Tryz.func223, by kernel_rfl⟩
  · cases h; exact ⟨_, Tryz.func224, by kernel_rfl⟩
  · cases h; exact ⟨_, Tryz.func225, by kernel_rfl⟩
  · cases h; exact ⟨_, Tryz.func226, by kernel_rfl⟩
  · cases h; exact ⟨_, Tryz.func227, by kernel_rfl⟩
  · cases h; exact ⟨_, Tryz.func228, by kernel_rfl⟩
  · cases h; exact ⟨_, Tryz.func229, by kernel_rfl⟩
  · cases h; exact ⟨_, Tryz.func230, by kernel_rfl⟩
  · cases h


def T4 : Tab := fun f => match f with
  | 231 => some c_gr_op_12
  | 232 => some c_gr_op_13
  | 233 => some c_gr_op_14
  | 234 => some c_gr_op_15
  | 235 => some c_gr_op_16
  | 236 => some c_gr_op_17
  | 237 => some Z2w
  | 238 => some c_gr_op_18
  | 239 => some c_gr_op_19
  | 240 => some c_gr_shifted
  | 241 => some c_gr_op_20
  | 242 => some c_gr_op_21
  | 248 => some Fl
  | 249 => some c_gr_below
  | 250 => some c_gr_same_1
  | 251 => some c_gr_binary_1
  | 252 => some Z2y
  | 253 => some c_gr_relation_1
  | 254 => some c_gr_truth
  | 256 => some X9
  | 257 => some Yv
  | _ => none

theorem tabOk4 : TabOk Tryz.prog T4 := fun f F h => by
  unfold T4 at h
  split at h
  · cases h; exact ⟨_, Tryz.func231, by kernel_rfl⟩
  · cases h; exact ⟨_, Tryz.func232, by kernel_rfl⟩
  · cases h; exact ⟨_, Tryz.func233, by kernel_rfl⟩
  · cases h; exact ⟨_, Tryz.func234, by kernel_rfl⟩
  · cases h; exact ⟨_, Tryz.func235, by kernel_rfl⟩
  · cases h; exact ⟨_, Tryz.func236, by kernel_rfl⟩
  · cases h; exact ⟨_, Tryz.func237, by kernel_rfl⟩
  · cases h; exact ⟨_, Tryz.func238, by kernel_rfl⟩
  · cases h; exact ⟨_, Tryz.func239, by kernel_rfl⟩
  · cases h; exact ⟨_, Tryz.func240, by kernel_rfl⟩
  · cases h; exact ⟨_, Tryz.func241, by kernel_rfl⟩
  · cases h; exact ⟨_, Tryz.func242, by kernel_rfl⟩
  · cases h; exact ⟨_, Tryz.func248, by kernel_rfl⟩
  · cases h; exact ⟨_, Tryz.func249, by kernel_rfl⟩
  · cases h; exact ⟨_, Tryz.func250, by kernel_rfl⟩
  · cases h; exact ⟨_, Tryz.func251, by kernel_rfl⟩
  · cases h; exact ⟨_, Tryz.func252, by kernel_rfl⟩
  · cases h; exact ⟨_, Tryz.func253, by kernel_rfl⟩
  · cases h; exact ⟨_, Tryz.func254, by kernel_rfl⟩
  · cases h; exact ⟨_, Tryz.func256, by kernel_rfl⟩
  · cases h; exact ⟨_, Tryz.func257, by kernel_rfl⟩
  · cases h

def T : Tab := fun f => if f < 71 then T0 f else if f < 131 then T1 f else if f < 175 then T2 f else if f < 231 then T3 f else T4 f
theorem tabOk : TabOk Tryz.prog T := fun f F h => by
  unfold T at h
  split at h
  · exact tabOk0 f F h
  split at h
  · exact tabOk1 f F h
  split at h
  · exact tabOk2 f F h
  split at h
  · exact tabOk3 f F h
  exact tabOk4 f F h

theorem Z00 {π : Id} {args : List AV} {s : Sto} : E T noO π V2 args s = runF (E T noO) iter Q4 π args s := E_fn (by decide) (by rfl) (by rfl)
theorem q_sl_Clone_int_int : OrcFor Tryz.prog V2 (cloneO t_int 1) := clone_ok (C := E T noO) (E_ok tabOk (noO_ok _)) (by decide)
  (fun π l hl => ⟨5 :: π, by rw [Z00]; simp [Z0, Q4, hl]⟩)
  (fun π => by rw [Z00]; simp [Z0, Q4])
def orc : Orc := fun f => match f with
  | 115 => some (cloneO t_int 1)
  | 61 => some joinO
  | 69 => some delO
  | 112 => some sortO
  | 117 => some Z2i
  | _ => none

theorem orcOk : OrcOk Tryz.prog orc := fun f g h => by
  unfold orc at h
  split at h
  · cases h; exact q_sl_Clone_int_int
  · cases h; exact q_strings_Join
  · cases h; exact q_sl_Delete_int_int
  · cases h; exact q_sl_Sort_int_int
  · cases h; exact q_sl_Compact_int_int
  · cases h

noncomputable def EE : Call := E T orc

theorem o_strings_Join {π : Id} {args : List AV} {s : Sto} : EE π Z0f args s = joinO π args s := E_orc (by decide) (by rfl)
theorem o_sl_Delete_int_int {π : Id} {args : List AV} {s : Sto} : EE π Nc args s = delO π args s := E_orc (by decide) (by rfl)
theorem Lr {π : Id} {args : List AV} {s : Sto} : EE π Vj args s = sortO π args s := E_orc (by decide) (by rfl)
theorem G2 {π : Id} {args : List AV} {s : Sto} : EE π Va args s = Z2i π args s := E_orc (by decide) (by rfl)
theorem o_sl_Clone_int_int {π : Id} {args : List AV} {s : Sto} : EE π V2 args s = cloneO t_int 1 π args s := E_orc (by decide) (by rfl)
variable {π : Id} {args : List AV} {s : Sto}
theorem Xl : EE π Zs args s = runF EE iter Y7 π args s := E_fn (by decide) (by rfl) (by rfl)
theorem e_rl16_awake : EE π H1 args s = runF EE iter c_rl16_awake π args s := E_fn (by decide) (by rfl) (by rfl)
theorem Ly : EE π n_rl16_Few args s = runF EE iter Pa π args s := E_fn (by decide) (by rfl) (by rfl)
theorem e_rb_CopyDesign : EE π We args s = runF EE iter Fj π args s := E_fn (by decide) (by rfl) (by rfl)
theorem e_rl16_DesignErr : EE π Pw args s = runF EE iter Hp π args s := E_fn (by decide) (by rfl) (by rfl)
theorem Fb : EE π Xj args s = runF EE iter Qv π args s := E_fn (by decide) (by rfl) (by rfl)
theorem e_cf_OrderFor : EE π U6 args s = runF EE iter Gf π args s := E_fn (by decide) (by rfl) (by rfl)
theorem e_rb_CopyInts : EE π V3 args s = runF EE iter Z2p π args s := E_fn (by decide) (by rfl) (by rfl)
theorem e_cf_CycleIn : EE π M3 args s = runF EE iter Z0a π args s := E_fn (by decide) (by rfl) (by rfl)
theorem e_rr16_IsCycle : EE π Kg args s = runF EE iter Z0j π args s := E_fn (by decide) (by rfl) (by rfl)
theorem e_rb_Has : EE π P5 args s = runF EE iter c_rb_Has π args s := E_fn (by decide) (by rfl) (by rfl)
theorem e_rb_MayPrecede : EE π Vk args s = runF EE iter Fh π args s := E_fn (by decide) (by rfl) (by rfl)
theorem e_cf_CheckOrder : EE π Mi args s = runF EE iter L6 π args s := E_fn (by decide) (by rfl) (by rfl)
theorem e_rr16_RuleErr : EE π Kf args s = runF EE iter Z0i π args s := E_fn (by decide) (by rfl) (by rfl)
theorem e_rb_Reads : EE π Z1g args s = runF EE iter c_rb_Reads π args s := E_fn (by decide) (by rfl) (by rfl)
theorem e_rb_Writes : EE π Gy args s = runF EE iter c_rb_Writes π args s := E_fn (by decide) (by rfl) (by rfl)
theorem e_rb_Leaves : EE π Z27 args s = runF EE iter c_rb_Leaves π args s := E_fn (by decide) (by rfl) (by rfl)
theorem e_cf_nw_shared : EE π Pq args s = runF EE iter Z11 π args s := E_fn (by decide) (by rfl) (by rfl)
theorem e_rb_CopyPorts : EE π Kj args s = runF EE iter Kt π args s := E_fn (by decide) (by rfl) (by rfl)
theorem e_rb_CopyNodes : EE π Kk args s = runF EE iter Z0q π args s := E_fn (by decide) (by rfl) (by rfl)
theorem e_rb_CopyOutputs : EE π Pz args s = runF EE iter N3 π args s := E_fn (by decide) (by rfl) (by rfl)
theorem e_rb_CopyWrites : EE π Md args s = runF EE iter My π args s := E_fn (by decide) (by rfl) (by rfl)
theorem e_cf_open : EE π Z1s args s = runF EE iter c_cf_open π args s := E_fn (by decide) (by rfl) (by rfl)
theorem Xh : EE π Pl args s = runF EE iter Yi π args s := E_fn (by decide) (by rfl) (by rfl)
theorem e_cf_within : EE π F4 args s = runF EE iter c_cf_within π args s := E_fn (by decide) (by rfl) (by rfl)
theorem e_rb_Within : EE π Yc args s = runF EE iter c_rb_Within π args s := E_fn (by decide) (by rfl) (by rfl)
theorem Kq : EE π Un args s = runF EE iter Uo π args s := E_fn (by decide) (by rfl) (by rfl)
theorem e_sl_Sorted_int : EE π Qg args s = runF EE iter Ff π args s := E_fn (by decide) (by rfl) (by rfl)
theorem e_sl_Values_int_int : EE π Wd args s = runF EE iter Nd π args s := E_fn (by decide) (by rfl) (by rfl)
theorem e_sl_IxF_int_int : EE π Ub args s = runF EE iter Hm π args s := E_fn (by decide) (by rfl) (by rfl)
theorem e_cf_OrderFor_1 : EE π Qo args s = runF EE iter Fr π args s := E_fn (by decide) (by rfl) (by rfl)
theorem e_cf_sh_isFirst : EE π Qm args s = runF EE iter Fo π args s := E_fn (by decide) (by rfl) (by rfl)
theorem e_cf_sh_around : EE π Kl args s = runF EE iter Z0z π args s := E_fn (by decide) (by rfl) (by rfl)
theorem e_cf_unless : EE π V9 args s = runF EE iter c_cf_unless π args s := E_fn (by decide) (by rfl) (by rfl)
theorem e_cf_each_int : EE π P8 args s = runF EE iter Z37 π args s := E_fn (by decide) (by rfl) (by rfl)
theorem e_cf_CheckOrder_1 : EE π Vo args s = runF EE iter Kd π args s := E_fn (by decide) (by rfl) (by rfl)
theorem e_cf_nw_reads : EE π Mh args s = runF EE iter Z35 π args s := E_fn (by decide) (by rfl) (by rfl)
theorem e_cf_nw_writes : EE π Pp args s = runF EE iter Z10 π args s := E_fn (by decide) (by rfl) (by rfl)
theorem e_rb_LeavesBelow : EE π Px args s = runF EE iter Ht π args s := E_fn (by decide) (by rfl) (by rfl)
theorem e_cf_first : EE π Lu args s = runF EE iter c_cf_first π args s := E_fn (by decide) (by rfl) (by rfl)
theorem e_rb_Power : EE π n_rb_Power args s = runF EE iter c_rb_Power π args s := E_fn (by decide) (by rfl) (by rfl)
theorem Z07 : EE π Y0 args s = runF EE iter Q5 π args s := E_fn (by decide) (by rfl) (by rfl)
theorem e_sl_CoF_int_int : EE π Yj args s = runF EE iter Ho π args s := E_fn (by decide) (by rfl) (by rfl)
theorem e_sl_Contains_int_int : EE π Y6 args s = runF EE iter Qu π args s := E_fn (by decide) (by rfl) (by rfl)
theorem e_ds_CkD : EE π n_ds_CkD args s = runF EE iter c_ds_CkD π args s := E_fn (by decide) (by rfl) (by rfl)
theorem e_cf_open_1 : EE π F5 args s = runF EE iter c_cf_open_1 π args s := E_fn (by decide) (by rfl) (by rfl)
theorem e_cf_nw_ruleErr : EE π Qn args s = runF EE iter Fq π args s := E_fn (by decide) (by rfl) (by rfl)
theorem e_rb_IsName : EE π Qh args s = runF EE iter Fi π args s := E_fn (by decide) (by rfl) (by rfl)
theorem e_rb_PortsErr : EE π G3 args s = runF EE iter Gb π args s := E_fn (by decide) (by rfl) (by rfl)
theorem e_rb_ElementsErr : EE π Py args s = runF EE iter N2 π args s := E_fn (by decide) (by rfl) (by rfl)
theorem e_rb_NodesErr : EE π G4 args s = runF EE iter Gc π args s := E_fn (by decide) (by rfl) (by rfl)
theorem e_rb_IsCondition : EE π Uc args s = runF EE iter N1 π args s := E_fn (by decide) (by rfl) (by rfl)
theorem e_rb_WritesErr : EE π Ki args s = runF EE iter Ks π args s := E_fn (by decide) (by rfl) (by rfl)
theorem e_rb_OutputsErr : EE π Mc args s = runF EE iter Mw π args s := E_fn (by decide) (by rfl) (by rfl)
theorem e_cf_openRules_1 : EE π Uf args s = runF EE iter Hx π args s := E_fn (by decide) (by rfl) (by rfl)
theorem e_sl_Collect_int : EE π Hl args s = runF EE iter Hn π args s := E_fn (by decide) (by rfl) (by rfl)
theorem e_sl_Values_int_int_1 : EE π Zr args s = runF EE iter Qs π args s := E_fn (by decide) (by rfl) (by rfl)
theorem Z1u : EE π Vn args s = runF EE iter Pb π args s := E_fn (by decide) (by rfl) (by rfl)
theorem e_cf_nw_used : EE π Hb args s = runF EE iter c_cf_nw_used π args s := E_fn (by decide) (by rfl) (by rfl)
theorem e_rb_Below : EE π n_rb_Below args s = runF EE iter c_rb_Below π args s := E_fn (by decide) (by rfl) (by rfl)
theorem e_rb_Fits : EE π n_rb_Fits args s = runF EE iter c_rb_Fits π args s := E_fn (by decide) (by rfl) (by rfl)
theorem e_cf_sh_common : EE π Po args s = runF EE iter Z0y π args s := E_fn (by decide) (by rfl) (by rfl)
theorem e_sl_Index_int_int : EE π Uv args s = runF EE iter Ms π args s := E_fn (by decide) (by rfl) (by rfl)
theorem e_ds_CkD_1 : EE π Z1r args s = runF EE iter c_ds_CkD_1 π args s := E_fn (by decide) (by rfl) (by rfl)
theorem e_ds_first : EE π X6 args s = runF EE iter c_ds_first π args s := E_fn (by decide) (by rfl) (by rfl)
theorem e_ds_unless : EE π Ze args s = runF EE iter c_ds_unless π args s := E_fn (by decide) (by rfl) (by rfl)
theorem e_ds_isName : EE π F1 args s = runF EE iter c_ds_isName π args s := E_fn (by decide) (by rfl) (by rfl)
theorem e_ds_CkD_2 : EE π Z1q args s = runF EE iter c_ds_CkD_2 π args s := E_fn (by decide) (by rfl) (by rfl)
theorem e_ds_each_api_Port : EE π Uy args s = runF EE iter L5 π args s := E_fn (by decide) (by rfl) (by rfl)
theorem e_ds_CkD_2_1 : EE π M2 args s = runF EE iter c_ds_CkD_2_1 π args s := E_fn (by decide) (by rfl) (by rfl)
theorem e_ds_names_err : EE π Xg args s = runF EE iter Z0t π args s := E_fn (by decide) (by rfl) (by rfl)
theorem e_ds_isWidth : EE π Ha args s = runF EE iter c_ds_isWidth π args s := E_fn (by decide) (by rfl) (by rfl)
theorem e_ds_CkD_3 : EE π Z1p args s = runF EE iter c_ds_CkD_3 π args s := E_fn (by decide) (by rfl) (by rfl)
theorem e_ds_CkD_4 : EE π Z1o args s = runF EE iter c_ds_CkD_4 π args s := E_fn (by decide) (by rfl) (by rfl)
theorem e_ds_each_api_Element : EE π V4 args s = runF EE iter P0 π args s := E_fn (by decide) (by rfl) (by rfl)
theorem e_ds_CkD_4_1 : EE π M1 args s = runF EE iter Z09 π args s := E_fn (by decide) (by rfl) (by rfl)
theorem e_ds_within : EE π Ye args s = runF EE iter c_ds_within π args s := E_fn (by decide) (by rfl) (by rfl)
theorem e_ds_fits : EE π n_ds_fits args s = runF EE iter c_ds_fits π args s := E_fn (by decide) (by rfl) (by rfl)
theorem e_ds_CkD_5 : EE π Z1n args s = runF EE iter c_ds_CkD_5 π args s := E_fn (by decide) (by rfl) (by rfl)
theorem Mp : EE π Qk args s = runF EE iter Vu π args s := E_fn (by decide) (by rfl) (by rfl)
theorem e_ds_leaves : EE π Z29 args s = runF EE iter c_ds_leaves π args s := E_fn (by decide) (by rfl) (by rfl)
theorem e_ds_CkD_6 : EE π Z1m args s = runF EE iter c_ds_CkD_6 π args s := E_fn (by decide) (by rfl) (by rfl)
theorem e_ds_CkD_7 : EE π Z1l args s = runF EE iter c_ds_CkD_7 π args s := E_fn (by decide) (by rfl) (by rfl)
theorem e_ds_each_api_Rule : EE π Ux args s = runF EE iter L4 π args s := E_fn (by decide) (by rfl) (by rfl)
theorem e_ds_CkD_7_1 : EE π M0 args s = runF EE iter c_ds_CkD_7_1 π args s := E_fn (by decide) (by rfl) (by rfl)
theorem e_ds_isCondition : EE π Ud args s = runF EE iter N4 π args s := E_fn (by decide) (by rfl) (by rfl)
theorem e_ds_each_api_Write : EE π U5 args s = runF EE iter Nn π args s := E_fn (by decide) (by rfl) (by rfl)
theorem e_ds_CkD_7_1_1 : EE π Pn args s = runF EE iter Z0x π args s := E_fn (by decide) (by rfl) (by rfl)
theorem Z2g : EE π G9 args s = runF EE iter L2 π args s := E_fn (by decide) (by rfl) (by rfl)
theorem e_ds_CkD_8 : EE π Z1k args s = runF EE iter c_ds_CkD_8 π args s := E_fn (by decide) (by rfl) (by rfl)
theorem e_ds_CkD_9 : EE π Z1j args s = runF EE iter c_ds_CkD_9 π args s := E_fn (by decide) (by rfl) (by rfl)
theorem e_ds_each_api_Output : EE π Vb args s = runF EE iter Pk π args s := E_fn (by decide) (by rfl) (by rfl)
theorem e_ds_CkD_9_1 : EE π Nz args s = runF EE iter c_ds_CkD_9_1 π args s := E_fn (by decide) (by rfl) (by rfl)
theorem e_ds_isNode : EE π Lt args s = runF EE iter c_ds_isNode π args s := E_fn (by decide) (by rfl) (by rfl)
theorem e_ds_CkD_10 : EE π F3 args s = runF EE iter c_ds_CkD_10 π args s := E_fn (by decide) (by rfl) (by rfl)
theorem e_ds_CkD_11 : EE π F2 args s = runF EE iter c_ds_CkD_11 π args s := E_fn (by decide) (by rfl) (by rfl)
theorem Z2h : EE π W0 args s = runF EE iter U8 π args s := E_fn (by decide) (by rfl) (by rfl)
theorem e_ds_CkD_11_1 : EE π Mg args s = runF EE iter Z34 π args s := E_fn (by decide) (by rfl) (by rfl)
theorem e_ds_each_int : EE π Ga args s = runF EE iter Z33 π args s := E_fn (by decide) (by rfl) (by rfl)
theorem e_ds_CkD_11_1_1 : EE π Ql args s = runF EE iter Fm π args s := E_fn (by decide) (by rfl) (by rfl)
theorem e_rb_IsWidth : EE π Nt args s = runF EE iter c_rb_IsWidth π args s := E_fn (by decide) (by rfl) (by rfl)
theorem Hc : EE π Z03 args s = runF EE iter Qw π args s := E_fn (by decide) (by rfl) (by rfl)
theorem e_rb_IsNode : EE π Ls args s = runF EE iter c_rb_IsNode π args s := E_fn (by decide) (by rfl) (by rfl)
theorem e_sl_AppendSeq_int_int : EE π Wo args s = runF EE iter Us π args s := E_fn (by decide) (by rfl) (by rfl)
theorem e_gr_LeavesOf : EE π G8 args s = runF EE iter Ge π args s := E_fn (by decide) (by rfl) (by rfl)
theorem e_gr_first : EE π P7 args s = runF EE iter c_gr_first π args s := E_fn (by decide) (by rfl) (by rfl)
theorem e_gr_graphErr : EE π Me args s = runF EE iter Z2u π args s := E_fn (by decide) (by rfl) (by rfl)
theorem e_gr_unless : EE π Yd args s = runF EE iter c_gr_unless π args s := E_fn (by decide) (by rfl) (by rfl)
theorem e_gr_each_int : EE π Mf args s = runF EE iter Z2x π args s := E_fn (by decide) (by rfl) (by rfl)
theorem e_gr_fits : EE π n_gr_fits args s = runF EE iter c_gr_fits π args s := E_fn (by decide) (by rfl) (by rfl)
theorem e_cf_sh_common_1 : EE π Ue args s = runF EE iter N5 π args s := E_fn (by decide) (by rfl) (by rfl)
theorem e_gr_CheckNodes_1 : EE π Vm args s = runF EE iter K9 π args s := E_fn (by decide) (by rfl) (by rfl)
theorem e_gr_isWidth : EE π H9 args s = runF EE iter c_gr_isWidth π args s := E_fn (by decide) (by rfl) (by rfl)
theorem e_gr_operations : EE π Qi args s = runF EE iter Fk π args s := E_fn (by decide) (by rfl) (by rfl)
theorem e_gr_each_api_Node : EE π Uw args s = runF EE iter L1 π args s := E_fn (by decide) (by rfl) (by rfl)
theorem W9 : EE π Vl args s = runF EE iter Ym π args s := E_fn (by decide) (by rfl) (by rfl)
theorem e_gr_within : EE π V8 args s = runF EE iter c_gr_within π args s := E_fn (by decide) (by rfl) (by rfl)
theorem e_gr_CheckNodes_2_1 : EE π Wf args s = runF EE iter Nm π args s := E_fn (by decide) (by rfl) (by rfl)
theorem P9 : EE π G6 args s = runF EE iter V5 π args s := E_fn (by decide) (by rfl) (by rfl)
theorem Zh : EE π G5 args s = runF EE iter Zb π args s := E_fn (by decide) (by rfl) (by rfl)
theorem e_rb_widthsFit : EE π Kh args s = runF EE iter Z0k π args s := E_fn (by decide) (by rfl) (by rfl)
theorem e_gr_namedErr : EE π G7 args s = runF EE iter Z2t π args s := E_fn (by decide) (by rfl) (by rfl)
theorem e_gr_leavesBelow : EE π N0 args s = runF EE iter Hu π args s := E_fn (by decide) (by rfl) (by rfl)
theorem e_gr_anyWidth : EE π Y9 args s = runF EE iter Z31 π args s := E_fn (by decide) (by rfl) (by rfl)
theorem e_gr_same : EE π Zd args s = runF EE iter c_gr_same π args s := E_fn (by decide) (by rfl) (by rfl)
theorem e_gr_binary : EE π U4 args s = runF EE iter c_gr_binary π args s := E_fn (by decide) (by rfl) (by rfl)
theorem e_gr_relation : EE π P6 args s = runF EE iter Z2s π args s := E_fn (by decide) (by rfl) (by rfl)
theorem e_gr_op_12 : EE π Nw args s = runF EE iter c_gr_op_12 π args s := E_fn (by decide) (by rfl) (by rfl)
theorem e_gr_op_14 : EE π Nv args s = runF EE iter c_gr_op_14 π args s := E_fn (by decide) (by rfl) (by rfl)
theorem e_gr_op_16 : EE π Nu args s = runF EE iter c_gr_op_16 π args s := E_fn (by decide) (by rfl) (by rfl)
theorem e_gr_extended : EE π Y8 args s = runF EE iter Z2w π args s := E_fn (by decide) (by rfl) (by rfl)
theorem e_gr_shifted : EE π Yl args s = runF EE iter c_gr_shifted π args s := E_fn (by decide) (by rfl) (by rfl)
theorem e_gr_namedErr_1 : EE π Qj args s = runF EE iter Fl π args s := E_fn (by decide) (by rfl) (by rfl)
theorem e_gr_below : EE π n_gr_below args s = runF EE iter c_gr_below π args s := E_fn (by decide) (by rfl) (by rfl)
theorem e_gr_same_1 : EE π F0 args s = runF EE iter c_gr_same_1 π args s := E_fn (by decide) (by rfl) (by rfl)
theorem e_gr_compared : EE π Zm args s = runF EE iter Z2y π args s := E_fn (by decide) (by rfl) (by rfl)
theorem Lx : EE π X4 args s = runF EE iter X9 π args s := E_fn (by decide) (by rfl) (by rfl)
theorem Mo : EE π Zz args s = runF EE iter Yv π args s := E_fn (by decide) (by rfl) (by rfl)

end Go.Proofs.YteecfnfjlclhdaaGreat.V
