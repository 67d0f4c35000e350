/- The table of functions, and that it is right. Printed by a program of this work. -/
import Derived.Test.YteecfnfjlclhdaaGreatT0
import Derived.Test.YteecfnfjlclhdaaGreatT1
import Derived.Test.YteecfnfjlclhdaaGreatProg
import Derived.Test.YteecfnfjlclhdaaGreatO0

set_option linter.unusedSimpArgs false
set_option linter.unusedVariables false

/- The table of functions, and that it is right. Printed by a program of this work. -/
namespace Go.Proofs.YteecfnfjlclhdaaGreat.V
open Go Go.Proofs


def T0 : Tab := fun f => match f with
  | 3 => some c_rl16_ConflictRelates
  | 8 => some c_rl16_awake
  | 9 => some c_rl16_Few
  | 10 => some c_cf_RelationOf
  | 11 => some c_rb_CopyDesign
  | 12 => some c_cf_MatrixOf
  | 13 => some c_rl16_DesignErr
  | 14 => some c_rb_Lists
  | 15 => some c_rr16_Matrix
  | 16 => some c_cf_FormatMatrix
  | 17 => some c_rb_CopyLists
  | 18 => some c_rr16_FormatMatrix
  | 19 => some c_rr16_PairErr
  | 20 => some c_rr16_Relation
  | 22 => some c_cf_OrderFor
  | 23 => some c_rb_CopyInts
  | 24 => some c_cf_CycleIn
  | 26 => some c_rb_Has
  | 27 => some c_rb_MayPrecede
  | 31 => some c_rr16_RuleErr
  | 32 => some c_rb_Ints
  | 33 => some c_rb_Reads
  | 34 => some c_rb_Writes
  | 37 => some c_rb_Leaves
  | 49 => some c_rl16_Design
  | 50 => some c_cf_MeetingOf
  | 51 => some c_cf_openTwo
  | 52 => some c_cf_nw_shared
  | 53 => some c_cf_sh_relation
  | 54 => some c_rb_CopyPorts
  | 55 => some c_rb_CopyNodes
  | 56 => some c_rb_CopyOutputs
  | 57 => some c_rb_CopyWrites
  | 58 => some c_cf_open
  | 59 => some c_rb_DesignErr
  | 60 => some c_cf_within
  | 62 => some c_rb_Within
  | 63 => some c_cf_openRules
  | 64 => some c_sl_Sorted_int
  | 65 => some c_sl_Values_int_int
  | _ => none

theorem tabOk0 : TabOk Tryz.prog T0 := fun f F h => by
  unfold T0 at h
  split at h
  · cases h; exact ⟨_, Tryz.func3, by kernel_rfl⟩
  · cases h; exact ⟨_, Tryz.func8, by kernel_rfl⟩
  · cases h; exact ⟨_, Tryz.func9, by kernel_rfl⟩
  · cases h; exact ⟨_, Tryz.func10, by kernel_rfl⟩
  · cases h; exact ⟨_, Tryz.func11, by kernel_rfl⟩
  · cases h; exact ⟨_, Tryz.func12, by kernel_rfl⟩
  · cases h; exact ⟨_, Tryz.func13, by kernel_rfl⟩
  · cases h; exact ⟨_, Tryz.func14, by kernel_rfl⟩
  · cases h; exact ⟨_, Tryz.func15, by kernel_rfl⟩
  · cases h; exact ⟨_, Tryz.func16, by kernel_rfl⟩
  · cases h; exact ⟨_, Tryz.func17, by kernel_rfl⟩
  · cases h; exact ⟨_, Tryz.func18, by kernel_rfl⟩
  · cases h; exact ⟨_, Tryz.func19, by kernel_rfl⟩
  · cases h; exact ⟨_, Tryz.func20, by kernel_rfl⟩
  · cases h; exact ⟨_, Tryz.func22, by kernel_rfl⟩
  · cases h; exact ⟨_, Tryz.func23, by kernel_rfl⟩
  · cases h; exact ⟨_, Tryz.func24, by kernel_rfl⟩
  · cases h; exact ⟨_, Tryz.func26, by kernel_rfl⟩
  · cases h; exact ⟨_, Tryz.func27, by kernel_rfl⟩
  · cases h; exact ⟨_, Tryz.func31, by kernel_rfl⟩
  · cases h; exact ⟨_, Tryz.func32, by kernel_rfl⟩
  · cases h; exact ⟨_, Tryz.func33, by kernel_rfl⟩
  · cases h; exact ⟨_, Tryz.func34, by kernel_rfl⟩
  · cases h; exact ⟨_, Tryz.func37, by kernel_rfl⟩
  · cases h; exact ⟨_, Tryz.func49, by kernel_rfl⟩
  · cases h; exact ⟨_, Tryz.func50, by kernel_rfl⟩
  · cases h; exact ⟨_, Tryz.func51, by kernel_rfl⟩
  · cases h; exact ⟨_, Tryz.func52, by kernel_rfl⟩
  · cases h; exact ⟨_, Tryz.func53, by kernel_rfl⟩
  · cases h; exact ⟨_, Tryz.func54, by kernel_rfl⟩
  · cases h; exact ⟨_, Tryz.func55, by kernel_rfl⟩
  · cases h; exact ⟨_, Tryz.func56, by kernel_rfl⟩
  · cases h; exact ⟨_, Tryz.func57, by kernel_rfl⟩
  · cases h; exact ⟨_, Tryz.func58, by kernel_rfl⟩
  · cases h; exact ⟨_, Tryz.func59, by kernel_rfl⟩
  · cases h; exact ⟨_, Tryz.func60, by kernel_rfl⟩
  · cases h; exact ⟨_, Tryz.func62, by kernel_rfl⟩
  · cases h; exact ⟨_, Tryz.func63, by kernel_rfl⟩
  · cases h; exact ⟨_, Tryz.func64, by kernel_rfl⟩
  · cases h; exact ⟨_, Tryz.func65, by kernel_rfl⟩
  · cases h


def T1 : Tab := fun f => match f with
  | 66 => some c_sl_IxF_int_int
  | 67 => some c_cf_OrderFor_1
  | 68 => some c_cf_sh_isFirst
  | 70 => some c_cf_sh_around
  | 71 => some c_cf_unless
  | 72 => some c_cf_each_int
  | 74 => some c_cf_nw_reads
  | 75 => some c_cf_nw_writes
  | 76 => some c_rb_LeavesBelow
  | 77 => some c_cf_first
  | 79 => some c_cf_nw_meet
  | 81 => some c_cf_nw_bits
  | 82 => some c_cf_nw_points
  | 83 => some c_rb_Power
  | 88 => some c_cf_sh_mayPrecede
  | 93 => some c_cf_openGuards
  | 94 => some c_sl_CoF_int_int
  | 95 => some c_cf_sh_relation_1
  | 96 => some c_sl_Contains_int_int
  | 97 => some c_ds_CkD
  | 98 => some c_cf_open_1
  | 99 => some c_cf_nw_ruleErr
  | 100 => some c_rb_IsName
  | 101 => some c_rb_PortsErr
  | 102 => some c_rb_ElementsErr
  | 103 => some c_rb_NodesErr
  | 104 => some c_rb_IsCondition
  | 105 => some c_rb_WritesErr
  | 106 => some c_rb_OutputsErr
  | 110 => some c_cf_openRules_1
  | 111 => some c_sl_Collect_int
  | 113 => some c_sl_Values_int_int_1
  | 114 => some c_cf_sh_isFirst_1
  | 115 => some c_sl_Clone_int_int
  | 116 => some c_cf_nw_used
  | 118 => some c_rb_Below
  | 119 => some c_gr_ValuesOf
  | 122 => some c_cf_nw_points_1
  | 123 => some c_sl_Backward_int_int
  | 124 => some c_rb_Fits
  | _ => none

theorem tabOk1 : TabOk Tryz.prog T1 := fun f F h => by
  unfold T1 at h
  split at h
  · cases h; exact ⟨_, Tryz.func66, by kernel_rfl⟩
  · cases h; exact ⟨_, Tryz.func67, by kernel_rfl⟩
  · cases h; exact ⟨_, Tryz.func68, by kernel_rfl⟩
  · cases h; exact ⟨_, Tryz.func70, by kernel_rfl⟩
  · cases h; exact ⟨_, Tryz.func71, by kernel_rfl⟩
  · cases h; exact ⟨_, Tryz.func72, by kernel_rfl⟩
  · cases h; exact ⟨_, Tryz.func74, by kernel_rfl⟩
  · cases h; exact ⟨_, Tryz.func75, by kernel_rfl⟩
  · cases h; exact ⟨_, Tryz.func76, by kernel_rfl⟩
  · cases h; exact ⟨_, Tryz.func77, by kernel_rfl⟩
  · cases h; exact ⟨_, Tryz.func79, by kernel_rfl⟩
  · cases h; exact ⟨_, Tryz.func81, by kernel_rfl⟩
  · cases h; exact ⟨_, Tryz.func82, by kernel_rfl⟩
  · cases h; exact ⟨_, Tryz.func83, by kernel_rfl⟩
  · cases h; exact ⟨_, Tryz.func88, by kernel_rfl⟩
  · cases h; exact ⟨_, Tryz.func93, by kernel_rfl⟩
  · cases h; exact ⟨_, Tryz.func94, by kernel_rfl⟩
  · cases h; exact ⟨_, Tryz.func95, by kernel_rfl⟩
  · cases h; exact ⟨_, Tryz.func96, by kernel_rfl⟩
  · cases h; exact ⟨_, Tryz.func97, by kernel_rfl⟩
  · cases h; exact ⟨_, Tryz.func98, by kernel_rfl⟩
  · cases h; exact ⟨_, Tryz.func99, by kernel_rfl⟩
  · cases h; exact ⟨_, Tryz.func100, by kernel_rfl⟩
  · cases h; exact ⟨_, Tryz.func101, by kernel_rfl⟩
  · cases h; exact ⟨_, Tryz.func102, by kernel_rfl⟩
  · cases h; exact ⟨_, Tryz.func103, by kernel_rfl⟩
  · cases h; exact ⟨_, Tryz.func104, by kernel_rfl⟩
  · cases h; exact ⟨_, Tryz.func105, by kernel_rfl⟩
  · cases h; exact ⟨_, Tryz.func106, by kernel_rfl⟩
  · cases h; exact ⟨_, Tryz.func110, by kernel_rfl⟩
  · cases h; exact ⟨_, Tryz.func111, by kernel_rfl⟩
  · cases h; exact ⟨_, Tryz.func113, by kernel_rfl⟩
  · cases h; exact ⟨_, Tryz.func114, by kernel_rfl⟩
  · cases h; exact ⟨_, Tryz.func115, by kernel_rfl⟩
  · cases h; exact ⟨_, Tryz.func116, by kernel_rfl⟩
  · cases h; exact ⟨_, Tryz.func118, by kernel_rfl⟩
  · cases h; exact ⟨_, Tryz.func119, by kernel_rfl⟩
  · cases h; exact ⟨_, Tryz.func122, by kernel_rfl⟩
  · cases h; exact ⟨_, Tryz.func123, by kernel_rfl⟩
  · cases h; exact ⟨_, Tryz.func124, by kernel_rfl⟩
  · cases h


def T2 : Tab := fun f => match f with
  | 127 => some c_cf_sh_common
  | 129 => some c_sl_Index_int_int
  | 130 => some c_ds_CkD_1
  | 131 => some c_ds_first
  | 132 => some c_ds_unless
  | 133 => some c_ds_isName
  | 134 => some c_ds_CkD_2
  | 135 => some c_ds_each_api_Port
  | 136 => some c_ds_CkD_2_1
  | 137 => some c_ds_names_err
  | 138 => some c_ds_isWidth
  | 139 => some c_ds_CkD_3
  | 140 => some c_ds_CkD_4
  | 141 => some c_ds_each_api_Element
  | 142 => some c_ds_CkD_4_1
  | 143 => some c_ds_within
  | 144 => some c_ds_fits
  | 145 => some c_ds_CkD_5
  | 146 => some c_gr_CheckNodes
  | 147 => some c_ds_leaves
  | 148 => some c_ds_CkD_6
  | 149 => some c_ds_CkD_7
  | 150 => some c_ds_each_api_Rule
  | 151 => some c_ds_CkD_7_1
  | 152 => some c_ds_isCondition
  | 153 => some c_ds_each_api_Write
  | 154 => some c_ds_CkD_7_1_1
  | 155 => some c_ds_writeErr
  | 156 => some c_ds_CkD_8
  | 157 => some c_ds_CkD_9
  | 158 => some c_ds_each_api_Output
  | 159 => some c_ds_CkD_9_1
  | 160 => some c_ds_isNode
  | 161 => some c_ds_CkD_10
  | 162 => some c_ds_CkD_11
  | 163 => some c_ds_each_api_Attribute
  | 164 => some c_ds_CkD_11_1
  | 165 => some c_ds_each_int
  | 166 => some c_ds_CkD_11_1_1
  | 167 => some c_rb_IsWidth
  | _ => none

theorem tabOk2 : TabOk Tryz.prog T2 := fun f F h => by
  unfold T2 at h
  split at h
  · cases h; exact ⟨_, Tryz.func127, by kernel_rfl⟩
  · cases h; exact ⟨_, Tryz.func129, by kernel_rfl⟩
  · cases h; exact ⟨_, Tryz.func130, by kernel_rfl⟩
  · cases h; exact ⟨_, Tryz.func131, by kernel_rfl⟩
  · cases h; exact ⟨_, Tryz.func132, by kernel_rfl⟩
  · cases h; exact ⟨_, Tryz.func133, by kernel_rfl⟩
  · cases h; exact ⟨_, Tryz.func134, by kernel_rfl⟩
  · cases h; exact ⟨_, Tryz.func135, by kernel_rfl⟩
  · cases h; exact ⟨_, Tryz.func136, by kernel_rfl⟩
  · cases h; exact ⟨_, Tryz.func137, by kernel_rfl⟩
  · cases h; exact ⟨_, Tryz.func138, by kernel_rfl⟩
  · cases h; exact ⟨_, Tryz.func139, by kernel_rfl⟩
  · cases h; exact ⟨_, Tryz.func140, by kernel_rfl⟩
  · cases h; exact ⟨_, Tryz.func141, by kernel_rfl⟩
  · cases h; exact ⟨_, Tryz.func142, by kernel_rfl⟩
  · cases h; exact ⟨_, Tryz.func143, by kernel_rfl⟩
  · cases h; exact ⟨_, Tryz.func144, by kernel_rfl⟩
  · cases h; exact ⟨_, Tryz.func145, by kernel_rfl⟩
  · cases h; exact ⟨_, Tryz.func146, by kernel_rfl⟩
  · cases h; exact ⟨_, Tryz.func147, by kernel_rfl⟩
  · cases h; exact ⟨_, Tryz.func148, by kernel_rfl⟩
  · cases h; exact ⟨_, Tryz.func149, by kernel_rfl⟩
  · cases h; exact ⟨_, Tryz.func150, by kernel_rfl⟩
  · cases h; exact ⟨_, Tryz.func151, by kernel_rfl⟩
  · cases h; exact ⟨_, Tryz.func152, by kernel_rfl⟩
  · cases h; exact ⟨_, Tryz.func153, by kernel_rfl⟩
  · cases h; exact ⟨_, Tryz.func154, by kernel_rfl⟩
  · cases h; exact ⟨_, Tryz.func155, by kernel_rfl⟩
  · cases h; exact ⟨_, Tryz.func156, by kernel_rfl⟩
  · cases h; exact ⟨_, Tryz.func157, by kernel_rfl⟩
  · cases h; exact ⟨_, Tryz.func158, by kernel_rfl⟩
  · cases h; exact ⟨_, Tryz.func159, by kernel_rfl⟩
  · cases h; exact ⟨_, Tryz.func160, by kernel_rfl⟩
  · cases h; exact ⟨_, Tryz.func161, by kernel_rfl⟩
  · cases h; exact ⟨_, Tryz.func162, by kernel_rfl⟩
  · cases h; exact ⟨_, Tryz.func163, by kernel_rfl⟩
  · cases h; exact ⟨_, Tryz.func164, by kernel_rfl⟩
  · cases h; exact ⟨_, Tryz.func165, by kernel_rfl⟩
  · cases h; exact ⟨_, Tryz.func166, by kernel_rfl⟩
  · cases h; exact ⟨_, Tryz.func167, by kernel_rfl⟩
  · cases h


def T3 : Tab := fun f => match f with
  | 168 => some c_rb_nodeErr
  | 169 => some c_rb_IsNode
  | 172 => some c_sl_AppendSeq_int_int
  | 175 => some c_gr_LeavesOf
  | 176 => some c_gr_first
  | 177 => some c_gr_graphErr
  | 178 => some c_gr_unless
  | 179 => some c_gr_each_int
  | 180 => some c_gr_ValuesOf_1
  | 181 => some c_gr_fits
  | 182 => some c_gr_valued
  | 183 => some c_sl_Backward_int_int_1
  | 186 => some c_cf_sh_common_1
  | 188 => some c_gr_CheckNodes_1
  | 189 => some c_gr_isWidth
  | 190 => some c_gr_operations
  | 191 => some c_gr_each_api_Node
  | 192 => some c_gr_CheckNodes_2
  | 193 => some c_gr_within
  | 194 => some c_gr_CheckNodes_2_1
  | 195 => some c_gr_valueErr
  | 196 => some c_rb_ArgCount
  | 197 => some c_rb_widthsFit
  | 211 => some c_gr_namedErr
  | 212 => some c_gr_leavesBelow
  | 213 => some c_gr_applied
  | 214 => some c_gr_op_1
  | 215 => some c_gr_anyWidth
  | 216 => some c_gr_same
  | 217 => some c_gr_op_2
  | 218 => some c_gr_mask
  | 219 => some c_gr_binary
  | 220 => some c_gr_op_3
  | 221 => some c_gr_op_4
  | 222 => some c_gr_op_5
  | 223 => some c_gr_op_6
  | 224 => some c_gr_op_7
  | 225 => some c_gr_op_8
  | 226 => some c_gr_relation
  | 227 => some c_gr_op_9
  | _ => none

theorem tabOk3 : TabOk Tryz.prog T3 := fun f F h => by
  unfold T3 at h
  split at h
  · cases h; exact ⟨_, Tryz.func168, by kernel_rfl⟩
  · cases h; exact ⟨_, Tryz.func169, by kernel_rfl⟩
  · cases h; exact ⟨_, Tryz.func172, by kernel_rfl⟩
  · cases h; exact ⟨_, Tryz.func175, by kernel_rfl⟩
  · cases h; exact ⟨_, Tryz.func176, by kernel_rfl⟩
  · cases h; exact ⟨_, Tryz.func177, by kernel_rfl⟩
  · cases h; exact ⟨_, Tryz.func178, by kernel_rfl⟩
  · cases h; exact ⟨_, Tryz.func179, by kernel_rfl⟩
  · cases h; exact ⟨_, Tryz.func180, by kernel_rfl⟩
  · cases h; exact ⟨_, Tryz.func181, by kernel_rfl⟩
  · cases h; exact ⟨_, Tryz.func182, by kernel_rfl⟩
  · cases h; exact ⟨_, Tryz.func183, by kernel_rfl⟩
  · cases h; exact ⟨_, Tryz.func186, by kernel_rfl⟩
  · cases h; exact ⟨_, Tryz.func188, by kernel_rfl⟩
  · cases h; exact ⟨_, Tryz.func189, by kernel_rfl⟩
  · cases h; exact ⟨_, Tryz.func190, by kernel_rfl⟩
  · cases h; exact ⟨_, Tryz.func191, by kernel_rfl⟩
  · cases h; exact ⟨_, Tryz.func192, by kernel_rfl⟩
  · cases h; exact ⟨_, Tryz.func193, by kernel_rfl⟩
  · cases h; exact ⟨_, Tryz.func194, by kernel_rfl⟩
  · cases h; exact ⟨_, Tryz.func195, by kernel_rfl⟩
  · cases h; exact ⟨_, Tryz.func196, by kernel_rfl⟩
  · cases h; exact ⟨_, Tryz.func197, by kernel_rfl⟩
  · cases h; exact ⟨_, Tryz.func211, by kernel_rfl⟩
  · cases h; exact ⟨_, Tryz.func212, by kernel_rfl⟩
  · cases h; exact ⟨_, Tryz.func213, by kernel_rfl⟩
  · cases h; exact ⟨_, Tryz.func214, by kernel_rfl⟩
  · cases h; exact ⟨_, Tryz.func215, by kernel_rfl⟩
  · cases h; exact ⟨_, Tryz.func216, by kernel_rfl⟩
  · cases h; exact ⟨_, Tryz.func217, by kernel_rfl⟩
  · cases h; exact ⟨_, Tryz.func218, by kernel_rfl⟩
  · cases h; exact ⟨_, Tryz.func219, by kernel_rfl⟩
  · cases h; exact ⟨_, Tryz.func220, by kernel_rfl⟩
  · cases h; exact ⟨_, Tryz.func221, by kernel_rfl⟩
  · cases h; exact ⟨_, Tryz.func222, by kernel_rfl⟩
  · cases h; exact ⟨_, Tryz.func223, by kernel_rfl⟩
  · cases h; exact ⟨_, Tryz.func224, by kernel_rfl⟩
  · cases h; exact ⟨_, Tryz.func225, by kernel_rfl⟩
  · cases h; exact ⟨_, Tryz.func226, by kernel_rfl⟩
  · cases h; exact ⟨_, Tryz.func227, by kernel_rfl⟩
  · cases h


def T4 : Tab := fun f => match f with
  | 228 => some c_gr_op_10
  | 229 => some c_gr_op_11
  | 230 => some c_gr_signed
  | 231 => some c_gr_op_12
  | 232 => some c_gr_op_13
  | 233 => some c_gr_op_14
  | 234 => some c_gr_op_15
  | 235 => some c_gr_op_16
  | 236 => some c_gr_op_17
  | 237 => some c_gr_extended
  | 238 => some c_gr_op_18
  | 239 => some c_gr_op_19
  | 240 => some c_gr_shifted
  | 241 => some c_gr_op_20
  | 242 => some c_gr_op_21
  | 248 => some c_gr_namedErr_1
  | 249 => some c_gr_below
  | 250 => some c_gr_same_1
  | 251 => some c_gr_binary_1
  | 252 => some c_gr_compared
  | 253 => some c_gr_relation_1
  | 254 => some c_gr_truth
  | 256 => some c_sl_Backward_api_Node_api_Node
  | 257 => some c_sl_Backward_api_Node_api_Node_1
  | _ => none

theorem tabOk4 : TabOk Tryz.prog T4 := fun f F h => by
  unfold T4 at h
  split at h
  · cases h; exact ⟨_, Tryz.func228, by kernel_rfl⟩
  · cases h; exact ⟨_, Tryz.func229, by kernel_rfl⟩
  · cases h; exact ⟨_, Tryz.func230, by kernel_rfl⟩
  · cases h; exact ⟨_, Tryz.func231, by kernel_rfl⟩
  · cases h; exact ⟨_, Tryz.func232, by kernel_rfl⟩
  · cases h; exact ⟨_, Tryz.func233, by kernel_rfl⟩
  · cases h; exact ⟨_, Tryz.func234, by kernel_rfl⟩
  · cases h; exact ⟨_, Tryz.func235, by kernel_rfl⟩
  · cases h; exact ⟨_, Tryz.func236, by kernel_rfl⟩
  · cases h; exact ⟨_, Tryz.func237, by kernel_rfl⟩
  · cases h; exact ⟨_, Tryz.func238, by kernel_rfl⟩
  · cases h; exact ⟨_, Tryz.func239, by kernel_rfl⟩
  · cases h; exact ⟨_, Tryz.func240, by kernel_rfl⟩
  · cases h; exact ⟨_, Tryz.func241, by kernel_rfl⟩
  · cases h; exact ⟨_, Tryz.func242, by kernel_rfl⟩
  · cases h; exact ⟨_, Tryz.func248, by kernel_rfl⟩
  · cases h; exact ⟨_, Tryz.func249, by kernel_rfl⟩
  · cases h; exact ⟨_, Tryz.func250, by kernel_rfl⟩
  · cases h; exact ⟨_, Tryz.func251, by kernel_rfl⟩
  · cases h; exact ⟨_, Tryz.func252, by kernel_rfl⟩
  · cases h; exact ⟨_, Tryz.func253, by kernel_rfl⟩
  · cases h; exact ⟨_, Tryz.func254, by kernel_rfl⟩
  · cases h; exact ⟨_, Tryz.func256, by kernel_rfl⟩
  · cases h; exact ⟨_, Tryz.func257, by kernel_rfl⟩
  · cases h

def T : Tab := fun f => if f < 66 then T0 f else if f < 127 then T1 f else if f < 168 then T2 f else if f < 228 then T3 f else T4 f
theorem tabOk : TabOk Tryz.prog T := fun f F h => by
  unfold T at h
  split at h
  · exact tabOk0 f F h
  split at h
  · exact tabOk1 f F h
  split at h
  · exact tabOk2 f F h
  split at h
  · exact tabOk3 f F h
  exact tabOk4 f F h

theorem z_sl_Clone_int_int {π : Id} {args : List AV} {s : Sto} : E T noO π n_sl_Clone_int_int args s = runF (E T noO) iter c_sl_Clone_int_int π args s := E_fn (by decide) (by rfl) (by rfl)
theorem q_sl_Clone_int_int : OrcFor Tryz.prog n_sl_Clone_int_int (cloneO t_int 1) := clone_ok (C := E T noO) (E_ok tabOk (noO_ok _)) (by decide)
  (fun π l hl => ⟨5 :: π, by rw [z_sl_Clone_int_int]; simp [run_eq, c_sl_Clone_int_int, hl]⟩)
  (fun π => by rw [z_sl_Clone_int_int]; simp [run_eq, c_sl_Clone_int_int])
def orc : Orc := fun f => match f with
  | 115 => some (cloneO t_int 1)
  | 61 => some joinO
  | 69 => some delO
  | 112 => some sortO
  | 117 => some compactO
  | _ => none

theorem orcOk : OrcOk Tryz.prog orc := fun f g h => by
  unfold orc at h
  split at h
  · cases h; exact q_sl_Clone_int_int
  · cases h; exact q_strings_Join
  · cases h; exact q_sl_Delete_int_int
  · cases h; exact q_sl_Sort_int_int
  · cases h; exact q_sl_Compact_int_int
  · cases h

noncomputable def EE : Call := E T orc

theorem o_strings_Join {π : Id} {args : List AV} {s : Sto} : EE π n_strings_Join args s = joinO π args s := E_orc (by decide) (by rfl)
theorem o_sl_Delete_int_int {π : Id} {args : List AV} {s : Sto} : EE π n_sl_Delete_int_int args s = delO π args s := E_orc (by decide) (by rfl)
theorem o_sl_Sort_int_int {π : Id} {args : List AV} {s : Sto} : EE π n_sl_Sort_int_int args s = sortO π args s := E_orc (by decide) (by rfl)
theorem o_sl_Compact_int_int {π : Id} {args : List AV} {s : Sto} : EE π n_sl_Compact_int_int args s = compactO π args s := E_orc (by decide) (by rfl)
theorem o_sl_Clone_int_int {π : Id} {args : List AV} {s : Sto} : EE π n_sl_Clone_int_int args s = cloneO t_int 1 π args s := E_orc (by decide) (by rfl)
variable {π : Id} {args : List AV} {s : Sto}
theorem e_rl16_ConflictRelates : EE π n_rl16_ConflictRelates args s = runF EE iter c_rl16_ConflictRelates π args s := E_fn (by decide) (by rfl) (by rfl)
theorem e_rl16_awake : EE π n_rl16_awake args s = runF EE iter c_rl16_awake π args s := E_fn (by decide) (by rfl) (by rfl)
theorem e_rl16_Few : EE π n_rl16_Few args s = runF EE iter c_rl16_Few π args s := E_fn (by decide) (by rfl) (by rfl)
theorem e_cf_RelationOf : EE π n_cf_RelationOf args s = runF EE iter c_cf_RelationOf π args s := E_fn (by decide) (by rfl) (by rfl)
theorem e_rb_CopyDesign : EE π n_rb_CopyDesign args s = runF EE iter c_rb_CopyDesign π args s := E_fn (by decide) (by rfl) (by rfl)
theorem e_cf_MatrixOf : EE π n_cf_MatrixOf args s = runF EE iter c_cf_MatrixOf π args s := E_fn (by decide) (by rfl) (by rfl)
theorem e_rl16_DesignErr : EE π n_rl16_DesignErr args s = runF EE iter c_rl16_DesignErr π args s := E_fn (by decide) (by rfl) (by rfl)
theorem e_rb_Lists : EE π n_rb_Lists args s = runF EE iter c_rb_Lists π args s := E_fn (by decide) (by rfl) (by rfl)
theorem e_rr16_Matrix : EE π n_rr16_Matrix args s = runF EE iter c_rr16_Matrix π args s := E_fn (by decide) (by rfl) (by rfl)
theorem e_cf_FormatMatrix : EE π n_cf_FormatMatrix args s = runF EE iter c_cf_FormatMatrix π args s := E_fn (by decide) (by rfl) (by rfl)
theorem e_rb_CopyLists : EE π n_rb_CopyLists args s = runF EE iter c_rb_CopyLists π args s := E_fn (by decide) (by rfl) (by rfl)
theorem e_rr16_FormatMatrix : EE π n_rr16_FormatMatrix args s = runF EE iter c_rr16_FormatMatrix π args s := E_fn (by decide) (by rfl) (by rfl)
theorem e_rr16_PairErr : EE π n_rr16_PairErr args s = runF EE iter c_rr16_PairErr π args s := E_fn (by decide) (by rfl) (by rfl)
theorem e_rr16_Relation : EE π n_rr16_Relation args s = runF EE iter c_rr16_Relation π args s := E_fn (by decide) (by rfl) (by rfl)
theorem e_rb_CopyInts : EE π n_rb_CopyInts args s = runF EE iter c_rb_CopyInts π args s := E_fn (by decide) (by rfl) (by rfl)
theorem e_rb_Has : EE π n_rb_Has args s = runF EE iter c_rb_Has π args s := E_fn (by decide) (by rfl) (by rfl)
theorem e_rb_MayPrecede : EE π n_rb_MayPrecede args s = runF EE iter c_rb_MayPrecede π args s := E_fn (by decide) (by rfl) (by rfl)
theorem e_rr16_RuleErr : EE π n_rr16_RuleErr args s = runF EE iter c_rr16_RuleErr π args s := E_fn (by decide) (by rfl) (by rfl)
theorem e_rb_Ints : EE π n_rb_Ints args s = runF EE iter c_rb_Ints π args s := E_fn (by decide) (by rfl) (by rfl)
theorem e_rb_Reads : EE π n_rb_Reads args s = runF EE iter c_rb_Reads π args s := E_fn (by decide) (by rfl) (by rfl)
theorem e_rb_Writes : EE π n_rb_Writes args s = runF EE iter c_rb_Writes π args s := E_fn (by decide) (by rfl) (by rfl)
theorem e_rb_Leaves : EE π n_rb_Leaves args s = runF EE iter c_rb_Leaves π args s := E_fn (by decide) (by rfl) (by rfl)
theorem e_cf_openTwo : EE π n_cf_openTwo args s = runF EE iter c_cf_openTwo π args s := E_fn (by decide) (by rfl) (by rfl)
theorem e_cf_nw_shared : EE π n_cf_nw_shared args s = runF EE iter c_cf_nw_shared π args s := E_fn (by decide) (by rfl) (by rfl)
theorem e_cf_sh_relation : EE π n_cf_sh_relation args s = runF EE iter c_cf_sh_relation π args s := E_fn (by decide) (by rfl) (by rfl)
theorem e_rb_CopyPorts : EE π n_rb_CopyPorts args s = runF EE iter c_rb_CopyPorts π args s := E_fn (by decide) (by rfl) (by rfl)
theorem e_rb_CopyNodes : EE π n_rb_CopyNodes args s = runF EE iter c_rb_CopyNodes π args s := E_fn (by decide) (by rfl) (by rfl)
theorem e_rb_CopyOutputs : EE π n_rb_CopyOutputs args s = runF EE iter c_rb_CopyOutputs π args s := E_fn (by decide) (by rfl) (by rfl)
theorem e_rb_CopyWrites : EE π n_rb_CopyWrites args s = runF EE iter c_rb_CopyWrites π args s := E_fn (by decide) (by rfl) (by rfl)
theorem e_cf_open : EE π n_cf_open args s = runF EE iter c_cf_open π args s := E_fn (by decide) (by rfl) (by rfl)
theorem e_rb_DesignErr : EE π n_rb_DesignErr args s = runF EE iter c_rb_DesignErr π args s := E_fn (by decide) (by rfl) (by rfl)
theorem e_cf_within : EE π n_cf_within args s = runF EE iter c_cf_within π args s := E_fn (by decide) (by rfl) (by rfl)
theorem e_rb_Within : EE π n_rb_Within args s = runF EE iter c_rb_Within π args s := E_fn (by decide) (by rfl) (by rfl)
theorem e_sl_IxF_int_int : EE π n_sl_IxF_int_int args s = runF EE iter c_sl_IxF_int_int π args s := E_fn (by decide) (by rfl) (by rfl)
theorem e_cf_unless : EE π n_cf_unless args s = runF EE iter c_cf_unless π args s := E_fn (by decide) (by rfl) (by rfl)
theorem e_cf_each_int : EE π n_cf_each_int args s = runF EE iter c_cf_each_int π args s := E_fn (by decide) (by rfl) (by rfl)
theorem e_cf_nw_reads : EE π n_cf_nw_reads args s = runF EE iter c_cf_nw_reads π args s := E_fn (by decide) (by rfl) (by rfl)
theorem e_cf_nw_writes : EE π n_cf_nw_writes args s = runF EE iter c_cf_nw_writes π args s := E_fn (by decide) (by rfl) (by rfl)
theorem e_rb_LeavesBelow : EE π n_rb_LeavesBelow args s = runF EE iter c_rb_LeavesBelow π args s := E_fn (by decide) (by rfl) (by rfl)
theorem e_cf_first : EE π n_cf_first args s = runF EE iter c_cf_first π args s := E_fn (by decide) (by rfl) (by rfl)
theorem e_rb_Power : EE π n_rb_Power args s = runF EE iter c_rb_Power π args s := E_fn (by decide) (by rfl) (by rfl)
theorem e_cf_sh_mayPrecede : EE π n_cf_sh_mayPrecede args s = runF EE iter c_cf_sh_mayPrecede π args s := E_fn (by decide) (by rfl) (by rfl)
theorem e_sl_CoF_int_int : EE π n_sl_CoF_int_int args s = runF EE iter c_sl_CoF_int_int π args s := E_fn (by decide) (by rfl) (by rfl)
theorem e_cf_sh_relation_1 : EE π n_cf_sh_relation_1 args s = runF EE iter c_cf_sh_relation_1 π args s := E_fn (by decide) (by rfl) (by rfl)
theorem e_sl_Contains_int_int : EE π n_sl_Contains_int_int args s = runF EE iter c_sl_Contains_int_int π args s := E_fn (by decide) (by rfl) (by rfl)
theorem e_ds_CkD : EE π n_ds_CkD args s = runF EE iter c_ds_CkD π args s := E_fn (by decide) (by rfl) (by rfl)
theorem e_cf_open_1 : EE π n_cf_open_1 args s = runF EE iter c_cf_open_1 π args s := E_fn (by decide) (by rfl) (by rfl)
theorem e_cf_nw_ruleErr : EE π n_cf_nw_ruleErr args s = runF EE iter c_cf_nw_ruleErr π args s := E_fn (by decide) (by rfl) (by rfl)
theorem e_rb_IsName : EE π n_rb_IsName args s = runF EE iter c_rb_IsName π args s := E_fn (by decide) (by rfl) (by rfl)
theorem e_rb_PortsErr : EE π n_rb_PortsErr args s = runF EE iter c_rb_PortsErr π args s := E_fn (by decide) (by rfl) (by rfl)
theorem e_rb_ElementsErr : EE π n_rb_ElementsErr args s = runF EE iter c_rb_ElementsErr π args s := E_fn (by decide) (by rfl) (by rfl)
theorem e_rb_NodesErr : EE π n_rb_NodesErr args s = runF EE iter c_rb_NodesErr π args s := E_fn (by decide) (by rfl) (by rfl)
theorem e_rb_IsCondition : EE π n_rb_IsCondition args s = runF EE iter c_rb_IsCondition π args s := E_fn (by decide) (by rfl) (by rfl)
theorem e_rb_WritesErr : EE π n_rb_WritesErr args s = runF EE iter c_rb_WritesErr π args s := E_fn (by decide) (by rfl) (by rfl)
theorem e_rb_OutputsErr : EE π n_rb_OutputsErr args s = runF EE iter c_rb_OutputsErr π args s := E_fn (by decide) (by rfl) (by rfl)
theorem e_cf_nw_used : EE π n_cf_nw_used args s = runF EE iter c_cf_nw_used π args s := E_fn (by decide) (by rfl) (by rfl)
theorem e_rb_Below : EE π n_rb_Below args s = runF EE iter c_rb_Below π args s := E_fn (by decide) (by rfl) (by rfl)
theorem e_rb_Fits : EE π n_rb_Fits args s = runF EE iter c_rb_Fits π args s := E_fn (by decide) (by rfl) (by rfl)
theorem e_cf_sh_common : EE π n_cf_sh_common args s = runF EE iter c_cf_sh_common π args s := E_fn (by decide) (by rfl) (by rfl)
theorem e_sl_Index_int_int : EE π n_sl_Index_int_int args s = runF EE iter c_sl_Index_int_int π args s := E_fn (by decide) (by rfl) (by rfl)
theorem e_ds_CkD_1 : EE π n_ds_CkD_1 args s = runF EE iter c_ds_CkD_1 π args s := E_fn (by decide) (by rfl) (by rfl)
theorem e_ds_first : EE π n_ds_first args s = runF EE iter c_ds_first π args s := E_fn (by decide) (by rfl) (by rfl)
theorem e_ds_unless : EE π n_ds_unless args s = runF EE iter c_ds_unless π args s := E_fn (by decide) (by rfl) (by rfl)
theorem e_ds_isName : EE π n_ds_isName args s = runF EE iter c_ds_isName π args s := E_fn (by decide) (by rfl) (by rfl)
theorem e_ds_CkD_2 : EE π n_ds_CkD_2 args s = runF EE iter c_ds_CkD_2 π args s := E_fn (by decide) (by rfl) (by rfl)
theorem e_ds_each_api_Port : EE π n_ds_each_api_Port args s = runF EE iter c_ds_each_api_Port π args s := E_fn (by decide) (by rfl) (by rfl)
theorem e_ds_CkD_2_1 : EE π n_ds_CkD_2_1 args s = runF EE iter c_ds_CkD_2_1 π args s := E_fn (by decide) (by rfl) (by rfl)
theorem e_ds_names_err : EE π n_ds_names_err args s = runF EE iter c_ds_names_err π args s := E_fn (by decide) (by rfl) (by rfl)
theorem e_ds_isWidth : EE π n_ds_isWidth args s = runF EE iter c_ds_isWidth π args s := E_fn (by decide) (by rfl) (by rfl)
theorem e_ds_CkD_3 : EE π n_ds_CkD_3 args s = runF EE iter c_ds_CkD_3 π args s := E_fn (by decide) (by rfl) (by rfl)
theorem e_ds_CkD_4 : EE π n_ds_CkD_4 args s = runF EE iter c_ds_CkD_4 π args s := E_fn (by decide) (by rfl) (by rfl)
theorem e_ds_each_api_Element : EE π n_ds_each_api_Element args s = runF EE iter c_ds_each_api_Element π args s := E_fn (by decide) (by rfl) (by rfl)
theorem e_ds_CkD_4_1 : EE π n_ds_CkD_4_1 args s = runF EE iter c_ds_CkD_4_1 π args s := E_fn (by decide) (by rfl) (by rfl)
theorem e_ds_within : EE π n_ds_within args s = runF EE iter c_ds_within π args s := E_fn (by decide) (by rfl) (by rfl)
theorem e_ds_fits : EE π n_ds_fits args s = runF EE iter c_ds_fits π args s := E_fn (by decide) (by rfl) (by rfl)
theorem e_ds_CkD_5 : EE π n_ds_CkD_5 args s = runF EE iter c_ds_CkD_5 π args s := E_fn (by decide) (by rfl) (by rfl)
theorem e_gr_CheckNodes : EE π n_gr_CheckNodes args s = runF EE iter c_gr_CheckNodes π args s := E_fn (by decide) (by rfl) (by rfl)
theorem e_ds_leaves : EE π n_ds_leaves args s = runF EE iter c_ds_leaves π args s := E_fn (by decide) (by rfl) (by rfl)
theorem e_ds_CkD_6 : EE π n_ds_CkD_6 args s = runF EE iter c_ds_CkD_6 π args s := E_fn (by decide) (by rfl) (by rfl)
theorem e_ds_CkD_7 : EE π n_ds_CkD_7 args s = runF EE iter c_ds_CkD_7 π args s := E_fn (by decide) (by rfl) (by rfl)
theorem e_ds_each_api_Rule : EE π n_ds_each_api_Rule args s = runF EE iter c_ds_each_api_Rule π args s := E_fn (by decide) (by rfl) (by rfl)
theorem e_ds_CkD_7_1 : EE π n_ds_CkD_7_1 args s = runF EE iter c_ds_CkD_7_1 π args s := E_fn (by decide) (by rfl) (by rfl)
theorem e_ds_isCondition : EE π n_ds_isCondition args s = runF EE iter c_ds_isCondition π args s := E_fn (by decide) (by rfl) (by rfl)
theorem e_ds_each_api_Write : EE π n_ds_each_api_Write args s = runF EE iter c_ds_each_api_Write π args s := E_fn (by decide) (by rfl) (by rfl)
theorem e_ds_CkD_7_1_1 : EE π n_ds_CkD_7_1_1 args s = runF EE iter c_ds_CkD_7_1_1 π args s := E_fn (by decide) (by rfl) (by rfl)
theorem e_ds_writeErr : EE π n_ds_writeErr args s = runF EE iter c_ds_writeErr π args s := E_fn (by decide) (by rfl) (by rfl)
theorem e_ds_CkD_8 : EE π n_ds_CkD_8 args s = runF EE iter c_ds_CkD_8 π args s := E_fn (by decide) (by rfl) (by rfl)
theorem e_ds_CkD_9 : EE π n_ds_CkD_9 args s = runF EE iter c_ds_CkD_9 π args s := E_fn (by decide) (by rfl) (by rfl)
theorem e_ds_each_api_Output : EE π n_ds_each_api_Output args s = runF EE iter c_ds_each_api_Output π args s := E_fn (by decide) (by rfl) (by rfl)
theorem e_ds_CkD_9_1 : EE π n_ds_CkD_9_1 args s = runF EE iter c_ds_CkD_9_1 π args s := E_fn (by decide) (by rfl) (by rfl)
theorem e_ds_isNode : EE π n_ds_isNode args s = runF EE iter c_ds_isNode π args s := E_fn (by decide) (by rfl) (by rfl)
theorem e_ds_CkD_10 : EE π n_ds_CkD_10 args s = runF EE iter c_ds_CkD_10 π args s := E_fn (by decide) (by rfl) (by rfl)
theorem e_ds_CkD_11 : EE π n_ds_CkD_11 args s = runF EE iter c_ds_CkD_11 π args s := E_fn (by decide) (by rfl) (by rfl)
theorem e_ds_each_api_Attribute : EE π n_ds_each_api_Attribute args s = runF EE iter c_ds_each_api_Attribute π args s := E_fn (by decide) (by rfl) (by rfl)
theorem e_ds_CkD_11_1 : EE π n_ds_CkD_11_1 args s = runF EE iter c_ds_CkD_11_1 π args s := E_fn (by decide) (by rfl) (by rfl)
theorem e_ds_each_int : EE π n_ds_each_int args s = runF EE iter c_ds_each_int π args s := E_fn (by decide) (by rfl) (by rfl)
theorem e_ds_CkD_11_1_1 : EE π n_ds_CkD_11_1_1 args s = runF EE iter c_ds_CkD_11_1_1 π args s := E_fn (by decide) (by rfl) (by rfl)
theorem e_rb_IsWidth : EE π n_rb_IsWidth args s = runF EE iter c_rb_IsWidth π args s := E_fn (by decide) (by rfl) (by rfl)
theorem e_rb_nodeErr : EE π n_rb_nodeErr args s = runF EE iter c_rb_nodeErr π args s := E_fn (by decide) (by rfl) (by rfl)
theorem e_rb_IsNode : EE π n_rb_IsNode args s = runF EE iter c_rb_IsNode π args s := E_fn (by decide) (by rfl) (by rfl)
theorem e_gr_LeavesOf : EE π n_gr_LeavesOf args s = runF EE iter c_gr_LeavesOf π args s := E_fn (by decide) (by rfl) (by rfl)
theorem e_gr_first : EE π n_gr_first args s = runF EE iter c_gr_first π args s := E_fn (by decide) (by rfl) (by rfl)
theorem e_gr_graphErr : EE π n_gr_graphErr args s = runF EE iter c_gr_graphErr π args s := E_fn (by decide) (by rfl) (by rfl)
theorem e_gr_unless : EE π n_gr_unless args s = runF EE iter c_gr_unless π args s := E_fn (by decide) (by rfl) (by rfl)
theorem e_gr_each_int : EE π n_gr_each_int args s = runF EE iter c_gr_each_int π args s := E_fn (by decide) (by rfl) (by rfl)
theorem e_gr_fits : EE π n_gr_fits args s = runF EE iter c_gr_fits π args s := E_fn (by decide) (by rfl) (by rfl)
theorem e_cf_sh_common_1 : EE π n_cf_sh_common_1 args s = runF EE iter c_cf_sh_common_1 π args s := E_fn (by decide) (by rfl) (by rfl)
theorem e_gr_CheckNodes_1 : EE π n_gr_CheckNodes_1 args s = runF EE iter c_gr_CheckNodes_1 π args s := E_fn (by decide) (by rfl) (by rfl)
theorem e_gr_isWidth : EE π n_gr_isWidth args s = runF EE iter c_gr_isWidth π args s := E_fn (by decide) (by rfl) (by rfl)
theorem e_gr_operations : EE π n_gr_operations args s = runF EE iter c_gr_operations π args s := E_fn (by decide) (by rfl) (by rfl)
theorem e_gr_each_api_Node : EE π n_gr_each_api_Node args s = runF EE iter c_gr_each_api_Node π args s := E_fn (by decide) (by rfl) (by rfl)
theorem e_gr_CheckNodes_2 : EE π n_gr_CheckNodes_2 args s = runF EE iter c_gr_CheckNodes_2 π args s := E_fn (by decide) (by rfl) (by rfl)
theorem e_gr_within : EE π n_gr_within args s = runF EE iter c_gr_within π args s := E_fn (by decide) (by rfl) (by rfl)
theorem e_gr_CheckNodes_2_1 : EE π n_gr_CheckNodes_2_1 args s = runF EE iter c_gr_CheckNodes_2_1 π args s := E_fn (by decide) (by rfl) (by rfl)
theorem e_gr_valueErr : EE π n_gr_valueErr args s = runF EE iter c_gr_valueErr π args s := E_fn (by decide) (by rfl) (by rfl)
theorem e_rb_ArgCount : EE π n_rb_ArgCount args s = runF EE iter c_rb_ArgCount π args s := E_fn (by decide) (by rfl) (by rfl)
theorem e_rb_widthsFit : EE π n_rb_widthsFit args s = runF EE iter c_rb_widthsFit π args s := E_fn (by decide) (by rfl) (by rfl)
theorem e_gr_namedErr : EE π n_gr_namedErr args s = runF EE iter c_gr_namedErr π args s := E_fn (by decide) (by rfl) (by rfl)
theorem e_gr_leavesBelow : EE π n_gr_leavesBelow args s = runF EE iter c_gr_leavesBelow π args s := E_fn (by decide) (by rfl) (by rfl)
theorem e_gr_anyWidth : EE π n_gr_anyWidth args s = runF EE iter c_gr_anyWidth π args s := E_fn (by decide) (by rfl) (by rfl)
theorem e_gr_same : EE π n_gr_same args s = runF EE iter c_gr_same π args s := E_fn (by decide) (by rfl) (by rfl)
theorem e_gr_binary : EE π n_gr_binary args s = runF EE iter c_gr_binary π args s := E_fn (by decide) (by rfl) (by rfl)
theorem e_gr_relation : EE π n_gr_relation args s = runF EE iter c_gr_relation π args s := E_fn (by decide) (by rfl) (by rfl)
theorem e_gr_op_12 : EE π n_gr_op_12 args s = runF EE iter c_gr_op_12 π args s := E_fn (by decide) (by rfl) (by rfl)
theorem e_gr_op_14 : EE π n_gr_op_14 args s = runF EE iter c_gr_op_14 π args s := E_fn (by decide) (by rfl) (by rfl)
theorem e_gr_op_16 : EE π n_gr_op_16 args s = runF EE iter c_gr_op_16 π args s := E_fn (by decide) (by rfl) (by rfl)
theorem e_gr_extended : EE π n_gr_extended args s = runF EE iter c_gr_extended π args s := E_fn (by decide) (by rfl) (by rfl)
theorem e_gr_shifted : EE π n_gr_shifted args s = runF EE iter c_gr_shifted π args s := E_fn (by decide) (by rfl) (by rfl)
theorem e_gr_namedErr_1 : EE π n_gr_namedErr_1 args s = runF EE iter c_gr_namedErr_1 π args s := E_fn (by decide) (by rfl) (by rfl)
theorem e_gr_below : EE π n_gr_below args s = runF EE iter c_gr_below π args s := E_fn (by decide) (by rfl) (by rfl)
theorem e_gr_same_1 : EE π n_gr_same_1 args s = runF EE iter c_gr_same_1 π args s := E_fn (by decide) (by rfl) (by rfl)
theorem e_gr_compared : EE π n_gr_compared args s = runF EE iter c_gr_compared π args s := E_fn (by decide) (by rfl) (by rfl)
theorem e_sl_Backward_api_Node_api_Node : EE π n_sl_Backward_api_Node_api_Node args s = runF EE iter c_sl_Backward_api_Node_api_Node π args s := E_fn (by decide) (by rfl) (by rfl)
theorem e_sl_Backward_api_Node_api_Node_1 : EE π n_sl_Backward_api_Node_api_Node_1 args s = runF EE iter c_sl_Backward_api_Node_api_Node_1 π args s := E_fn (by decide) (by rfl) (by rfl)

end Go.Proofs.YteecfnfjlclhdaaGreat.V
