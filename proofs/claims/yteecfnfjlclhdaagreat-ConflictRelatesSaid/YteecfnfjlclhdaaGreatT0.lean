/- The functions of the program in the small language. Printed by a program of this work. -/
import Derived.Test.YteecfnfjlclhdaaGreatK5

set_option linter.unusedSimpArgs false
set_option linter.unusedVariables false

/- The functions of the program in the small language. Printed by a program of this work. -/
namespace Go.Proofs.YteecfnfjlclhdaaGreat.V
open Go (IntKind BinOp UnOp)

def n_rl16_ConflictRelates : Nat := 3
def n_rl16_awake : Nat := 8
def n_rl16_Few : Nat := 9
def n_cf_RelationOf : Nat := 10
def n_rb_CopyDesign : Nat := 11
def n_cf_MatrixOf : Nat := 12
def n_rl16_DesignErr : Nat := 13
def n_rb_Lists : Nat := 14
def n_rr16_Matrix : Nat := 15
def n_cf_FormatMatrix : Nat := 16
def n_rb_CopyLists : Nat := 17
def n_rr16_FormatMatrix : Nat := 18
def n_rr16_PairErr : Nat := 19
def n_rr16_Relation : Nat := 20
def n_cf_OrderFor : Nat := 22
def n_rb_CopyInts : Nat := 23
def n_cf_CycleIn : Nat := 24
def n_rb_Has : Nat := 26
def n_rb_MayPrecede : Nat := 27
def n_rr16_RuleErr : Nat := 31
def n_rb_Ints : Nat := 32
def n_rb_Reads : Nat := 33
def n_rb_Writes : Nat := 34
def n_rb_Leaves : Nat := 37
def n_rl16_Design : Nat := 49
def n_cf_MeetingOf : Nat := 50
def n_cf_openTwo : Nat := 51
def n_cf_nw_shared : Nat := 52
def n_cf_sh_relation : Nat := 53
def n_rb_CopyPorts : Nat := 54
def n_rb_CopyNodes : Nat := 55
def n_rb_CopyOutputs : Nat := 56
def n_rb_CopyWrites : Nat := 57
def n_cf_open : Nat := 58
def n_rb_DesignErr : Nat := 59
def n_cf_within : Nat := 60
def n_strings_Join : Nat := 61
def n_rb_Within : Nat := 62
def n_cf_openRules : Nat := 63
def n_sl_Sorted_int : Nat := 64
def n_sl_Values_int_int : Nat := 65
def n_sl_IxF_int_int : Nat := 66
def n_cf_OrderFor_1 : Nat := 67
def n_cf_sh_isFirst : Nat := 68
def n_sl_Delete_int_int : Nat := 69
def n_cf_sh_around : Nat := 70
def n_cf_unless : Nat := 71
def n_cf_each_int : Nat := 72
def n_cf_nw_reads : Nat := 74
def n_cf_nw_writes : Nat := 75
def n_rb_LeavesBelow : Nat := 76
def n_cf_first : Nat := 77
def n_cf_nw_meet : Nat := 79
def n_cf_nw_bits : Nat := 81
def n_cf_nw_points : Nat := 82
def n_rb_Power : Nat := 83
def n_cf_sh_mayPrecede : Nat := 88
def n_cf_openGuards : Nat := 93
def n_sl_CoF_int_int : Nat := 94
def n_cf_sh_relation_1 : Nat := 95
def n_sl_Contains_int_int : Nat := 96
def n_ds_CkD : Nat := 97
def n_cf_open_1 : Nat := 98
def n_cf_nw_ruleErr : Nat := 99
def n_rb_IsName : Nat := 100
def n_rb_PortsErr : Nat := 101
def n_rb_ElementsErr : Nat := 102
def n_rb_NodesErr : Nat := 103
def n_rb_IsCondition : Nat := 104
def n_rb_WritesErr : Nat := 105
def n_rb_OutputsErr : Nat := 106
def n_cf_openRules_1 : Nat := 110
def n_sl_Collect_int : Nat := 111
def n_sl_Sort_int_int : Nat := 112
def n_sl_Values_int_int_1 : Nat := 113
def n_cf_sh_isFirst_1 : Nat := 114
def n_sl_Clone_int_int : Nat := 115
def n_cf_nw_used : Nat := 116
def n_sl_Compact_int_int : Nat := 117
def n_rb_Below : Nat := 118
def n_gr_ValuesOf : Nat := 119
def n_cf_nw_points_1 : Nat := 122
def n_sl_Backward_int_int : Nat := 123
def n_rb_Fits : Nat := 124
def n_cf_sh_common : Nat := 127
def n_sl_Index_int_int : Nat := 129
def n_ds_CkD_1 : Nat := 130
def n_ds_first : Nat := 131
def n_ds_unless : Nat := 132
def n_ds_isName : Nat := 133
def n_ds_CkD_2 : Nat := 134
def n_ds_each_api_Port : Nat := 135
def n_ds_CkD_2_1 : Nat := 136
def n_ds_names_err : Nat := 137
def n_ds_isWidth : Nat := 138
def n_ds_CkD_3 : Nat := 139
def n_ds_CkD_4 : Nat := 140
def n_ds_each_api_Element : Nat := 141
def n_ds_CkD_4_1 : Nat := 142
def n_ds_within : Nat := 143
def n_ds_fits : Nat := 144
def n_ds_CkD_5 : Nat := 145
def n_gr_CheckNodes : Nat := 146
def n_ds_leaves : Nat := 147
def n_ds_CkD_6 : Nat := 148
def n_ds_CkD_7 : Nat := 149
def n_ds_each_api_Rule : Nat := 150
def n_ds_CkD_7_1 : Nat := 151
def n_ds_isCondition : Nat := 152
def n_ds_each_api_Write : Nat := 153
def n_ds_CkD_7_1_1 : Nat := 154
def n_ds_writeErr : Nat := 155
def n_ds_CkD_8 : Nat := 156
def n_ds_CkD_9 : Nat := 157
def n_ds_each_api_Output : Nat := 158
def n_ds_CkD_9_1 : Nat := 159
def n_ds_isNode : Nat := 160
def n_ds_CkD_10 : Nat := 161
def n_ds_CkD_11 : Nat := 162
def n_ds_each_api_Attribute : Nat := 163
def n_ds_CkD_11_1 : Nat := 164
def n_ds_each_int : Nat := 165
def n_ds_CkD_11_1_1 : Nat := 166
def n_rb_IsWidth : Nat := 167
def n_rb_nodeErr : Nat := 168
def n_rb_IsNode : Nat := 169
def n_sl_AppendSeq_int_int : Nat := 172
def n_gr_LeavesOf : Nat := 175
def n_gr_first : Nat := 176
def n_gr_graphErr : Nat := 177
def n_gr_unless : Nat := 178
def n_gr_each_int : Nat := 179
def n_gr_ValuesOf_1 : Nat := 180
def n_gr_fits : Nat := 181
def n_gr_valued : Nat := 182
def n_sl_Backward_int_int_1 : Nat := 183
def n_cf_sh_common_1 : Nat := 186
def n_gr_CheckNodes_1 : Nat := 188
def n_gr_isWidth : Nat := 189
def n_gr_operations : Nat := 190
def n_gr_each_api_Node : Nat := 191
def n_gr_CheckNodes_2 : Nat := 192
def n_gr_within : Nat := 193
def n_gr_CheckNodes_2_1 : Nat := 194
def n_gr_valueErr : Nat := 195
def n_rb_ArgCount : Nat := 196
def n_rb_widthsFit : Nat := 197
def n_gr_namedErr : Nat := 211
def n_gr_leavesBelow : Nat := 212
def n_gr_applied : Nat := 213
def n_gr_op_1 : Nat := 214
def n_gr_anyWidth : Nat := 215
def n_gr_same : Nat := 216
def n_gr_op_2 : Nat := 217
def n_gr_mask : Nat := 218
def n_gr_binary : Nat := 219
def n_gr_op_3 : Nat := 220
def n_gr_op_4 : Nat := 221
def n_gr_op_5 : Nat := 222
def n_gr_op_6 : Nat := 223
def n_gr_op_7 : Nat := 224
def n_gr_op_8 : Nat := 225
def n_gr_relation : Nat := 226
def n_gr_op_9 : Nat := 227
def n_gr_op_10 : Nat := 228
def n_gr_op_11 : Nat := 229
def n_gr_signed : Nat := 230
def n_gr_op_12 : Nat := 231
def n_gr_op_13 : Nat := 232
def n_gr_op_14 : Nat := 233
def n_gr_op_15 : Nat := 234
def n_gr_op_16 : Nat := 235
def n_gr_op_17 : Nat := 236
def n_gr_extended : Nat := 237
def n_gr_op_18 : Nat := 238
def n_gr_op_19 : Nat := 239
def n_gr_shifted : Nat := 240
def n_gr_op_20 : Nat := 241
def n_gr_op_21 : Nat := 242
def n_gr_namedErr_1 : Nat := 248
def n_gr_below : Nat := 249
def n_gr_same_1 : Nat := 250
def n_gr_binary_1 : Nat := 251
def n_gr_compared : Nat := 252
def n_gr_relation_1 : Nat := 253
def n_gr_truth : Nat := 254
def n_sl_Backward_api_Node_api_Node : Nat := 256
def n_sl_Backward_api_Node_api_Node_1 : Nat := 257
@[simp] theorem y0_ : ¬ n_rl16_ConflictRelates = yieldF ∧ ¬ n_rl16_awake = yieldF ∧ ¬ n_rl16_Few = yieldF ∧ ¬ n_cf_RelationOf = yieldF ∧ ¬ n_rb_CopyDesign = yieldF ∧ ¬ n_cf_MatrixOf = yieldF ∧ ¬ n_rl16_DesignErr = yieldF ∧ ¬ n_rb_Lists = yieldF ∧ ¬ n_rr16_Matrix = yieldF ∧ ¬ n_cf_FormatMatrix = yieldF ∧ ¬ n_rb_CopyLists = yieldF ∧ ¬ n_rr16_FormatMatrix = yieldF ∧ ¬ n_rr16_PairErr = yieldF ∧ ¬ n_rr16_Relation = yieldF ∧ ¬ n_cf_OrderFor = yieldF ∧ ¬ n_rb_CopyInts = yieldF ∧ ¬ n_cf_CycleIn = yieldF ∧ ¬ n_rb_Has = yieldF ∧ ¬ n_rb_MayPrecede = yieldF ∧ ¬ n_rr16_RuleErr = yieldF ∧ ¬ n_rb_Ints = yieldF ∧ ¬ n_rb_Reads = yieldF ∧ ¬ n_rb_Writes = yieldF ∧ ¬ n_rb_Leaves = yieldF ∧ ¬ n_rl16_Design = yieldF ∧ ¬ n_cf_MeetingOf = yieldF ∧ ¬ n_cf_openTwo = yieldF ∧ ¬ n_cf_nw_shared = yieldF ∧ ¬ n_cf_sh_relation = yieldF ∧ ¬ n_rb_CopyPorts = yieldF ∧ ¬ n_rb_CopyNodes = yieldF ∧ ¬ n_rb_CopyOutputs = yieldF ∧ ¬ n_rb_CopyWrites = yieldF ∧ ¬ n_cf_open = yieldF ∧ ¬ n_rb_DesignErr = yieldF ∧ ¬ n_cf_within = yieldF ∧ ¬ n_strings_Join = yieldF ∧ ¬ n_rb_Within = yieldF ∧ ¬ n_cf_openRules = yieldF ∧ ¬ n_sl_Sorted_int = yieldF := by and_intros <;> decide
@[simp] theorem y1_ : ¬ n_sl_Values_int_int = yieldF ∧ ¬ n_sl_IxF_int_int = yieldF ∧ ¬ n_cf_OrderFor_1 = yieldF ∧ ¬ n_cf_sh_isFirst = yieldF ∧ ¬ n_sl_Delete_int_int = yieldF ∧ ¬ n_cf_sh_around = yieldF ∧ ¬ n_cf_unless = yieldF ∧ ¬ n_cf_each_int = yieldF ∧ ¬ n_cf_nw_reads = yieldF ∧ ¬ n_cf_nw_writes = yieldF ∧ ¬ n_rb_LeavesBelow = yieldF ∧ ¬ n_cf_first = yieldF ∧ ¬ n_cf_nw_meet = yieldF ∧ ¬ n_cf_nw_bits = yieldF ∧ ¬ n_cf_nw_points = yieldF ∧ ¬ n_rb_Power = yieldF ∧ ¬ n_cf_sh_mayPrecede = yieldF ∧ ¬ n_cf_openGuards = yieldF ∧ ¬ n_sl_CoF_int_int = yieldF ∧ ¬ n_cf_sh_relation_1 = yieldF ∧ ¬ n_sl_Contains_int_int = yieldF ∧ ¬ n_ds_CkD = yieldF ∧ ¬ n_cf_open_1 = yieldF ∧ ¬ n_cf_nw_ruleErr = yieldF ∧ ¬ n_rb_IsName = yieldF ∧ ¬ n_rb_PortsErr = yieldF ∧ ¬ n_rb_ElementsErr = yieldF ∧ ¬ n_rb_NodesErr = yieldF ∧ ¬ n_rb_IsCondition = yieldF ∧ ¬ n_rb_WritesErr = yieldF ∧ ¬ n_rb_OutputsErr = yieldF ∧ ¬ n_cf_openRules_1 = yieldF ∧ ¬ n_sl_Collect_int = yieldF ∧ ¬ n_sl_Sort_int_int = yieldF ∧ ¬ n_sl_Values_int_int_1 = yieldF ∧ ¬ n_cf_sh_isFirst_1 = yieldF ∧ ¬ n_sl_Clone_int_int = yieldF ∧ ¬ n_cf_nw_used = yieldF ∧ ¬ n_sl_Compact_int_int = yieldF ∧ ¬ n_rb_Below = yieldF := by and_intros <;> decide
@[simp] theorem y2_ : ¬ n_gr_ValuesOf = yieldF ∧ ¬ n_cf_nw_points_1 = yieldF ∧ ¬ n_sl_Backward_int_int = yieldF ∧ ¬ n_rb_Fits = yieldF ∧ ¬ n_cf_sh_common = yieldF ∧ ¬ n_sl_Index_int_int = yieldF ∧ ¬ n_ds_CkD_1 = yieldF ∧ ¬ n_ds_first = yieldF ∧ ¬ n_ds_unless = yieldF ∧ ¬ n_ds_isName = yieldF ∧ ¬ n_ds_CkD_2 = yieldF ∧ ¬ n_ds_each_api_Port = yieldF ∧ ¬ n_ds_CkD_2_1 = yieldF ∧ ¬ n_ds_names_err = yieldF ∧ ¬ n_ds_isWidth = yieldF ∧ ¬ n_ds_CkD_3 = yieldF ∧ ¬ n_ds_CkD_4 = yieldF ∧ ¬ n_ds_each_api_Element = yieldF ∧ ¬ n_ds_CkD_4_1 = yieldF ∧ ¬ n_ds_within = yieldF ∧ ¬ n_ds_fits = yieldF ∧ ¬ n_ds_CkD_5 = yieldF ∧ ¬ n_gr_CheckNodes = yieldF ∧ ¬ n_ds_leaves = yieldF ∧ ¬ n_ds_CkD_6 = yieldF ∧ ¬ n_ds_CkD_7 = yieldF ∧ ¬ n_ds_each_api_Rule = yieldF ∧ ¬ n_ds_CkD_7_1 = yieldF ∧ ¬ n_ds_isCondition = yieldF ∧ ¬ n_ds_each_api_Write = yieldF ∧ ¬ n_ds_CkD_7_1_1 = yieldF ∧ ¬ n_ds_writeErr = yieldF ∧ ¬ n_ds_CkD_8 = yieldF ∧ ¬ n_ds_CkD_9 = yieldF ∧ ¬ n_ds_each_api_Output = yieldF ∧ ¬ n_ds_CkD_9_1 = yieldF ∧ ¬ n_ds_isNode = yieldF ∧ ¬ n_ds_CkD_10 = yieldF ∧ ¬ n_ds_CkD_11 = yieldF ∧ ¬ n_ds_each_api_Attribute = yieldF := by and_intros <;> decide
@[simp] theorem y3_ : ¬ n_ds_CkD_11_1 = yieldF ∧ ¬ n_ds_each_int = yieldF ∧ ¬ n_ds_CkD_11_1_1 = yieldF ∧ ¬ n_rb_IsWidth = yieldF ∧ ¬ n_rb_nodeErr = yieldF ∧ ¬ n_rb_IsNode = yieldF ∧ ¬ n_sl_AppendSeq_int_int = yieldF ∧ ¬ n_gr_LeavesOf = yieldF ∧ ¬ n_gr_first = yieldF ∧ ¬ n_gr_graphErr = yieldF ∧ ¬ n_gr_unless = yieldF ∧ ¬ n_gr_each_int = yieldF ∧ ¬ n_gr_ValuesOf_1 = yieldF ∧ ¬ n_gr_fits = yieldF ∧ ¬ n_gr_valued = yieldF ∧ ¬ n_sl_Backward_int_int_1 = yieldF ∧ ¬ n_cf_sh_common_1 = yieldF ∧ ¬ n_gr_CheckNodes_1 = yieldF ∧ ¬ n_gr_isWidth = yieldF ∧ ¬ n_gr_operations = yieldF ∧ ¬ n_gr_each_api_Node = yieldF ∧ ¬ n_gr_CheckNodes_2 = yieldF ∧ ¬ n_gr_within = yieldF ∧ ¬ n_gr_CheckNodes_2_1 = yieldF ∧ ¬ n_gr_valueErr = yieldF ∧ ¬ n_rb_ArgCount = yieldF ∧ ¬ n_rb_widthsFit = yieldF ∧ ¬ n_gr_namedErr = yieldF ∧ ¬ n_gr_leavesBelow = yieldF ∧ ¬ n_gr_applied = yieldF ∧ ¬ n_gr_op_1 = yieldF ∧ ¬ n_gr_anyWidth = yieldF ∧ ¬ n_gr_same = yieldF ∧ ¬ n_gr_op_2 = yieldF ∧ ¬ n_gr_mask = yieldF ∧ ¬ n_gr_binary = yieldF ∧ ¬ n_gr_op_3 = yieldF ∧ ¬ n_gr_op_4 = yieldF ∧ ¬ n_gr_op_5 = yieldF ∧ ¬ n_gr_op_6 = yieldF := by and_intros <;> decide
@[simp] theorem y4_ : ¬ n_gr_op_7 = yieldF ∧ ¬ n_gr_op_8 = yieldF ∧ ¬ n_gr_relation = yieldF ∧ ¬ n_gr_op_9 = yieldF ∧ ¬ n_gr_op_10 = yieldF ∧ ¬ n_gr_op_11 = yieldF ∧ ¬ n_gr_signed = yieldF ∧ ¬ n_gr_op_12 = yieldF ∧ ¬ n_gr_op_13 = yieldF ∧ ¬ n_gr_op_14 = yieldF ∧ ¬ n_gr_op_15 = yieldF ∧ ¬ n_gr_op_16 = yieldF ∧ ¬ n_gr_op_17 = yieldF ∧ ¬ n_gr_extended = yieldF ∧ ¬ n_gr_op_18 = yieldF ∧ ¬ n_gr_op_19 = yieldF ∧ ¬ n_gr_shifted = yieldF ∧ ¬ n_gr_op_20 = yieldF ∧ ¬ n_gr_op_21 = yieldF ∧ ¬ n_gr_namedErr_1 = yieldF ∧ ¬ n_gr_below = yieldF ∧ ¬ n_gr_same_1 = yieldF ∧ ¬ n_gr_binary_1 = yieldF ∧ ¬ n_gr_compared = yieldF ∧ ¬ n_gr_relation_1 = yieldF ∧ ¬ n_gr_truth = yieldF ∧ ¬ n_sl_Backward_api_Node_api_Node = yieldF ∧ ¬ n_sl_Backward_api_Node_api_Node_1 = yieldF := by and_intros <;> decide
@[simp] abbrev oo (d : Nat) (x : IOp) : Ins := ⟨some d, none, x⟩
@[simp] abbrev og (d g : Nat) (b : Bool) (x : IOp) : Ins := ⟨some d, some (g, b), x⟩
@[simp] abbrev ou (x : IOp) : Ins := ⟨none, none, x⟩
@[simp] abbrev om (d t : Nat) : Ins := ⟨some d, none, .mv (.t t)⟩
@[simp] abbrev ki (n : Int) : Opd := .c (.int .i64 n)
@[simp] abbrev cv (f : Nat) (l : List Opd) : IOp := .callV true (.c (.fn f [])) l
@[simp] abbrev cw (f : Nat) (l : List Opd) : IOp := .callV false (.c (.fn f [])) l
def t_int : Nat := 3
def t_bool : Nat := 4
def t_string : Nat := 9
def t_api_Errno : Nat := 32
def t_L_int : Nat := 46
def t_api_Node : Nat := 76
def t_api_Rule : Nat := 79
def t_api_Attribute : Nat := 81
def t_api_Element : Nat := 112
def t_api_Write : Nat := 117
def t_api_Port : Nat := 120
def t_api_Output : Nat := 137
def k_102_101_98_97_99 : ByteArray := ⟨#[102, 101, 98, 97, 99]⟩
def k_47 : ByteArray := ⟨#[47]⟩
def k_63 : ByteArray := ⟨#[63]⟩

variable {C : Call} {L : Loop} {π : Id} {k0 : List Id} {e : Env} {s : Sto}
def c_rl16_ConflictRelates : FnIR := ⟨117,
 (.sq (.op 0 [oo 3 (.box (.t 0) 7), oo 6 (.mv (.c (.bool false)))] none)
 (.sq (.sq (.op 0 [oo 15 (cv n_rl16_awake []), oo 16 (.un .not (.t 15))] none)
 (.cd (.t 16)
 (.sq (.op 0 [oo 6 (.mv (.c (.bool false)))] none)
 .rt)
 .sk))
 (.sq (.sq (.op 0 [oo 17 (.ld (.t 3) 7 true), oo 18 (cv n_rl16_Few [(.t 17)]), oo 19 (.un .not (.t 18))] none)
 (.cd (.t 19)
 (.sq (.op 0 [oo 6 (.mv (.c (.bool true)))] none)
 .rt)
 .sk))
 (.sq (.op 0 [oo 21 (.ld (.t 3) 7 true), oo 22 (cw n_rb_CopyDesign [(.t 21)]), om 23 1, om 24 2, oo 25 (cv n_cf_RelationOf [(.t 22), (.t 23), (.t 24)]), om 20 25, oo 26 (.ext (.t 20) 0), oo 27 (.ext (.t 20) 1), om 7 26, om 8 27] (some [1, 2, 3, 7, 8]))
 (.sq (.op 0 [oo 29 (.ld (.t 3) 7 true), oo 30 (cw n_rb_CopyDesign [(.t 29)]), oo 31 (cw n_cf_MatrixOf [(.t 30)]), om 28 31, oo 32 (.ext (.t 28) 0), oo 33 (.ext (.t 28) 1), om 9 32, om 10 33] (some [1, 2, 3, 7, 8, 9, 10]))
 (.sq (.op 0 [oo 34 (.ld (.t 3) 7 true), oo 35 (cv n_rl16_DesignErr [(.t 34)]), om 11 35] none)
 (.sq (.sq (.op 0 [om 36 11, oo 37 (.bin .neq (.t 36) (ki 0))] none)
 (.cd (.t 37)
 (.sq (.op 0 [om 38 8, om 39 11, oo 40 (.bin .eql (.t 38) (.t 39)), om 41 40, og 42 41 true (.mv (.t 10)), og 43 41 true (.mv (.t 11)), og 44 41 true (.bin .eql (.t 42) (.t 43)), oo 45 (.pick (.t 41) (.t 44) (.c (.bool false))), om 46 45, og 47 46 true (.mv (.t 7)), og 48 46 true (.bin .eql (.t 47) (ki 0)), oo 49 (.pick (.t 46) (.t 48) (.c (.bool false))), om 50 49, og 51 50 true (.mv (.t 9)), og 52 50 true (.len false (.t 51)), og 53 50 true (.bin .eql (.t 52) (ki 0)), oo 54 (.pick (.t 50) (.t 53) (.c (.bool false))), om 6 54] (some [6]))
 .rt)
 .sk))
 (.sq (.sq (.op 0 [om 55 10, oo 56 (.bin .neq (.t 55) (ki 0)), om 57 56, og 58 57 false (.mv (.t 9)), og 59 57 false (.ld (.t 3) 7 true), og 60 57 false (cw n_rr16_Matrix [(.t 59)]), og 61 57 false (cv n_rb_Lists [(.t 58), (.t 60)]), og 62 57 false (.un .not (.t 61)), oo 63 (.pick (.t 57) (.c (.bool true)) (.t 62)), om 64 63, og 65 64 false (.mv (.t 9)), og 66 64 false (cw n_rb_CopyLists [(.t 65)]), og 67 64 false (cv n_cf_FormatMatrix [(.t 66)]), og 68 64 false (.mv (.t 9)), og 69 64 false (cv n_rr16_FormatMatrix [(.t 68)]), og 70 64 false (.bin .neq (.t 67) (.t 69)), oo 71 (.pick (.t 64) (.c (.bool true)) (.t 70))] (some [1, 2, 3, 7, 8, 71]))
 (.cd (.t 71)
 (.sq (.op 0 [oo 6 (.mv (.c (.bool false)))] none)
 .rt)
 .sk))
 (.sq (.sq (.op 0 [oo 72 (.ld (.t 3) 7 true), om 73 1, om 74 2, oo 75 (cv n_rr16_PairErr [(.t 72), (.t 73), (.t 74)]), om 11 75] (some [1, 2, 3, 7, 8, 11]))
 (.sq (.op 0 [om 76 11, oo 77 (.bin .neq (.t 76) (ki 0))] none)
 (.cd (.t 77)
 (.sq (.op 0 [om 78 8, om 79 11, oo 80 (.bin .eql (.t 78) (.t 79)), om 81 80, og 82 81 true (.mv (.t 7)), og 83 81 true (.bin .eql (.t 82) (ki 0)), oo 84 (.pick (.t 81) (.t 83) (.c (.bool false))), om 6 84] (some [6]))
 .rt)
 .sk)))
 (.sq (.op 0 [oo 86 (.ld (.t 3) 7 true), oo 87 (cw n_rb_CopyDesign [(.t 86)]), om 88 2, om 89 1, oo 90 (cv n_cf_RelationOf [(.t 87), (.t 88), (.t 89)]), om 85 90, oo 91 (.ext (.t 85) 0), oo 92 (.ext (.t 85) 1), om 12 91, om 13 92] (some [1, 2, 3, 7, 8, 12, 13]))
 (.sq (.op 0 [om 93 7, om 14 93] none)
 (.sq (.sq (.op 0 [om 94 7, oo 95 (.bin .eql (.t 94) (ki 2))] none)
 (.cd (.t 95)
 (.op 0 [oo 14 (.mv (ki 3))] none)
 .sk))
 (.sq (.sq (.op 0 [om 96 7, oo 97 (.bin .eql (.t 96) (ki 3))] none)
 (.cd (.t 97)
 (.op 0 [oo 14 (.mv (ki 2))] none)
 .sk))
 (.sq (.op 0 [om 98 8, oo 99 (.bin .eql (.t 98) (ki 0)), om 100 99, og 101 100 true (.mv (.t 7)), og 102 100 true (.ld (.t 3) 7 true), og 103 100 true (.mv (.t 1)), og 104 100 true (.mv (.t 2)), og 105 100 true (cv n_rr16_Relation [(.t 102), (.t 103), (.t 104)]), og 106 100 true (.bin .eql (.t 101) (.t 105)), oo 107 (.pick (.t 100) (.t 106) (.c (.bool false))), om 108 107, og 109 108 true (.mv (.t 13)), og 110 108 true (.bin .eql (.t 109) (ki 0)), oo 111 (.pick (.t 108) (.t 110) (.c (.bool false))), om 112 111, og 113 112 true (.mv (.t 12)), og 114 112 true (.mv (.t 14)), og 115 112 true (.bin .eql (.t 113) (.t 114)), oo 116 (.pick (.t 112) (.t 115) (.c (.bool false))), om 6 116] (some [6]))
 .rt)))))))))))))),
 [.t 6]⟩
def c_rl16_awake : FnIR := ⟨76,
 (.sq (.op 0 [oo 0 (.mv (.c (.bool false)))] none)
 (.sq (.op 0 [oo 12 (cv n_rl16_Design []), oo 13 (cv n_cf_MatrixOf [(.t 12)]), om 11 13, oo 14 (.ext (.t 11) 0), oo 15 (.ext (.t 11) 1), om 1 14, om 2 15] (some [1, 2]))
 (.sq (.op 0 [oo 17 (cv n_rl16_Design []), oo 18 (.bsp t_int 1 false [.int .i64 0] 2 [(0, (ki 0)), (1, (ki 1))]), oo 19 (cv n_cf_OrderFor [(.t 17), (.t 18)]), om 16 19, oo 20 (.ext (.t 16) 0), oo 21 (.ext (.t 16) 1), om 3 20, om 4 21] (some [1, 2, 3, 4]))
 (.sq (.op 0 [oo 23 (cv n_rl16_Design []), oo 24 (.bsp t_int 1 false [.int .i64 0] 3 [(0, (ki 0)), (1, (ki 1)), (2, (ki 2))]), oo 25 (cv n_cf_CycleIn [(.t 23), (.t 24)]), om 22 25, oo 26 (.ext (.t 22) 0), oo 27 (.ext (.t 22) 1), om 5 26, om 6 27] (some [1, 2, 3, 4, 5, 6]))
 (.sq (.op 0 [oo 29 (cv n_rl16_Design []), oo 30 (cv n_cf_MeetingOf [(.t 29), (ki 0), (ki 2)]), om 28 30, oo 31 (.ext (.t 28) 0), oo 32 (.ext (.t 28) 1), om 7 31, om 8 32] (some [1, 2, 3, 4, 5, 6, 7, 8]))
 (.sq (.op 0 [oo 34 (cv n_rl16_Design []), oo 35 (cv n_cf_MeetingOf [(.t 34), (ki 0), (ki 1)]), om 33 35, oo 36 (.ext (.t 33) 0), oo 37 (.ext (.t 33) 1), om 9 36, om 10 37] (some [1, 2, 3, 4, 5, 6, 7, 8, 10]))
 (.sq (.op 0 [om 38 2, oo 39 (.bin .eql (.t 38) (ki 0)), om 40 39, og 41 40 true (.mv (.t 1)), og 42 40 true (cv n_cf_FormatMatrix [(.t 41)]), og 43 40 true (.bin .eql (.t 42) (.c (.str ⟨#[99, 97, 99, 47, 98, 99, 99, 47, 99, 99, 99]⟩))), oo 44 (.pick (.t 40) (.t 43) (.c (.bool false))), om 45 44, og 46 45 true (.mv (.t 4)), og 47 45 true (.bin .eql (.t 46) (ki 0)), oo 48 (.pick (.t 45) (.t 47) (.c (.bool false))), om 49 48, og 50 49 true (.mv (.t 3)), og 51 49 true (.bsp t_int 1 false [.int .i64 0] 2 [(0, (ki 1)), (1, (ki 0))]), og 52 49 true (cv n_rb_Ints [(.t 50), (.t 51)]), oo 53 (.pick (.t 49) (.t 52) (.c (.bool false))), om 54 53, og 55 54 true (.mv (.t 6)), og 56 54 true (.bin .eql (.t 55) (ki 0)), oo 57 (.pick (.t 54) (.t 56) (.c (.bool false))), om 58 57, og 59 58 true (.mv (.t 5)), og 60 58 true (.bsp t_int 1 false [.int .i64 0] 2 [(0, (ki 0)), (1, (ki 2))]), og 61 58 true (cv n_rb_Ints [(.t 59), (.t 60)]), oo 62 (.pick (.t 58) (.t 61) (.c (.bool false))), om 63 62, og 64 63 true (.mv (.t 8)), og 65 63 true (.bin .eql (.t 64) (ki 0)), oo 66 (.pick (.t 63) (.t 65) (.c (.bool false))), om 67 66, og 68 67 true (.mv (.t 7)), og 69 67 true (.bsp t_int 1 false [.int .i64 0] 3 [(0, (ki 1)), (1, (ki 0)), (2, (ki 0))]), og 70 67 true (cv n_rb_Ints [(.t 68), (.t 69)]), oo 71 (.pick (.t 67) (.t 70) (.c (.bool false))), om 72 71, og 73 72 true (.mv (.t 10)), og 74 72 true (.bin .eql (.t 73) (ki 12)), oo 75 (.pick (.t 72) (.t 74) (.c (.bool false))), om 0 75] (some [0]))
 .rt))))))),
 [.t 0]⟩
def b_rl16_Few_L0 : IR :=
 (.sq (.sq (.op 0 [om 40 3, oo 41 (.fa (.t 1) 3), oo 42 (.ld (.t 41) 1 false), oo 43 (.len false (.t 42)), oo 44 (.bin .lss (.t 40) (.t 43))] (some [1, 3, 44]))
 (.cd (.t 44)
 .sk
 (.ex 0)))
 (.sq (.bk 1 (.sq (.op 0 [oo 47 (.fa (.t 1) 3), oo 48 (.ld (.t 47) 1 false), om 49 3, oo 50 (.ia (.t 48) (.t 49) 4), oo 51 (.fa (.t 50) 2), oo 52 (.ld (.t 51) 1 false), oo 53 (.len false (.t 52)), oo 54 (.bin .gtr (.t 53) (ki 4))] (some [1, 3, 54]))
 (.cd (.t 54)
 (.sq (.op 0 [oo 2 (.mv (.c (.bool false)))] none)
 .rt)
 .sk)))
 (.op 0 [om 45 3, oo 46 (.bin .add (.t 45) (ki 1)), om 3 46] none)))
def c_rl16_Few_L0 : IR := b_rl16_Few_L0
theorem u_rl16_Few_L0 : evC C L π k0 c_rl16_Few_L0 e s = evC C L π k0 b_rl16_Few_L0 e s := rfl
def b_rl16_Few_L1 : IR :=
 (.sq (.sq (.op 0 [om 55 4, oo 56 (.fa (.t 1) 4), oo 57 (.ld (.t 56) 1 false), oo 58 (.len false (.t 57)), oo 59 (.bin .lss (.t 55) (.t 58))] (some [1, 4, 59]))
 (.cd (.t 59)
 .sk
 (.ex 2)))
 (.sq (.bk 3 (.sq (.op 0 [oo 62 (.fa (.t 1) 4), oo 63 (.ld (.t 62) 1 false), om 64 4, oo 65 (.ia (.t 63) (.t 64) 3), oo 66 (.fa (.t 65) 2), oo 67 (.ld (.t 66) 1 false), oo 68 (.len false (.t 67)), oo 69 (.bin .gtr (.t 68) (ki 6))] (some [1, 4, 69]))
 (.cd (.t 69)
 (.sq (.op 0 [oo 2 (.mv (.c (.bool false)))] none)
 .rt)
 .sk)))
 (.op 0 [om 60 4, oo 61 (.bin .add (.t 60) (ki 1)), om 4 61] none)))
def c_rl16_Few_L1 : IR := b_rl16_Few_L1
theorem u_rl16_Few_L1 : evC C L π k0 c_rl16_Few_L1 e s = evC C L π k0 b_rl16_Few_L1 e s := rfl
def b_rl16_Few_L2 : IR :=
 (.sq (.sq (.op 0 [om 70 5, oo 71 (.fa (.t 1) 6), oo 72 (.ld (.t 71) 1 false), oo 73 (.len false (.t 72)), oo 74 (.bin .lss (.t 70) (.t 73))] (some [1, 5, 74]))
 (.cd (.t 74)
 .sk
 (.ex 4)))
 (.sq (.bk 5 (.sq (.op 0 [oo 77 (.fa (.t 1) 6), oo 78 (.ld (.t 77) 1 false), om 79 5, oo 80 (.ia (.t 78) (.t 79) 2), oo 81 (.fa (.t 80) 1), oo 82 (.ld (.t 81) 1 false), oo 83 (.len false (.t 82)), oo 84 (.bin .gtr (.t 83) (ki 8))] (some [1, 5, 84]))
 (.cd (.t 84)
 (.sq (.op 0 [oo 2 (.mv (.c (.bool false)))] none)
 .rt)
 .sk)))
 (.op 0 [om 75 5, oo 76 (.bin .add (.t 75) (ki 1)), om 5 76] none)))
def c_rl16_Few_L2 : IR := b_rl16_Few_L2
theorem u_rl16_Few_L2 : evC C L π k0 c_rl16_Few_L2 e s = evC C L π k0 b_rl16_Few_L2 e s := rfl
def c_rl16_Few : FnIR := ⟨85,
 (.sq (.op 0 [oo 1 (.box (.t 0) 7), oo 2 (.mv (.c (.bool false)))] none)
 (.sq (.sq (.op 0 [oo 6 (.fa (.t 1) 3), oo 7 (.ld (.t 6) 1 false), oo 8 (.len false (.t 7)), oo 9 (.bin .gtr (.t 8) (ki 30)), om 10 9, og 11 10 false (.fa (.t 1) 1), og 12 10 false (.ld (.t 11) 1 false), og 13 10 false (.len false (.t 12)), og 14 10 false (.bin .gtr (.t 13) (ki 8)), oo 15 (.pick (.t 10) (.c (.bool true)) (.t 14)), om 16 15, og 17 16 false (.fa (.t 1) 2), og 18 16 false (.ld (.t 17) 1 false), og 19 16 false (.len false (.t 18)), og 20 16 false (.bin .gtr (.t 19) (ki 10)), oo 21 (.pick (.t 16) (.c (.bool true)) (.t 20)), om 22 21, og 23 22 false (.fa (.t 1) 4), og 24 22 false (.ld (.t 23) 1 false), og 25 22 false (.len false (.t 24)), og 26 22 false (.bin .gtr (.t 25) (ki 7)), oo 27 (.pick (.t 22) (.c (.bool true)) (.t 26)), om 28 27, og 29 28 false (.fa (.t 1) 5), og 30 28 false (.ld (.t 29) 1 false), og 31 28 false (.len false (.t 30)), og 32 28 false (.bin .gtr (.t 31) (ki 8)), oo 33 (.pick (.t 28) (.c (.bool true)) (.t 32)), om 34 33, og 35 34 false (.fa (.t 1) 6), og 36 34 false (.ld (.t 35) 1 false), og 37 34 false (.len false (.t 36)), og 38 34 false (.bin .gtr (.t 37) (ki 6)), oo 39 (.pick (.t 34) (.c (.bool true)) (.t 38))] (some [1, 39]))
 (.cd (.t 39)
 (.sq (.op 0 [oo 2 (.mv (.c (.bool false)))] none)
 .rt)
 .sk))
 (.sq (.sq (.op 0 [oo 3 (.mv (ki 0))] none)
 (.kp [1] [2] (.bk 0 (.lp [] [1, 3] c_rl16_Few_L0))))
 (.sq (.sq (.op 0 [oo 4 (.mv (ki 0))] none)
 (.kp [1] [2] (.bk 2 (.lp [] [1, 4] c_rl16_Few_L1))))
 (.sq (.sq (.op 0 [oo 5 (.mv (ki 0))] none)
 (.kp [] [2] (.bk 4 (.lp [] [1, 5] c_rl16_Few_L2))))
 (.sq (.op 0 [oo 2 (.mv (.c (.bool true)))] none)
 .rt)))))),
 [.t 2]⟩
def c_cf_RelationOf : FnIR := ⟨25,
 (.sq (.op 0 [oo 3 (.box (.t 0) 7), oo 6 (.mv (ki 0)), oo 7 (.mv (ki 0))] none)
 (.sq (.op 0 [oo 11 (.ld (.t 3) 7 true), om 12 1, om 13 2, oo 14 (cv n_cf_openTwo [(.t 11), (.t 12), (.t 13)]), om 10 14, oo 15 (.ext (.t 10) 0), oo 16 (.ext (.t 10) 1), oo 8 (.alloc [.str ⟨#[]⟩, .sl 2 (some true) [], .sl 5 (some true) [], .sl 4 (some true) [], .sl 3 (some true) [], .sl 2 (some true) [], .sl 2 (some true) [], .sl 1 (some true) []]), ou (.st (.t 8) (.t 15) 8), om 9 16] (some [1, 2, 8, 9]))
 (.sq (.sq (.op 0 [om 17 9, oo 18 (.bin .neq (.t 17) (ki 0))] none)
 (.cd (.t 18)
 (.sq (.op 0 [om 19 9, oo 6 (.mv (ki 0)), om 7 19] none)
 .rt)
 .sk))
 (.sq (.op 0 [oo 20 (.ld (.t 8) 8 true), oo 21 (cw n_cf_nw_shared [(.t 20)]), om 22 1, om 23 2, oo 24 (cv n_cf_sh_relation [(.t 21), (.t 22), (.t 23)]), om 6 24, oo 7 (.mv (ki 0))] (some [6, 7]))
 .rt)))),
 [.t 6, .t 7]⟩
def b_rb_CopyDesign_L0 : IR :=
 (.sq (.sq (.op 0 [om 28 4, oo 29 (.fa (.t 1) 4), oo 30 (.ld (.t 29) 1 false), oo 31 (.len false (.t 30)), oo 32 (.bin .lss (.t 28) (.t 31))] (some [1, 2, 3, 4, 32]))
 (.cd (.t 32)
 .sk
 (.ex 0)))
 (.sq (.bk 1 (.sq (.op 0 [om 35 3, om 36 4, oo 37 (.fa (.t 1) 4), oo 38 (.ld (.t 37) 1 false), om 39 4, oo 40 (.ia (.t 38) (.t 39) 3), oo 41 (.ld (.t 40) 3 true), oo 42 (.ia (.t 35) (.t 36) 3), ou (.st (.t 42) (.t 41) 3)] (some [1, 2, 3, 4]))
 (.op 0 [om 43 3, om 44 4, oo 45 (.fa (.t 1) 4), oo 46 (.ld (.t 45) 1 false), om 47 4, oo 48 (.ia (.t 46) (.t 47) 3), oo 49 (.fa (.t 48) 2), oo 50 (.ld (.t 49) 1 false), oo 51 (cw n_rb_CopyWrites [(.t 50)]), oo 52 (.ia (.t 43) (.t 44) 3), oo 53 (.fa (.t 52) 2), ou (.st (.t 53) (.t 51) 1)] (some [1, 2, 3, 4]))))
 (.op 0 [om 33 4, oo 34 (.bin .add (.t 33) (ki 1)), om 4 34] none)))
def c_rb_CopyDesign_L0 : IR := b_rb_CopyDesign_L0
theorem u_rb_CopyDesign_L0 : evC C L π k0 c_rb_CopyDesign_L0 e s = evC C L π k0 b_rb_CopyDesign_L0 e s := rfl
def b_rb_CopyDesign_L1 : IR :=
 (.sq (.sq (.op 0 [om 58 6, oo 59 (.fa (.t 1) 6), oo 60 (.ld (.t 59) 1 false), oo 61 (.len false (.t 60)), oo 62 (.bin .lss (.t 58) (.t 61))] (some [1, 2, 3, 5, 6, 62]))
 (.cd (.t 62)
 .sk
 (.ex 2)))
 (.sq (.bk 3 (.op 15 [om 65 5, om 66 6, oo 67 (.fa (.t 1) 6), oo 68 (.ld (.t 67) 1 false), om 69 6, oo 70 (.ia (.t 68) (.t 69) 2), oo 71 (.fa (.t 70) 0), oo 72 (.ld (.t 71) 1 false), oo 73 (.fa (.t 1) 6), oo 74 (.ld (.t 73) 1 false), om 75 6, oo 76 (.ia (.t 74) (.t 75) 2), oo 77 (.fa (.t 76) 1), oo 78 (.ld (.t 77) 1 false), oo 79 (cw n_rb_CopyInts [(.t 78)]), oo 80 (.build [.int .i64 0, .sl 1 (some true) []] [(0, 1, (.t 72)), (1, 1, (.t 79))]), oo 81 (.ia (.t 65) (.t 66) 2), ou (.st (.t 81) (.t 80) 2)] (some [1, 2, 3, 5, 6])))
 (.op 0 [om 63 6, oo 64 (.bin .add (.t 63) (ki 1)), om 6 64] none)))
def c_rb_CopyDesign_L1 : IR := b_rb_CopyDesign_L1
theorem u_rb_CopyDesign_L1 : evC C L π k0 c_rb_CopyDesign_L1 e s = evC C L π k0 b_rb_CopyDesign_L1 e s := rfl
def c_rb_CopyDesign : FnIR := ⟨87,
 (.sq (.op 0 [oo 1 (.box (.t 0) 7), oo 2 (.alloc [.str ⟨#[]⟩, .sl 2 (some true) [], .sl 5 (some true) [], .sl 4 (some true) [], .sl 3 (some true) [], .sl 2 (some true) [], .sl 2 (some true) []])] none)
 (.sq (.op 10 [oo 7 (.fa (.t 1) 1), oo 8 (.ld (.t 7) 1 false), oo 9 (cw n_rb_CopyPorts [(.t 8)]), oo 10 (.fa (.t 1) 3), oo 11 (.ld (.t 10) 1 false), oo 12 (cw n_rb_CopyNodes [(.t 11)]), oo 13 (.fa (.t 1) 5), oo 14 (.ld (.t 13) 1 false), oo 15 (cw n_rb_CopyOutputs [(.t 14)]), oo 16 (.fa (.t 1) 1), ou (.st (.t 16) (.t 9) 1), oo 17 (.fa (.t 1) 3), ou (.st (.t 17) (.t 12) 1), oo 18 (.fa (.t 1) 5), ou (.st (.t 18) (.t 15) 1)] (some [1, 2]))
 (.sq (.op 0 [oo 19 (.bsl t_api_Element 5 true [.str ⟨#[]⟩, .int .i64 0, .int .i64 0, .int .i64 0, .int .i64 0] 0 []), oo 20 (.fa (.t 1) 2), oo 21 (.ld (.t 20) 1 false), oo 22 (.app (.t 19) (.t 21) t_api_Element 5), oo 23 (.fa (.t 1) 2), ou (.st (.t 23) (.t 22) 1)] (some [1, 2]))
 (.sq (.op 0 [oo 24 (.fa (.t 1) 4), oo 25 (.ld (.t 24) 1 false), oo 26 (.len false (.t 25)), oo 27 (.mks t_api_Rule 3 true [.str ⟨#[]⟩, .int .i64 0, .sl 3 (some true) []] (.t 26) (.t 26)), om 3 27] (some [1, 2, 3]))
 (.sq (.sq (.op 0 [oo 4 (.mv (ki 0))] none)
 (.kp [1, 2, 3] [2] (.bk 0 (.lp [] [1, 2, 3, 4] c_rb_CopyDesign_L0))))
 (.sq (.op 0 [oo 54 (.fa (.t 1) 6), oo 55 (.ld (.t 54) 1 false), oo 56 (.len false (.t 55)), oo 57 (.mks t_api_Attribute 2 true [.int .i64 0, .sl 1 (some true) []] (.t 56) (.t 56)), om 5 57] (some [1, 2, 3, 5]))
 (.sq (.sq (.op 0 [oo 6 (.mv (ki 0))] none)
 (.kp [1, 2, 3, 5] [2] (.bk 2 (.lp [] [1, 2, 3, 5, 6] c_rb_CopyDesign_L1))))
 (.sq (.op 0 [om 82 3, om 83 5, oo 84 (.fa (.t 1) 4), ou (.st (.t 84) (.t 82) 1), oo 85 (.fa (.t 1) 6), ou (.st (.t 85) (.t 83) 1)] (some [1, 2]))
 (.sq (.op 0 [oo 86 (.ld (.t 1) 7 true), ou (.st (.t 2) (.t 86) 7)] none)
 .rt))))))))),
 [.c 2 7 true]⟩
def b_cf_MatrixOf_L1 : IR :=
 (.sq (.op 0 [oo 31 (.bin .lss (.t 30) (.t 29))] none)
 (.sq (.cd (.t 31)
 .sk
 (.ex 2))
 (.sq (.bk 3 (.sq (.op 0 [om 32 30, om 10 32] none)
 (.op 0 [om 33 9, oo 34 (.ld (.t 6) 10 true), om 35 8, om 36 10, oo 37 (cv n_cf_sh_relation [(.t 34), (.t 35), (.t 36)]), oo 38 (.bsl t_int 1 false [.int .i64 0] 1 [(0, (.t 37))]), oo 39 (.app (.t 33) (.t 38) t_int 1), om 9 39] (some [1, 6, 7, 8, 9, 23, 24, 29, 30]))))
 (.op 0 [oo 40 (.bin .add (.t 30) (ki 1)), om 30 40] none))))
def c_cf_MatrixOf_L1 : IR := b_cf_MatrixOf_L1
theorem u_cf_MatrixOf_L1 : evC C L π k0 c_cf_MatrixOf_L1 e s = evC C L π k0 b_cf_MatrixOf_L1 e s := rfl
def b_cf_MatrixOf_L0 : IR :=
 (.sq (.op 0 [oo 25 (.bin .lss (.t 24) (.t 23))] none)
 (.sq (.cd (.t 25)
 .sk
 (.ex 0))
 (.sq (.bk 1 (.sq (.op 0 [om 26 24, om 8 26] none)
 (.sq (.op 0 [oo 9 (.mv (.c (.sl 1 (some true) [])))] none)
 (.sq (.sq (.op 0 [oo 27 (.fa (.t 1) 4), oo 28 (.ld (.t 27) 1 false), oo 29 (.len false (.t 28)), oo 30 (.mv (ki 0))] (some [1, 6, 7, 8, 9, 23, 24, 29, 30]))
 (.kp [1, 6, 7, 9, 23, 24] [2, 3] (.bk 2 (.lp [(t_int, .inl 9)] [1, 6, 7, 8, 9, 23, 24, 29, 30] c_cf_MatrixOf_L1))))
 (.op 0 [om 41 7, om 42 9, oo 43 (.bsl t_L_int 1 false [.sl 1 (some true) []] 1 [(0, (.t 42))]), oo 44 (.app (.t 41) (.t 43) t_L_int 1), om 7 44] (some [1, 6, 7, 23, 24]))))))
 (.op 0 [oo 45 (.bin .add (.t 24) (ki 1)), om 24 45] none))))
def c_cf_MatrixOf_L0 : IR := b_cf_MatrixOf_L0
theorem u_cf_MatrixOf_L0 : evC C L π k0 c_cf_MatrixOf_L0 e s = evC C L π k0 b_cf_MatrixOf_L0 e s := rfl
def c_cf_MatrixOf : FnIR := ⟨47,
 (.sq (.op 0 [oo 1 (.box (.t 0) 7), oo 2 (.mv (.c (.sl 1 (some true) []))), oo 3 (.mv (ki 0))] none)
 (.sq (.op 0 [oo 12 (.ld (.t 1) 7 true), oo 13 (cv n_cf_open [(.t 12), (.c (.sl 1 (some true) []))]), om 11 13, oo 14 (.ext (.t 11) 0), oo 15 (.ext (.t 11) 1), oo 4 (.alloc [.str ⟨#[]⟩, .sl 2 (some true) [], .sl 5 (some true) [], .sl 4 (some true) [], .sl 3 (some true) [], .sl 2 (some true) [], .sl 2 (some true) [], .sl 1 (some true) []]), ou (.st (.t 4) (.t 14) 8), om 5 15] (some [1, 4, 5]))
 (.sq (.sq (.op 0 [om 16 5, oo 17 (.bin .neq (.t 16) (ki 0))] none)
 (.cd (.t 17)
 (.sq (.op 0 [om 18 5, oo 2 (.mv (.c (.sl 1 (some true) []))), om 3 18] none)
 .rt)
 .sk))
 (.sq (.op 0 [oo 19 (.ld (.t 4) 8 true), oo 20 (cw n_cf_nw_shared [(.t 19)]), oo 6 (.alloc [.str ⟨#[]⟩, .sl 2 (some true) [], .sl 5 (some true) [], .sl 4 (some true) [], .sl 3 (some true) [], .sl 2 (some true) [], .sl 2 (some true) [], .sl 1 (some true) [], .sl 1 (some true) [], .sl 1 (some true) []]), ou (.st (.t 6) (.t 20) 10)] (some [1, 6]))
 (.sq (.op 0 [oo 7 (.mv (.c (.sl 1 (some true) [])))] none)
 (.sq (.sq (.op 0 [oo 21 (.fa (.t 1) 4), oo 22 (.ld (.t 21) 1 false), oo 23 (.len false (.t 22)), oo 24 (.mv (ki 0))] (some [1, 6, 7, 23, 24]))
 (.kp [7] [2, 3] (.bk 0 (.lp [(t_L_int, .inl 7)] [1, 6, 7, 23, 24] c_cf_MatrixOf_L0))))
 (.sq (.op 0 [om 46 7, om 2 46, oo 3 (.mv (ki 0))] none)
 .rt))))))),
 [.t 2, .t 3]⟩
def c_rl16_DesignErr : FnIR := ⟨11,
 (.sq (.op 0 [oo 1 (.box (.t 0) 7), oo 2 (.mv (ki 0))] none)
 (.sq (.op 0 [oo 6 (.ld (.t 1) 7 true), oo 7 (cv n_rb_DesignErr [(.t 6)]), om 5 7, oo 8 (.ext (.t 5) 0), oo 9 (.ext (.t 5) 1), om 3 8, om 4 9] (some [4]))
 (.sq (.op 0 [om 10 4, om 2 10] none)
 .rt))),
 [.t 2]⟩
def b_rb_Lists_L0 : IR :=
 (.sq (.sq (.op 0 [om 11 5, om 12 0, oo 13 (.len false (.t 12)), oo 14 (.bin .lss (.t 11) (.t 13))] (some [0, 1, 5, 14]))
 (.cd (.t 14)
 .sk
 (.ex 0)))
 (.sq (.bk 1 (.sq (.op 8 [om 17 0, om 18 5, oo 19 (.ia (.t 17) (.t 18) 1), oo 20 (.ld (.t 19) 1 false), om 21 1, om 22 5, oo 23 (.ia (.t 21) (.t 22) 1), oo 24 (.ld (.t 23) 1 false), oo 25 (cv n_rb_Ints [(.t 20), (.t 24)]), oo 26 (.un .not (.t 25))] (some [0, 1, 5, 26]))
 (.cd (.t 26)
 (.sq (.op 0 [oo 4 (.mv (.c (.bool false)))] none)
 .rt)
 .sk)))
 (.op 0 [om 15 5, oo 16 (.bin .add (.t 15) (ki 1)), om 5 16] none)))
def c_rb_Lists_L0 : IR := b_rb_Lists_L0
theorem u_rb_Lists_L0 : evC C L π k0 c_rb_Lists_L0 e s = evC C L π k0 b_rb_Lists_L0 e s := rfl
def c_rb_Lists : FnIR := ⟨27,
 (.sq (.op 0 [oo 4 (.mv (.c (.bool false)))] none)
 (.sq (.sq (.op 0 [om 6 0, oo 7 (.len false (.t 6)), om 8 1, oo 9 (.len false (.t 8)), oo 10 (.bin .neq (.t 7) (.t 9))] (some [0, 1, 10]))
 (.cd (.t 10)
 (.sq (.op 0 [oo 4 (.mv (.c (.bool false)))] none)
 .rt)
 .sk))
 (.sq (.sq (.op 0 [oo 5 (.mv (ki 0))] none)
 (.kp [] [4] (.bk 0 (.lp [] [0, 1, 5] c_rb_Lists_L0))))
 (.sq (.op 0 [oo 4 (.mv (.c (.bool true)))] none)
 .rt)))),
 [.t 4]⟩
def b_rr16_Matrix_L1 : IR :=
 (.sq (.sq (.op 0 [om 15 6, oo 16 (.fa (.t 1) 4), oo 17 (.ld (.t 16) 1 false), oo 18 (.len false (.t 17)), oo 19 (.bin .lss (.t 15) (.t 18))] (some [1, 3, 4, 5, 6, 19]))
 (.cd (.t 19)
 .sk
 (.ex 2)))
 (.sq (.bk 3 (.sq (.op 0 [oo 7 (.mv (ki 4))] none)
 (.sq (.sq (.op 0 [om 22 4, om 23 6, oo 24 (.bin .neq (.t 22) (.t 23))] none)
 (.cd (.t 24)
 (.op 0 [oo 25 (.ld (.t 1) 7 true), om 26 4, om 27 6, oo 28 (cv n_rr16_Relation [(.t 25), (.t 26), (.t 27)]), om 7 28] (some [1, 3, 4, 5, 6, 7]))
 .sk))
 (.op 0 [om 29 5, om 30 7, oo 31 (.bsl t_int 1 false [.int .i64 0] 1 [(0, (.t 30))]), oo 32 (.app (.t 29) (.t 31) t_int 1), om 5 32] (some [1, 3, 4, 5, 6])))))
 (.op 0 [om 20 6, oo 21 (.bin .add (.t 20) (ki 1)), om 6 21] none)))
def c_rr16_Matrix_L1 : IR := b_rr16_Matrix_L1
theorem u_rr16_Matrix_L1 : evC C L π k0 c_rr16_Matrix_L1 e s = evC C L π k0 b_rr16_Matrix_L1 e s := rfl
def b_rr16_Matrix_L0 : IR :=
 (.sq (.sq (.op 0 [om 8 4, oo 9 (.fa (.t 1) 4), oo 10 (.ld (.t 9) 1 false), oo 11 (.len false (.t 10)), oo 12 (.bin .lss (.t 8) (.t 11))] (some [1, 3, 4, 12]))
 (.cd (.t 12)
 .sk
 (.ex 0)))
 (.sq (.bk 1 (.sq (.op 0 [oo 5 (.mv (.c (.sl 1 (some true) [])))] none)
 (.sq (.sq (.op 0 [oo 6 (.mv (ki 0))] none)
 (.kp [1, 3, 4, 5] [2] (.bk 2 (.lp [(t_int, .inl 5)] [1, 3, 4, 5, 6] c_rr16_Matrix_L1))))
 (.op 0 [om 33 3, om 34 5, oo 35 (.bsl t_L_int 1 false [.sl 1 (some true) []] 1 [(0, (.t 34))]), oo 36 (.app (.t 33) (.t 35) t_L_int 1), om 3 36] (some [1, 3, 4])))))
 (.op 0 [om 13 4, oo 14 (.bin .add (.t 13) (ki 1)), om 4 14] none)))
def c_rr16_Matrix_L0 : IR := b_rr16_Matrix_L0
theorem u_rr16_Matrix_L0 : evC C L π k0 c_rr16_Matrix_L0 e s = evC C L π k0 b_rr16_Matrix_L0 e s := rfl
def c_rr16_Matrix : FnIR := ⟨38,
 (.sq (.op 0 [oo 1 (.box (.t 0) 7), oo 2 (.mv (.c (.sl 1 (some true) [])))] none)
 (.sq (.op 0 [oo 3 (.mv (.c (.sl 1 (some true) [])))] none)
 (.sq (.sq (.op 0 [oo 4 (.mv (ki 0))] none)
 (.kp [3] [2] (.bk 0 (.lp [(t_L_int, .inl 3)] [1, 3, 4] c_rr16_Matrix_L0))))
 (.sq (.op 0 [om 37 3, om 2 37] none)
 .rt)))),
 [.t 2]⟩
def b_cf_FormatMatrix_L1 : IR :=
 (.sq (.op 0 [oo 19 (.bin .lss (.t 18) (.t 17))] none)
 (.sq (.cd (.t 19)
 .sk
 (.ex 2))
 (.sq (.bk 3 (.sq (.op 0 [oo 20 (.ia (.t 16) (.t 18) 1), oo 21 (.ld (.t 20) 1 false), om 8 21] none)
 (.sq (.op 0 [oo 9 (.mv (.c (.str k_63)))] none)
 (.sq (.sq (.op 0 [om 22 8, oo 23 (cv n_cf_within [(.t 22), (ki 0), (ki 4)])] none)
 (.cd (.t 23)
 (.op 0 [om 24 8, om 25 8, oo 26 (.bin .add (.t 25) (ki 1)), oo 27 (.slc true (.c (.str k_102_101_98_97_99)) (some (.t 24)) (some (.t 26)) 0), om 9 27] (some [3, 6, 9, 10, 11, 12, 16, 17, 18]))
 .sk))
 (.op 0 [om 28 6, om 29 9, oo 30 (.bin .add (.t 28) (.t 29)), om 6 30] (some [3, 6, 10, 11, 12, 16, 17, 18]))))))
 (.op 0 [oo 31 (.bin .add (.t 18) (ki 1)), om 18 31] none))))
def c_cf_FormatMatrix_L1 : IR := b_cf_FormatMatrix_L1
theorem u_cf_FormatMatrix_L1 : evC C L π k0 c_cf_FormatMatrix_L1 e s = evC C L π k0 b_cf_FormatMatrix_L1 e s := rfl
def b_cf_FormatMatrix_L0 : IR :=
 (.sq (.op 0 [oo 13 (.bin .lss (.t 12) (.t 11))] none)
 (.sq (.cd (.t 13)
 .sk
 (.ex 0))
 (.sq (.bk 1 (.sq (.op 0 [oo 14 (.ia (.t 10) (.t 12) 1), oo 15 (.ld (.t 14) 1 false), om 5 15] none)
 (.sq (.op 0 [oo 6 (.mv (.c (.str ⟨#[]⟩)))] none)
 (.sq (.sq (.op 0 [om 16 5, oo 17 (.len false (.t 16)), oo 18 (.mv (ki 0))] none)
 (.kp [3, 6, 10, 11, 12] [2] (.bk 2 (.lp [] [3, 6, 10, 11, 12, 16, 17, 18] c_cf_FormatMatrix_L1))))
 (.op 0 [om 32 3, om 33 6, oo 34 (.bsl t_string 1 false [.str ⟨#[]⟩] 1 [(0, (.t 33))]), oo 35 (.app (.t 32) (.t 34) t_string 1), om 3 35] (some [3, 10, 11, 12]))))))
 (.op 0 [oo 36 (.bin .add (.t 12) (ki 1)), om 12 36] none))))
def c_cf_FormatMatrix_L0 : IR := b_cf_FormatMatrix_L0
theorem u_cf_FormatMatrix_L0 : evC C L π k0 c_cf_FormatMatrix_L0 e s = evC C L π k0 b_cf_FormatMatrix_L0 e s := rfl
def c_cf_FormatMatrix : FnIR := ⟨39,
 (.sq (.op 0 [oo 2 (.mv (.c (.str ⟨#[]⟩)))] none)
 (.sq (.op 0 [oo 3 (.mv (.c (.sl 1 (some true) [])))] none)
 (.sq (.sq (.op 0 [om 10 0, oo 11 (.len false (.t 10)), oo 12 (.mv (ki 0))] none)
 (.kp [3] [2] (.bk 0 (.lp [(t_string, .inl 3)] [3, 10, 11, 12] c_cf_FormatMatrix_L0))))
 (.sq (.op 0 [om 37 3, oo 38 (cv n_strings_Join [(.t 37), (.c (.str k_47))]), om 2 38] none)
 .rt)))),
 [.t 2]⟩
def b_rb_CopyLists_L0 : IR :=
 (.sq (.sq (.op 0 [om 5 4, om 6 0, oo 7 (.len false (.t 6)), oo 8 (.bin .lss (.t 5) (.t 7))] (some [0, 3, 4, 8]))
 (.cd (.t 8)
 .sk
 (.ex 0)))
 (.sq (.bk 1 (.op 0 [om 11 3, om 12 0, om 13 4, oo 14 (.ia (.t 12) (.t 13) 1), oo 15 (.ld (.t 14) 1 false), oo 16 (cw n_rb_CopyInts [(.t 15)]), oo 17 (.bsl t_L_int 1 false [.sl 1 (some true) []] 1 [(0, (.t 16))]), oo 18 (.app (.t 11) (.t 17) t_L_int 1), om 3 18] (some [0, 3, 4])))
 (.op 0 [om 9 4, oo 10 (.bin .add (.t 9) (ki 1)), om 4 10] none)))
def c_rb_CopyLists_L0 : IR := b_rb_CopyLists_L0
theorem u_rb_CopyLists_L0 : evC C L π k0 c_rb_CopyLists_L0 e s = evC C L π k0 b_rb_CopyLists_L0 e s := rfl
def c_rb_CopyLists : FnIR := ⟨20,
 (.sq (.op 0 [oo 2 (.mv (.c (.sl 1 (some true) [])))] none)
 (.sq (.op 0 [oo 3 (.mv (.c (.sl 1 (some true) [])))] none)
 (.sq (.sq (.op 0 [oo 4 (.mv (ki 0))] none)
 (.kp [3] [2] (.bk 0 (.lp [(t_L_int, .inl 3)] [0, 3, 4] c_rb_CopyLists_L0))))
 (.sq (.op 0 [om 19 3, om 2 19] none)
 .rt)))),
 [.t 2]⟩
def b_rr16_FormatMatrix_L1 : IR :=
 (.sq (.sq (.op 0 [om 16 5, om 17 0, om 18 4, oo 19 (.ia (.t 17) (.t 18) 1), oo 20 (.ld (.t 19) 1 false), oo 21 (.len false (.t 20)), oo 22 (.bin .lss (.t 16) (.t 21))] (some [0, 3, 4, 5, 22]))
 (.cd (.t 22)
 .sk
 (.ex 2)))
 (.sq (.bk 3 (.sq (.op 0 [om 25 0, om 26 4, oo 27 (.ia (.t 25) (.t 26) 1), oo 28 (.ld (.t 27) 1 false), om 29 5, oo 30 (.ia (.t 28) (.t 29) 1), oo 31 (.ld (.t 30) 1 false), oo 32 (cv n_rb_Within [(.t 31), (ki 0), (ki 4)])] (some [0, 3, 4, 5, 32]))
 (.cd (.t 32)
 (.op 16 [om 33 3, om 34 0, om 35 4, oo 36 (.ia (.t 34) (.t 35) 1), oo 37 (.ld (.t 36) 1 false), om 38 5, oo 39 (.ia (.t 37) (.t 38) 1), oo 40 (.ld (.t 39) 1 false), om 41 0, om 42 4, oo 43 (.ia (.t 41) (.t 42) 1), oo 44 (.ld (.t 43) 1 false), om 45 5, oo 46 (.ia (.t 44) (.t 45) 1), oo 47 (.ld (.t 46) 1 false), oo 48 (.bin .add (.t 47) (ki 1)), oo 49 (.slc true (.c (.str k_102_101_98_97_99)) (some (.t 40)) (some (.t 48)) 0), oo 50 (.bin .add (.t 33) (.t 49)), om 3 50] (some [0, 3, 4, 5]))
 (.op 0 [om 51 3, oo 52 (.bin .add (.t 51) (.c (.str k_63))), om 3 52] none))))
 (.op 0 [om 23 5, oo 24 (.bin .add (.t 23) (ki 1)), om 5 24] none)))
def c_rr16_FormatMatrix_L1 : IR := b_rr16_FormatMatrix_L1
def b_rr16_FormatMatrix_L0 : IR :=
 (.sq (.sq (.op 0 [om 6 4, om 7 0, oo 8 (.len false (.t 7)), oo 9 (.bin .lss (.t 6) (.t 8))] (some [0, 3, 4, 9]))
 (.cd (.t 9)
 .sk
 (.ex 0)))
 (.sq (.bk 1 (.sq (.sq (.op 0 [om 12 4, oo 13 (.bin .gtr (.t 12) (ki 0))] none)
 (.cd (.t 13)
 (.op 0 [om 14 3, oo 15 (.bin .add (.t 14) (.c (.str k_47))), om 3 15] none)
 .sk))
 (.sq (.op 0 [oo 5 (.mv (ki 0))] none)
 (.kp [0, 3, 4] [2] (.bk 2 (.lp [] [0, 3, 4, 5] c_rr16_FormatMatrix_L1))))))
 (.op 0 [om 10 4, oo 11 (.bin .add (.t 10) (ki 1)), om 4 11] none)))
def c_rr16_FormatMatrix_L0 : IR := b_rr16_FormatMatrix_L0
def c_rr16_FormatMatrix : FnIR := ⟨54,
 (.sq (.op 0 [oo 2 (.mv (.c (.str ⟨#[]⟩)))] none)
 (.sq (.op 0 [oo 3 (.mv (.c (.str ⟨#[]⟩)))] none)
 (.sq (.sq (.op 0 [oo 4 (.mv (ki 0))] none)
 (.kp [3] [2] (.bk 0 (.lp [] [0, 3, 4] c_rr16_FormatMatrix_L0))))
 (.sq (.op 0 [om 53 3, om 2 53] none)
 .rt)))),
 [.t 2]⟩
def c_rr16_PairErr : FnIR := ⟨24,
 (.sq (.op 0 [oo 3 (.box (.t 0) 7), oo 6 (.mv (ki 0))] none)
 (.sq (.sq (.op 0 [oo 9 (.ld (.t 3) 7 true), om 10 1, oo 11 (cv n_rr16_RuleErr [(.t 9), (.t 10)]), om 7 11] (some [1, 2, 3, 7]))
 (.sq (.op 0 [om 12 7, oo 13 (.bin .neq (.t 12) (ki 0))] none)
 (.cd (.t 13)
 (.sq (.op 0 [om 14 7, om 6 14] none)
 .rt)
 .sk)))
 (.sq (.sq (.op 0 [oo 15 (.ld (.t 3) 7 true), om 16 2, oo 17 (cv n_rr16_RuleErr [(.t 15), (.t 16)]), om 8 17] (some [1, 2, 8]))
 (.sq (.op 0 [om 18 8, oo 19 (.bin .neq (.t 18) (ki 0))] none)
 (.cd (.t 19)
 (.sq (.op 0 [om 20 8, om 6 20] none)
 .rt)
 .sk)))
 (.sq (.sq (.op 0 [om 21 1, om 22 2, oo 23 (.bin .eql (.t 21) (.t 22))] none)
 (.cd (.t 23)
 (.sq (.op 0 [oo 6 (.mv (ki 23))] none)
 .rt)
 .sk))
 (.sq (.op 0 [oo 6 (.mv (ki 0))] none)
 .rt))))),
 [.t 6]⟩
def b_rr16_Relation_L0 : IR :=
 (.sq (.sq (.op 0 [om 26 10, om 27 9, oo 28 (.len false (.t 27)), oo 29 (.bin .lss (.t 26) (.t 28))] (some [1, 3, 9, 10, 29]))
 (.cd (.t 29)
 .sk
 (.ex 0)))
 (.sq (.bk 1 (.sq (.op 7 [oo 32 (.ld (.t 3) 7 true), om 33 1, oo 34 (cw n_rb_Writes [(.t 32), (.t 33)]), om 35 9, om 36 10, oo 37 (.ia (.t 35) (.t 36) 1), oo 38 (.ld (.t 37) 1 false), oo 39 (cv n_rb_Has [(.t 34), (.t 38)])] (some [1, 3, 9, 10, 39]))
 (.cd (.t 39)
 (.sq (.op 0 [oo 6 (.mv (ki 1))] none)
 .rt)
 .sk)))
 (.op 0 [om 30 10, oo 31 (.bin .add (.t 30) (ki 1)), om 10 31] none)))
def c_rr16_Relation_L0 : IR := b_rr16_Relation_L0
theorem u_rr16_Relation_L0 : evC C L π k0 c_rr16_Relation_L0 e s = evC C L π k0 b_rr16_Relation_L0 e s := rfl
def c_rr16_Relation : FnIR := ⟨42,
 (.sq (.op 0 [oo 3 (.box (.t 0) 7), oo 6 (.mv (ki 0))] none)
 (.sq (.op 7 [oo 11 (.ld (.t 3) 7 true), om 12 1, om 13 2, oo 14 (cv n_rb_MayPrecede [(.t 11), (.t 12), (.t 13)]), oo 15 (.ld (.t 3) 7 true), om 16 2, om 17 1, oo 18 (cv n_rb_MayPrecede [(.t 15), (.t 16), (.t 17)]), om 7 14, om 8 18] (some [1, 2, 3, 7, 8]))
 (.sq (.sq (.op 0 [om 19 7, om 20 19, og 21 20 true (.mv (.t 8)), oo 22 (.pick (.t 20) (.t 21) (.c (.bool false)))] (some [1, 2, 3, 7, 8, 22]))
 (.cd (.t 22)
 (.sq (.op 0 [oo 23 (.ld (.t 3) 7 true), om 24 2, oo 25 (cw n_rb_Writes [(.t 23), (.t 24)]), om 9 25] (some [1, 3, 9]))
 (.sq (.sq (.op 0 [oo 10 (.mv (ki 0))] none)
 (.kp [] [6] (.bk 0 (.lp [] [1, 3, 9, 10] c_rr16_Relation_L0))))
 (.sq (.op 0 [oo 6 (.mv (ki 0))] none)
 .rt)))
 .sk))
 (.sq (.sq (.op 0 [om 40 7] none)
 (.cd (.t 40)
 (.sq (.op 0 [oo 6 (.mv (ki 2))] none)
 .rt)
 .sk))
 (.sq (.sq (.op 0 [om 41 8] none)
 (.cd (.t 41)
 (.sq (.op 0 [oo 6 (.mv (ki 3))] none)
 .rt)
 .sk))
 (.sq (.op 0 [oo 6 (.mv (ki 4))] none)
 .rt)))))),
 [.t 6]⟩
def b_cf_OrderFor_L0 : IR :=
 (.sq (.sq (.op 0 [oo 23 (.ld (.t 8) 1 false), oo 24 (.len false (.t 23)), oo 25 (.bin .gtr (.t 24) (ki 0))] none)
 (.cd (.t 25)
 .sk
 (.ex 0)))
 (.bk 1 (.sq (.op 0 [oo 26 (.ld (.t 8) 1 false), oo 27 (.mkf n_cf_OrderFor_1 [(.t 6), (.t 8)]), oo 28 (cv n_sl_IxF_int_int [(.t 26), (.t 27)]), om 10 28] (some [6, 8, 9, 10]))
 (.sq (.sq (.op 0 [om 29 10, oo 30 (.bin .lss (.t 29) (ki 0))] none)
 (.cd (.t 30)
 (.sq (.op 0 [oo 4 (.mv (.c (.sl 1 (some true) []))), oo 5 (.mv (ki 27))] none)
 .rt)
 .sk))
 (.sq (.op 0 [om 31 9, oo 32 (.ld (.t 8) 1 false), om 33 10, oo 34 (.ia (.t 32) (.t 33) 1), oo 35 (.ld (.t 34) 1 false), oo 36 (.bsl t_int 1 false [.int .i64 0] 1 [(0, (.t 35))]), oo 37 (.app (.t 31) (.t 36) t_int 1), om 9 37] (some [6, 8, 9, 10]))
 (.op 0 [oo 38 (.ld (.t 8) 1 false), om 39 10, om 40 10, oo 41 (.bin .add (.t 40) (ki 1)), oo 42 (.callS (.c (.fn n_sl_Delete_int_int [])) [(.t 38), (.t 39), (.t 41)]), ou (.st (.t 8) (.t 42) 1)] (some [6, 8, 9])))))))
def c_cf_OrderFor_L0 : IR := b_cf_OrderFor_L0
def c_cf_OrderFor : FnIR := ⟨44,
 (.sq (.op 0 [oo 2 (.box (.t 0) 7), oo 4 (.mv (.c (.sl 1 (some true) []))), oo 5 (.mv (ki 0))] none)
 (.sq (.op 0 [oo 12 (.ld (.t 2) 7 true), om 13 1, oo 14 (cv n_cf_openRules [(.t 12), (.t 13)]), om 11 14, oo 15 (.ext (.t 11) 0), oo 16 (.ext (.t 11) 1), oo 6 (.alloc [.str ⟨#[]⟩, .sl 2 (some true) [], .sl 5 (some true) [], .sl 4 (some true) [], .sl 3 (some true) [], .sl 2 (some true) [], .sl 2 (some true) [], .sl 1 (some true) [], .sl 1 (some true) [], .sl 1 (some true) []]), ou (.st (.t 6) (.t 15) 10), om 7 16] (some [1, 6, 7]))
 (.sq (.sq (.op 0 [om 17 7, oo 18 (.bin .neq (.t 17) (ki 0))] none)
 (.cd (.t 18)
 (.sq (.op 0 [om 19 7, oo 4 (.mv (.c (.sl 1 (some true) []))), om 5 19] none)
 .rt)
 .sk))
 (.sq (.op 0 [om 20 1, oo 21 (cw n_sl_Values_int_int [(.t 20)]), oo 22 (cw n_sl_Sorted_int [(.t 21)]), oo 8 (.alloc [.sl 1 (some true) []]), ou (.st (.t 8) (.t 22) 1)] (some [6, 8]))
 (.sq (.op 0 [oo 9 (.mv (.c (.sl 1 (some true) [])))] none)
 (.sq (.kp [9] [4, 5] (.bk 0 (.lp [(t_int, .inl 9)] [6, 8, 9] c_cf_OrderFor_L0)))
 (.sq (.op 0 [om 43 9, om 4 43, oo 5 (.mv (ki 0))] none)
 .rt))))))),
 [.t 4, .t 5]⟩
def c_rb_CopyInts : FnIR := ⟨6,
 (.sq (.op 0 [oo 2 (.mv (.c (.sl 1 (some true) [])))] none)
 (.sq (.op 0 [oo 3 (.bsl t_int 1 false [.int .i64 0] 0 []), om 4 0, oo 5 (.app (.t 3) (.t 4) t_int 1), om 2 5] (some [2]))
 .rt)),
 [.t 2]⟩
def b_cf_CycleIn_L0 : IR :=
 (.sq (.op 0 [oo 28 (.bin .lss (.t 27) (.t 26))] none)
 (.sq (.cd (.t 28)
 .sk
 (.ex 0))
 (.sq (.bk 1 (.sq (.op 0 [oo 29 (.ia (.t 25) (.t 27) 1), oo 30 (.ld (.t 29) 1 false), om 11 30] none)
 (.sq (.op 0 [oo 31 (.ld (.t 6) 10 true), om 32 11, om 33 8, oo 34 (cw n_cf_sh_around [(.t 31), (.t 32), (.t 33)]), om 12 34] (some [6, 8, 9, 12, 25, 26, 27]))
 (.sq (.op 0 [om 35 12, oo 36 (.isnil true true (.t 35)), om 37 36, og 38 37 true (.mv (.t 9)), og 39 37 true (.isnil true false (.t 38)), og 40 37 true (.mv (.t 39)), og 41 40 false (.mv (.t 12)), og 42 40 false (.len false (.t 41)), og 43 40 false (.mv (.t 9)), og 44 40 false (.len false (.t 43)), og 45 40 false (.bin .lss (.t 42) (.t 44)), og 46 37 true (.pick (.t 40) (.c (.bool true)) (.t 45)), oo 47 (.pick (.t 37) (.t 46) (.c (.bool false)))] (some [6, 8, 9, 12, 25, 26, 27, 47]))
 (.cd (.t 47)
 (.op 0 [om 48 12, om 9 48] none)
 .sk)))))
 (.op 0 [oo 49 (.bin .add (.t 27) (ki 1)), om 27 49] none))))
def c_cf_CycleIn_L0 : IR := b_cf_CycleIn_L0
def c_cf_CycleIn : FnIR := ⟨54,
 (.sq (.op 0 [oo 2 (.box (.t 0) 7), oo 4 (.mv (.c (.sl 1 (some true) []))), oo 5 (.mv (ki 0))] none)
 (.sq (.op 0 [oo 14 (.ld (.t 2) 7 true), om 15 1, oo 16 (cv n_cf_openRules [(.t 14), (.t 15)]), om 13 16, oo 17 (.ext (.t 13) 0), oo 18 (.ext (.t 13) 1), oo 6 (.alloc [.str ⟨#[]⟩, .sl 2 (some true) [], .sl 5 (some true) [], .sl 4 (some true) [], .sl 3 (some true) [], .sl 2 (some true) [], .sl 2 (some true) [], .sl 1 (some true) [], .sl 1 (some true) [], .sl 1 (some true) []]), ou (.st (.t 6) (.t 17) 10), om 7 18] (some [1, 6, 7]))
 (.sq (.sq (.op 0 [om 19 7, oo 20 (.bin .neq (.t 19) (ki 0))] none)
 (.cd (.t 20)
 (.sq (.op 0 [om 21 7, oo 4 (.mv (.c (.sl 1 (some true) []))), om 5 21] none)
 .rt)
 .sk))
 (.sq (.op 0 [om 22 1, oo 23 (cw n_sl_Values_int_int [(.t 22)]), oo 24 (cw n_sl_Sorted_int [(.t 23)]), om 8 24] (some [6, 8]))
 (.sq (.op 0 [oo 9 (.mv (.c (.sl 1 (some true) [])))] none)
 (.sq (.sq (.op 0 [om 25 8, oo 26 (.len false (.t 25)), oo 27 (.mv (ki 0))] none)
 (.kp [9] [4, 5] (.bk 0 (.lp [] [6, 8, 9, 25, 26, 27] c_cf_CycleIn_L0))))
 (.sq (.op 0 [om 50 9, om 51 9, oo 52 (.isnil true true (.t 51)), oo 53 (cv n_cf_unless [(.t 52), (ki 12)]), om 4 50, om 5 53] (some [4, 5]))
 .rt))))))),
 [.t 4, .t 5]⟩
def b_rb_Has_L0 : IR :=
 (.sq (.sq (.op 0 [om 6 5, om 7 0, oo 8 (.len false (.t 7)), oo 9 (.bin .lss (.t 6) (.t 8))] (some [0, 1, 5, 9]))
 (.cd (.t 9)
 .sk
 (.ex 0)))
 (.sq (.bk 1 (.sq (.op 0 [om 12 0, om 13 5, oo 14 (.ia (.t 12) (.t 13) 1), oo 15 (.ld (.t 14) 1 false), om 16 1, oo 17 (.bin .eql (.t 15) (.t 16))] (some [0, 1, 5, 17]))
 (.cd (.t 17)
 (.sq (.op 0 [oo 4 (.mv (.c (.bool true)))] none)
 .rt)
 .sk)))
 (.op 0 [om 10 5, oo 11 (.bin .add (.t 10) (ki 1)), om 5 11] none)))
def c_rb_Has_L0 : IR := b_rb_Has_L0
theorem u_rb_Has_L0 : evC C L π k0 c_rb_Has_L0 e s = evC C L π k0 b_rb_Has_L0 e s := rfl
def c_rb_Has : FnIR := ⟨18,
 (.sq (.op 0 [oo 4 (.mv (.c (.bool false)))] none)
 (.sq (.sq (.op 0 [oo 5 (.mv (ki 0))] none)
 (.kp [] [4] (.bk 0 (.lp [] [0, 1, 5] c_rb_Has_L0))))
 (.sq (.op 0 [oo 4 (.mv (.c (.bool false)))] none)
 .rt))),
 [.t 4]⟩
def b_rb_MayPrecede_L0 : IR :=
 (.sq (.sq (.op 0 [om 9 7, oo 10 (.fa (.t 3) 2), oo 11 (.ld (.t 10) 1 false), oo 12 (.len false (.t 11)), oo 13 (.bin .lss (.t 9) (.t 12))] (some [1, 2, 3, 7, 13]))
 (.cd (.t 13)
 .sk
 (.ex 0)))
 (.sq (.bk 1 (.sq (.op 0 [oo 16 (.fa (.t 3) 2), oo 17 (.ld (.t 16) 1 false), om 18 7, oo 19 (.ia (.t 17) (.t 18) 5), oo 20 (.fa (.t 19) 1), oo 21 (.ld (.t 20) 1 false), oo 22 (.bin .eql (.t 21) (ki 1)), om 8 22] (some [1, 2, 3, 7, 8]))
 (.sq (.op 0 [om 23 8, oo 24 (.un .not (.t 23)), om 25 24, og 26 25 true (.ld (.t 3) 7 true), og 27 25 true (.mv (.t 1)), og 28 25 true (cw n_rb_Writes [(.t 26), (.t 27)]), og 29 25 true (.mv (.t 7)), og 30 25 true (cv n_rb_Has [(.t 28), (.t 29)]), oo 31 (.pick (.t 25) (.t 30) (.c (.bool false))), om 32 31, og 33 32 true (.ld (.t 3) 7 true), og 34 32 true (.mv (.t 2)), og 35 32 true (cw n_rb_Reads [(.t 33), (.t 34)]), og 36 32 true (.mv (.t 7)), og 37 32 true (cv n_rb_Has [(.t 35), (.t 36)]), oo 38 (.pick (.t 32) (.t 37) (.c (.bool false))), om 39 38, og 40 39 false (.mv (.t 8)), og 41 39 false (.mv (.t 40)), og 42 41 true (.ld (.t 3) 7 true), og 43 41 true (.mv (.t 1)), og 44 41 true (cw n_rb_Reads [(.t 42), (.t 43)]), og 45 41 true (.mv (.t 7)), og 46 41 true (cv n_rb_Has [(.t 44), (.t 45)]), og 47 39 false (.pick (.t 41) (.t 46) (.c (.bool false))), og 48 39 false (.mv (.t 47)), og 49 48 true (.ld (.t 3) 7 true), og 50 48 true (.mv (.t 2)), og 51 48 true (cw n_rb_Writes [(.t 49), (.t 50)]), og 52 48 true (.mv (.t 7)), og 53 48 true (cv n_rb_Has [(.t 51), (.t 52)]), og 54 39 false (.pick (.t 48) (.t 53) (.c (.bool false))), oo 55 (.pick (.t 39) (.c (.bool true)) (.t 54))] (some [1, 2, 3, 7, 55]))
 (.cd (.t 55)
 (.sq (.op 0 [oo 6 (.mv (.c (.bool false)))] none)
 .rt)
 .sk))))
 (.op 0 [om 14 7, oo 15 (.bin .add (.t 14) (ki 1)), om 7 15] none)))
def c_rb_MayPrecede_L0 : IR := b_rb_MayPrecede_L0
theorem u_rb_MayPrecede_L0 : evC C L π k0 c_rb_MayPrecede_L0 e s = evC C L π k0 b_rb_MayPrecede_L0 e s := rfl
def c_rb_MayPrecede : FnIR := ⟨56,
 (.sq (.op 0 [oo 3 (.box (.t 0) 7), oo 6 (.mv (.c (.bool false)))] none)
 (.sq (.sq (.op 0 [oo 7 (.mv (ki 0))] none)
 (.kp [] [6] (.bk 0 (.lp [] [1, 2, 3, 7] c_rb_MayPrecede_L0))))
 (.sq (.op 0 [oo 6 (.mv (.c (.bool true)))] none)
 .rt))),
 [.t 6]⟩
def c_rr16_RuleErr : FnIR := ⟨12,
 (.sq (.op 0 [oo 2 (.box (.t 0) 7), oo 4 (.mv (ki 0))] none)
 (.sq (.sq (.op 0 [om 5 1, oo 6 (.fa (.t 2) 4), oo 7 (.ld (.t 6) 1 false), oo 8 (.len false (.t 7)), oo 9 (.bin .sub (.t 8) (ki 1)), oo 10 (cv n_rb_Within [(.t 5), (ki 0), (.t 9)]), oo 11 (.un .not (.t 10))] (some [11]))
 (.cd (.t 11)
 (.sq (.op 0 [oo 4 (.mv (ki 6))] none)
 .rt)
 .sk))
 (.sq (.op 0 [oo 4 (.mv (ki 0))] none)
 .rt))),
 [.t 4]⟩
def b_rb_Ints_L0 : IR :=
 (.sq (.sq (.op 0 [om 11 5, om 12 0, oo 13 (.len false (.t 12)), oo 14 (.bin .lss (.t 11) (.t 13))] (some [0, 1, 5, 14]))
 (.cd (.t 14)
 .sk
 (.ex 0)))
 (.sq (.bk 1 (.sq (.op 8 [om 17 0, om 18 5, oo 19 (.ia (.t 17) (.t 18) 1), oo 20 (.ld (.t 19) 1 false), om 21 1, om 22 5, oo 23 (.ia (.t 21) (.t 22) 1), oo 24 (.ld (.t 23) 1 false), oo 25 (.bin .neq (.t 20) (.t 24))] (some [0, 1, 5, 25]))
 (.cd (.t 25)
 (.sq (.op 0 [oo 4 (.mv (.c (.bool false)))] none)
 .rt)
 .sk)))
 (.op 0 [om 15 5, oo 16 (.bin .add (.t 15) (ki 1)), om 5 16] none)))
def c_rb_Ints_L0 : IR := b_rb_Ints_L0
theorem u_rb_Ints_L0 : evC C L π k0 c_rb_Ints_L0 e s = evC C L π k0 b_rb_Ints_L0 e s := rfl
def c_rb_Ints : FnIR := ⟨26,
 (.sq (.op 0 [oo 4 (.mv (.c (.bool false)))] none)
 (.sq (.sq (.op 0 [om 6 0, oo 7 (.len false (.t 6)), om 8 1, oo 9 (.len false (.t 8)), oo 10 (.bin .neq (.t 7) (.t 9))] (some [0, 1, 10]))
 (.cd (.t 10)
 (.sq (.op 0 [oo 4 (.mv (.c (.bool false)))] none)
 .rt)
 .sk))
 (.sq (.sq (.op 0 [oo 5 (.mv (ki 0))] none)
 (.kp [] [4] (.bk 0 (.lp [] [0, 1, 5] c_rb_Ints_L0))))
 (.sq (.op 0 [oo 4 (.mv (.c (.bool true)))] none)
 .rt)))),
 [.t 4]⟩
def b_rb_Reads_L0 : IR :=
 (.sq (.sq (.op 0 [om 19 7, oo 20 (.fa (.t 5) 2), oo 21 (.ld (.t 20) 1 false), oo 22 (.len false (.t 21)), oo 23 (.bin .lss (.t 19) (.t 22))] (some [2, 5, 6, 7, 23]))
 (.cd (.t 23)
 .sk
 (.ex 0)))
 (.sq (.bk 1 (.op 13 [om 26 6, oo 27 (.fa (.t 5) 2), oo 28 (.ld (.t 27) 1 false), om 29 7, oo 30 (.ia (.t 28) (.t 29) 3), oo 31 (.fa (.t 30) 1), oo 32 (.ld (.t 31) 1 false), oo 33 (.fa (.t 5) 2), oo 34 (.ld (.t 33) 1 false), om 35 7, oo 36 (.ia (.t 34) (.t 35) 3), oo 37 (.fa (.t 36) 2), oo 38 (.ld (.t 37) 1 false), oo 39 (.bsl t_int 1 false [.int .i64 0] 2 [(0, (.t 32)), (1, (.t 38))]), oo 40 (.app (.t 26) (.t 39) t_int 1), om 6 40] (some [2, 5, 6, 7])))
 (.op 0 [om 24 7, oo 25 (.bin .add (.t 24) (ki 1)), om 7 25] none)))
def c_rb_Reads_L0 : IR := b_rb_Reads_L0
theorem u_rb_Reads_L0 : evC C L π k0 c_rb_Reads_L0 e s = evC C L π k0 b_rb_Reads_L0 e s := rfl
def b_rb_Reads_L1 : IR :=
 (.sq (.sq (.op 0 [om 52 10, om 53 8, oo 54 (.len false (.t 53)), oo 55 (.bin .lss (.t 52) (.t 54))] (some [2, 8, 9, 10, 55]))
 (.cd (.t 55)
 .sk
 (.ex 2)))
 (.sq (.bk 3 (.sq (.op 7 [om 58 8, om 59 10, oo 60 (.ia (.t 58) (.t 59) 1), oo 61 (.ld (.t 60) 1 false), oo 62 (.fa (.t 2) 1), oo 63 (.ld (.t 62) 1 false), oo 64 (.len false (.t 63)), oo 65 (.bin .geq (.t 61) (.t 64))] (some [2, 8, 9, 10, 65]))
 (.cd (.t 65)
 (.op 8 [om 66 9, om 67 8, om 68 10, oo 69 (.ia (.t 67) (.t 68) 1), oo 70 (.ld (.t 69) 1 false), oo 71 (.fa (.t 2) 1), oo 72 (.ld (.t 71) 1 false), oo 73 (.len false (.t 72)), oo 74 (.bin .sub (.t 70) (.t 73)), oo 75 (.bsl t_int 1 false [.int .i64 0] 1 [(0, (.t 74))]), oo 76 (.app (.t 66) (.t 75) t_int 1), om 9 76] (some [2, 8, 9, 10]))
 .sk)))
 (.op 0 [om 56 10, oo 57 (.bin .add (.t 56) (ki 1)), om 10 57] none)))
def c_rb_Reads_L1 : IR := b_rb_Reads_L1
theorem u_rb_Reads_L1 : evC C L π k0 c_rb_Reads_L1 e s = evC C L π k0 b_rb_Reads_L1 e s := rfl
def c_rb_Reads : FnIR := ⟨78,
 (.sq (.op 0 [oo 2 (.box (.t 0) 7), oo 4 (.mv (.c (.sl 1 (some true) [])))] none)
 (.sq (.op 0 [oo 11 (.fa (.t 2) 4), oo 12 (.ld (.t 11) 1 false), om 13 1, oo 14 (.ia (.t 12) (.t 13) 3), oo 15 (.ld (.t 14) 3 true), oo 5 (.alloc [.str ⟨#[]⟩, .int .i64 0, .sl 3 (some true) []]), ou (.st (.t 5) (.t 15) 3)] (some [2, 5]))
 (.sq (.op 0 [oo 16 (.fa (.t 5) 1), oo 17 (.ld (.t 16) 1 false), oo 18 (.bsl t_int 1 false [.int .i64 0] 1 [(0, (.t 17))]), om 6 18] (some [2, 5, 6]))
 (.sq (.sq (.op 0 [oo 7 (.mv (ki 0))] none)
 (.kp [2, 6] [4] (.bk 0 (.lp [(t_int, .inl 6)] [2, 5, 6, 7] c_rb_Reads_L0))))
 (.sq (.op 0 [oo 41 (.fa (.t 2) 3), oo 42 (.ld (.t 41) 1 false), om 43 6, oo 44 (.fa (.t 2) 1), oo 45 (.ld (.t 44) 1 false), oo 46 (.len false (.t 45)), oo 47 (.fa (.t 2) 2), oo 48 (.ld (.t 47) 1 false), oo 49 (.len false (.t 48)), oo 50 (.bin .add (.t 46) (.t 49)), oo 51 (cw n_rb_LeavesBelow [(.t 42), (.t 43), (.t 50)]), om 8 51] (some [2, 8]))
 (.sq (.op 0 [oo 9 (.mv (.c (.sl 1 (some true) [])))] none)
 (.sq (.sq (.op 0 [oo 10 (.mv (ki 0))] none)
 (.kp [9] [4] (.bk 2 (.lp [(t_int, .inl 9)] [2, 8, 9, 10] c_rb_Reads_L1))))
 (.sq (.op 0 [om 77 9, om 4 77] none)
 .rt)))))))),
 [.t 4]⟩
def b_rb_Writes_L1 : IR :=
 (.sq (.sq (.op 0 [om 16 8, oo 17 (.fa (.t 2) 4), oo 18 (.ld (.t 17) 1 false), om 19 1, oo 20 (.ia (.t 18) (.t 19) 3), oo 21 (.fa (.t 20) 2), oo 22 (.ld (.t 21) 1 false), oo 23 (.len false (.t 22)), oo 24 (.bin .lss (.t 16) (.t 23))] (some [1, 2, 5, 6, 7, 8, 24]))
 (.cd (.t 24)
 .sk
 (.ex 2)))
 (.sq (.bk 3 (.op 0 [om 27 7, om 28 27, og 29 28 false (.fa (.t 2) 4), og 30 28 false (.ld (.t 29) 1 false), og 31 28 false (.mv (.t 1)), og 32 28 false (.ia (.t 30) (.t 31) 3), og 33 28 false (.fa (.t 32) 2), og 34 28 false (.ld (.t 33) 1 false), og 35 28 false (.mv (.t 8)), og 36 28 false (.ia (.t 34) (.t 35) 3), og 37 28 false (.fa (.t 36) 0), og 38 28 false (.ld (.t 37) 1 false), og 39 28 false (.mv (.t 6)), og 40 28 false (.bin .eql (.t 38) (.t 39)), oo 41 (.pick (.t 28) (.c (.bool true)) (.t 40)), om 7 41] (some [1, 2, 5, 6, 7, 8])))
 (.op 0 [om 25 8, oo 26 (.bin .add (.t 25) (ki 1)), om 8 26] none)))
def c_rb_Writes_L1 : IR := b_rb_Writes_L1
theorem u_rb_Writes_L1 : evC C L π k0 c_rb_Writes_L1 e s = evC C L π k0 b_rb_Writes_L1 e s := rfl
def b_rb_Writes_L0 : IR :=
 (.sq (.sq (.op 0 [om 9 6, oo 10 (.fa (.t 2) 2), oo 11 (.ld (.t 10) 1 false), oo 12 (.len false (.t 11)), oo 13 (.bin .lss (.t 9) (.t 12))] (some [1, 2, 5, 6, 13]))
 (.cd (.t 13)
 .sk
 (.ex 0)))
 (.sq (.bk 1 (.sq (.op 0 [oo 7 (.mv (.c (.bool false)))] none)
 (.sq (.sq (.op 0 [oo 8 (.mv (ki 0))] none)
 (.kp [1, 2, 5, 6, 7] [4] (.bk 2 (.lp [] [1, 2, 5, 6, 7, 8] c_rb_Writes_L1))))
 (.sq (.op 0 [om 42 7] none)
 (.cd (.t 42)
 (.op 0 [om 43 5, om 44 6, oo 45 (.bsl t_int 1 false [.int .i64 0] 1 [(0, (.t 44))]), oo 46 (.app (.t 43) (.t 45) t_int 1), om 5 46] (some [1, 2, 5, 6]))
 .sk)))))
 (.op 0 [om 14 6, oo 15 (.bin .add (.t 14) (ki 1)), om 6 15] none)))
def c_rb_Writes_L0 : IR := b_rb_Writes_L0
theorem u_rb_Writes_L0 : evC C L π k0 c_rb_Writes_L0 e s = evC C L π k0 b_rb_Writes_L0 e s := rfl
def c_rb_Writes : FnIR := ⟨48,
 (.sq (.op 0 [oo 2 (.box (.t 0) 7), oo 4 (.mv (.c (.sl 1 (some true) [])))] none)
 (.sq (.op 0 [oo 5 (.mv (.c (.sl 1 (some true) [])))] none)
 (.sq (.sq (.op 0 [oo 6 (.mv (ki 0))] none)
 (.kp [5] [4] (.bk 0 (.lp [(t_int, .inl 5)] [1, 2, 5, 6] c_rb_Writes_L0))))
 (.sq (.op 0 [om 47 5, om 4 47] none)
 .rt)))),
 [.t 4]⟩
def b_rb_Leaves_L0 : IR :=
 (.sq (.sq (.op 0 [om 6 4, oo 7 (.fa (.t 1) 1), oo 8 (.ld (.t 7) 1 false), oo 9 (.len false (.t 8)), oo 10 (.bin .lss (.t 6) (.t 9))] (some [1, 3, 4, 10]))
 (.cd (.t 10)
 .sk
 (.ex 0)))
 (.sq (.bk 1 (.op 0 [om 13 3, oo 14 (.fa (.t 1) 1), oo 15 (.ld (.t 14) 1 false), om 16 4, oo 17 (.ia (.t 15) (.t 16) 2), oo 18 (.fa (.t 17) 1), oo 19 (.ld (.t 18) 1 false), oo 20 (.bsl t_int 1 false [.int .i64 0] 1 [(0, (.t 19))]), oo 21 (.app (.t 13) (.t 20) t_int 1), om 3 21] (some [1, 3, 4])))
 (.op 0 [om 11 4, oo 12 (.bin .add (.t 11) (ki 1)), om 4 12] none)))
def c_rb_Leaves_L0 : IR := b_rb_Leaves_L0
theorem u_rb_Leaves_L0 : evC C L π k0 c_rb_Leaves_L0 e s = evC C L π k0 b_rb_Leaves_L0 e s := rfl
def b_rb_Leaves_L1 : IR :=
 (.sq (.sq (.op 0 [om 22 5, oo 23 (.fa (.t 1) 2), oo 24 (.ld (.t 23) 1 false), oo 25 (.len false (.t 24)), oo 26 (.bin .lss (.t 22) (.t 25))] (some [1, 3, 5, 26]))
 (.cd (.t 26)
 .sk
 (.ex 2)))
 (.sq (.bk 3 (.op 0 [om 29 3, oo 30 (.fa (.t 1) 2), oo 31 (.ld (.t 30) 1 false), om 32 5, oo 33 (.ia (.t 31) (.t 32) 5), oo 34 (.fa (.t 33) 2), oo 35 (.ld (.t 34) 1 false), oo 36 (.bsl t_int 1 false [.int .i64 0] 1 [(0, (.t 35))]), oo 37 (.app (.t 29) (.t 36) t_int 1), om 3 37] (some [1, 3, 5])))
 (.op 0 [om 27 5, oo 28 (.bin .add (.t 27) (ki 1)), om 5 28] none)))
def c_rb_Leaves_L1 : IR := b_rb_Leaves_L1
theorem u_rb_Leaves_L1 : evC C L π k0 c_rb_Leaves_L1 e s = evC C L π k0 b_rb_Leaves_L1 e s := rfl
def c_rb_Leaves : FnIR := ⟨39,
 (.sq (.op 0 [oo 1 (.box (.t 0) 7), oo 2 (.mv (.c (.sl 1 (some true) [])))] none)
 (.sq (.op 0 [oo 3 (.mv (.c (.sl 1 (some true) [])))] none)
 (.sq (.sq (.op 0 [oo 4 (.mv (ki 0))] none)
 (.kp [1, 3] [2] (.bk 0 (.lp [(t_int, .inl 3)] [1, 3, 4] c_rb_Leaves_L0))))
 (.sq (.sq (.op 0 [oo 5 (.mv (ki 0))] none)
 (.kp [3] [2] (.bk 2 (.lp [(t_int, .inl 3)] [1, 3, 5] c_rb_Leaves_L1))))
 (.sq (.op 0 [om 38 3, om 2 38] none)
 .rt))))),
 [.t 2]⟩
def c_rl16_Design : FnIR := ⟨30,
 (.sq (.op 0 [oo 0 (.alloc [.str ⟨#[]⟩, .sl 2 (some true) [], .sl 5 (some true) [], .sl 4 (some true) [], .sl 3 (some true) [], .sl 2 (some true) [], .sl 2 (some true) []])] none)
 (.sq (.op 0 [oo 1 (.build [.str ⟨#[]⟩, .int .i64 0] [(0, 1, (.c (.str ⟨#[103]⟩))), (1, 1, (ki 1))]), oo 2 (.bsl t_api_Port 2 true [.str ⟨#[]⟩, .int .i64 0] 1 [(0, (.t 1))]), oo 3 (.build [.str ⟨#[]⟩, .int .i64 0, .int .i64 0, .int .i64 0, .int .i64 0] [(0, 1, (.c (.str ⟨#[120]⟩))), (2, 1, (ki 2))]), oo 4 (.build [.str ⟨#[]⟩, .int .i64 0, .int .i64 0, .int .i64 0, .int .i64 0] [(0, 1, (.c (.str ⟨#[121]⟩))), (2, 1, (ki 2)), (3, 1, (ki 1))]), oo 5 (.bsl t_api_Element 5 true [.str ⟨#[]⟩, .int .i64 0, .int .i64 0, .int .i64 0, .int .i64 0] 2 [(0, (.t 3)), (1, (.t 4))]), oo 6 (.build [.int .i64 0, .int .i64 0, .sl 1 (some true) [], .int .i64 0] [(0, 1, (ki 1)), (1, 1, (ki 1))]), oo 7 (.build [.int .i64 0, .int .i64 0, .sl 1 (some true) [], .int .i64 0] [(0, 1, (ki 1)), (1, 1, (ki 2)), (3, 1, (ki 1))]), oo 8 (.build [.int .i64 0, .int .i64 0, .sl 1 (some true) [], .int .i64 0] [(0, 1, (ki 1)), (1, 1, (ki 2)), (3, 1, (ki 2))]), oo 9 (.bsl t_int 1 false [.int .i64 0] 1 [(0, (ki 0))]), oo 10 (.build [.int .i64 0, .int .i64 0, .sl 1 (some true) [], .int .i64 0] [(0, 1, (ki 2)), (1, 1, (ki 1)), (2, 1, (.t 9))]), oo 11 (.build [.int .i64 0, .int .i64 0, .sl 1 (some true) [], .int .i64 0] [(0, 1, (ki 0)), (1, 1, (ki 1)), (3, 1, (ki 1))]), oo 12 (.build [.int .i64 0, .int .i64 0, .sl 1 (some true) [], .int .i64 0] [(0, 1, (ki 0)), (1, 1, (ki 2)), (3, 1, (ki 1))]), oo 13 (.bsl t_int 1 false [.int .i64 0] 2 [(0, (ki 1)), (1, (ki 5))]), oo 14 (.build [.int .i64 0, .int .i64 0, .sl 1 (some true) [], .int .i64 0] [(0, 1, (ki 6)), (1, 1, (ki 2)), (2, 1, (.t 13))]), oo 15 (.bsl t_api_Node 4 true [.int .i64 0, .int .i64 0, .sl 1 (some true) [], .int .i64 0] 7 [(0, (.t 6)), (1, (.t 7)), (2, (.t 8)), (3, (.t 10)), (4, (.t 11)), (5, (.t 12)), (6, (.t 14))]), oo 16 (.build [.int .i64 0, .int .i64 0, .int .i64 0] [(0, 1, (ki 0)), (1, 1, (ki 4)), (2, 1, (ki 6))]), oo 17 (.bsl t_api_Write 3 true [.int .i64 0, .int .i64 0, .int .i64 0] 1 [(0, (.t 16))]), oo 18 (.build [.str ⟨#[]⟩, .int .i64 0, .sl 3 (some true) []] [(0, 1, (.c (.str ⟨#[117, 112]⟩))), (1, 1, (ki 0)), (2, 1, (.t 17))]), oo 19 (.build [.int .i64 0, .int .i64 0, .int .i64 0] [(0, 1, (ki 1)), (1, 1, (ki 4)), (2, 1, (ki 1))]), oo 20 (.bsl t_api_Write 3 true [.int .i64 0, .int .i64 0, .int .i64 0] 1 [(0, (.t 19))]), oo 21 (.build [.str ⟨#[]⟩, .int .i64 0, .sl 3 (some true) []] [(0, 1, (.c (.str ⟨#[99, 111, 112, 121]⟩))), (1, 1, (ki 3)), (2, 1, (.t 20))]), oo 22 (.build [.int .i64 0, .int .i64 0, .int .i64 0] [(0, 1, (ki 0)), (1, 1, (ki 4)), (2, 1, (ki 2))]), oo 23 (.build [.int .i64 0, .int .i64 0, .int .i64 0] [(0, 1, (ki 1)), (1, 1, (ki 4)), (2, 1, (ki 1))]), oo 24 (.bsl t_api_Write 3 true [.int .i64 0, .int .i64 0, .int .i64 0] 2 [(0, (.t 22)), (1, (.t 23))]), oo 25 (.build [.str ⟨#[]⟩, .int .i64 0, .sl 3 (some true) []] [(0, 1, (.c (.str ⟨#[115, 119, 97, 112]⟩))), (1, 1, (ki 4)), (2, 1, (.t 24))]), oo 26 (.bsl t_api_Rule 3 true [.str ⟨#[]⟩, .int .i64 0, .sl 3 (some true) []] 3 [(0, (.t 18)), (1, (.t 21)), (2, (.t 25))]), oo 27 (.build [.str ⟨#[]⟩, .int .i64 0] [(0, 1, (.c (.str ⟨#[111]⟩))), (1, 1, (ki 2))]), oo 28 (.bsl t_api_Output 2 true [.str ⟨#[]⟩, .int .i64 0] 1 [(0, (.t 27))]), oo 29 (.build [.str ⟨#[]⟩, .sl 2 (some true) [], .sl 5 (some true) [], .sl 4 (some true) [], .sl 3 (some true) [], .sl 2 (some true) [], .sl 2 (some true) []] [(0, 1, (.c (.str ⟨#[100]⟩))), (1, 1, (.t 2)), (2, 1, (.t 5)), (3, 1, (.t 15)), (4, 1, (.t 26)), (5, 1, (.t 28))]), ou (.st (.t 0) (.t 29) 7)] (some [0]))
 .rt)),
 [.c 0 7 true]⟩
def b_cf_MeetingOf_R0A : IR :=
 (.op 0 [om 11 26] none)
def c_cf_MeetingOf_R0A : IR := b_cf_MeetingOf_R0A
def b_cf_MeetingOf_R0B : IR :=
 (.bk 1 (.sq (.fz [11, 26] (.op 0 [oo 27 (.ld (.t 8) 8 true), oo 28 (.ld (.t 4) 1 false), oo 29 (.ld (.t 5) 1 false), om 30 11, oo 31 (cv n_cf_nw_meet [(.t 27), (.t 28), (.t 29), (.t 30)])] (some [6, 7, 11, 31])))
 (.cd (.t 31)
 (.sq (.op 0 [om 32 11, ou (.st (.t 6) (.t 32) 1), ou (.st (.t 7) (ki 0) 1)] none)
 .rt)
 .sk)))
def c_cf_MeetingOf_R0B : IR := b_cf_MeetingOf_R0B
def c_cf_MeetingOf : FnIR := ⟨33,
 (.sq (.op 0 [oo 3 (.box (.t 0) 7), oo 4 (.box (.t 1) 1), oo 5 (.box (.t 2) 1), oo 6 (.alloc [.sl 1 (some true) []]), oo 7 (.alloc [.int .i64 0])] none)
 (.sq (.op 0 [oo 13 (.ld (.t 3) 7 true), oo 14 (.ld (.t 4) 1 false), oo 15 (.ld (.t 5) 1 false), oo 16 (cw n_cf_openGuards [(.t 13), (.t 14), (.t 15)]), om 12 16, oo 17 (.ext (.t 12) 0), oo 18 (.ext (.t 12) 1), oo 19 (.ext (.t 12) 2), oo 8 (.alloc [.str ⟨#[]⟩, .sl 2 (some true) [], .sl 5 (some true) [], .sl 4 (some true) [], .sl 3 (some true) [], .sl 2 (some true) [], .sl 2 (some true) [], .sl 1 (some true) []]), ou (.st (.t 8) (.t 17) 8), om 9 18, om 10 19] (some [4, 5, 6, 7, 8, 9, 10]))
 (.sq (.sq (.op 0 [om 20 10, oo 21 (.bin .neq (.t 20) (ki 0))] none)
 (.cd (.t 21)
 (.sq (.op 0 [om 22 10, ou (.st (.t 6) (.c (.sl 1 (some true) [])) 1), ou (.st (.t 7) (.t 22) 1)] none)
 .rt)
 .sk))
 (.sq (.sq (.kp [4, 5, 6, 7, 8, 25] [6, 7] (.op 0 [oo 23 (.ld (.t 8) 8 true), om 24 9, oo 25 (cw n_cf_nw_points [(.t 23), (.t 24)])] none))
 (.bk 0 (.kp [6, 7] [6, 7] (.rf (.t 25) 33 0 [4, 5, 6, 7, 8] [26] c_cf_MeetingOf_R0A c_cf_MeetingOf_R0B))))
 (.sq (.op 0 [ou (.st (.t 6) (.c (.sl 1 (some true) [])) 1), ou (.st (.t 7) (ki 12) 1)] none)
 .rt))))),
 [.c 6 1 false, .c 7 1 false]⟩
def c_cf_openTwo : FnIR := ⟨26,
 (.sq (.op 0 [oo 3 (.box (.t 0) 7), oo 6 (.alloc [.str ⟨#[]⟩, .sl 2 (some true) [], .sl 5 (some true) [], .sl 4 (some true) [], .sl 3 (some true) [], .sl 2 (some true) [], .sl 2 (some true) [], .sl 1 (some true) []]), oo 7 (.mv (ki 0))] none)
 (.sq (.op 0 [oo 11 (.ld (.t 3) 7 true), om 12 1, om 13 2, oo 14 (.bsp t_int 1 false [.int .i64 0] 2 [(0, (.t 12)), (1, (.t 13))]), oo 15 (cv n_cf_open [(.t 11), (.t 14)]), om 10 15, oo 16 (.ext (.t 10) 0), oo 17 (.ext (.t 10) 1), oo 8 (.alloc [.str ⟨#[]⟩, .sl 2 (some true) [], .sl 5 (some true) [], .sl 4 (some true) [], .sl 3 (some true) [], .sl 2 (some true) [], .sl 2 (some true) [], .sl 1 (some true) []]), ou (.st (.t 8) (.t 16) 8), om 9 17] (some [1, 2, 6, 8, 9]))
 (.sq (.op 8 [oo 18 (.ld (.t 8) 8 true), om 19 9, om 20 1, om 21 2, oo 22 (.bin .neq (.t 20) (.t 21)), oo 23 (cv n_cf_unless [(.t 22), (ki 23)]), oo 24 (.bsp t_api_Errno 1 false [.int .i64 0] 2 [(0, (.t 19)), (1, (.t 23))]), oo 25 (cv n_cf_first [(.t 24)]), ou (.st (.t 6) (.t 18) 8), om 7 25] (some [6, 7]))
 .rt))),
 [.c 6 8 true, .t 7]⟩
def b_cf_nw_shared_L0 : IR :=
 (.sq (.op 0 [oo 12 (.bin .lss (.t 11) (.t 10))] none)
 (.sq (.cd (.t 12)
 .sk
 (.ex 0))
 (.sq (.bk 1 (.sq (.op 0 [om 13 11, om 4 13] none)
 (.op 15 [oo 14 (.fa (.t 3) 8), oo 15 (.ld (.t 14) 1 false), oo 16 (.ld (.t 1) 8 true), om 17 4, oo 18 (cv n_cf_nw_reads [(.t 16), (.t 17)]), oo 19 (.bsl t_L_int 1 false [.sl 1 (some true) []] 1 [(0, (.t 18))]), oo 20 (.apx (.t 15) (.t 19) t_L_int 1 [0, 1, 2, 3, 4, 5]), oo 21 (.fa (.t 3) 9), oo 22 (.ld (.t 21) 1 false), oo 23 (.ld (.t 1) 8 true), om 24 4, oo 25 (cv n_cf_nw_writes [(.t 23), (.t 24)]), oo 26 (.bsl t_L_int 1 false [.sl 1 (some true) []] 1 [(0, (.t 25))]), oo 27 (.apx (.t 22) (.t 26) t_L_int 1 [0, 1, 2, 3, 4, 5, 6, 7, 8, 9, 10, 11, 12]), oo 28 (.fa (.t 3) 8), ou (.st (.t 28) (.t 20) 1), oo 29 (.fa (.t 3) 9), ou (.st (.t 29) (.t 27) 1)] (some [1, 2, 3, 10, 11]))))
 (.op 0 [oo 30 (.bin .add (.t 11) (ki 1)), om 11 30] none))))
def c_cf_nw_shared_L0 : IR := b_cf_nw_shared_L0
theorem u_cf_nw_shared_L0 : evC C L π k0 c_cf_nw_shared_L0 e s = evC C L π k0 b_cf_nw_shared_L0 e s := rfl
def c_cf_nw_shared : FnIR := ⟨32,
 (.sq (.op 0 [oo 1 (.box (.t 0) 8), oo 2 (.alloc [.str ⟨#[]⟩, .sl 2 (some true) [], .sl 5 (some true) [], .sl 4 (some true) [], .sl 3 (some true) [], .sl 2 (some true) [], .sl 2 (some true) [], .sl 1 (some true) [], .sl 1 (some true) [], .sl 1 (some true) []])] none)
 (.sq (.op 0 [oo 5 (.ld (.t 1) 8 true), oo 6 (.build [.str ⟨#[]⟩, .sl 2 (some true) [], .sl 5 (some true) [], .sl 4 (some true) [], .sl 3 (some true) [], .sl 2 (some true) [], .sl 2 (some true) [], .sl 1 (some true) [], .sl 1 (some true) [], .sl 1 (some true) []] [(0, 8, (.t 5))]), oo 3 (.alloc [.str ⟨#[]⟩, .sl 2 (some true) [], .sl 5 (some true) [], .sl 4 (some true) [], .sl 3 (some true) [], .sl 2 (some true) [], .sl 2 (some true) [], .sl 1 (some true) [], .sl 1 (some true) [], .sl 1 (some true) []]), ou (.st (.t 3) (.t 6) 10)] (some [1, 2, 3]))
 (.sq (.sq (.op 0 [oo 7 (.fa (.t 1) 0), oo 8 (.fa (.t 7) 4), oo 9 (.ld (.t 8) 1 false), oo 10 (.len false (.t 9)), oo 11 (.mv (ki 0))] (some [1, 2, 3, 10, 11]))
 (.kp [2, 3] [2] (.bk 0 (.lp [(t_L_int, .inr (3, 8)), (t_L_int, .inr (3, 9))] [1, 2, 3, 10, 11] c_cf_nw_shared_L0))))
 (.sq (.op 0 [oo 31 (.ld (.t 3) 10 true), ou (.st (.t 2) (.t 31) 10)] none)
 .rt)))),
 [.c 2 10 true]⟩
def c_cf_sh_relation : FnIR := ⟨48,
 (.sq (.op 0 [oo 3 (.box (.t 0) 10), oo 5 (.box (.t 2) 1), oo 6 (.mv (ki 0))] none)
 (.sq (.op 7 [oo 10 (.ld (.t 3) 10 true), om 11 1, oo 12 (.ld (.t 5) 1 false), oo 13 (cv n_cf_sh_mayPrecede [(.t 10), (.t 11), (.t 12)]), oo 14 (.ld (.t 3) 10 true), oo 15 (.ld (.t 5) 1 false), om 16 1, oo 17 (cv n_cf_sh_mayPrecede [(.t 14), (.t 15), (.t 16)]), om 7 13, om 8 17] (some [1, 3, 5, 7, 8]))
 (.sq (.op 0 [oo 18 (.fa (.t 3) 9), oo 19 (.ld (.t 18) 1 false), om 20 1, oo 21 (.ia (.t 19) (.t 20) 1), oo 22 (.ld (.t 21) 1 false), oo 23 (.mkf n_cf_sh_relation_1 [(.t 3), (.t 5)]), oo 24 (cv n_sl_CoF_int_int [(.t 22), (.t 23)]), om 9 24] (some [1, 5, 7, 8, 9]))
 (.sq (.bk 0 (.sq (.op 0 [om 26 1, oo 27 (.ld (.t 5) 1 false), oo 28 (.bin .eql (.t 26) (.t 27)), om 29 28, og 30 29 false (.mv (.t 7)), og 31 29 false (.un .not (.t 30)), og 32 29 false (.mv (.t 31)), og 33 32 true (.mv (.t 8)), og 34 32 true (.un .not (.t 33)), og 35 29 false (.pick (.t 32) (.t 34) (.c (.bool false))), oo 36 (.pick (.t 29) (.c (.bool true)) (.t 35)), om 25 36] (some [7, 8, 9, 25]))
 (.cd (.t 25)
 (.sq (.op 0 [oo 6 (.mv (ki 4))] none)
 .rt)
 (.sq (.op 0 [om 38 7, om 39 38, og 40 39 true (.mv (.t 8)), og 41 39 true (.un .not (.t 40)), oo 42 (.pick (.t 39) (.t 41) (.c (.bool false))), om 37 42] (some [7, 9, 37]))
 (.cd (.t 37)
 (.sq (.op 0 [oo 6 (.mv (ki 2))] none)
 .rt)
 (.sq (.op 0 [om 44 7, oo 45 (.un .not (.t 44)), om 43 45] none)
 (.cd (.t 43)
 (.sq (.op 0 [oo 6 (.mv (ki 3))] none)
 .rt)
 (.sq (.op 0 [om 47 9, om 46 47] none)
 (.cd (.t 46)
 (.sq (.op 0 [oo 6 (.mv (ki 1))] none)
 .rt)
 .sk)))))))))
 (.sq (.op 0 [oo 6 (.mv (ki 0))] none)
 .rt))))),
 [.t 6]⟩
def c_rb_CopyPorts : FnIR := ⟨6,
 (.sq (.op 0 [oo 2 (.mv (.c (.sl 2 (some true) [])))] none)
 (.sq (.op 0 [oo 3 (.bsl t_api_Port 2 true [.str ⟨#[]⟩, .int .i64 0] 0 []), om 4 0, oo 5 (.app (.t 3) (.t 4) t_api_Port 2), om 2 5] (some [2]))
 .rt)),
 [.t 2]⟩
def b_rb_CopyNodes_L0 : IR :=
 (.sq (.sq (.op 0 [om 8 4, om 9 0, oo 10 (.len false (.t 9)), oo 11 (.bin .lss (.t 8) (.t 10))] (some [0, 3, 4, 11]))
 (.cd (.t 11)
 .sk
 (.ex 0)))
 (.sq (.bk 1 (.sq (.op 0 [om 14 3, om 15 4, om 16 0, om 17 4, oo 18 (.ia (.t 16) (.t 17) 4), oo 19 (.ld (.t 18) 4 true), oo 20 (.ia (.t 14) (.t 15) 4), ou (.st (.t 20) (.t 19) 4)] (some [0, 3, 4]))
 (.op 0 [om 21 3, om 22 4, om 23 0, om 24 4, oo 25 (.ia (.t 23) (.t 24) 4), oo 26 (.fa (.t 25) 2), oo 27 (.ld (.t 26) 1 false), oo 28 (cv n_rb_CopyInts [(.t 27)]), oo 29 (.ia (.t 21) (.t 22) 4), oo 30 (.fa (.t 29) 2), ou (.st (.t 30) (.t 28) 1)] (some [0, 3, 4]))))
 (.op 0 [om 12 4, oo 13 (.bin .add (.t 12) (ki 1)), om 4 13] none)))
def c_rb_CopyNodes_L0 : IR := b_rb_CopyNodes_L0
theorem u_rb_CopyNodes_L0 : evC C L π k0 c_rb_CopyNodes_L0 e s = evC C L π k0 b_rb_CopyNodes_L0 e s := rfl
def c_rb_CopyNodes : FnIR := ⟨32,
 (.sq (.op 0 [oo 2 (.mv (.c (.sl 4 (some true) [])))] none)
 (.sq (.op 0 [om 5 0, oo 6 (.len false (.t 5)), oo 7 (.mks t_api_Node 4 true [.int .i64 0, .int .i64 0, .sl 1 (some true) [], .int .i64 0] (.t 6) (.t 6)), om 3 7] (some [0, 3]))
 (.sq (.sq (.op 0 [oo 4 (.mv (ki 0))] none)
 (.kp [3] [2] (.bk 0 (.lp [] [0, 3, 4] c_rb_CopyNodes_L0))))
 (.sq (.op 0 [om 31 3, om 2 31] none)
 .rt)))),
 [.t 2]⟩
def c_rb_CopyOutputs : FnIR := ⟨6,
 (.sq (.op 0 [oo 2 (.mv (.c (.sl 2 (some true) [])))] none)
 (.sq (.op 0 [oo 3 (.bsl t_api_Output 2 true [.str ⟨#[]⟩, .int .i64 0] 0 []), om 4 0, oo 5 (.app (.t 3) (.t 4) t_api_Output 2), om 2 5] (some [2]))
 .rt)),
 [.t 2]⟩
def c_rb_CopyWrites : FnIR := ⟨6,
 (.sq (.op 0 [oo 2 (.mv (.c (.sl 3 (some true) [])))] none)
 (.sq (.op 0 [oo 3 (.bsl t_api_Write 3 true [.int .i64 0, .int .i64 0, .int .i64 0] 0 []), om 4 0, oo 5 (.app (.t 3) (.t 4) t_api_Write 3), om 2 5] (some [2]))
 .rt)),
 [.t 2]⟩
def b_cf_open_L0 : IR :=
 (.sq (.op 0 [oo 24 (.bin .lss (.t 23) (.t 22))] none)
 (.sq (.cd (.t 24)
 .sk
 (.ex 0))
 (.sq (.bk 1 (.sq (.op 0 [oo 25 (.ia (.t 21) (.t 23) 2), oo 26 (.ld (.t 25) 2 true), oo 10 (.alloc [.str ⟨#[]⟩, .int .i64 0]), ou (.st (.t 10) (.t 26) 2)] (some [1, 2, 4, 7, 8, 10, 21, 22, 23]))
 (.op 0 [oo 27 (.fa (.t 8) 7), oo 28 (.ld (.t 27) 1 false), oo 29 (.fa (.t 10) 1), oo 30 (.ld (.t 29) 1 false), oo 31 (.bsl t_int 1 false [.int .i64 0] 1 [(0, (.t 30))]), oo 32 (.app (.t 28) (.t 31) t_int 1), oo 33 (.fa (.t 8) 7), ou (.st (.t 33) (.t 32) 1)] (some [1, 2, 4, 7, 8, 21, 22, 23]))))
 (.op 0 [oo 34 (.bin .add (.t 23) (ki 1)), om 23 34] none))))
def c_cf_open_L0 : IR := b_cf_open_L0
theorem u_cf_open_L0 : evC C L π k0 c_cf_open_L0 e s = evC C L π k0 b_cf_open_L0 e s := rfl
def b_cf_open_L1 : IR :=
 (.sq (.op 0 [oo 39 (.bin .lss (.t 38) (.t 37))] none)
 (.sq (.cd (.t 39)
 .sk
 (.ex 2))
 (.sq (.bk 3 (.sq (.op 0 [oo 40 (.ia (.t 36) (.t 38) 5), oo 41 (.ld (.t 40) 5 true), oo 12 (.alloc [.str ⟨#[]⟩, .int .i64 0, .int .i64 0, .int .i64 0, .int .i64 0]), ou (.st (.t 12) (.t 41) 5)] (some [1, 4, 7, 8, 12, 36, 37, 38]))
 (.op 0 [oo 42 (.fa (.t 8) 7), oo 43 (.ld (.t 42) 1 false), oo 44 (.fa (.t 12) 2), oo 45 (.ld (.t 44) 1 false), oo 46 (.bsl t_int 1 false [.int .i64 0] 1 [(0, (.t 45))]), oo 47 (.app (.t 43) (.t 46) t_int 1), oo 48 (.fa (.t 8) 7), ou (.st (.t 48) (.t 47) 1)] (some [1, 4, 7, 8, 36, 37, 38]))))
 (.op 0 [oo 49 (.bin .add (.t 38) (ki 1)), om 38 49] none))))
def c_cf_open_L1 : IR := b_cf_open_L1
theorem u_cf_open_L1 : evC C L π k0 c_cf_open_L1 e s = evC C L π k0 b_cf_open_L1 e s := rfl
def c_cf_open : FnIR := ⟨60,
 (.sq (.op 0 [oo 2 (.box (.t 0) 7), oo 4 (.alloc [.str ⟨#[]⟩, .sl 2 (some true) [], .sl 5 (some true) [], .sl 4 (some true) [], .sl 3 (some true) [], .sl 2 (some true) [], .sl 2 (some true) [], .sl 1 (some true) []]), oo 5 (.mv (ki 0))] none)
 (.sq (.op 0 [oo 14 (.ld (.t 2) 7 true), oo 15 (cv n_ds_CkD [(.t 14)]), om 13 15, oo 16 (.ext (.t 13) 0), oo 17 (.ext (.t 13) 1), om 6 16, om 7 17] (some [1, 2, 4, 7]))
 (.sq (.op 0 [oo 18 (.ld (.t 2) 7 true), oo 19 (.build [.str ⟨#[]⟩, .sl 2 (some true) [], .sl 5 (some true) [], .sl 4 (some true) [], .sl 3 (some true) [], .sl 2 (some true) [], .sl 2 (some true) [], .sl 1 (some true) []] [(0, 7, (.t 18))]), oo 8 (.alloc [.str ⟨#[]⟩, .sl 2 (some true) [], .sl 5 (some true) [], .sl 4 (some true) [], .sl 3 (some true) [], .sl 2 (some true) [], .sl 2 (some true) [], .sl 1 (some true) []]), ou (.st (.t 8) (.t 19) 8)] (some [1, 2, 4, 7, 8]))
 (.sq (.sq (.op 0 [oo 20 (.fa (.t 2) 1), oo 21 (.ld (.t 20) 1 false), oo 22 (.len false (.t 21)), oo 23 (.mv (ki 0))] (some [1, 2, 4, 7, 8, 21, 22, 23]))
 (.kp [1, 2, 4, 7, 8] [4, 5] (.bk 0 (.lp [(t_int, .inr (8, 7))] [1, 2, 4, 7, 8, 21, 22, 23] c_cf_open_L0))))
 (.sq (.sq (.op 0 [oo 35 (.fa (.t 2) 2), oo 36 (.ld (.t 35) 1 false), oo 37 (.len false (.t 36)), oo 38 (.mv (ki 0))] (some [1, 4, 7, 8, 36, 37, 38]))
 (.kp [1, 4, 7, 8] [4, 5] (.bk 2 (.lp [(t_int, .inr (8, 7))] [1, 4, 7, 8, 36, 37, 38] c_cf_open_L1))))
 (.sq (.sq (.op 0 [om 50 7, oo 51 (.bin .eql (.t 50) (ki 0))] none)
 (.cd (.t 51)
 (.op 0 [om 53 1, oo 54 (.mkf n_cf_open_1 [(.t 8)]), oo 55 (cv n_cf_each_int [(.t 53), (.t 54)]), om 52 55, oo 56 (.ext (.t 52) 0), oo 57 (.ext (.t 52) 1), om 7 57] (some [4, 7, 8]))
 .sk))
 (.sq (.op 0 [oo 58 (.ld (.t 8) 8 true), om 59 7, ou (.st (.t 4) (.t 58) 8), om 5 59] (some [4, 5]))
 .rt))))))),
 [.c 4 8 true, .t 5]⟩
def b_rb_DesignErr_L1 : IR :=
 (.sq (.sq (.op 0 [om 78 12, om 79 10, oo 80 (.bin .lss (.t 78) (.t 79))] none)
 (.cd (.t 80)
 .sk
 (.ex 2)))
 (.sq (.bk 3 (.sq (.op 8 [oo 83 (.fa (.t 1) 4), oo 84 (.ld (.t 83) 1 false), om 85 12, oo 86 (.ia (.t 84) (.t 85) 3), oo 87 (.fa (.t 86) 0), oo 88 (.ld (.t 87) 1 false), oo 89 (.fa (.t 11) 0), oo 90 (.ld (.t 89) 1 false), oo 91 (.bin .eql (.t 88) (.t 90))] (some [1, 10, 11, 12, 91]))
 (.cd (.t 91)
 (.sq (.op 0 [om 92 10, om 2 92, oo 3 (.mv (ki 5))] none)
 .rt)
 .sk)))
 (.op 0 [om 81 12, oo 82 (.bin .add (.t 81) (ki 1)), om 12 82] none)))
def c_rb_DesignErr_L1 : IR := b_rb_DesignErr_L1
theorem u_rb_DesignErr_L1 : evC C L π k0 c_rb_DesignErr_L1 e s = evC C L π k0 b_rb_DesignErr_L1 e s := rfl
def b_rb_DesignErr_L0 : IR :=
 (.sq (.sq (.op 0 [om 61 10, oo 62 (.fa (.t 1) 4), oo 63 (.ld (.t 62) 1 false), oo 64 (.len false (.t 63)), oo 65 (.bin .lss (.t 61) (.t 64))] (some [1, 10, 65]))
 (.cd (.t 65)
 .sk
 (.ex 0)))
 (.sq (.bk 1 (.sq (.op 0 [oo 68 (.fa (.t 1) 4), oo 69 (.ld (.t 68) 1 false), om 70 10, oo 71 (.ia (.t 69) (.t 70) 3), oo 72 (.ld (.t 71) 3 true), oo 11 (.alloc [.str ⟨#[]⟩, .int .i64 0, .sl 3 (some true) []]), ou (.st (.t 11) (.t 72) 3)] (some [1, 10, 11]))
 (.sq (.sq (.op 0 [oo 73 (.fa (.t 11) 0), oo 74 (.ld (.t 73) 1 false), oo 75 (cv n_rb_IsName [(.t 74)]), oo 76 (.un .not (.t 75))] (some [1, 10, 11, 76]))
 (.cd (.t 76)
 (.sq (.op 0 [om 77 10, om 2 77, oo 3 (.mv (ki 4))] none)
 .rt)
 .sk))
 (.sq (.sq (.op 0 [oo 12 (.mv (ki 0))] none)
 (.kp [1, 10, 11] [2, 3] (.bk 2 (.lp [] [1, 10, 11, 12] c_rb_DesignErr_L1))))
 (.sq (.sq (.op 0 [oo 93 (.fa (.t 1) 3), oo 94 (.ld (.t 93) 1 false), oo 95 (.fa (.t 11) 1), oo 96 (.ld (.t 95) 1 false), oo 97 (cv n_rb_IsCondition [(.t 94), (.t 96)]), oo 98 (.un .not (.t 97))] (some [1, 10, 11, 98]))
 (.cd (.t 98)
 (.sq (.op 0 [om 99 10, om 2 99, oo 3 (.mv (ki 9))] none)
 .rt)
 .sk))
 (.sq (.op 0 [oo 100 (.fa (.t 1) 2), oo 101 (.ld (.t 100) 1 false), oo 102 (.fa (.t 1) 3), oo 103 (.ld (.t 102) 1 false), oo 104 (.fa (.t 11) 2), oo 105 (.ld (.t 104) 1 false), oo 106 (cv n_rb_WritesErr [(.t 101), (.t 103), (.t 105)]), om 13 106] (some [1, 10, 13]))
 (.sq (.op 0 [om 107 13, oo 108 (.bin .neq (.t 107) (ki 0))] none)
 (.cd (.t 108)
 (.sq (.op 0 [om 109 10, om 110 13, om 2 109, om 3 110] (some [2, 3]))
 .rt)
 .sk))))))))
 (.op 0 [om 66 10, oo 67 (.bin .add (.t 66) (ki 1)), om 10 67] none)))
def c_rb_DesignErr_L0 : IR := b_rb_DesignErr_L0
theorem u_rb_DesignErr_L0 : evC C L π k0 c_rb_DesignErr_L0 e s = evC C L π k0 b_rb_DesignErr_L0 e s := rfl
def b_rb_DesignErr_L3 : IR :=
 (.sq (.sq (.op 0 [om 155 18, oo 156 (.fa (.t 17) 1), oo 157 (.ld (.t 156) 1 false), oo 158 (.len false (.t 157)), oo 159 (.bin .lss (.t 155) (.t 158))] (some [1, 16, 17, 18, 159]))
 (.cd (.t 159)
 .sk
 (.ex 6)))
 (.sq (.bk 7 (.sq (.sq (.op 9 [oo 162 (.fa (.t 17) 1), oo 163 (.ld (.t 162) 1 false), om 164 18, oo 165 (.ia (.t 163) (.t 164) 1), oo 166 (.ld (.t 165) 1 false), oo 167 (.fa (.t 1) 4), oo 168 (.ld (.t 167) 1 false), oo 169 (.len false (.t 168)), oo 170 (.bin .sub (.t 169) (ki 1)), oo 171 (cv n_rb_Within [(.t 166), (ki 0), (.t 170)]), oo 172 (.un .not (.t 171))] (some [1, 16, 17, 18, 172]))
 (.cd (.t 172)
 (.sq (.op 0 [om 173 16, om 2 173, oo 3 (.mv (ki 6))] none)
 .rt)
 .sk))
 (.sq (.op 9 [oo 174 (.fa (.t 17) 1), oo 175 (.ld (.t 174) 1 false), om 176 18, oo 177 (.slc false (.t 175) none (some (.t 176)) 1), oo 178 (.fa (.t 17) 1), oo 179 (.ld (.t 178) 1 false), om 180 18, oo 181 (.ia (.t 179) (.t 180) 1), oo 182 (.ld (.t 181) 1 false), oo 183 (cv n_rb_Has [(.t 177), (.t 182)])] (some [1, 16, 17, 18, 183]))
 (.cd (.t 183)
 (.sq (.op 0 [om 184 16, om 2 184, oo 3 (.mv (ki 23))] none)
 .rt)
 .sk))))
 (.op 0 [om 160 18, oo 161 (.bin .add (.t 160) (ki 1)), om 18 161] none)))
def c_rb_DesignErr_L3 : IR := b_rb_DesignErr_L3
theorem u_rb_DesignErr_L3 : evC C L π k0 c_rb_DesignErr_L3 e s = evC C L π k0 b_rb_DesignErr_L3 e s := rfl
def b_rb_DesignErr_L2 : IR :=
 (.sq (.sq (.op 0 [om 127 16, oo 128 (.fa (.t 1) 6), oo 129 (.ld (.t 128) 1 false), oo 130 (.len false (.t 129)), oo 131 (.bin .lss (.t 127) (.t 130))] (some [1, 16, 131]))
 (.cd (.t 131)
 .sk
 (.ex 4)))
 (.sq (.bk 5 (.sq (.op 0 [oo 134 (.fa (.t 1) 6), oo 135 (.ld (.t 134) 1 false), om 136 16, oo 137 (.ia (.t 135) (.t 136) 2), oo 138 (.ld (.t 137) 2 true), oo 17 (.alloc [.int .i64 0, .sl 1 (some true) []]), ou (.st (.t 17) (.t 138) 2)] (some [1, 16, 17]))
 (.sq (.sq (.op 0 [oo 139 (.fa (.t 17) 0), oo 140 (.ld (.t 139) 1 false), oo 141 (cv n_rb_Within [(.t 140), (ki 0), (ki 3)]), oo 142 (.un .not (.t 141))] (some [1, 16, 17, 142]))
 (.cd (.t 142)
 (.sq (.op 0 [om 143 16, om 2 143, oo 3 (.mv (ki 15))] none)
 .rt)
 .sk))
 (.sq (.sq (.op 0 [oo 144 (.fa (.t 17) 1), oo 145 (.ld (.t 144) 1 false), oo 146 (.len false (.t 145)), oo 147 (.bin .eql (.t 146) (ki 0)), om 148 147, og 149 148 false (.fa (.t 17) 1), og 150 148 false (.ld (.t 149) 1 false), og 151 148 false (.len false (.t 150)), og 152 148 false (.bin .gtr (.t 151) (ki 16)), oo 153 (.pick (.t 148) (.c (.bool true)) (.t 152))] (some [1, 16, 17, 153]))
 (.cd (.t 153)
 (.sq (.op 0 [om 154 16, om 2 154, oo 3 (.mv (ki 10))] none)
 .rt)
 .sk))
 (.sq (.op 0 [oo 18 (.mv (ki 0))] none)
 (.kp [1, 16] [2, 3] (.bk 6 (.lp [] [1, 16, 17, 18] c_rb_DesignErr_L3))))))))
 (.op 0 [om 132 16, oo 133 (.bin .add (.t 132) (ki 1)), om 16 133] none)))
def c_rb_DesignErr_L2 : IR := b_rb_DesignErr_L2
theorem u_rb_DesignErr_L2 : evC C L π k0 c_rb_DesignErr_L2 e s = evC C L π k0 b_rb_DesignErr_L2 e s := rfl
def c_rb_DesignErr : FnIR := ⟨185,
 (.sq (.op 0 [oo 1 (.box (.t 0) 7), oo 2 (.mv (ki 0)), oo 3 (.mv (ki 0))] none)
 (.sq (.sq (.op 0 [oo 19 (.fa (.t 1) 0), oo 20 (.ld (.t 19) 1 false), oo 21 (cv n_rb_IsName [(.t 20)]), oo 22 (.un .not (.t 21))] (some [1, 22]))
 (.cd (.t 22)
 (.sq (.op 0 [oo 2 (.mv (ki 0)), oo 3 (.mv (ki 4))] none)
 .rt)
 .sk))
 (.sq (.sq (.op 0 [oo 24 (.fa (.t 1) 1), oo 25 (.ld (.t 24) 1 false), oo 26 (cv n_rb_PortsErr [(.t 25)]), om 23 26, oo 27 (.ext (.t 23) 0), oo 28 (.ext (.t 23) 1), om 4 27, om 5 28] (some [1, 4, 5]))
 (.sq (.op 0 [om 29 5, oo 30 (.bin .neq (.t 29) (ki 0))] none)
 (.cd (.t 30)
 (.sq (.op 0 [om 31 4, om 32 5, om 2 31, om 3 32] (some [2, 3]))
 .rt)
 .sk)))
 (.sq (.sq (.op 0 [oo 34 (.fa (.t 1) 1), oo 35 (.ld (.t 34) 1 false), oo 36 (.fa (.t 1) 2), oo 37 (.ld (.t 36) 1 false), oo 38 (cv n_rb_ElementsErr [(.t 35), (.t 37)]), om 33 38, oo 39 (.ext (.t 33) 0), oo 40 (.ext (.t 33) 1), om 6 39, om 7 40] (some [1, 6, 7]))
 (.sq (.op 0 [om 41 7, oo 42 (.bin .neq (.t 41) (ki 0))] none)
 (.cd (.t 42)
 (.sq (.op 0 [om 43 6, om 44 7, om 2 43, om 3 44] (some [2, 3]))
 .rt)
 .sk)))
 (.sq (.sq (.op 9 [oo 46 (.ld (.t 1) 7 true), oo 47 (cv n_rb_Leaves [(.t 46)]), oo 48 (.fa (.t 1) 3), oo 49 (.ld (.t 48) 1 false), oo 50 (cv n_rb_NodesErr [(.t 47), (.t 49)]), om 45 50, oo 51 (.ext (.t 45) 0), oo 52 (.ext (.t 45) 1), om 8 51, om 9 52] (some [1, 8, 9]))
 (.sq (.op 0 [om 53 9, oo 54 (.bin .neq (.t 53) (ki 0))] none)
 (.cd (.t 54)
 (.sq (.op 0 [om 55 8, om 56 9, om 2 55, om 3 56] (some [2, 3]))
 .rt)
 .sk)))
 (.sq (.sq (.op 0 [oo 57 (.fa (.t 1) 4), oo 58 (.ld (.t 57) 1 false), oo 59 (.len false (.t 58)), oo 60 (.bin .gtr (.t 59) (ki 16))] (some [1, 60]))
 (.cd (.t 60)
 (.sq (.op 0 [oo 2 (.mv (ki 0)), oo 3 (.mv (ki 8))] none)
 .rt)
 .sk))
 (.sq (.sq (.op 0 [oo 10 (.mv (ki 0))] none)
 (.kp [1] [2, 3] (.bk 0 (.lp [] [1, 10] c_rb_DesignErr_L0))))
 (.sq (.sq (.op 0 [oo 112 (.fa (.t 1) 3), oo 113 (.ld (.t 112) 1 false), oo 114 (.fa (.t 1) 5), oo 115 (.ld (.t 114) 1 false), oo 116 (cv n_rb_OutputsErr [(.t 113), (.t 115)]), om 111 116, oo 117 (.ext (.t 111) 0), oo 118 (.ext (.t 111) 1), om 14 117, om 15 118] (some [1, 14, 15]))
 (.sq (.op 0 [om 119 15, oo 120 (.bin .neq (.t 119) (ki 0))] none)
 (.cd (.t 120)
 (.sq (.op 0 [om 121 14, om 122 15, om 2 121, om 3 122] (some [2, 3]))
 .rt)
 .sk)))
 (.sq (.sq (.op 0 [oo 123 (.fa (.t 1) 6), oo 124 (.ld (.t 123) 1 false), oo 125 (.len false (.t 124)), oo 126 (.bin .gtr (.t 125) (ki 16))] (some [1, 126]))
 (.cd (.t 126)
 (.sq (.op 0 [oo 2 (.mv (ki 0)), oo 3 (.mv (ki 8))] none)
 .rt)
 .sk))
 (.sq (.sq (.op 0 [oo 16 (.mv (ki 0))] none)
 (.kp [] [2, 3] (.bk 4 (.lp [] [1, 16] c_rb_DesignErr_L2))))
 (.sq (.op 0 [oo 2 (.mv (ki 0)), oo 3 (.mv (ki 0))] none)
 .rt))))))))))),
 [.t 2, .t 3]⟩
def c_cf_within : FnIR := ⟨15,
 (.sq (.op 0 [oo 6 (.mv (.c (.bool false)))] none)
 (.sq (.op 0 [om 7 1, om 8 0, oo 9 (.bin .leq (.t 7) (.t 8)), om 10 9, og 11 10 true (.mv (.t 0)), og 12 10 true (.mv (.t 2)), og 13 10 true (.bin .leq (.t 11) (.t 12)), oo 14 (.pick (.t 10) (.t 13) (.c (.bool false))), om 6 14] (some [6]))
 .rt)),
 [.t 6]⟩
def c_rb_Within : FnIR := ⟨15,
 (.sq (.op 0 [oo 6 (.mv (.c (.bool false)))] none)
 (.sq (.op 0 [om 7 1, om 8 0, oo 9 (.bin .leq (.t 7) (.t 8)), om 10 9, og 11 10 true (.mv (.t 0)), og 12 10 true (.mv (.t 2)), og 13 10 true (.bin .leq (.t 11) (.t 12)), oo 14 (.pick (.t 10) (.t 13) (.c (.bool false))), om 6 14] (some [6]))
 .rt)),
 [.t 6]⟩
def c_cf_openRules : FnIR := ⟨39,
 (.sq (.op 0 [oo 2 (.box (.t 0) 7), oo 3 (.box (.t 1) 1), oo 4 (.alloc [.str ⟨#[]⟩, .sl 2 (some true) [], .sl 5 (some true) [], .sl 4 (some true) [], .sl 3 (some true) [], .sl 2 (some true) [], .sl 2 (some true) [], .sl 1 (some true) [], .sl 1 (some true) [], .sl 1 (some true) []]), oo 5 (.mv (ki 0))] (some [2, 3, 4]))
 (.sq (.op 0 [oo 9 (.ld (.t 2) 7 true), oo 10 (cv n_cf_open [(.t 9), (.c (.sl 1 (some true) []))]), om 8 10, oo 11 (.ext (.t 8) 0), oo 12 (.ext (.t 8) 1), oo 6 (.alloc [.str ⟨#[]⟩, .sl 2 (some true) [], .sl 5 (some true) [], .sl 4 (some true) [], .sl 3 (some true) [], .sl 2 (some true) [], .sl 2 (some true) [], .sl 1 (some true) []]), ou (.st (.t 6) (.t 11) 8), om 7 12] (some [2, 3, 4, 6, 7]))
 (.sq (.sq (.op 0 [om 13 7, oo 14 (.ld (.t 3) 1 false), oo 15 (.len false (.t 14)), oo 16 (.fa (.t 2) 4), oo 17 (.ld (.t 16) 1 false), oo 18 (.len false (.t 17)), oo 19 (.bin .leq (.t 15) (.t 18)), oo 20 (cv n_cf_unless [(.t 19), (ki 8)]), oo 21 (.bsp t_api_Errno 1 false [.int .i64 0] 2 [(0, (.t 13)), (1, (.t 20))]), oo 22 (cv n_cf_first [(.t 21)]), om 7 22] (some [3, 4, 6, 7]))
 (.sq (.op 0 [om 23 7, oo 24 (.bin .neq (.t 23) (ki 0))] none)
 (.cd (.t 24)
 (.sq (.op 0 [oo 25 (.build [.str ⟨#[]⟩, .sl 2 (some true) [], .sl 5 (some true) [], .sl 4 (some true) [], .sl 3 (some true) [], .sl 2 (some true) [], .sl 2 (some true) [], .sl 1 (some true) [], .sl 1 (some true) [], .sl 1 (some true) []] []), om 26 7, ou (.st (.t 4) (.t 25) 10), om 5 26] (some [4, 5]))
 .rt)
 .sk)))
 (.sq (.sq (.op 0 [oo 28 (.ld (.t 3) 1 false), oo 29 (.mkf n_cf_openRules_1 [(.t 6), (.t 3)]), oo 30 (cv n_cf_each_int [(.t 28), (.t 29)]), om 27 30, oo 31 (.ext (.t 27) 0), oo 32 (.ext (.t 27) 1), om 7 32] (some [4, 6, 7]))
 (.sq (.op 0 [om 33 7, oo 34 (.bin .neq (.t 33) (ki 0))] none)
 (.cd (.t 34)
 (.sq (.op 0 [oo 35 (.build [.str ⟨#[]⟩, .sl 2 (some true) [], .sl 5 (some true) [], .sl 4 (some true) [], .sl 3 (some true) [], .sl 2 (some true) [], .sl 2 (some true) [], .sl 1 (some true) [], .sl 1 (some true) [], .sl 1 (some true) []] []), om 36 7, ou (.st (.t 4) (.t 35) 10), om 5 36] (some [4, 5]))
 .rt)
 .sk)))
 (.sq (.op 0 [oo 37 (.ld (.t 6) 8 true), oo 38 (cw n_cf_nw_shared [(.t 37)]), ou (.st (.t 4) (.t 38) 10), oo 5 (.mv (ki 0))] (some [4, 5]))
 .rt))))),
 [.c 4 10 true, .t 5]⟩
def c_sl_Sorted_int : FnIR := ⟨9,
 (.sq (.op 0 [oo 2 (.mv (.c (.sl 1 (some true) [])))] none)
 (.sq (.op 0 [om 4 0, oo 5 (cw n_sl_Collect_int [(.t 4)]), om 3 5] none)
 (.sq (.op 0 [om 6 3, oo 7 (.callS (.c (.fn n_sl_Sort_int_int [])) [(.t 6)])] none)
 (.sq (.op 0 [om 8 3, om 2 8] none)
 .rt)))),
 [.t 2]⟩
def c_sl_Values_int_int : FnIR := ⟨4,
 (.sq (.op 0 [oo 1 (.box (.t 0) 1), oo 2 (.mv (.c (.nilf)))] none)
 (.sq (.op 0 [oo 3 (.mkf n_sl_Values_int_int_1 [(.t 1)]), om 2 3] none)
 .rt)),
 [.t 2]⟩
def b_sl_IxF_int_int_L0 : IR :=
 (.sq (.op 0 [oo 9 (.bin .lss (.t 8) (.t 7))] none)
 (.sq (.cd (.t 9)
 .sk
 (.ex 0))
 (.sq (.bk 1 (.sq (.op 0 [om 10 8, om 5 10] none)
 (.sq (.op 0 [om 11 1, om 12 0, om 13 5, oo 14 (.ia (.t 12) (.t 13) 1), oo 15 (.ld (.t 14) 1 false), oo 16 (.callV true (.t 11) [(.t 15)])] (some [0, 1, 5, 7, 8, 16]))
 (.cd (.t 16)
 (.sq (.op 0 [om 17 5, om 4 17] none)
 .rt)
 .sk))))
 (.op 0 [oo 18 (.bin .add (.t 8) (ki 1)), om 8 18] none))))
def c_sl_IxF_int_int_L0 : IR := b_sl_IxF_int_int_L0
theorem u_sl_IxF_int_int_L0 : evC C L π k0 c_sl_IxF_int_int_L0 e s = evC C L π k0 b_sl_IxF_int_int_L0 e s := rfl
def c_sl_IxF_int_int : FnIR := ⟨19,
 (.sq (.op 0 [oo 4 (.mv (ki 0))] none)
 (.sq (.sq (.op 0 [om 6 0, oo 7 (.len false (.t 6)), oo 8 (.mv (ki 0))] none)
 (.kp [] [4] (.bk 0 (.lp [] [0, 1, 7, 8] c_sl_IxF_int_int_L0))))
 (.sq (.op 0 [oo 4 (.mv (ki (-1)))] none)
 .rt))),
 [.t 4]⟩
def c_cf_OrderFor_1 : FnIR := ⟨9,
 (.sq (.op 0 [oo 4 (.mv (.c (.bool false)))] none)
 (.sq (.op 0 [oo 5 (.ld (.t 1) 10 true), om 6 0, oo 7 (.ld (.t 2) 1 false), oo 8 (cv n_cf_sh_isFirst [(.t 5), (.t 6), (.t 7)]), om 4 8] (some [4]))
 .rt)),
 [.t 4]⟩
def c_cf_sh_isFirst : FnIR := ⟨11,
 (.sq (.op 0 [oo 3 (.box (.t 0) 10), oo 4 (.box (.t 1) 1), oo 6 (.mv (.c (.bool false)))] none)
 (.sq (.op 0 [om 7 2, oo 8 (.mkf n_cf_sh_isFirst_1 [(.t 4), (.t 3)]), oo 9 (cv n_sl_CoF_int_int [(.t 7), (.t 8)]), oo 10 (.un .not (.t 9)), om 6 10] (some [6]))
 .rt)),
 [.t 6]⟩
def b_cf_sh_around_L1 : IR :=
 (.sq (.op 0 [oo 45 (.bin .lss (.t 44) (.t 43))] none)
 (.sq (.cd (.t 45)
 .sk
 (.ex 2))
 (.sq (.bk 3 (.sq (.op 0 [oo 46 (.ia (.t 42) (.t 44) 1), oo 47 (.ld (.t 46) 1 false), om 12 47] none)
 (.sq (.op 0 [om 48 12, om 49 1, oo 50 (.bin .gtr (.t 48) (.t 49)), om 51 50, og 52 51 true (.mv (.t 7)), og 53 51 true (.mv (.t 12)), og 54 51 true (.lkp (.t 52) (.t 53) (.int .i64 0) (.bool false) false), og 55 51 true (.un .not (.t 54)), oo 56 (.pick (.t 51) (.t 55) (.c (.bool false))), om 57 56, og 58 57 true (.ld (.t 3) 10 true), og 59 57 true (.mv (.t 12)), og 60 57 true (.mv (.t 10)), og 61 57 true (cv n_cf_sh_mayPrecede [(.t 58), (.t 59), (.t 60)]), og 62 57 true (.un .not (.t 61)), oo 63 (.pick (.t 57) (.t 62) (.c (.bool false)))] (some [1, 2, 3, 7, 8, 9, 10, 12, 42, 43, 44, 63]))
 (.cd (.t 63)
 (.sq (.op 0 [om 64 7, om 65 12, ou (.mpu (.t 64) (.t 65) (.c (.bool true)) (.int .i64 0))] none)
 (.op 0 [om 66 8, om 67 9, oo 68 (cw n_sl_Clone_int_int [(.t 67)]), om 69 12, oo 70 (.bsl t_int 1 false [.int .i64 0] 1 [(0, (.t 69))]), oo 71 (.app (.t 68) (.t 70) t_int 1), oo 72 (.bsl t_L_int 1 false [.sl 1 (some true) []] 1 [(0, (.t 71))]), oo 73 (.app (.t 66) (.t 72) t_L_int 1), om 8 73] (some [1, 2, 3, 7, 8, 9, 10, 42, 43, 44])))
 .sk))))
 (.op 0 [oo 74 (.bin .add (.t 44) (ki 1)), om 44 74] none))))
def c_cf_sh_around_L1 : IR := b_cf_sh_around_L1
def b_cf_sh_around_L0 : IR :=
 (.sq (.sq (.op 0 [om 17 8, oo 18 (.len false (.t 17)), oo 19 (.bin .gtr (.t 18) (ki 0))] none)
 (.cd (.t 19)
 .sk
 (.ex 0)))
 (.sq (.bk 1 (.sq (.op 0 [om 22 8, oo 23 (.ia (.t 22) (ki 0) 1), oo 24 (.ld (.t 23) 1 false), om 9 24] (some [1, 2, 3, 7, 8, 9]))
 (.sq (.op 0 [om 25 9, om 26 9, oo 27 (.len false (.t 26)), oo 28 (.bin .sub (.t 27) (ki 1)), oo 29 (.ia (.t 25) (.t 28) 1), oo 30 (.ld (.t 29) 1 false), om 10 30] (some [1, 2, 3, 7, 8, 9, 10]))
 (.sq (.sq (.op 0 [om 31 9, oo 32 (.len false (.t 31)), oo 33 (.bin .gtr (.t 32) (ki 1)), om 34 33, og 35 34 true (.ld (.t 3) 10 true), og 36 34 true (.mv (.t 1)), og 37 34 true (.mv (.t 10)), og 38 34 true (cv n_cf_sh_mayPrecede [(.t 35), (.t 36), (.t 37)]), og 39 34 true (.un .not (.t 38)), oo 40 (.pick (.t 34) (.t 39) (.c (.bool false)))] (some [1, 2, 3, 7, 8, 9, 10, 40]))
 (.cd (.t 40)
 (.sq (.op 0 [om 41 9, om 6 41] none)
 .rt)
 .sk))
 (.sq (.op 0 [om 42 2, oo 43 (.len false (.t 42)), oo 44 (.mv (ki 0))] none)
 (.kp [1, 2, 3, 7, 8] [6] (.bk 2 (.lp [(t_L_int, .inl 8)] [1, 2, 3, 7, 8, 9, 10, 42, 43, 44] c_cf_sh_around_L1))))))))
 (.op 0 [om 20 8, oo 21 (.shf (.t 20) (ki 1) 1), om 8 21] none)))
def c_cf_sh_around_L0 : IR := b_cf_sh_around_L0
def c_cf_sh_around : FnIR := ⟨75,
 (.sq (.op 0 [oo 3 (.box (.t 0) 10), oo 6 (.mv (.c (.sl 1 (some true) [])))] none)
 (.sq (.op 0 [oo 13 (.mkp), om 7 13] none)
 (.sq (.sq (.op 0 [om 14 1, oo 15 (.bsl t_int 1 false [.int .i64 0] 1 [(0, (.t 14))]), oo 16 (.bsl t_L_int 1 false [.sl 1 (some true) []] 1 [(0, (.t 15))]), om 8 16] (some [1, 2, 3, 7, 8]))
 (.kp [] [6] (.bk 0 (.lp [(t_L_int, .inl 8)] [1, 2, 3, 7, 8] c_cf_sh_around_L0))))
 (.sq (.op 0 [oo 6 (.mv (.c (.sl 1 (some true) [])))] none)
 .rt)))),
 [.t 6]⟩
def c_cf_unless : FnIR := ⟨7,
 (.sq (.op 0 [oo 4 (.mv (ki 0))] none)
 (.sq (.sq (.op 0 [om 5 0] none)
 (.cd (.t 5)
 (.sq (.op 0 [oo 4 (.mv (ki 0))] none)
 .rt)
 .sk))
 (.sq (.op 0 [om 6 1, om 4 6] none)
 .rt))),
 [.t 4]⟩
def b_cf_each_int_L0 : IR :=
 (.sq (.op 0 [oo 12 (.bin .lss (.t 11) (.t 10))] none)
 (.sq (.cd (.t 12)
 .sk
 (.ex 0))
 (.sq (.bk 1 (.sq (.op 0 [om 13 11, oo 14 (.ia (.t 9) (.t 11) 1), oo 15 (.ld (.t 14) 1 false), om 6 13, om 7 15] (some [1, 6, 7, 9, 10, 11]))
 (.sq (.op 0 [om 16 1, om 17 6, om 18 7, oo 19 (.callV true (.t 16) [(.t 17), (.t 18)]), om 8 19] (some [1, 6, 8, 9, 10, 11]))
 (.sq (.op 0 [om 20 8, oo 21 (.bin .neq (.t 20) (ki 0))] none)
 (.cd (.t 21)
 (.sq (.op 0 [om 22 6, om 23 8, om 4 22, om 5 23] (some [4, 5]))
 .rt)
 .sk)))))
 (.op 0 [oo 24 (.bin .add (.t 11) (ki 1)), om 11 24] none))))
def c_cf_each_int_L0 : IR := b_cf_each_int_L0
theorem u_cf_each_int_L0 : evC C L π k0 c_cf_each_int_L0 e s = evC C L π k0 b_cf_each_int_L0 e s := rfl
def c_cf_each_int : FnIR := ⟨25,
 (.sq (.op 0 [oo 4 (.mv (ki 0)), oo 5 (.mv (ki 0))] none)
 (.sq (.sq (.op 0 [om 9 0, oo 10 (.len false (.t 9)), oo 11 (.mv (ki 0))] none)
 (.kp [] [4, 5] (.bk 0 (.lp [] [1, 9, 10, 11] c_cf_each_int_L0))))
 (.sq (.op 0 [oo 4 (.mv (ki 0)), oo 5 (.mv (ki 0))] none)
 .rt))),
 [.t 4, .t 5]⟩
def b_cf_nw_reads_L0 : IR :=
 (.sq (.op 0 [oo 27 (.bin .lss (.t 26) (.t 25))] none)
 (.sq (.cd (.t 27)
 .sk
 (.ex 0))
 (.sq (.bk 1 (.sq (.op 0 [oo 28 (.ia (.t 24) (.t 26) 3), oo 29 (.ld (.t 28) 3 true), oo 7 (.alloc [.int .i64 0, .int .i64 0, .int .i64 0]), ou (.st (.t 7) (.t 29) 3)] (some [2, 5, 7, 24, 25, 26]))
 (.op 0 [om 30 5, oo 31 (.fa (.t 7) 1), oo 32 (.ld (.t 31) 1 false), oo 33 (.fa (.t 7) 2), oo 34 (.ld (.t 33) 1 false), oo 35 (.bsl t_int 1 false [.int .i64 0] 2 [(0, (.t 32)), (1, (.t 34))]), oo 36 (.app (.t 30) (.t 35) t_int 1), om 5 36] (some [2, 5, 24, 25, 26]))))
 (.op 0 [oo 37 (.bin .add (.t 26) (ki 1)), om 26 37] none))))
def c_cf_nw_reads_L0 : IR := b_cf_nw_reads_L0
theorem u_cf_nw_reads_L0 : evC C L π k0 c_cf_nw_reads_L0 e s = evC C L π k0 b_cf_nw_reads_L0 e s := rfl
def c_cf_nw_reads : FnIR := ⟨45,
 (.sq (.op 0 [oo 2 (.box (.t 0) 8), oo 4 (.mv (.c (.sl 1 (some true) [])))] none)
 (.sq (.op 0 [oo 10 (.fa (.t 2) 0), oo 11 (.fa (.t 10) 4), oo 12 (.ld (.t 11) 1 false), om 13 1, oo 14 (.ia (.t 12) (.t 13) 3), oo 15 (.fa (.t 14) 1), oo 16 (.ld (.t 15) 1 false), oo 17 (.bsl t_int 1 false [.int .i64 0] 1 [(0, (.t 16))]), om 5 17] (some [1, 2, 5]))
 (.sq (.sq (.op 0 [oo 18 (.fa (.t 2) 0), oo 19 (.fa (.t 18) 4), oo 20 (.ld (.t 19) 1 false), om 21 1, oo 22 (.ia (.t 20) (.t 21) 3), oo 23 (.fa (.t 22) 2), oo 24 (.ld (.t 23) 1 false), oo 25 (.len false (.t 24)), oo 26 (.mv (ki 0))] (some [2, 5, 24, 25, 26]))
 (.kp [2, 5] [4] (.bk 0 (.lp [(t_int, .inl 5)] [2, 5, 24, 25, 26] c_cf_nw_reads_L0))))
 (.sq (.op 0 [oo 39 (.ld (.t 2) 8 true), om 40 5, oo 41 (cw n_cf_nw_used [(.t 39), (.t 40)]), om 38 41, oo 42 (.ext (.t 38) 0), oo 43 (.ext (.t 38) 1), om 8 42, om 9 43] (some [8]))
 (.sq (.op 0 [om 44 8, om 4 44] none)
 .rt))))),
 [.t 4]⟩
def b_cf_nw_writes_L0 : IR :=
 (.sq (.op 0 [oo 17 (.bin .lss (.t 16) (.t 15))] none)
 (.sq (.cd (.t 17)
 .sk
 (.ex 0))
 (.sq (.bk 1 (.sq (.op 0 [oo 18 (.ia (.t 14) (.t 16) 3), oo 19 (.ld (.t 18) 3 true), oo 7 (.alloc [.int .i64 0, .int .i64 0, .int .i64 0]), ou (.st (.t 7) (.t 19) 3)] (some [5, 7, 14, 15, 16]))
 (.op 0 [om 20 5, oo 21 (.fa (.t 7) 0), oo 22 (.ld (.t 21) 1 false), oo 23 (.bsl t_int 1 false [.int .i64 0] 1 [(0, (.t 22))]), oo 24 (.app (.t 20) (.t 23) t_int 1), om 5 24] (some [5, 14, 15, 16]))))
 (.op 0 [oo 25 (.bin .add (.t 16) (ki 1)), om 16 25] none))))
def c_cf_nw_writes_L0 : IR := b_cf_nw_writes_L0
theorem u_cf_nw_writes_L0 : evC C L π k0 c_cf_nw_writes_L0 e s = evC C L π k0 b_cf_nw_writes_L0 e s := rfl
def c_cf_nw_writes : FnIR := ⟨30,
 (.sq (.op 0 [oo 2 (.box (.t 0) 8), oo 4 (.mv (.c (.sl 1 (some true) [])))] none)
 (.sq (.op 0 [oo 5 (.mv (.c (.sl 1 (some true) [])))] none)
 (.sq (.sq (.op 0 [oo 8 (.fa (.t 2) 0), oo 9 (.fa (.t 8) 4), oo 10 (.ld (.t 9) 1 false), om 11 1, oo 12 (.ia (.t 10) (.t 11) 3), oo 13 (.fa (.t 12) 2), oo 14 (.ld (.t 13) 1 false), oo 15 (.len false (.t 14)), oo 16 (.mv (ki 0))] (some [5, 14, 15, 16]))
 (.kp [5] [4] (.bk 0 (.lp [(t_int, .inl 5)] [5, 14, 15, 16] c_cf_nw_writes_L0))))
 (.sq (.op 0 [om 26 5, oo 27 (.callS (.c (.fn n_sl_Sort_int_int [])) [(.t 26)])] none)
 (.sq (.op 0 [om 28 5, oo 29 (.callS (.c (.fn n_sl_Compact_int_int [])) [(.t 28)]), om 4 29] none)
 .rt))))),
 [.t 4]⟩
def b_rb_LeavesBelow_L0 : IR :=
 (.sq (.sq (.op 0 [om 17 9, om 18 0, oo 19 (.len false (.t 18)), oo 20 (.bin .lss (.t 17) (.t 19))] (some [0, 2, 7, 8, 9, 20]))
 (.cd (.t 20)
 .sk
 (.ex 0)))
 (.sq (.bk 1 (.sq (.op 0 [om 23 7, om 24 9, oo 25 (.ia (.t 23) (.t 24) 1), oo 26 (.ld (.t 25) 1 false), om 27 26, og 28 27 true (.mv (.t 0)), og 29 27 true (.mv (.t 9)), og 30 27 true (.ia (.t 28) (.t 29) 4), og 31 27 true (.fa (.t 30) 0), og 32 27 true (.ld (.t 31) 1 false), og 33 27 true (.bin .eql (.t 32) (ki 1)), oo 34 (.pick (.t 27) (.t 33) (.c (.bool false)))] (some [0, 2, 7, 8, 9, 34]))
 (.cd (.t 34)
 (.op 0 [om 35 8, om 36 0, om 37 9, oo 38 (.ia (.t 36) (.t 37) 4), oo 39 (.fa (.t 38) 3), oo 40 (.ld (.t 39) 1 false), oo 41 (.ia (.t 35) (.t 40) 1), ou (.st (.t 41) (.c (.bool true)) 1)] (some [0, 2, 7, 8, 9]))
 .sk)))
 (.op 0 [om 21 9, oo 22 (.bin .add (.t 21) (ki 1)), om 9 22] none)))
def c_rb_LeavesBelow_L0 : IR := b_rb_LeavesBelow_L0
theorem u_rb_LeavesBelow_L0 : evC C L π k0 c_rb_LeavesBelow_L0 e s = evC C L π k0 b_rb_LeavesBelow_L0 e s := rfl
def b_rb_LeavesBelow_L1 : IR :=
 (.sq (.sq (.op 0 [om 42 11, om 43 2, oo 44 (.bin .lss (.t 42) (.t 43))] none)
 (.cd (.t 44)
 .sk
 (.ex 2)))
 (.sq (.bk 3 (.sq (.op 0 [om 47 8, om 48 11, oo 49 (.ia (.t 47) (.t 48) 1), oo 50 (.ld (.t 49) 1 false)] (some [2, 8, 10, 11, 50]))
 (.cd (.t 50)
 (.op 0 [om 51 10, om 52 11, oo 53 (.bsl t_int 1 false [.int .i64 0] 1 [(0, (.t 52))]), oo 54 (.app (.t 51) (.t 53) t_int 1), om 10 54] (some [2, 8, 10, 11]))
 .sk)))
 (.op 0 [om 45 11, oo 46 (.bin .add (.t 45) (ki 1)), om 11 46] none)))
def c_rb_LeavesBelow_L1 : IR := b_rb_LeavesBelow_L1
theorem u_rb_LeavesBelow_L1 : evC C L π k0 c_rb_LeavesBelow_L1 e s = evC C L π k0 b_rb_LeavesBelow_L1 e s := rfl
def c_rb_LeavesBelow : FnIR := ⟨56,
 (.sq (.op 0 [oo 6 (.mv (.c (.sl 1 (some true) [])))] none)
 (.sq (.op 0 [om 12 0, om 13 1, oo 14 (cw n_rb_Below [(.t 12), (.t 13)]), om 7 14] (some [0, 2, 7]))
 (.sq (.op 0 [om 15 2, oo 16 (.mks t_bool 1 false [.bool false] (.t 15) (.t 15)), om 8 16] none)
 (.sq (.sq (.op 0 [oo 9 (.mv (ki 0))] none)
 (.kp [2, 8] [6] (.bk 0 (.lp [] [0, 2, 7, 8, 9] c_rb_LeavesBelow_L0))))
 (.sq (.op 0 [oo 10 (.mv (.c (.sl 1 (some true) [])))] none)
 (.sq (.sq (.op 0 [oo 11 (.mv (ki 0))] none)
 (.kp [10] [6] (.bk 2 (.lp [(t_int, .inl 10)] [2, 8, 10, 11] c_rb_LeavesBelow_L1))))
 (.sq (.op 0 [om 55 10, om 6 55] none)
 .rt))))))),
 [.t 6]⟩
def b_cf_first_L0 : IR :=
 (.sq (.op 0 [oo 8 (.bin .lss (.t 7) (.t 6))] none)
 (.sq (.cd (.t 8)
 .sk
 (.ex 0))
 (.sq (.bk 1 (.sq (.op 0 [oo 9 (.ia (.t 5) (.t 7) 1), oo 10 (.ld (.t 9) 1 false), om 4 10] none)
 (.sq (.op 0 [om 11 4, oo 12 (.bin .neq (.t 11) (ki 0))] none)
 (.cd (.t 12)
 (.sq (.op 0 [om 13 4, om 2 13] none)
 .rt)
 .sk))))
 (.op 0 [oo 14 (.bin .add (.t 7) (ki 1)), om 7 14] none))))
def c_cf_first_L0 : IR := b_cf_first_L0
theorem u_cf_first_L0 : evC C L π k0 c_cf_first_L0 e s = evC C L π k0 b_cf_first_L0 e s := rfl
def c_cf_first : FnIR := ⟨15,
 (.sq (.op 0 [oo 2 (.mv (ki 0))] none)
 (.sq (.sq (.op 0 [om 5 0, oo 6 (.len false (.t 5)), oo 7 (.mv (ki 0))] none)
 (.kp [] [2] (.bk 0 (.lp [] [5, 6, 7] c_cf_first_L0))))
 (.sq (.op 0 [oo 2 (.mv (ki 0))] none)
 .rt))),
 [.t 2]⟩
def c_cf_nw_meet : FnIR := ⟨49,
 (.sq (.op 0 [oo 4 (.box (.t 0) 8), oo 8 (.mv (.c (.bool false)))] none)
 (.sq (.op 0 [oo 12 (.fa (.t 4) 7), oo 13 (.ld (.t 12) 1 false), oo 14 (.fa (.t 4) 0), oo 15 (.fa (.t 14) 3), oo 16 (.ld (.t 15) 1 false), om 17 3, oo 18 (cw n_gr_ValuesOf [(.t 13), (.t 16), (.t 17)]), om 11 18, oo 19 (.ext (.t 11) 0), oo 20 (.ext (.t 11) 1), om 9 19, om 10 20] (some [1, 2, 4, 9, 10]))
 (.sq (.op 0 [om 21 10, oo 22 (.bin .eql (.t 21) (ki 0)), om 23 22, og 24 23 true (.mv (.t 9)), og 25 23 true (.fa (.t 4) 0), og 26 23 true (.fa (.t 25) 4), og 27 23 true (.ld (.t 26) 1 false), og 28 23 true (.mv (.t 1)), og 29 23 true (.ia (.t 27) (.t 28) 3), og 30 23 true (.fa (.t 29) 1), og 31 23 true (.ld (.t 30) 1 false), og 32 23 true (.ia (.t 24) (.t 31) 1), og 33 23 true (.ld (.t 32) 1 false), og 34 23 true (.bin .eql (.t 33) (ki 1)), oo 35 (.pick (.t 23) (.t 34) (.c (.bool false))), om 36 35, og 37 36 true (.mv (.t 9)), og 38 36 true (.fa (.t 4) 0), og 39 36 true (.fa (.t 38) 4), og 40 36 true (.ld (.t 39) 1 false), og 41 36 true (.mv (.t 2)), og 42 36 true (.ia (.t 40) (.t 41) 3), og 43 36 true (.fa (.t 42) 1), og 44 36 true (.ld (.t 43) 1 false), og 45 36 true (.ia (.t 37) (.t 44) 1), og 46 36 true (.ld (.t 45) 1 false), og 47 36 true (.bin .eql (.t 46) (ki 1)), oo 48 (.pick (.t 36) (.t 47) (.c (.bool false))), om 8 48] (some [8]))
 .rt))),
 [.t 8]⟩
def b_cf_nw_bits_L0 : IR :=
 (.sq (.op 0 [oo 11 (.bin .lss (.t 10) (.t 9))] none)
 (.sq (.cd (.t 11)
 .sk
 (.ex 0))
 (.sq (.bk 1 (.sq (.op 0 [oo 12 (.ia (.t 8) (.t 10) 1), oo 13 (.ld (.t 12) 1 false), om 7 13] none)
 (.op 0 [om 14 5, oo 15 (.fa (.t 2) 7), oo 16 (.ld (.t 15) 1 false), om 17 7, oo 18 (.ia (.t 16) (.t 17) 1), oo 19 (.ld (.t 18) 1 false), oo 20 (.bin .add (.t 14) (.t 19)), om 5 20] (some [2, 5, 8, 9, 10]))))
 (.op 0 [oo 21 (.bin .add (.t 10) (ki 1)), om 10 21] none))))
def c_cf_nw_bits_L0 : IR := b_cf_nw_bits_L0
def c_cf_nw_bits : FnIR := ⟨23,
 (.sq (.op 0 [oo 2 (.box (.t 0) 8), oo 4 (.mv (ki 0))] none)
 (.sq (.op 0 [oo 5 (.mv (ki 0))] none)
 (.sq (.sq (.op 0 [om 8 1, oo 9 (.len false (.t 8)), oo 10 (.mv (ki 0))] none)
 (.kp [5] [4] (.bk 0 (.lp [] [2, 5, 8, 9, 10] c_cf_nw_bits_L0))))
 (.sq (.op 0 [om 22 5, om 4 22] none)
 .rt)))),
 [.t 4]⟩
def c_cf_nw_points : FnIR := ⟨6,
 (.sq (.op 0 [oo 2 (.box (.t 0) 8), oo 3 (.box (.t 1) 1), oo 4 (.mv (.c (.nilf)))] none)
 (.sq (.op 0 [oo 5 (.mkf n_cf_nw_points_1 [(.t 2), (.t 3)]), om 4 5] none)
 .rt)),
 [.t 4]⟩
def c_rb_Power : FnIR := ⟨5,
 (.sq (.op 0 [oo 2 (.mv (ki 0))] none)
 (.sq (.op 0 [om 3 0, oo 4 (.bin .shl (ki 1) (.t 3)), om 2 4] none)
 .rt)),
 [.t 2]⟩
def c_cf_sh_mayPrecede : FnIR := ⟨35,
 (.sq (.op 0 [oo 3 (.box (.t 0) 10), oo 6 (.mv (.c (.bool false)))] none)
 (.sq (.op 25 [oo 7 (.ld (.t 3) 10 true), oo 8 (.fa (.t 3) 9), oo 9 (.ld (.t 8) 1 false), om 10 1, oo 11 (.ia (.t 9) (.t 10) 1), oo 12 (.ld (.t 11) 1 false), oo 13 (.fa (.t 3) 8), oo 14 (.ld (.t 13) 1 false), om 15 2, oo 16 (.ia (.t 14) (.t 15) 1), oo 17 (.ld (.t 16) 1 false), oo 18 (cv n_cf_sh_common [(.t 7), (.t 12), (.t 17), (ki 0)]), oo 19 (.un .not (.t 18)), om 20 19, og 21 20 true (.ld (.t 3) 10 true), og 22 20 true (.fa (.t 3) 8), og 23 20 true (.ld (.t 22) 1 false), og 24 20 true (.mv (.t 1)), og 25 20 true (.ia (.t 23) (.t 24) 1), og 26 20 true (.ld (.t 25) 1 false), og 27 20 true (.fa (.t 3) 9), og 28 20 true (.ld (.t 27) 1 false), og 29 20 true (.mv (.t 2)), og 30 20 true (.ia (.t 28) (.t 29) 1), og 31 20 true (.ld (.t 30) 1 false), og 32 20 true (cv n_cf_sh_common [(.t 21), (.t 26), (.t 31), (ki 1)]), og 33 20 true (.un .not (.t 32)), oo 34 (.pick (.t 20) (.t 33) (.c (.bool false))), om 6 34] (some [6]))
 .rt)),
 [.t 6]⟩
def c_cf_openGuards : FnIR := ⟨49,
 (.sq (.op 0 [oo 3 (.box (.t 0) 7), oo 6 (.alloc [.str ⟨#[]⟩, .sl 2 (some true) [], .sl 5 (some true) [], .sl 4 (some true) [], .sl 3 (some true) [], .sl 2 (some true) [], .sl 2 (some true) [], .sl 1 (some true) []]), oo 7 (.mv (.c (.sl 1 (some true) []))), oo 8 (.mv (ki 0))] (some [1, 2, 3, 6]))
 (.sq (.op 0 [oo 14 (.ld (.t 3) 7 true), om 15 1, om 16 2, oo 17 (cv n_cf_openTwo [(.t 14), (.t 15), (.t 16)]), om 13 17, oo 18 (.ext (.t 13) 0), oo 19 (.ext (.t 13) 1), oo 9 (.alloc [.str ⟨#[]⟩, .sl 2 (some true) [], .sl 5 (some true) [], .sl 4 (some true) [], .sl 3 (some true) [], .sl 2 (some true) [], .sl 2 (some true) [], .sl 1 (some true) []]), ou (.st (.t 9) (.t 18) 8), om 10 19] (some [1, 2, 3, 6, 9, 10]))
 (.sq (.sq (.op 0 [om 20 10, oo 21 (.bin .neq (.t 20) (ki 0))] none)
 (.cd (.t 21)
 (.sq (.op 0 [oo 22 (.ld (.t 9) 8 true), om 23 10, ou (.st (.t 6) (.t 22) 8), oo 7 (.mv (.c (.sl 1 (some true) []))), om 8 23] (some [6, 7, 8]))
 .rt)
 .sk))
 (.sq (.op 19 [oo 25 (.ld (.t 9) 8 true), oo 26 (.fa (.t 3) 4), oo 27 (.ld (.t 26) 1 false), om 28 1, oo 29 (.ia (.t 27) (.t 28) 3), oo 30 (.fa (.t 29) 1), oo 31 (.ld (.t 30) 1 false), oo 32 (.fa (.t 3) 4), oo 33 (.ld (.t 32) 1 false), om 34 2, oo 35 (.ia (.t 33) (.t 34) 3), oo 36 (.fa (.t 35) 1), oo 37 (.ld (.t 36) 1 false), oo 38 (.bsp t_int 1 false [.int .i64 0] 2 [(0, (.t 31)), (1, (.t 37))]), oo 39 (cw n_cf_nw_used [(.t 25), (.t 38)]), om 24 39, oo 40 (.ext (.t 24) 0), oo 41 (.ext (.t 24) 1), om 11 40, om 12 41] (some [6, 9, 12]))
 (.sq (.op 7 [oo 42 (.ld (.t 9) 8 true), om 43 12, oo 44 (.ld (.t 9) 8 true), om 45 12, oo 46 (cv n_cf_nw_bits [(.t 44), (.t 45)]), oo 47 (.bin .leq (.t 46) (ki 12)), oo 48 (cv n_cf_unless [(.t 47), (ki 8)]), ou (.st (.t 6) (.t 42) 8), om 7 43, om 8 48] (some [6, 7, 8]))
 .rt))))),
 [.c 6 8 true, .t 7, .t 8]⟩
def c_sl_CoF_int_int : FnIR := ⟨9,
 (.sq (.op 0 [oo 4 (.mv (.c (.bool false)))] none)
 (.sq (.op 0 [om 5 0, om 6 1, oo 7 (cv n_sl_IxF_int_int [(.t 5), (.t 6)]), oo 8 (.bin .geq (.t 7) (ki 0)), om 4 8] (some [4]))
 .rt)),
 [.t 4]⟩
def c_cf_sh_relation_1 : FnIR := ⟨12,
 (.sq (.op 0 [oo 4 (.mv (.c (.bool false)))] none)
 (.sq (.op 0 [oo 5 (.fa (.t 1) 9), oo 6 (.ld (.t 5) 1 false), oo 7 (.ld (.t 2) 1 false), oo 8 (.ia (.t 6) (.t 7) 1), oo 9 (.ld (.t 8) 1 false), om 10 0, oo 11 (cv n_sl_Contains_int_int [(.t 9), (.t 10)]), om 4 11] (some [4]))
 .rt)),
 [.t 4]⟩
def c_sl_Contains_int_int : FnIR := ⟨9,
 (.sq (.op 0 [oo 4 (.mv (.c (.bool false)))] none)
 (.sq (.op 0 [om 5 0, om 6 1, oo 7 (cv n_sl_Index_int_int [(.t 5), (.t 6)]), oo 8 (.bin .geq (.t 7) (ki 0)), om 4 8] (some [4]))
 .rt)),
 [.t 4]⟩

end Go.Proofs.YteecfnfjlclhdaaGreat.V
