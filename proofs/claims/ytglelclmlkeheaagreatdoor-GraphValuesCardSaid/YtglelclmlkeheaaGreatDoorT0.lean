/- The functions of the program in the small language. Printed by a program of this work. -/
import Derived.Test.YtglelclmlkeheaaGreatDoorK4

set_option linter.unusedSimpArgs false
set_option linter.unusedVariables false

/- The functions of the program in the small language. Printed by a program of this work. -/
namespace Go.Proofs.YtglelclmlkeheaaGreatDoor.V
open Go (IntKind BinOp UnOp)

def n_ratchetlaw02_GraphErrors : Nat := 3
def n_ratchetlaw02_GraphMatters : Nat := 4
def n_ratchetlaw02_GraphAlways : Nat := 5
def n_ratchetlaw02_GraphValues : Nat := 6
def n_ratchetlaw02_GraphLarger : Nat := 7
def n_ratchetlaw02_GraphSmaller : Nat := 8
def n_ratchetlaw02_awake : Nat := 9
def n_ratchetlaw02_few : Nat := 10
def n_graph_CheckNodes : Nat := 11
def n_ratchetbase_CopyInts : Nat := 12
def n_ratchetbase_CopyNodes : Nat := 13
def n_ratchetref02_CheckNodes : Nat := 14
def n_ratchetref02_NodesErr : Nat := 15
def n_ratchetref02_ValuesErr : Nat := 16
def n_ratchetref02_FromErr : Nat := 17
def n_ratchetlaw02_light : Nat := 18
def n_graph_LeavesOf : Nat := 19
def n_graph_ValuesOf : Nat := 20
def n_ratchetbase_Has : Nat := 21
def n_ratchetbase_Power : Nat := 22
def n_graph_DifferenceOf : Nat := 23
def n_graph_ConstantAt : Nat := 24
def n_ratchetlaw02_both : Nat := 25
def n_ratchetref02_Bits : Nat := 26
def n_ratchetref02_Constant : Nat := 27
def n_ratchetref02_Difference : Nat := 28
def n_ratchetbase_Ints : Nat := 29
def n_graph_BelowOf : Nat := 30
def n_graph_DepthsOf : Nat := 31
def n_ratchetref02_Depths : Nat := 32
def n_ratchetref02_Below : Nat := 33
def n_ratchetbase_LeavesBelow : Nat := 34
def n_ratchetbase_NodeValues : Nat := 35
def n_graph_Substituted : Nat := 36
def n_graph_Appended : Nat := 37
def n_ratchetref02_Appended : Nat := 38
def n_ratchetbase_SameNodes : Nat := 39
def n_ratchetbase_Within : Nat := 40
def n_ratchetbase_Fits : Nat := 41
def n_ratchetref02_Substituted : Nat := 42
def n_graph_SharedOf : Nat := 43
def n_graph_FoldedOf : Nat := 44
def n_graph_ConeOf : Nat := 45
def n_ratchetref02_Shared : Nat := 46
def n_ratchetref02_Folded : Nat := 47
def n_ratchetref02_Cone : Nat := 48
def n_ratchetlaw02_Leaves : Nat := 49
def n_ratchetlaw02_Nodes : Nat := 50
def n_graph_FormatNodes : Nat := 51
def n_graph_each_int : Nat := 52
def n_graph_CheckNodes_1 : Nat := 53
def n_graph_unless : Nat := 54
def n_graph_isWidth : Nat := 55
def n_graph_operations : Nat := 56
def n_graph_each_api_Node : Nat := 57
def n_graph_CheckNodes_2 : Nat := 58
def n_graph_first : Nat := 59
def n_graph_within : Nat := 60
def n_slices_ContainsFunc_int_int : Nat := 61
def n_graph_CheckNodes_2_1 : Nat := 62
def n_graph_valueErr : Nat := 63
def n_ratchetbase_IsWidth : Nat := 64
def n_ratchetbase_NodesErr : Nat := 65
def n_ratchetbase_IsValues : Nat := 66
def n_ratchetbase_IsNode : Nat := 67
def n_graph_namedErr : Nat := 68
def n_graph_leavesBelow : Nat := 69
def n_graph_graphErr : Nat := 70
def n_graph_ValuesOf_1 : Nat := 71
def n_graph_fits : Nat := 72
def n_graph_valued : Nat := 73
def n_graph_bitsErr : Nat := 74
def n_graph_runs : Nat := 75
def n_slices_Clone_int_int : Nat := 76
def n_ratchetref02_Tries : Nat := 77
def n_graph_below : Nat := 78
def n_ratchetbase_Below : Nat := 79
def n_ratchetbase_Apply : Nat := 80
def n_graph_moved : Nat := 81
def n_graph_Substituted_1 : Nat := 82
def n_graph_constant : Nat := 83
def n_graph_Appended_1 : Nat := 84
def n_graph_Appended_2 : Nat := 85
def n_ratchetref02_moved : Nat := 86
def n_graph_mapped : Nat := 87
def n_graph_FoldedOf_1 : Nat := 88
def n_graph_FoldedOf_2 : Nat := 89
def n_graph_applied : Nat := 90
def n_strconv_Itoa : Nat := 91
def n_strings_Join : Nat := 92
def n_graph_operations_1 : Nat := 93
def n_graph_anyWidth : Nat := 94
def n_graph_same : Nat := 95
def n_graph_operations_2 : Nat := 96
def n_graph_mask : Nat := 97
def n_graph_binary : Nat := 98
def n_graph_operations_3 : Nat := 99
def n_graph_operations_4 : Nat := 100
def n_graph_operations_5 : Nat := 101
def n_graph_operations_6 : Nat := 102
def n_graph_operations_7 : Nat := 103
def n_graph_operations_8 : Nat := 104
def n_graph_relation : Nat := 105
def n_graph_operations_9 : Nat := 106
def n_graph_operations_10 : Nat := 107
def n_graph_operations_11 : Nat := 108
def n_graph_signed : Nat := 109
def n_graph_operations_12 : Nat := 110
def n_graph_operations_13 : Nat := 111
def n_graph_operations_14 : Nat := 112
def n_graph_operations_15 : Nat := 113
def n_graph_operations_16 : Nat := 114
def n_graph_operations_17 : Nat := 115
def n_graph_extended : Nat := 116
def n_graph_operations_18 : Nat := 117
def n_graph_operations_19 : Nat := 118
def n_graph_shifted : Nat := 119
def n_graph_operations_20 : Nat := 120
def n_graph_operations_21 : Nat := 121
def n_slices_IndexFunc_int_int : Nat := 122
def n_ratchetbase_nodeErr : Nat := 123
def n_graph_namedErr_1 : Nat := 124
def n_slices_Sort_int_int : Nat := 125
def n_slices_Compact_int_int : Nat := 126
def n_graph_runs_1 : Nat := 127
def n_slices_Backward_api_Node_api_Node : Nat := 128
def n_ratchetbase_Bit : Nat := 129
def n_ratchetbase_Signed : Nat := 130
def n_graph_mapped_1 : Nat := 131
def n_graph_same_1 : Nat := 136
def n_graph_binary_1 : Nat := 137
def n_graph_compared : Nat := 138
def n_graph_relation_1 : Nat := 139
def n_graph_truth : Nat := 140
def n_ratchetbase_ArgCount : Nat := 141
def n_ratchetbase_widthsFit : Nat := 142
def n_slices_Backward_api_Node_api_Node_1 : Nat := 145
@[simp] theorem y_ratchetlaw02_GraphErrors : (n_ratchetlaw02_GraphErrors = yieldF) = False := eq_false (by decide)
@[simp] theorem y_ratchetlaw02_GraphMatters : (n_ratchetlaw02_GraphMatters = yieldF) = False := eq_false (by decide)
@[simp] theorem y_ratchetlaw02_GraphAlways : (n_ratchetlaw02_GraphAlways = yieldF) = False := eq_false (by decide)
@[simp] theorem y_ratchetlaw02_GraphValues : (n_ratchetlaw02_GraphValues = yieldF) = False := eq_false (by decide)
@[simp] theorem y_ratchetlaw02_GraphLarger : (n_ratchetlaw02_GraphLarger = yieldF) = False := eq_false (by decide)
@[simp] theorem y_ratchetlaw02_GraphSmaller : (n_ratchetlaw02_GraphSmaller = yieldF) = False := eq_false (by decide)
@[simp] theorem y_ratchetlaw02_awake : (n_ratchetlaw02_awake = yieldF) = False := eq_false (by decide)
@[simp] theorem y_ratchetlaw02_few : (n_ratchetlaw02_few = yieldF) = False := eq_false (by decide)
@[simp] theorem y_graph_CheckNodes : (n_graph_CheckNodes = yieldF) = False := eq_false (by decide)
@[simp] theorem y_ratchetbase_CopyInts : (n_ratchetbase_CopyInts = yieldF) = False := eq_false (by decide)
@[simp] theorem y_ratchetbase_CopyNodes : (n_ratchetbase_CopyNodes = yieldF) = False := eq_false (by decide)
@[simp] theorem y_ratchetref02_CheckNodes : (n_ratchetref02_CheckNodes = yieldF) = False := eq_false (by decide)
@[simp] theorem y_ratchetref02_NodesErr : (n_ratchetref02_NodesErr = yieldF) = False := eq_false (by decide)
@[simp] theorem y_ratchetref02_ValuesErr : (n_ratchetref02_ValuesErr = yieldF) = False := eq_false (by decide)
@[simp] theorem y_ratchetref02_FromErr : (n_ratchetref02_FromErr = yieldF) = False := eq_false (by decide)
@[simp] theorem y_ratchetlaw02_light : (n_ratchetlaw02_light = yieldF) = False := eq_false (by decide)
@[simp] theorem y_graph_LeavesOf : (n_graph_LeavesOf = yieldF) = False := eq_false (by decide)
@[simp] theorem y_graph_ValuesOf : (n_graph_ValuesOf = yieldF) = False := eq_false (by decide)
@[simp] theorem y_ratchetbase_Has : (n_ratchetbase_Has = yieldF) = False := eq_false (by decide)
@[simp] theorem y_ratchetbase_Power : (n_ratchetbase_Power = yieldF) = False := eq_false (by decide)
@[simp] theorem y_graph_DifferenceOf : (n_graph_DifferenceOf = yieldF) = False := eq_false (by decide)
@[simp] theorem y_graph_ConstantAt : (n_graph_ConstantAt = yieldF) = False := eq_false (by decide)
@[simp] theorem y_ratchetlaw02_both : (n_ratchetlaw02_both = yieldF) = False := eq_false (by decide)
@[simp] theorem y_ratchetref02_Bits : (n_ratchetref02_Bits = yieldF) = False := eq_false (by decide)
@[simp] theorem y_ratchetref02_Constant : (n_ratchetref02_Constant = yieldF) = False := eq_false (by decide)
@[simp] theorem y_ratchetref02_Difference : (n_ratchetref02_Difference = yieldF) = False := eq_false (by decide)
@[simp] theorem y_ratchetbase_Ints : (n_ratchetbase_Ints = yieldF) = False := eq_false (by decide)
@[simp] theorem y_graph_BelowOf : (n_graph_BelowOf = yieldF) = False := eq_false (by decide)
@[simp] theorem y_graph_DepthsOf : (n_graph_DepthsOf = yieldF) = False := eq_false (by decide)
@[simp] theorem y_ratchetref02_Depths : (n_ratchetref02_Depths = yieldF) = False := eq_false (by decide)
@[simp] theorem y_ratchetref02_Below : (n_ratchetref02_Below = yieldF) = False := eq_false (by decide)
@[simp] theorem y_ratchetbase_LeavesBelow : (n_ratchetbase_LeavesBelow = yieldF) = False := eq_false (by decide)
@[simp] theorem y_ratchetbase_NodeValues : (n_ratchetbase_NodeValues = yieldF) = False := eq_false (by decide)
@[simp] theorem y_graph_Substituted : (n_graph_Substituted = yieldF) = False := eq_false (by decide)
@[simp] theorem y_graph_Appended : (n_graph_Appended = yieldF) = False := eq_false (by decide)
@[simp] theorem y_ratchetref02_Appended : (n_ratchetref02_Appended = yieldF) = False := eq_false (by decide)
@[simp] theorem y_ratchetbase_SameNodes : (n_ratchetbase_SameNodes = yieldF) = False := eq_false (by decide)
@[simp] theorem y_ratchetbase_Within : (n_ratchetbase_Within = yieldF) = False := eq_false (by decide)
@[simp] theorem y_ratchetbase_Fits : (n_ratchetbase_Fits = yieldF) = False := eq_false (by decide)
@[simp] theorem y_ratchetref02_Substituted : (n_ratchetref02_Substituted = yieldF) = False := eq_false (by decide)
@[simp] theorem y_graph_SharedOf : (n_graph_SharedOf = yieldF) = False := eq_false (by decide)
@[simp] theorem y_graph_FoldedOf : (n_graph_FoldedOf = yieldF) = False := eq_false (by decide)
@[simp] theorem y_graph_ConeOf : (n_graph_ConeOf = yieldF) = False := eq_false (by decide)
@[simp] theorem y_ratchetref02_Shared : (n_ratchetref02_Shared = yieldF) = False := eq_false (by decide)
@[simp] theorem y_ratchetref02_Folded : (n_ratchetref02_Folded = yieldF) = False := eq_false (by decide)
@[simp] theorem y_ratchetref02_Cone : (n_ratchetref02_Cone = yieldF) = False := eq_false (by decide)
@[simp] theorem y_ratchetlaw02_Leaves : (n_ratchetlaw02_Leaves = yieldF) = False := eq_false (by decide)
@[simp] theorem y_ratchetlaw02_Nodes : (n_ratchetlaw02_Nodes = yieldF) = False := eq_false (by decide)
@[simp] theorem y_graph_FormatNodes : (n_graph_FormatNodes = yieldF) = False := eq_false (by decide)
@[simp] theorem y_graph_each_int : (n_graph_each_int = yieldF) = False := eq_false (by decide)
@[simp] theorem y_graph_CheckNodes_1 : (n_graph_CheckNodes_1 = yieldF) = False := eq_false (by decide)
@[simp] theorem y_graph_unless : (n_graph_unless = yieldF) = False := eq_false (by decide)
@[simp] theorem y_graph_isWidth : (n_graph_isWidth = yieldF) = False := eq_false (by decide)
@[simp] theorem y_graph_operations : (n_graph_operations = yieldF) = False := eq_false (by decide)
@[simp] theorem y_graph_each_api_Node : (n_graph_each_api_Node = yieldF) = False := eq_false (by decide)
@[simp] theorem y_graph_CheckNodes_2 : (n_graph_CheckNodes_2 = yieldF) = False := eq_false (by decide)
@[simp] theorem y_graph_first : (n_graph_first = yieldF) = False := eq_false (by decide)
@[simp] theorem y_graph_within : (n_graph_within = yieldF) = False := eq_false (by decide)
@[simp] theorem y_slices_ContainsFunc_int_int : (n_slices_ContainsFunc_int_int = yieldF) = False := eq_false (by decide)
@[simp] theorem y_graph_CheckNodes_2_1 : (n_graph_CheckNodes_2_1 = yieldF) = False := eq_false (by decide)
@[simp] theorem y_graph_valueErr : (n_graph_valueErr = yieldF) = False := eq_false (by decide)
@[simp] theorem y_ratchetbase_IsWidth : (n_ratchetbase_IsWidth = yieldF) = False := eq_false (by decide)
@[simp] theorem y_ratchetbase_NodesErr : (n_ratchetbase_NodesErr = yieldF) = False := eq_false (by decide)
@[simp] theorem y_ratchetbase_IsValues : (n_ratchetbase_IsValues = yieldF) = False := eq_false (by decide)
@[simp] theorem y_ratchetbase_IsNode : (n_ratchetbase_IsNode = yieldF) = False := eq_false (by decide)
@[simp] theorem y_graph_namedErr : (n_graph_namedErr = yieldF) = False := eq_false (by decide)
@[simp] theorem y_graph_leavesBelow : (n_graph_leavesBelow = yieldF) = False := eq_false (by decide)
@[simp] theorem y_graph_graphErr : (n_graph_graphErr = yieldF) = False := eq_false (by decide)
@[simp] theorem y_graph_ValuesOf_1 : (n_graph_ValuesOf_1 = yieldF) = False := eq_false (by decide)
@[simp] theorem y_graph_fits : (n_graph_fits = yieldF) = False := eq_false (by decide)
@[simp] theorem y_graph_valued : (n_graph_valued = yieldF) = False := eq_false (by decide)
@[simp] theorem y_graph_bitsErr : (n_graph_bitsErr = yieldF) = False := eq_false (by decide)
@[simp] theorem y_graph_runs : (n_graph_runs = yieldF) = False := eq_false (by decide)
@[simp] theorem y_slices_Clone_int_int : (n_slices_Clone_int_int = yieldF) = False := eq_false (by decide)
@[simp] theorem y_ratchetref02_Tries : (n_ratchetref02_Tries = yieldF) = False := eq_false (by decide)
@[simp] theorem y_graph_below : (n_graph_below = yieldF) = False := eq_false (by decide)
@[simp] theorem y_ratchetbase_Below : (n_ratchetbase_Below = yieldF) = False := eq_false (by decide)
@[simp] theorem y_ratchetbase_Apply : (n_ratchetbase_Apply = yieldF) = False := eq_false (by decide)
@[simp] theorem y_graph_moved : (n_graph_moved = yieldF) = False := eq_false (by decide)
@[simp] theorem y_graph_Substituted_1 : (n_graph_Substituted_1 = yieldF) = False := eq_false (by decide)
@[simp] theorem y_graph_constant : (n_graph_constant = yieldF) = False := eq_false (by decide)
@[simp] theorem y_graph_Appended_1 : (n_graph_Appended_1 = yieldF) = False := eq_false (by decide)
@[simp] theorem y_graph_Appended_2 : (n_graph_Appended_2 = yieldF) = False := eq_false (by decide)
@[simp] theorem y_ratchetref02_moved : (n_ratchetref02_moved = yieldF) = False := eq_false (by decide)
@[simp] theorem y_graph_mapped : (n_graph_mapped = yieldF) = False := eq_false (by decide)
@[simp] theorem y_graph_FoldedOf_1 : (n_graph_FoldedOf_1 = yieldF) = False := eq_false (by decide)
@[simp] theorem y_graph_FoldedOf_2 : (n_graph_FoldedOf_2 = yieldF) = False := eq_false (by decide)
@[simp] theorem y_graph_applied : (n_graph_applied = yieldF) = False := eq_false (by decide)
@[simp] theorem y_strconv_Itoa : (n_strconv_Itoa = yieldF) = False := eq_false (by decide)
@[simp] theorem y_strings_Join : (n_strings_Join = yieldF) = False := eq_false (by decide)
@[simp] theorem y_graph_operations_1 : (n_graph_operations_1 = yieldF) = False := eq_false (by decide)
@[simp] theorem y_graph_anyWidth : (n_graph_anyWidth = yieldF) = False := eq_false (by decide)
@[simp] theorem y_graph_same : (n_graph_same = yieldF) = False := eq_false (by decide)
@[simp] theorem y_graph_operations_2 : (n_graph_operations_2 = yieldF) = False := eq_false (by decide)
@[simp] theorem y_graph_mask : (n_graph_mask = yieldF) = False := eq_false (by decide)
@[simp] theorem y_graph_binary : (n_graph_binary = yieldF) = False := eq_false (by decide)
@[simp] theorem y_graph_operations_3 : (n_graph_operations_3 = yieldF) = False := eq_false (by decide)
@[simp] theorem y_graph_operations_4 : (n_graph_operations_4 = yieldF) = False := eq_false (by decide)
@[simp] theorem y_graph_operations_5 : (n_graph_operations_5 = yieldF) = False := eq_false (by decide)
@[simp] theorem y_graph_operations_6 : (n_graph_operations_6 = yieldF) = False := eq_false (by decide)
@[simp] theorem y_graph_operations_7 : (n_graph_operations_7 = yieldF) = False := eq_false (by decide)
@[simp] theorem y_graph_operations_8 : (n_graph_operations_8 = yieldF) = False := eq_false (by decide)
@[simp] theorem y_graph_relation : (n_graph_relation = yieldF) = False := eq_false (by decide)
@[simp] theorem y_graph_operations_9 : (n_graph_operations_9 = yieldF) = False := eq_false (by decide)
@[simp] theorem y_graph_operations_10 : (n_graph_operations_10 = yieldF) = False := eq_false (by decide)
@[simp] theorem y_graph_operations_11 : (n_graph_operations_11 = yieldF) = False := eq_false (by decide)
@[simp] theorem y_graph_signed : (n_graph_signed = yieldF) = False := eq_false (by decide)
@[simp] theorem y_graph_operations_12 : (n_graph_operations_12 = yieldF) = False := eq_false (by decide)
@[simp] theorem y_graph_operations_13 : (n_graph_operations_13 = yieldF) = False := eq_false (by decide)
@[simp] theorem y_graph_operations_14 : (n_graph_operations_14 = yieldF) = False := eq_false (by decide)
@[simp] theorem y_graph_operations_15 : (n_graph_operations_15 = yieldF) = False := eq_false (by decide)
@[simp] theorem y_graph_operations_16 : (n_graph_operations_16 = yieldF) = False := eq_false (by decide)
@[simp] theorem y_graph_operations_17 : (n_graph_operations_17 = yieldF) = False := eq_false (by decide)
@[simp] theorem y_graph_extended : (n_graph_extended = yieldF) = False := eq_false (by decide)
@[simp] theorem y_graph_operations_18 : (n_graph_operations_18 = yieldF) = False := eq_false (by decide)
@[simp] theorem y_graph_operations_19 : (n_graph_operations_19 = yieldF) = False := eq_false (by decide)
@[simp] theorem y_graph_shifted : (n_graph_shifted = yieldF) = False := eq_false (by decide)
@[simp] theorem y_graph_operations_20 : (n_graph_operations_20 = yieldF) = False := eq_false (by decide)
@[simp] theorem y_graph_operations_21 : (n_graph_operations_21 = yieldF) = False := eq_false (by decide)
@[simp] theorem y_slices_IndexFunc_int_int : (n_slices_IndexFunc_int_int = yieldF) = False := eq_false (by decide)
@[simp] theorem y_ratchetbase_nodeErr : (n_ratchetbase_nodeErr = yieldF) = False := eq_false (by decide)
@[simp] theorem y_graph_namedErr_1 : (n_graph_namedErr_1 = yieldF) = False := eq_false (by decide)
@[simp] theorem y_slices_Sort_int_int : (n_slices_Sort_int_int = yieldF) = False := eq_false (by decide)
@[simp] theorem y_slices_Compact_int_int : (n_slices_Compact_int_int = yieldF) = False := eq_false (by decide)
@[simp] theorem y_graph_runs_1 : (n_graph_runs_1 = yieldF) = False := eq_false (by decide)
@[simp] theorem y_slices_Backward_api_Node_api_Node : (n_slices_Backward_api_Node_api_Node = yieldF) = False := eq_false (by decide)
@[simp] theorem y_ratchetbase_Bit : (n_ratchetbase_Bit = yieldF) = False := eq_false (by decide)
@[simp] theorem y_ratchetbase_Signed : (n_ratchetbase_Signed = yieldF) = False := eq_false (by decide)
@[simp] theorem y_graph_mapped_1 : (n_graph_mapped_1 = yieldF) = False := eq_false (by decide)
@[simp] theorem y_graph_same_1 : (n_graph_same_1 = yieldF) = False := eq_false (by decide)
@[simp] theorem y_graph_binary_1 : (n_graph_binary_1 = yieldF) = False := eq_false (by decide)
@[simp] theorem y_graph_compared : (n_graph_compared = yieldF) = False := eq_false (by decide)
@[simp] theorem y_graph_relation_1 : (n_graph_relation_1 = yieldF) = False := eq_false (by decide)
@[simp] theorem y_graph_truth : (n_graph_truth = yieldF) = False := eq_false (by decide)
@[simp] theorem y_ratchetbase_ArgCount : (n_ratchetbase_ArgCount = yieldF) = False := eq_false (by decide)
@[simp] theorem y_ratchetbase_widthsFit : (n_ratchetbase_widthsFit = yieldF) = False := eq_false (by decide)
@[simp] theorem y_slices_Backward_api_Node_api_Node_1 : (n_slices_Backward_api_Node_api_Node_1 = yieldF) = False := eq_false (by decide)
def t_int : Nat := 3
def t_bool : Nat := 4
def t_string : Nat := 9
def t_L_int : Nat := 22
def t_api_Errno : Nat := 26
def t_api_Node : Nat := 49

def c_ratchetlaw02_GraphErrors : FnIR := ⟨37,
  (.sq (.op 0 [⟨(some 4), none, .mv (.c (.bool false))⟩] none)
  (.sq (.sq (.op 0 [⟨(some 9), none, .callV true (.c (.fn n_ratchetlaw02_awake [])) []⟩,
    ⟨(some 10), none, .un .not (.t 9)⟩] none)
  (.cd (.t 10)
   (.sq (.op 0 [⟨(some 4), none, .mv (.c (.bool false))⟩] none)
   .rt)
   .sk))
  (.sq (.sq (.op 0 [⟨(some 11), none, .mv (.t 0)⟩,
    ⟨(some 12), none, .mv (.t 1)⟩,
    ⟨(some 13), none, .callV true (.c (.fn n_ratchetlaw02_few [])) [(.t 11), (.t 12)]⟩,
    ⟨(some 14), none, .un .not (.t 13)⟩] (some [0, 1, 14]))
  (.cd (.t 14)
   (.sq (.op 0 [⟨(some 4), none, .mv (.c (.bool true))⟩] none)
   .rt)
   .sk))
  (.sq (.op 0 [⟨(some 16), none, .mv (.t 0)⟩,
    ⟨(some 17), none, .callV false (.c (.fn n_ratchetbase_CopyInts [])) [(.t 16)]⟩,
    ⟨(some 18), none, .mv (.t 1)⟩,
    ⟨(some 19), none, .callV false (.c (.fn n_ratchetbase_CopyNodes [])) [(.t 18)]⟩,
    ⟨(some 20), none, .callV true (.c (.fn n_graph_CheckNodes [])) [(.t 17), (.t 19)]⟩,
    ⟨(some 15), none, .mv (.t 20)⟩,
    ⟨(some 21), none, .ext (.t 15) 0⟩,
    ⟨(some 22), none, .ext (.t 15) 1⟩,
    ⟨(some 5), none, .mv (.t 21)⟩,
    ⟨(some 6), none, .mv (.t 22)⟩] (some [0, 1, 5, 6]))
  (.sq (.op 0 [⟨(some 24), none, .mv (.t 0)⟩,
    ⟨(some 25), none, .mv (.t 1)⟩,
    ⟨(some 26), none, .callV true (.c (.fn n_ratchetref02_CheckNodes [])) [(.t 24), (.t 25)]⟩,
    ⟨(some 23), none, .mv (.t 26)⟩,
    ⟨(some 27), none, .ext (.t 23) 0⟩,
    ⟨(some 28), none, .ext (.t 23) 1⟩,
    ⟨(some 7), none, .mv (.t 27)⟩,
    ⟨(some 8), none, .mv (.t 28)⟩] (some [5, 6, 7, 8]))
  (.sq (.op 0 [⟨(some 29), none, .mv (.t 6)⟩,
    ⟨(some 30), none, .mv (.t 8)⟩,
    ⟨(some 31), none, .bin .eql (.t 29) (.t 30)⟩,
    ⟨(some 32), none, .mv (.t 31)⟩,
    ⟨(some 33), (some (32, true)), .mv (.t 5)⟩,
    ⟨(some 34), (some (32, true)), .mv (.t 7)⟩,
    ⟨(some 35), (some (32, true)), .bin .eql (.t 33) (.t 34)⟩,
    ⟨(some 36), none, .pick (.t 32) (.t 35) (.c (.bool false))⟩,
    ⟨(some 4), none, .mv (.t 36)⟩] (some [4]))
  .rt)))))),
  [.t 4]⟩
def b_ratchetlaw02_GraphMatters_L0 : IR :=
 (.sq (.sq (.op 0 [⟨(some 109), none, .mv (.t 14)⟩,
   ⟨(some 110), none, .mv (.t 0)⟩,
   ⟨(some 111), none, .len false (.t 110)⟩,
   ⟨(some 112), none, .bin .lss (.t 109) (.t 111)⟩] (some [0, 1, 7, 8, 9, 11, 13, 14, 112]))
 (.cd (.t 112)
  .sk
  (.ex 0)))
 (.sq (.bk 1 (.sq (.op 0 [⟨(some 115), none, .mv (.t 9)⟩,
    ⟨(some 116), none, .mv (.t 14)⟩,
    ⟨(some 117), none, .callV true (.c (.fn n_ratchetbase_Has [])) [(.t 115), (.t 116)]⟩,
    ⟨(some 118), none, .un .not (.t 117)⟩] (some [0, 1, 7, 8, 9, 11, 13, 14, 118]))
  (.cd (.t 118)
   (.op 12 [⟨(some 119), none, .mv (.t 13)⟩,
     ⟨(some 120), none, .mv (.t 14)⟩,
     ⟨(some 121), none, .mv (.t 0)⟩,
     ⟨(some 122), none, .mv (.t 14)⟩,
     ⟨(some 123), none, .ia (.t 121) (.t 122) 1⟩,
     ⟨(some 124), none, .ld (.t 123) 1 false⟩,
     ⟨(some 125), none, .callV true (.c (.fn n_ratchetbase_Power [])) [(.t 124)]⟩,
     ⟨(some 126), none, .bin .sub (.t 125) (.c (.int .i64 1))⟩,
     ⟨(some 127), none, .mv (.t 13)⟩,
     ⟨(some 128), none, .mv (.t 14)⟩,
     ⟨(some 129), none, .ia (.t 127) (.t 128) 1⟩,
     ⟨(some 130), none, .ld (.t 129) 1 false⟩,
     ⟨(some 131), none, .bin .sub (.t 126) (.t 130)⟩,
     ⟨(some 132), none, .ia (.t 119) (.t 120) 1⟩,
     ⟨none, none, .st (.t 132) (.t 131) 1⟩] (some [0, 1, 7, 8, 9, 11, 13, 14]))
   .sk)))
 (.op 0 [⟨(some 113), none, .mv (.t 14)⟩,
   ⟨(some 114), none, .bin .add (.t 113) (.c (.int .i64 1))⟩,
   ⟨(some 14), none, .mv (.t 114)⟩] none)))
def c_ratchetlaw02_GraphMatters_L0 : IR := b_ratchetlaw02_GraphMatters_L0
theorem u_ratchetlaw02_GraphMatters_L0 {C : Call} {L : Loop} {π : Id} {k0 : List Id} {e : Env} {s : Sto} : evC C L π k0 c_ratchetlaw02_GraphMatters_L0 e s = evC C L π k0 b_ratchetlaw02_GraphMatters_L0 e s := rfl
def c_ratchetlaw02_GraphMatters : FnIR := ⟨217,
  (.sq (.op 0 [⟨(some 5), none, .box (.t 2) 2⟩,
    ⟨(some 6), none, .mv (.c (.bool false))⟩] none)
  (.sq (.sq (.op 0 [⟨(some 21), none, .callV true (.c (.fn n_ratchetlaw02_awake [])) []⟩,
    ⟨(some 22), none, .un .not (.t 21)⟩] none)
  (.cd (.t 22)
   (.sq (.op 0 [⟨(some 6), none, .mv (.c (.bool false))⟩] none)
   .rt)
   .sk))
  (.sq (.sq (.op 0 [⟨(some 23), none, .mv (.t 1)⟩,
    ⟨(some 24), none, .len false (.t 23)⟩,
    ⟨(some 25), none, .bin .gtr (.t 24) (.c (.int .i64 60))⟩,
    ⟨(some 26), none, .mv (.t 25)⟩,
    ⟨(some 27), (some (26, false)), .fa (.t 5) 1⟩,
    ⟨(some 28), (some (26, false)), .ld (.t 27) 1 false⟩,
    ⟨(some 29), (some (26, false)), .len false (.t 28)⟩,
    ⟨(some 30), (some (26, false)), .bin .lss (.t 29) (.c (.int .i64 2))⟩,
    ⟨(some 31), none, .pick (.t 26) (.c (.bool true)) (.t 30)⟩,
    ⟨(some 32), none, .mv (.t 31)⟩,
    ⟨(some 33), (some (32, false)), .fa (.t 5) 1⟩,
    ⟨(some 34), (some (32, false)), .ld (.t 33) 1 false⟩,
    ⟨(some 35), (some (32, false)), .len false (.t 34)⟩,
    ⟨(some 36), (some (32, false)), .bin .gtr (.t 35) (.c (.int .i64 60))⟩,
    ⟨(some 37), none, .pick (.t 32) (.c (.bool true)) (.t 36)⟩,
    ⟨(some 38), none, .mv (.t 37)⟩,
    ⟨(some 39), (some (38, false)), .mv (.t 0)⟩,
    ⟨(some 40), (some (38, false)), .mv (.t 1)⟩,
    ⟨(some 41), (some (38, false)), .callV true (.c (.fn n_ratchetref02_NodesErr [])) [(.t 39), (.t 40)]⟩,
    ⟨(some 42), (some (38, false)), .bin .neq (.t 41) (.c (.int .i64 0))⟩,
    ⟨(some 43), none, .pick (.t 38) (.c (.bool true)) (.t 42)⟩,
    ⟨(some 44), none, .mv (.t 43)⟩,
    ⟨(some 45), (some (44, false)), .mv (.t 0)⟩,
    ⟨(some 46), (some (44, false)), .fa (.t 5) 0⟩,
    ⟨(some 47), (some (44, false)), .ld (.t 46) 1 false⟩,
    ⟨(some 48), (some (44, false)), .callV true (.c (.fn n_ratchetref02_ValuesErr [])) [(.t 45), (.t 47)]⟩,
    ⟨(some 49), (some (44, false)), .bin .neq (.t 48) (.c (.int .i64 0))⟩,
    ⟨(some 50), none, .pick (.t 44) (.c (.bool true)) (.t 49)⟩,
    ⟨(some 51), none, .mv (.t 50)⟩,
    ⟨(some 52), (some (51, false)), .mv (.t 1)⟩,
    ⟨(some 53), (some (51, false)), .fa (.t 5) 1⟩,
    ⟨(some 54), (some (51, false)), .ld (.t 53) 1 false⟩,
    ⟨(some 55), (some (51, false)), .callV true (.c (.fn n_ratchetref02_FromErr [])) [(.t 52), (.t 54)]⟩,
    ⟨(some 56), (some (51, false)), .bin .neq (.t 55) (.c (.int .i64 0))⟩,
    ⟨(some 57), none, .pick (.t 51) (.c (.bool true)) (.t 56)⟩,
    ⟨(some 58), none, .mv (.t 57)⟩,
    ⟨(some 59), (some (58, false)), .mv (.t 0)⟩,
    ⟨(some 60), (some (58, false)), .mv (.t 1)⟩,
    ⟨(some 61), (some (58, false)), .fa (.t 5) 1⟩,
    ⟨(some 62), (some (58, false)), .ld (.t 61) 1 false⟩,
    ⟨(some 63), (some (58, false)), .slc false (.t 62) none (some (.c (.int .i64 2))) 1⟩,
    ⟨(some 64), (some (58, false)), .callV true (.c (.fn n_ratchetlaw02_light [])) [(.t 59), (.t 60), (.t 63)]⟩,
    ⟨(some 65), (some (58, false)), .un .not (.t 64)⟩,
    ⟨(some 66), none, .pick (.t 58) (.c (.bool true)) (.t 65)⟩] (some [0, 1, 5, 66]))
  (.cd (.t 66)
   (.sq (.op 0 [⟨(some 6), none, .mv (.c (.bool true))⟩] none)
   .rt)
   .sk))
  (.sq (.op 9 [⟨(some 67), none, .fa (.t 5) 1⟩,
    ⟨(some 68), none, .ld (.t 67) 1 false⟩,
    ⟨(some 69), none, .ia (.t 68) (.c (.int .i64 0)) 1⟩,
    ⟨(some 70), none, .ld (.t 69) 1 false⟩,
    ⟨(some 71), none, .fa (.t 5) 1⟩,
    ⟨(some 72), none, .ld (.t 71) 1 false⟩,
    ⟨(some 73), none, .ia (.t 72) (.c (.int .i64 1)) 1⟩,
    ⟨(some 74), none, .ld (.t 73) 1 false⟩,
    ⟨(some 7), none, .mv (.t 70)⟩,
    ⟨(some 8), none, .mv (.t 74)⟩] (some [0, 1, 5, 7, 8]))
  (.sq (.op 0 [⟨(some 76), none, .mv (.t 0)⟩,
    ⟨(some 77), none, .mv (.t 1)⟩,
    ⟨(some 78), none, .callV false (.c (.fn n_ratchetbase_CopyNodes [])) [(.t 77)]⟩,
    ⟨(some 79), none, .mv (.t 7)⟩,
    ⟨(some 80), none, .bsl t_int 1 false [.int .i64 0] 1 [(0, (.t 79))]⟩,
    ⟨(some 81), none, .callV false (.c (.fn n_graph_LeavesOf [])) [(.t 76), (.t 78), (.t 80)]⟩,
    ⟨(some 75), none, .mv (.t 81)⟩,
    ⟨(some 82), none, .ext (.t 75) 0⟩,
    ⟨(some 83), none, .ext (.t 75) 1⟩,
    ⟨(some 9), none, .mv (.t 82)⟩,
    ⟨(some 10), none, .mv (.t 83)⟩] (some [0, 1, 5, 7, 8, 9, 10]))
  (.sq (.fz [0, 1] (.op 10 [⟨(some 85), none, .mv (.t 0)⟩,
    ⟨(some 86), none, .mv (.t 1)⟩,
    ⟨(some 87), none, .callV true (.c (.fn n_ratchetbase_CopyNodes [])) [(.t 86)]⟩,
    ⟨(some 88), none, .fa (.t 5) 0⟩,
    ⟨(some 89), none, .ld (.t 88) 1 false⟩,
    ⟨(some 90), none, .callV false (.c (.fn n_graph_ValuesOf [])) [(.t 85), (.t 87), (.t 89)]⟩,
    ⟨(some 84), none, .mv (.t 90)⟩,
    ⟨(some 91), none, .ext (.t 84) 0⟩,
    ⟨(some 92), none, .ext (.t 84) 1⟩,
    ⟨(some 11), none, .mv (.t 91)⟩,
    ⟨(some 12), none, .mv (.t 92)⟩] (some [0, 1, 5, 7, 8, 9, 10, 11, 12])))
  (.sq (.sq (.op 0 [⟨(some 93), none, .mv (.t 10)⟩,
    ⟨(some 94), none, .bin .neq (.t 93) (.c (.int .i64 0))⟩,
    ⟨(some 95), none, .mv (.t 94)⟩,
    ⟨(some 96), (some (95, false)), .mv (.t 12)⟩,
    ⟨(some 97), (some (95, false)), .bin .neq (.t 96) (.c (.int .i64 0))⟩,
    ⟨(some 98), none, .pick (.t 95) (.c (.bool true)) (.t 97)⟩,
    ⟨(some 99), none, .mv (.t 98)⟩,
    ⟨(some 100), (some (99, false)), .mv (.t 11)⟩,
    ⟨(some 101), (some (99, false)), .len false (.t 100)⟩,
    ⟨(some 102), (some (99, false)), .mv (.t 1)⟩,
    ⟨(some 103), (some (99, false)), .len false (.t 102)⟩,
    ⟨(some 104), (some (99, false)), .bin .neq (.t 101) (.t 103)⟩,
    ⟨(some 105), none, .pick (.t 99) (.c (.bool true)) (.t 104)⟩] (some [0, 1, 5, 7, 8, 9, 11, 105]))
  (.cd (.t 105)
   (.sq (.op 0 [⟨(some 6), none, .mv (.c (.bool false))⟩] none)
   .rt)
   .sk))
  (.sq (.op 0 [⟨(some 106), none, .fa (.t 5) 0⟩,
    ⟨(some 107), none, .ld (.t 106) 1 false⟩,
    ⟨(some 108), none, .callV false (.c (.fn n_ratchetbase_CopyInts [])) [(.t 107)]⟩,
    ⟨(some 13), none, .mv (.t 108)⟩] (some [0, 1, 7, 8, 9, 11, 13]))
  (.sq (.sq (.op 0 [⟨(some 14), none, .mv (.c (.int .i64 0))⟩] none)
  (.kp [0, 1, 7, 8, 11, 13] [6] (.bk 0 (.lp [] [0, 1, 7, 8, 9, 11, 13, 14] c_ratchetlaw02_GraphMatters_L0))))
  (.sq (.op 0 [⟨(some 134), none, .mv (.t 0)⟩,
    ⟨(some 135), none, .mv (.t 1)⟩,
    ⟨(some 136), none, .callV false (.c (.fn n_ratchetbase_CopyNodes [])) [(.t 135)]⟩,
    ⟨(some 137), none, .mv (.t 13)⟩,
    ⟨(some 138), none, .callV false (.c (.fn n_graph_ValuesOf [])) [(.t 134), (.t 136), (.t 137)]⟩,
    ⟨(some 133), none, .mv (.t 138)⟩,
    ⟨(some 139), none, .ext (.t 133) 0⟩,
    ⟨(some 140), none, .ext (.t 133) 1⟩,
    ⟨(some 15), none, .mv (.t 139)⟩,
    ⟨(some 16), none, .mv (.t 140)⟩] (some [0, 1, 7, 8, 11, 15, 16]))
  (.sq (.sq (.op 18 [⟨(some 141), none, .mv (.t 16)⟩,
    ⟨(some 142), none, .bin .neq (.t 141) (.c (.int .i64 0))⟩,
    ⟨(some 143), none, .mv (.t 142)⟩,
    ⟨(some 144), (some (143, false)), .mv (.t 15)⟩,
    ⟨(some 145), (some (143, false)), .len false (.t 144)⟩,
    ⟨(some 146), (some (143, false)), .mv (.t 1)⟩,
    ⟨(some 147), (some (143, false)), .len false (.t 146)⟩,
    ⟨(some 148), (some (143, false)), .bin .neq (.t 145) (.t 147)⟩,
    ⟨(some 149), none, .pick (.t 143) (.c (.bool true)) (.t 148)⟩,
    ⟨(some 150), none, .mv (.t 149)⟩,
    ⟨(some 151), (some (150, false)), .mv (.t 15)⟩,
    ⟨(some 152), (some (150, false)), .mv (.t 7)⟩,
    ⟨(some 153), (some (150, false)), .ia (.t 151) (.t 152) 1⟩,
    ⟨(some 154), (some (150, false)), .ld (.t 153) 1 false⟩,
    ⟨(some 155), (some (150, false)), .mv (.t 11)⟩,
    ⟨(some 156), (some (150, false)), .mv (.t 7)⟩,
    ⟨(some 157), (some (150, false)), .ia (.t 155) (.t 156) 1⟩,
    ⟨(some 158), (some (150, false)), .ld (.t 157) 1 false⟩,
    ⟨(some 159), (some (150, false)), .bin .neq (.t 154) (.t 158)⟩,
    ⟨(some 160), none, .pick (.t 150) (.c (.bool true)) (.t 159)⟩] (some [0, 1, 7, 8, 11, 160]))
  (.cd (.t 160)
   (.sq (.op 0 [⟨(some 6), none, .mv (.c (.bool false))⟩] none)
   .rt)
   .sk))
  (.sq (.op 0 [⟨(some 162), none, .mv (.t 0)⟩,
    ⟨(some 163), none, .mv (.t 1)⟩,
    ⟨(some 164), none, .callV false (.c (.fn n_ratchetbase_CopyNodes [])) [(.t 163)]⟩,
    ⟨(some 165), none, .mv (.t 7)⟩,
    ⟨(some 166), none, .mv (.t 8)⟩,
    ⟨(some 167), none, .callV false (.c (.fn n_graph_DifferenceOf [])) [(.t 162), (.t 164), (.t 165), (.t 166)]⟩,
    ⟨(some 161), none, .mv (.t 167)⟩,
    ⟨(some 168), none, .ext (.t 161) 0⟩,
    ⟨(some 169), none, .ext (.t 161) 1⟩,
    ⟨(some 17), none, .mv (.t 168)⟩,
    ⟨(some 18), none, .mv (.t 169)⟩] (some [0, 1, 7, 8, 11, 17, 18]))
  (.sq (.sq (.op 0 [⟨(some 170), none, .mv (.t 18)⟩,
    ⟨(some 171), none, .bin .eql (.t 170) (.c (.int .i64 12))⟩] none)
  (.cd (.t 171)
   (.sq (.op 8 [⟨(some 172), none, .mv (.t 11)⟩,
     ⟨(some 173), none, .mv (.t 7)⟩,
     ⟨(some 174), none, .ia (.t 172) (.t 173) 1⟩,
     ⟨(some 175), none, .ld (.t 174) 1 false⟩,
     ⟨(some 176), none, .mv (.t 11)⟩,
     ⟨(some 177), none, .mv (.t 8)⟩,
     ⟨(some 178), none, .ia (.t 176) (.t 177) 1⟩,
     ⟨(some 179), none, .ld (.t 178) 1 false⟩,
     ⟨(some 180), none, .bin .eql (.t 175) (.t 179)⟩,
     ⟨(some 6), none, .mv (.t 180)⟩] (some [6]))
   .rt)
   .sk))
  (.sq (.sq (.op 0 [⟨(some 181), none, .mv (.t 18)⟩,
    ⟨(some 182), none, .bin .neq (.t 181) (.c (.int .i64 0))⟩] none)
  (.cd (.t 182)
   (.sq (.op 0 [⟨(some 183), none, .mv (.t 18)⟩,
     ⟨(some 184), none, .bin .eql (.t 183) (.c (.int .i64 25))⟩,
     ⟨(some 185), none, .mv (.t 184)⟩,
     ⟨(some 186), (some (185, false)), .mv (.t 18)⟩,
     ⟨(some 187), (some (185, false)), .bin .eql (.t 186) (.c (.int .i64 8))⟩,
     ⟨(some 188), none, .pick (.t 185) (.c (.bool true)) (.t 187)⟩,
     ⟨(some 6), none, .mv (.t 188)⟩] (some [6]))
   .rt)
   .sk))
  (.sq (.op 0 [⟨(some 190), none, .mv (.t 0)⟩,
    ⟨(some 191), none, .mv (.t 1)⟩,
    ⟨(some 192), none, .callV false (.c (.fn n_ratchetbase_CopyNodes [])) [(.t 191)]⟩,
    ⟨(some 193), none, .mv (.t 17)⟩,
    ⟨(some 194), none, .callV false (.c (.fn n_graph_ValuesOf [])) [(.t 190), (.t 192), (.t 193)]⟩,
    ⟨(some 189), none, .mv (.t 194)⟩,
    ⟨(some 195), none, .ext (.t 189) 0⟩,
    ⟨(some 196), none, .ext (.t 189) 1⟩,
    ⟨(some 19), none, .mv (.t 195)⟩,
    ⟨(some 20), none, .mv (.t 196)⟩] (some [1, 7, 8, 19, 20]))
  (.sq (.op 18 [⟨(some 197), none, .mv (.t 20)⟩,
    ⟨(some 198), none, .bin .eql (.t 197) (.c (.int .i64 0))⟩,
    ⟨(some 199), none, .mv (.t 198)⟩,
    ⟨(some 200), (some (199, true)), .mv (.t 19)⟩,
    ⟨(some 201), (some (199, true)), .len false (.t 200)⟩,
    ⟨(some 202), (some (199, true)), .mv (.t 1)⟩,
    ⟨(some 203), (some (199, true)), .len false (.t 202)⟩,
    ⟨(some 204), (some (199, true)), .bin .eql (.t 201) (.t 203)⟩,
    ⟨(some 205), none, .pick (.t 199) (.t 204) (.c (.bool false))⟩,
    ⟨(some 206), none, .mv (.t 205)⟩,
    ⟨(some 207), (some (206, true)), .mv (.t 19)⟩,
    ⟨(some 208), (some (206, true)), .mv (.t 7)⟩,
    ⟨(some 209), (some (206, true)), .ia (.t 207) (.t 208) 1⟩,
    ⟨(some 210), (some (206, true)), .ld (.t 209) 1 false⟩,
    ⟨(some 211), (some (206, true)), .mv (.t 19)⟩,
    ⟨(some 212), (some (206, true)), .mv (.t 8)⟩,
    ⟨(some 213), (some (206, true)), .ia (.t 211) (.t 212) 1⟩,
    ⟨(some 214), (some (206, true)), .ld (.t 213) 1 false⟩,
    ⟨(some 215), (some (206, true)), .bin .neq (.t 210) (.t 214)⟩,
    ⟨(some 216), none, .pick (.t 206) (.t 215) (.c (.bool false))⟩,
    ⟨(some 6), none, .mv (.t 216)⟩] (some [6]))
  .rt)))))))))))))))),
  [.t 6]⟩
def c_ratchetlaw02_GraphAlways : FnIR := ⟨204,
  (.sq (.op 0 [⟨(some 5), none, .box (.t 2) 2⟩,
    ⟨(some 6), none, .mv (.c (.bool false))⟩] none)
  (.sq (.sq (.op 0 [⟨(some 18), none, .callV true (.c (.fn n_ratchetlaw02_awake [])) []⟩,
    ⟨(some 19), none, .un .not (.t 18)⟩] none)
  (.cd (.t 19)
   (.sq (.op 0 [⟨(some 6), none, .mv (.c (.bool false))⟩] none)
   .rt)
   .sk))
  (.sq (.sq (.op 0 [⟨(some 20), none, .mv (.t 0)⟩,
    ⟨(some 21), none, .mv (.t 1)⟩,
    ⟨(some 22), none, .callV true (.c (.fn n_ratchetlaw02_few [])) [(.t 20), (.t 21)]⟩,
    ⟨(some 23), none, .un .not (.t 22)⟩,
    ⟨(some 24), none, .mv (.t 23)⟩,
    ⟨(some 25), (some (24, false)), .mv (.t 0)⟩,
    ⟨(some 26), (some (24, false)), .len false (.t 25)⟩,
    ⟨(some 27), (some (24, false)), .bin .eql (.t 26) (.c (.int .i64 0))⟩,
    ⟨(some 28), none, .pick (.t 24) (.c (.bool true)) (.t 27)⟩] (some [0, 1, 5, 28]))
  (.cd (.t 28)
   (.sq (.op 0 [⟨(some 6), none, .mv (.c (.bool true))⟩] none)
   .rt)
   .sk))
  (.sq (.op 0 [⟨(some 29), none, .mv (.t 0)⟩,
    ⟨(some 30), none, .mv (.t 1)⟩,
    ⟨(some 31), none, .callV true (.c (.fn n_ratchetref02_NodesErr [])) [(.t 29), (.t 30)]⟩,
    ⟨(some 7), none, .mv (.t 31)⟩] (some [0, 1, 5, 7]))
  (.sq (.op 0 [⟨(some 32), none, .iaa (.t 5) (.c (.int .i64 0)) 2 1⟩,
    ⟨(some 33), none, .ld (.t 32) 1 false⟩,
    ⟨(some 34), none, .iaa (.t 5) (.c (.int .i64 1)) 2 1⟩,
    ⟨(some 35), none, .ld (.t 34) 1 false⟩,
    ⟨(some 36), none, .bsl t_int 1 false [.int .i64 0] 2 [(0, (.t 33)), (1, (.t 35))]⟩,
    ⟨(some 8), none, .mv (.t 36)⟩] (some [0, 1, 5, 7, 8]))
  (.sq (.sq (.op 0 [⟨(some 37), none, .mv (.t 7)⟩,
    ⟨(some 38), none, .bin .eql (.t 37) (.c (.int .i64 0))⟩,
    ⟨(some 39), none, .mv (.t 38)⟩,
    ⟨(some 40), (some (39, true)), .mv (.t 1)⟩,
    ⟨(some 41), (some (39, true)), .mv (.t 8)⟩,
    ⟨(some 42), (some (39, true)), .callV true (.c (.fn n_ratchetref02_FromErr [])) [(.t 40), (.t 41)]⟩,
    ⟨(some 43), (some (39, true)), .bin .eql (.t 42) (.c (.int .i64 0))⟩,
    ⟨(some 44), none, .pick (.t 39) (.t 43) (.c (.bool false))⟩,
    ⟨(some 45), none, .mv (.t 44)⟩,
    ⟨(some 46), (some (45, true)), .mv (.t 0)⟩,
    ⟨(some 47), (some (45, true)), .mv (.t 1)⟩,
    ⟨(some 48), (some (45, true)), .mv (.t 8)⟩,
    ⟨(some 49), (some (45, true)), .callV true (.c (.fn n_ratchetlaw02_light [])) [(.t 46), (.t 47), (.t 48)]⟩,
    ⟨(some 50), (some (45, true)), .un .not (.t 49)⟩,
    ⟨(some 51), (some (45, true)), .mv (.t 50)⟩,
    ⟨(some 52), (some (51, false)), .mv (.t 0)⟩,
    ⟨(some 53), (some (51, false)), .mv (.t 1)⟩,
    ⟨(some 54), (some (51, false)), .mv (.t 8)⟩,
    ⟨(some 55), (some (51, false)), .slc false (.t 54) none (some (.c (.int .i64 1))) 1⟩,
    ⟨(some 56), (some (51, false)), .callV true (.c (.fn n_ratchetlaw02_light [])) [(.t 52), (.t 53), (.t 55)]⟩,
    ⟨(some 57), (some (51, false)), .un .not (.t 56)⟩,
    ⟨(some 58), (some (45, true)), .pick (.t 51) (.c (.bool true)) (.t 57)⟩,
    ⟨(some 59), none, .pick (.t 45) (.t 58) (.c (.bool false))⟩] (some [0, 1, 5, 7, 8, 59]))
  (.cd (.t 59)
   (.sq (.op 0 [⟨(some 6), none, .mv (.c (.bool true))⟩] none)
   .rt)
   .sk))
  (.sq (.fz [0, 1] (.op 13 [⟨(some 61), none, .mv (.t 0)⟩,
    ⟨(some 62), none, .callV true (.c (.fn n_ratchetbase_CopyInts [])) [(.t 61)]⟩,
    ⟨(some 63), none, .mv (.t 1)⟩,
    ⟨(some 64), none, .callV true (.c (.fn n_ratchetbase_CopyNodes [])) [(.t 63)]⟩,
    ⟨(some 65), none, .iaa (.t 5) (.c (.int .i64 0)) 2 1⟩,
    ⟨(some 66), none, .ld (.t 65) 1 false⟩,
    ⟨(some 67), none, .iaa (.t 5) (.c (.int .i64 1)) 2 1⟩,
    ⟨(some 68), none, .ld (.t 67) 1 false⟩,
    ⟨(some 69), none, .callV false (.c (.fn n_graph_DifferenceOf [])) [(.t 62), (.t 64), (.t 66), (.t 68)]⟩,
    ⟨(some 60), none, .mv (.t 69)⟩,
    ⟨(some 70), none, .ext (.t 60) 0⟩,
    ⟨(some 71), none, .ext (.t 60) 1⟩,
    ⟨(some 9), none, .mv (.t 70)⟩,
    ⟨(some 10), none, .mv (.t 71)⟩] (some [0, 1, 5, 7, 8, 9, 10])))
  (.sq (.fz [0, 1] (.op 11 [⟨(some 73), none, .mv (.t 0)⟩,
    ⟨(some 74), none, .callV true (.c (.fn n_ratchetbase_CopyInts [])) [(.t 73)]⟩,
    ⟨(some 75), none, .mv (.t 1)⟩,
    ⟨(some 76), none, .callV true (.c (.fn n_ratchetbase_CopyNodes [])) [(.t 75)]⟩,
    ⟨(some 77), none, .iaa (.t 5) (.c (.int .i64 0)) 2 1⟩,
    ⟨(some 78), none, .ld (.t 77) 1 false⟩,
    ⟨(some 79), none, .callV true (.c (.fn n_graph_ConstantAt [])) [(.t 74), (.t 76), (.t 78)]⟩,
    ⟨(some 72), none, .mv (.t 79)⟩,
    ⟨(some 80), none, .ext (.t 72) 0⟩,
    ⟨(some 81), none, .ext (.t 72) 1⟩,
    ⟨(some 11), none, .mv (.t 80)⟩,
    ⟨(some 12), none, .mv (.t 81)⟩] (some [0, 1, 5, 7, 8, 9, 10, 11, 12])))
  (.sq (.op 0 [⟨(some 82), none, .mv (.t 7)⟩,
    ⟨(some 83), none, .callV true (.c (.fn n_ratchetlaw02_both [])) [(.t 82), (.c (.int .i64 0))]⟩,
    ⟨(some 13), none, .mv (.t 83)⟩] none)
  (.sq (.sq (.op 0 [⟨(some 84), none, .mv (.t 7)⟩,
    ⟨(some 85), none, .bin .eql (.t 84) (.c (.int .i64 0))⟩] none)
  (.cd (.t 85)
   (.fz [1, 8, 36] (.op 6 [⟨(some 86), none, .mv (.t 1)⟩,
     ⟨(some 87), none, .mv (.t 8)⟩,
     ⟨(some 88), none, .callV true (.c (.fn n_ratchetref02_FromErr [])) [(.t 86), (.t 87)]⟩,
     ⟨(some 89), none, .mv (.t 1)⟩,
     ⟨(some 90), none, .mv (.t 8)⟩,
     ⟨(some 91), none, .slc false (.t 90) none (some (.c (.int .i64 1))) 1⟩,
     ⟨(some 92), none, .callV true (.c (.fn n_ratchetref02_FromErr [])) [(.t 89), (.t 91)]⟩,
     ⟨(some 7), none, .mv (.t 88)⟩,
     ⟨(some 13), none, .mv (.t 92)⟩] (some [0, 1, 5, 7, 8, 9, 10, 11, 12, 13])))
   .sk))
  (.sq (.sq (.op 15 [⟨(some 93), none, .mv (.t 7)⟩,
    ⟨(some 94), none, .bin .eql (.t 93) (.c (.int .i64 0))⟩,
    ⟨(some 95), none, .mv (.t 94)⟩,
    ⟨(some 96), (some (95, true)), .mv (.t 1)⟩,
    ⟨(some 97), (some (95, true)), .iaa (.t 5) (.c (.int .i64 0)) 2 1⟩,
    ⟨(some 98), (some (95, true)), .ld (.t 97) 1 false⟩,
    ⟨(some 99), (some (95, true)), .ia (.t 96) (.t 98) 4⟩,
    ⟨(some 100), (some (95, true)), .fa (.t 99) 1⟩,
    ⟨(some 101), (some (95, true)), .ld (.t 100) 1 false⟩,
    ⟨(some 102), (some (95, true)), .mv (.t 1)⟩,
    ⟨(some 103), (some (95, true)), .iaa (.t 5) (.c (.int .i64 1)) 2 1⟩,
    ⟨(some 104), (some (95, true)), .ld (.t 103) 1 false⟩,
    ⟨(some 105), (some (95, true)), .ia (.t 102) (.t 104) 4⟩,
    ⟨(some 106), (some (95, true)), .fa (.t 105) 1⟩,
    ⟨(some 107), (some (95, true)), .ld (.t 106) 1 false⟩,
    ⟨(some 108), (some (95, true)), .bin .neq (.t 101) (.t 107)⟩,
    ⟨(some 109), none, .pick (.t 95) (.t 108) (.c (.bool false))⟩] (some [0, 1, 5, 7, 8, 9, 10, 11, 12, 13, 109]))
  (.cd (.t 109)
   (.op 0 [⟨(some 7), none, .mv (.c (.int .i64 25))⟩] none)
   .sk))
  (.sq (.sq (.op 0 [⟨(some 110), none, .mv (.t 7)⟩,
    ⟨(some 111), none, .bin .eql (.t 110) (.c (.int .i64 0))⟩,
    ⟨(some 112), none, .mv (.t 111)⟩,
    ⟨(some 113), (some (112, true)), .mv (.t 0)⟩,
    ⟨(some 114), (some (112, true)), .mv (.t 1)⟩,
    ⟨(some 115), (some (112, true)), .mv (.t 8)⟩,
    ⟨(some 116), (some (112, true)), .callV true (.c (.fn n_ratchetref02_Bits [])) [(.t 113), (.t 114), (.t 115)]⟩,
    ⟨(some 117), (some (112, true)), .bin .gtr (.t 116) (.c (.int .i64 12))⟩,
    ⟨(some 118), none, .pick (.t 112) (.t 117) (.c (.bool false))⟩] (some [0, 1, 5, 7, 8, 9, 10, 11, 12, 13, 118]))
  (.cd (.t 118)
   (.op 0 [⟨(some 7), none, .mv (.c (.int .i64 8))⟩] none)
   .sk))
  (.sq (.sq (.op 0 [⟨(some 119), none, .mv (.t 13)⟩,
    ⟨(some 120), none, .bin .eql (.t 119) (.c (.int .i64 0))⟩,
    ⟨(some 121), none, .mv (.t 120)⟩,
    ⟨(some 122), (some (121, true)), .mv (.t 0)⟩,
    ⟨(some 123), (some (121, true)), .mv (.t 1)⟩,
    ⟨(some 124), (some (121, true)), .mv (.t 8)⟩,
    ⟨(some 125), (some (121, true)), .slc false (.t 124) none (some (.c (.int .i64 1))) 1⟩,
    ⟨(some 126), (some (121, true)), .callV true (.c (.fn n_ratchetref02_Bits [])) [(.t 122), (.t 123), (.t 125)]⟩,
    ⟨(some 127), (some (121, true)), .bin .gtr (.t 126) (.c (.int .i64 12))⟩,
    ⟨(some 128), none, .pick (.t 121) (.t 127) (.c (.bool false))⟩] (some [0, 1, 5, 7, 9, 10, 11, 12, 13, 128]))
  (.cd (.t 128)
   (.op 0 [⟨(some 13), none, .mv (.c (.int .i64 8))⟩] none)
   .sk))
  (.sq (.sq (.op 0 [⟨(some 129), none, .mv (.t 13)⟩,
    ⟨(some 130), none, .bin .neq (.t 129) (.c (.int .i64 0))⟩] none)
  (.cd (.t 130)
   (.sq (.op 0 [⟨(some 131), none, .mv (.t 12)⟩,
     ⟨(some 132), none, .mv (.t 13)⟩,
     ⟨(some 133), none, .bin .neq (.t 131) (.t 132)⟩,
     ⟨(some 134), none, .mv (.t 133)⟩,
     ⟨(some 135), (some (134, false)), .mv (.t 11)⟩,
     ⟨(some 136), (some (134, false)), .bin .neq (.t 135) (.c (.int .i64 0))⟩,
     ⟨(some 137), none, .pick (.t 134) (.c (.bool true)) (.t 136)⟩] (some [0, 1, 5, 7, 9, 10, 137]))
   (.cd (.t 137)
    (.sq (.op 0 [⟨(some 6), none, .mv (.c (.bool false))⟩] none)
    .rt)
    .sk))
   (.sq (.op 0 [⟨(some 139), none, .mv (.t 0)⟩,
     ⟨(some 140), none, .mv (.t 1)⟩,
     ⟨(some 141), none, .iaa (.t 5) (.c (.int .i64 0)) 2 1⟩,
     ⟨(some 142), none, .ld (.t 141) 1 false⟩,
     ⟨(some 143), none, .callV true (.c (.fn n_ratchetref02_Constant [])) [(.t 139), (.t 140), (.t 142)]⟩,
     ⟨(some 138), none, .mv (.t 143)⟩,
     ⟨(some 144), none, .ext (.t 138) 0⟩,
     ⟨(some 145), none, .ext (.t 138) 1⟩,
     ⟨(some 14), none, .mv (.t 144)⟩,
     ⟨(some 15), none, .mv (.t 145)⟩] (some [0, 1, 5, 7, 9, 10, 11, 12, 14, 15]))
   (.sq (.op 0 [⟨(some 146), none, .mv (.t 15)⟩,
     ⟨(some 147), none, .mv (.t 146)⟩,
     ⟨(some 148), (some (147, true)), .mv (.t 12)⟩,
     ⟨(some 149), (some (147, true)), .bin .neq (.t 148) (.c (.int .i64 0))⟩,
     ⟨(some 150), (some (147, true)), .mv (.t 149)⟩,
     ⟨(some 151), (some (150, false)), .mv (.t 11)⟩,
     ⟨(some 152), (some (150, false)), .mv (.t 14)⟩,
     ⟨(some 153), (some (150, false)), .bin .neq (.t 151) (.t 152)⟩,
     ⟨(some 154), (some (147, true)), .pick (.t 150) (.c (.bool true)) (.t 153)⟩,
     ⟨(some 155), none, .pick (.t 147) (.t 154) (.c (.bool false))⟩,
     ⟨(some 156), none, .mv (.t 155)⟩,
     ⟨(some 157), (some (156, false)), .mv (.t 15)⟩,
     ⟨(some 158), (some (156, false)), .un .not (.t 157)⟩,
     ⟨(some 159), (some (156, false)), .mv (.t 158)⟩,
     ⟨(some 160), (some (159, true)), .mv (.t 12)⟩,
     ⟨(some 161), (some (159, true)), .bin .neq (.t 160) (.c (.int .i64 12))⟩,
     ⟨(some 162), (some (159, true)), .mv (.t 161)⟩,
     ⟨(some 163), (some (162, false)), .mv (.t 11)⟩,
     ⟨(some 164), (some (162, false)), .bin .neq (.t 163) (.c (.int .i64 0))⟩,
     ⟨(some 165), (some (159, true)), .pick (.t 162) (.c (.bool true)) (.t 164)⟩,
     ⟨(some 166), (some (156, false)), .pick (.t 159) (.t 165) (.c (.bool false))⟩,
     ⟨(some 167), none, .pick (.t 156) (.c (.bool true)) (.t 166)⟩] (some [0, 1, 5, 7, 9, 10, 167]))
   (.cd (.t 167)
    (.sq (.op 0 [⟨(some 6), none, .mv (.c (.bool false))⟩] none)
    .rt)
    .sk)))))
  (.sq (.sq (.op 0 [⟨(some 168), none, .mv (.t 7)⟩,
    ⟨(some 169), none, .bin .neq (.t 168) (.c (.int .i64 0))⟩] none)
  (.cd (.t 169)
   (.sq (.op 0 [⟨(some 170), none, .mv (.t 10)⟩,
     ⟨(some 171), none, .mv (.t 7)⟩,
     ⟨(some 172), none, .bin .eql (.t 170) (.t 171)⟩,
     ⟨(some 173), none, .mv (.t 172)⟩,
     ⟨(some 174), (some (173, true)), .mv (.t 9)⟩,
     ⟨(some 175), (some (173, true)), .len false (.t 174)⟩,
     ⟨(some 176), (some (173, true)), .bin .eql (.t 175) (.c (.int .i64 0))⟩,
     ⟨(some 177), none, .pick (.t 173) (.t 176) (.c (.bool false))⟩,
     ⟨(some 6), none, .mv (.t 177)⟩] (some [6]))
   .rt)
   .sk))
  (.sq (.op 0 [⟨(some 179), none, .mv (.t 0)⟩,
    ⟨(some 180), none, .mv (.t 1)⟩,
    ⟨(some 181), none, .iaa (.t 5) (.c (.int .i64 0)) 2 1⟩,
    ⟨(some 182), none, .ld (.t 181) 1 false⟩,
    ⟨(some 183), none, .iaa (.t 5) (.c (.int .i64 1)) 2 1⟩,
    ⟨(some 184), none, .ld (.t 183) 1 false⟩,
    ⟨(some 185), none, .callV false (.c (.fn n_ratchetref02_Difference [])) [(.t 179), (.t 180), (.t 182), (.t 184)]⟩,
    ⟨(some 178), none, .mv (.t 185)⟩,
    ⟨(some 186), none, .ext (.t 178) 0⟩,
    ⟨(some 187), none, .ext (.t 178) 1⟩,
    ⟨(some 16), none, .mv (.t 186)⟩,
    ⟨(some 17), none, .mv (.t 187)⟩] (some [9, 10, 16, 17]))
  (.sq (.sq (.op 0 [⟨(some 188), none, .mv (.t 17)⟩,
    ⟨(some 189), none, .un .not (.t 188)⟩] none)
  (.cd (.t 189)
   (.sq (.op 0 [⟨(some 190), none, .mv (.t 10)⟩,
     ⟨(some 191), none, .bin .eql (.t 190) (.c (.int .i64 12))⟩,
     ⟨(some 192), none, .mv (.t 191)⟩,
     ⟨(some 193), (some (192, true)), .mv (.t 9)⟩,
     ⟨(some 194), (some (192, true)), .len false (.t 193)⟩,
     ⟨(some 195), (some (192, true)), .bin .eql (.t 194) (.c (.int .i64 0))⟩,
     ⟨(some 196), none, .pick (.t 192) (.t 195) (.c (.bool false))⟩,
     ⟨(some 6), none, .mv (.t 196)⟩] (some [6]))
   .rt)
   .sk))
  (.sq (.op 0 [⟨(some 197), none, .mv (.t 10)⟩,
    ⟨(some 198), none, .bin .eql (.t 197) (.c (.int .i64 0))⟩,
    ⟨(some 199), none, .mv (.t 198)⟩,
    ⟨(some 200), (some (199, true)), .mv (.t 9)⟩,
    ⟨(some 201), (some (199, true)), .mv (.t 16)⟩,
    ⟨(some 202), (some (199, true)), .callV true (.c (.fn n_ratchetbase_Ints [])) [(.t 200), (.t 201)]⟩,
    ⟨(some 203), none, .pick (.t 199) (.t 202) (.c (.bool false))⟩,
    ⟨(some 6), none, .mv (.t 203)⟩] (some [6]))
  .rt)))))))))))))))))),
  [.t 6]⟩
def c_ratchetlaw02_GraphValues : FnIR := ⟨201,
  (.sq (.op 0 [⟨(some 5), none, .box (.t 2) 2⟩,
    ⟨(some 6), none, .mv (.c (.bool false))⟩] none)
  (.sq (.sq (.op 0 [⟨(some 16), none, .callV true (.c (.fn n_ratchetlaw02_awake [])) []⟩,
    ⟨(some 17), none, .un .not (.t 16)⟩] none)
  (.cd (.t 17)
   (.sq (.op 0 [⟨(some 6), none, .mv (.c (.bool false))⟩] none)
   .rt)
   .sk))
  (.sq (.sq (.op 0 [⟨(some 18), none, .mv (.t 0)⟩,
    ⟨(some 19), none, .mv (.t 1)⟩,
    ⟨(some 20), none, .callV true (.c (.fn n_ratchetlaw02_few [])) [(.t 18), (.t 19)]⟩,
    ⟨(some 21), none, .un .not (.t 20)⟩,
    ⟨(some 22), none, .mv (.t 21)⟩,
    ⟨(some 23), (some (22, false)), .fa (.t 5) 0⟩,
    ⟨(some 24), (some (22, false)), .ld (.t 23) 1 false⟩,
    ⟨(some 25), (some (22, false)), .len false (.t 24)⟩,
    ⟨(some 26), (some (22, false)), .bin .gtr (.t 25) (.c (.int .i64 60))⟩,
    ⟨(some 27), none, .pick (.t 22) (.c (.bool true)) (.t 26)⟩,
    ⟨(some 28), none, .mv (.t 27)⟩,
    ⟨(some 29), (some (28, false)), .fa (.t 5) 1⟩,
    ⟨(some 30), (some (28, false)), .ld (.t 29) 1 false⟩,
    ⟨(some 31), (some (28, false)), .len false (.t 30)⟩,
    ⟨(some 32), (some (28, false)), .bin .gtr (.t 31) (.c (.int .i64 60))⟩,
    ⟨(some 33), none, .pick (.t 28) (.c (.bool true)) (.t 32)⟩] (some [0, 1, 5, 33]))
  (.cd (.t 33)
   (.sq (.op 0 [⟨(some 6), none, .mv (.c (.bool true))⟩] none)
   .rt)
   .sk))
  (.sq (.fz [0, 1] (.op 12 [⟨(some 35), none, .mv (.t 0)⟩,
    ⟨(some 36), none, .callV true (.c (.fn n_ratchetbase_CopyInts [])) [(.t 35)]⟩,
    ⟨(some 37), none, .mv (.t 1)⟩,
    ⟨(some 38), none, .callV true (.c (.fn n_ratchetbase_CopyNodes [])) [(.t 37)]⟩,
    ⟨(some 39), none, .fa (.t 5) 0⟩,
    ⟨(some 40), none, .ld (.t 39) 1 false⟩,
    ⟨(some 41), none, .callV true (.c (.fn n_ratchetbase_CopyInts [])) [(.t 40)]⟩,
    ⟨(some 42), none, .callV false (.c (.fn n_graph_ValuesOf [])) [(.t 36), (.t 38), (.t 41)]⟩,
    ⟨(some 34), none, .mv (.t 42)⟩,
    ⟨(some 43), none, .ext (.t 34) 0⟩,
    ⟨(some 44), none, .ext (.t 34) 1⟩,
    ⟨(some 7), none, .mv (.t 43)⟩,
    ⟨(some 8), none, .mv (.t 44)⟩] (some [0, 1, 5, 7, 8])))
  (.sq (.fz [0, 1] (.op 12 [⟨(some 46), none, .mv (.t 0)⟩,
    ⟨(some 47), none, .callV true (.c (.fn n_ratchetbase_CopyInts [])) [(.t 46)]⟩,
    ⟨(some 48), none, .mv (.t 1)⟩,
    ⟨(some 49), none, .callV true (.c (.fn n_ratchetbase_CopyNodes [])) [(.t 48)]⟩,
    ⟨(some 50), none, .fa (.t 5) 1⟩,
    ⟨(some 51), none, .ld (.t 50) 1 false⟩,
    ⟨(some 52), none, .callV true (.c (.fn n_ratchetbase_CopyInts [])) [(.t 51)]⟩,
    ⟨(some 53), none, .callV false (.c (.fn n_graph_BelowOf [])) [(.t 47), (.t 49), (.t 52)]⟩,
    ⟨(some 45), none, .mv (.t 53)⟩,
    ⟨(some 54), none, .ext (.t 45) 0⟩,
    ⟨(some 55), none, .ext (.t 45) 1⟩,
    ⟨(some 9), none, .mv (.t 54)⟩,
    ⟨(some 10), none, .mv (.t 55)⟩] (some [0, 1, 5, 7, 8, 9, 10])))
  (.sq (.fz [0, 1] (.op 12 [⟨(some 57), none, .mv (.t 0)⟩,
    ⟨(some 58), none, .callV true (.c (.fn n_ratchetbase_CopyInts [])) [(.t 57)]⟩,
    ⟨(some 59), none, .mv (.t 1)⟩,
    ⟨(some 60), none, .callV true (.c (.fn n_ratchetbase_CopyNodes [])) [(.t 59)]⟩,
    ⟨(some 61), none, .fa (.t 5) 1⟩,
    ⟨(some 62), none, .ld (.t 61) 1 false⟩,
    ⟨(some 63), none, .callV true (.c (.fn n_ratchetbase_CopyInts [])) [(.t 62)]⟩,
    ⟨(some 64), none, .callV false (.c (.fn n_graph_LeavesOf [])) [(.t 58), (.t 60), (.t 63)]⟩,
    ⟨(some 56), none, .mv (.t 64)⟩,
    ⟨(some 65), none, .ext (.t 56) 0⟩,
    ⟨(some 66), none, .ext (.t 56) 1⟩,
    ⟨(some 11), none, .mv (.t 65)⟩,
    ⟨(some 12), none, .mv (.t 66)⟩] (some [0, 1, 5, 7, 8, 9, 10, 11, 12])))
  (.sq (.op 0 [⟨(some 68), none, .mv (.t 0)⟩,
    ⟨(some 69), none, .callV false (.c (.fn n_ratchetbase_CopyInts [])) [(.t 68)]⟩,
    ⟨(some 70), none, .mv (.t 1)⟩,
    ⟨(some 71), none, .callV false (.c (.fn n_ratchetbase_CopyNodes [])) [(.t 70)]⟩,
    ⟨(some 72), none, .callV false (.c (.fn n_graph_DepthsOf [])) [(.t 69), (.t 71)]⟩,
    ⟨(some 67), none, .mv (.t 72)⟩,
    ⟨(some 73), none, .ext (.t 67) 0⟩,
    ⟨(some 74), none, .ext (.t 67) 1⟩,
    ⟨(some 13), none, .mv (.t 73)⟩,
    ⟨(some 14), none, .mv (.t 74)⟩] (some [0, 1, 5, 7, 8, 9, 10, 11, 12, 13, 14]))
  (.sq (.op 0 [⟨(some 75), none, .mv (.t 0)⟩,
    ⟨(some 76), none, .mv (.t 1)⟩,
    ⟨(some 77), none, .callV true (.c (.fn n_ratchetref02_NodesErr [])) [(.t 75), (.t 76)]⟩,
    ⟨(some 15), none, .mv (.t 77)⟩] (some [0, 1, 5, 7, 8, 9, 10, 11, 12, 13, 14, 15]))
  (.sq (.sq (.op 0 [⟨(some 78), none, .mv (.t 15)⟩,
    ⟨(some 79), none, .bin .neq (.t 78) (.c (.int .i64 0))⟩] none)
  (.cd (.t 79)
   (.sq (.op 0 [⟨(some 80), none, .mv (.t 8)⟩,
     ⟨(some 81), none, .mv (.t 15)⟩,
     ⟨(some 82), none, .bin .eql (.t 80) (.t 81)⟩,
     ⟨(some 83), none, .mv (.t 82)⟩,
     ⟨(some 84), (some (83, true)), .mv (.t 7)⟩,
     ⟨(some 85), (some (83, true)), .len false (.t 84)⟩,
     ⟨(some 86), (some (83, true)), .bin .eql (.t 85) (.c (.int .i64 0))⟩,
     ⟨(some 87), none, .pick (.t 83) (.t 86) (.c (.bool false))⟩,
     ⟨(some 88), none, .mv (.t 87)⟩,
     ⟨(some 89), (some (88, true)), .mv (.t 10)⟩,
     ⟨(some 90), (some (88, true)), .mv (.t 15)⟩,
     ⟨(some 91), (some (88, true)), .bin .eql (.t 89) (.t 90)⟩,
     ⟨(some 92), none, .pick (.t 88) (.t 91) (.c (.bool false))⟩,
     ⟨(some 93), none, .mv (.t 92)⟩,
     ⟨(some 94), (some (93, true)), .mv (.t 9)⟩,
     ⟨(some 95), (some (93, true)), .len false (.t 94)⟩,
     ⟨(some 96), (some (93, true)), .bin .eql (.t 95) (.c (.int .i64 0))⟩,
     ⟨(some 97), none, .pick (.t 93) (.t 96) (.c (.bool false))⟩,
     ⟨(some 98), none, .mv (.t 97)⟩,
     ⟨(some 99), (some (98, true)), .mv (.t 12)⟩,
     ⟨(some 100), (some (98, true)), .mv (.t 15)⟩,
     ⟨(some 101), (some (98, true)), .bin .eql (.t 99) (.t 100)⟩,
     ⟨(some 102), none, .pick (.t 98) (.t 101) (.c (.bool false))⟩,
     ⟨(some 103), none, .mv (.t 102)⟩,
     ⟨(some 104), (some (103, true)), .mv (.t 11)⟩,
     ⟨(some 105), (some (103, true)), .len false (.t 104)⟩,
     ⟨(some 106), (some (103, true)), .bin .eql (.t 105) (.c (.int .i64 0))⟩,
     ⟨(some 107), none, .pick (.t 103) (.t 106) (.c (.bool false))⟩,
     ⟨(some 108), none, .mv (.t 107)⟩,
     ⟨(some 109), (some (108, true)), .mv (.t 14)⟩,
     ⟨(some 110), (some (108, true)), .mv (.t 15)⟩,
     ⟨(some 111), (some (108, true)), .bin .eql (.t 109) (.t 110)⟩,
     ⟨(some 112), none, .pick (.t 108) (.t 111) (.c (.bool false))⟩,
     ⟨(some 113), none, .mv (.t 112)⟩,
     ⟨(some 114), (some (113, true)), .mv (.t 13)⟩,
     ⟨(some 115), (some (113, true)), .len false (.t 114)⟩,
     ⟨(some 116), (some (113, true)), .bin .eql (.t 115) (.c (.int .i64 0))⟩,
     ⟨(some 117), none, .pick (.t 113) (.t 116) (.c (.bool false))⟩,
     ⟨(some 6), none, .mv (.t 117)⟩] (some [6]))
   .rt)
   .sk))
  (.sq (.sq (.op 0 [⟨(some 118), none, .mv (.t 14)⟩,
    ⟨(some 119), none, .bin .neq (.t 118) (.c (.int .i64 0))⟩,
    ⟨(some 120), none, .mv (.t 119)⟩,
    ⟨(some 121), (some (120, false)), .mv (.t 13)⟩,
    ⟨(some 122), (some (120, false)), .mv (.t 1)⟩,
    ⟨(some 123), (some (120, false)), .callV false (.c (.fn n_ratchetref02_Depths [])) [(.t 122)]⟩,
    ⟨(some 124), (some (120, false)), .callV true (.c (.fn n_ratchetbase_Ints [])) [(.t 121), (.t 123)]⟩,
    ⟨(some 125), (some (120, false)), .un .not (.t 124)⟩,
    ⟨(some 126), none, .pick (.t 120) (.c (.bool true)) (.t 125)⟩] (some [0, 1, 5, 7, 8, 9, 10, 11, 12, 126]))
  (.cd (.t 126)
   (.sq (.op 0 [⟨(some 6), none, .mv (.c (.bool false))⟩] none)
   .rt)
   .sk))
  (.sq (.sq (.op 0 [⟨(some 127), none, .mv (.t 1)⟩,
    ⟨(some 128), none, .fa (.t 5) 1⟩,
    ⟨(some 129), none, .ld (.t 128) 1 false⟩,
    ⟨(some 130), none, .callV true (.c (.fn n_ratchetref02_FromErr [])) [(.t 127), (.t 129)]⟩,
    ⟨(some 15), none, .mv (.t 130)⟩] (some [0, 1, 5, 7, 8, 9, 10, 11, 12, 15]))
  (.sq (.op 0 [⟨(some 131), none, .mv (.t 15)⟩,
    ⟨(some 132), none, .bin .neq (.t 131) (.c (.int .i64 0))⟩] none)
  (.cd (.t 132)
   (.sq (.op 0 [⟨(some 133), none, .mv (.t 10)⟩,
     ⟨(some 134), none, .mv (.t 15)⟩,
     ⟨(some 135), none, .bin .neq (.t 133) (.t 134)⟩,
     ⟨(some 136), none, .mv (.t 135)⟩,
     ⟨(some 137), (some (136, false)), .mv (.t 9)⟩,
     ⟨(some 138), (some (136, false)), .len false (.t 137)⟩,
     ⟨(some 139), (some (136, false)), .bin .neq (.t 138) (.c (.int .i64 0))⟩,
     ⟨(some 140), none, .pick (.t 136) (.c (.bool true)) (.t 139)⟩,
     ⟨(some 141), none, .mv (.t 140)⟩,
     ⟨(some 142), (some (141, false)), .mv (.t 12)⟩,
     ⟨(some 143), (some (141, false)), .mv (.t 15)⟩,
     ⟨(some 144), (some (141, false)), .bin .neq (.t 142) (.t 143)⟩,
     ⟨(some 145), none, .pick (.t 141) (.c (.bool true)) (.t 144)⟩,
     ⟨(some 146), none, .mv (.t 145)⟩,
     ⟨(some 147), (some (146, false)), .mv (.t 11)⟩,
     ⟨(some 148), (some (146, false)), .len false (.t 147)⟩,
     ⟨(some 149), (some (146, false)), .bin .neq (.t 148) (.c (.int .i64 0))⟩,
     ⟨(some 150), none, .pick (.t 146) (.c (.bool true)) (.t 149)⟩] (some [0, 1, 5, 7, 8, 150]))
   (.cd (.t 150)
    (.sq (.op 0 [⟨(some 6), none, .mv (.c (.bool false))⟩] none)
    .rt)
    .sk))
   (.sq (.op 0 [⟨(some 151), none, .mv (.t 10)⟩,
     ⟨(some 152), none, .bin .neq (.t 151) (.c (.int .i64 0))⟩,
     ⟨(some 153), none, .mv (.t 152)⟩,
     ⟨(some 154), (some (153, false)), .mv (.t 9)⟩,
     ⟨(some 155), (some (153, false)), .mv (.t 1)⟩,
     ⟨(some 156), (some (153, false)), .fa (.t 5) 1⟩,
     ⟨(some 157), (some (153, false)), .ld (.t 156) 1 false⟩,
     ⟨(some 158), (some (153, false)), .callV false (.c (.fn n_ratchetref02_Below [])) [(.t 155), (.t 157)]⟩,
     ⟨(some 159), (some (153, false)), .callV true (.c (.fn n_ratchetbase_Ints [])) [(.t 154), (.t 158)]⟩,
     ⟨(some 160), (some (153, false)), .un .not (.t 159)⟩,
     ⟨(some 161), none, .pick (.t 153) (.c (.bool true)) (.t 160)⟩,
     ⟨(some 162), none, .mv (.t 161)⟩,
     ⟨(some 163), (some (162, false)), .mv (.t 12)⟩,
     ⟨(some 164), (some (162, false)), .bin .neq (.t 163) (.c (.int .i64 0))⟩,
     ⟨(some 165), none, .pick (.t 162) (.c (.bool true)) (.t 164)⟩,
     ⟨(some 166), none, .mv (.t 165)⟩,
     ⟨(some 167), (some (166, false)), .mv (.t 11)⟩,
     ⟨(some 168), (some (166, false)), .mv (.t 1)⟩,
     ⟨(some 169), (some (166, false)), .fa (.t 5) 1⟩,
     ⟨(some 170), (some (166, false)), .ld (.t 169) 1 false⟩,
     ⟨(some 171), (some (166, false)), .mv (.t 0)⟩,
     ⟨(some 172), (some (166, false)), .len false (.t 171)⟩,
     ⟨(some 173), (some (166, false)), .callV false (.c (.fn n_ratchetbase_LeavesBelow [])) [(.t 168), (.t 170), (.t 172)]⟩,
     ⟨(some 174), (some (166, false)), .callV true (.c (.fn n_ratchetbase_Ints [])) [(.t 167), (.t 173)]⟩,
     ⟨(some 175), (some (166, false)), .un .not (.t 174)⟩,
     ⟨(some 176), none, .pick (.t 166) (.c (.bool true)) (.t 175)⟩] (some [0, 1, 5, 7, 8, 176]))
   (.cd (.t 176)
    (.sq (.op 0 [⟨(some 6), none, .mv (.c (.bool false))⟩] none)
    .rt)
    .sk)))))
  (.sq (.sq (.op 0 [⟨(some 177), none, .mv (.t 0)⟩,
    ⟨(some 178), none, .fa (.t 5) 0⟩,
    ⟨(some 179), none, .ld (.t 178) 1 false⟩,
    ⟨(some 180), none, .callV true (.c (.fn n_ratchetref02_ValuesErr [])) [(.t 177), (.t 179)]⟩,
    ⟨(some 15), none, .mv (.t 180)⟩] (some [1, 5, 7, 8, 15]))
  (.sq (.op 0 [⟨(some 181), none, .mv (.t 15)⟩,
    ⟨(some 182), none, .bin .neq (.t 181) (.c (.int .i64 0))⟩] none)
  (.cd (.t 182)
   (.sq (.op 0 [⟨(some 183), none, .mv (.t 8)⟩,
     ⟨(some 184), none, .mv (.t 15)⟩,
     ⟨(some 185), none, .bin .eql (.t 183) (.t 184)⟩,
     ⟨(some 186), none, .mv (.t 185)⟩,
     ⟨(some 187), (some (186, true)), .mv (.t 7)⟩,
     ⟨(some 188), (some (186, true)), .len false (.t 187)⟩,
     ⟨(some 189), (some (186, true)), .bin .eql (.t 188) (.c (.int .i64 0))⟩,
     ⟨(some 190), none, .pick (.t 186) (.t 189) (.c (.bool false))⟩,
     ⟨(some 6), none, .mv (.t 190)⟩] (some [6]))
   .rt)
   .sk)))
  (.sq (.op 0 [⟨(some 191), none, .mv (.t 8)⟩,
    ⟨(some 192), none, .bin .eql (.t 191) (.c (.int .i64 0))⟩,
    ⟨(some 193), none, .mv (.t 192)⟩,
    ⟨(some 194), (some (193, true)), .mv (.t 7)⟩,
    ⟨(some 195), (some (193, true)), .mv (.t 1)⟩,
    ⟨(some 196), (some (193, true)), .fa (.t 5) 0⟩,
    ⟨(some 197), (some (193, true)), .ld (.t 196) 1 false⟩,
    ⟨(some 198), (some (193, true)), .callV false (.c (.fn n_ratchetbase_NodeValues [])) [(.t 195), (.t 197)]⟩,
    ⟨(some 199), (some (193, true)), .callV true (.c (.fn n_ratchetbase_Ints [])) [(.t 194), (.t 198)]⟩,
    ⟨(some 200), none, .pick (.t 193) (.t 199) (.c (.bool false))⟩,
    ⟨(some 6), none, .mv (.t 200)⟩] (some [6]))
  .rt))))))))))))),
  [.t 6]⟩
def c_ratchetlaw02_GraphLarger : FnIR := ⟨156,
  (.sq (.op 0 [⟨(some 4), none, .box (.t 1) 2⟩,
    ⟨(some 5), none, .box (.t 2) 2⟩,
    ⟨(some 6), none, .mv (.c (.bool false))⟩] none)
  (.sq (.op 5 [⟨(some 18), none, .fa (.t 4) 0⟩,
    ⟨(some 19), none, .ld (.t 18) 1 false⟩,
    ⟨(some 20), none, .fa (.t 4) 1⟩,
    ⟨(some 21), none, .ld (.t 20) 1 false⟩,
    ⟨(some 7), none, .mv (.t 19)⟩,
    ⟨(some 8), none, .mv (.t 21)⟩] (some [0, 5, 7, 8]))
  (.sq (.sq (.op 0 [⟨(some 22), none, .callV true (.c (.fn n_ratchetlaw02_awake [])) []⟩,
    ⟨(some 23), none, .un .not (.t 22)⟩] none)
  (.cd (.t 23)
   (.sq (.op 0 [⟨(some 6), none, .mv (.c (.bool false))⟩] none)
   .rt)
   .sk))
  (.sq (.sq (.op 0 [⟨(some 24), none, .mv (.t 0)⟩,
    ⟨(some 25), none, .mv (.t 7)⟩,
    ⟨(some 26), none, .callV true (.c (.fn n_ratchetlaw02_few [])) [(.t 24), (.t 25)]⟩,
    ⟨(some 27), none, .un .not (.t 26)⟩,
    ⟨(some 28), none, .mv (.t 27)⟩,
    ⟨(some 29), (some (28, false)), .mv (.t 0)⟩,
    ⟨(some 30), (some (28, false)), .mv (.t 8)⟩,
    ⟨(some 31), (some (28, false)), .callV true (.c (.fn n_ratchetlaw02_few [])) [(.t 29), (.t 30)]⟩,
    ⟨(some 32), (some (28, false)), .un .not (.t 31)⟩,
    ⟨(some 33), none, .pick (.t 28) (.c (.bool true)) (.t 32)⟩] (some [0, 5, 7, 8, 33]))
  (.cd (.t 33)
   (.sq (.op 0 [⟨(some 6), none, .mv (.c (.bool true))⟩] none)
   .rt)
   .sk))
  (.sq (.fz [0, 7, 19] (.op 13 [⟨(some 35), none, .mv (.t 0)⟩,
    ⟨(some 36), none, .callV true (.c (.fn n_ratchetbase_CopyInts [])) [(.t 35)]⟩,
    ⟨(some 37), none, .mv (.t 7)⟩,
    ⟨(some 38), none, .callV true (.c (.fn n_ratchetbase_CopyNodes [])) [(.t 37)]⟩,
    ⟨(some 39), none, .iaa (.t 5) (.c (.int .i64 0)) 2 1⟩,
    ⟨(some 40), none, .ld (.t 39) 1 false⟩,
    ⟨(some 41), none, .iaa (.t 5) (.c (.int .i64 1)) 2 1⟩,
    ⟨(some 42), none, .ld (.t 41) 1 false⟩,
    ⟨(some 43), none, .callV false (.c (.fn n_graph_Substituted [])) [(.t 36), (.t 38), (.t 40), (.t 42)]⟩,
    ⟨(some 34), none, .mv (.t 43)⟩,
    ⟨(some 44), none, .ext (.t 34) 0⟩,
    ⟨(some 45), none, .ext (.t 34) 1⟩,
    ⟨(some 9), none, .mv (.t 44)⟩,
    ⟨(some 10), none, .mv (.t 45)⟩] (some [0, 5, 7, 8, 9, 10])))
  (.sq (.op 0 [⟨(some 47), none, .mv (.t 0)⟩,
    ⟨(some 48), none, .callV false (.c (.fn n_ratchetbase_CopyInts [])) [(.t 47)]⟩,
    ⟨(some 49), none, .mv (.t 7)⟩,
    ⟨(some 50), none, .callV false (.c (.fn n_ratchetbase_CopyNodes [])) [(.t 49)]⟩,
    ⟨(some 51), none, .mv (.t 8)⟩,
    ⟨(some 52), none, .callV false (.c (.fn n_ratchetbase_CopyNodes [])) [(.t 51)]⟩,
    ⟨(some 53), none, .callV false (.c (.fn n_graph_Appended [])) [(.t 48), (.t 50), (.t 52)]⟩,
    ⟨(some 46), none, .mv (.t 53)⟩,
    ⟨(some 54), none, .ext (.t 46) 0⟩,
    ⟨(some 55), none, .ext (.t 46) 1⟩,
    ⟨(some 56), none, .ext (.t 46) 2⟩,
    ⟨(some 11), none, .mv (.t 54)⟩,
    ⟨(some 12), none, .mv (.t 55)⟩,
    ⟨(some 13), none, .mv (.t 56)⟩] (some [0, 5, 7, 8, 9, 10, 11, 12, 13]))
  (.sq (.op 0 [⟨(some 57), none, .mv (.t 0)⟩,
    ⟨(some 58), none, .mv (.t 7)⟩,
    ⟨(some 59), none, .callV true (.c (.fn n_ratchetref02_NodesErr [])) [(.t 57), (.t 58)]⟩,
    ⟨(some 14), none, .mv (.t 59)⟩] (some [0, 5, 7, 8, 9, 10, 11, 12, 13, 14]))
  (.sq (.op 0 [⟨(some 60), none, .mv (.t 14)⟩,
    ⟨(some 61), none, .mv (.t 0)⟩,
    ⟨(some 62), none, .mv (.t 8)⟩,
    ⟨(some 63), none, .callV true (.c (.fn n_ratchetref02_NodesErr [])) [(.t 61), (.t 62)]⟩,
    ⟨(some 64), none, .callV true (.c (.fn n_ratchetlaw02_both [])) [(.t 60), (.t 63)]⟩,
    ⟨(some 15), none, .mv (.t 64)⟩] (some [0, 5, 7, 8, 9, 10, 11, 12, 13, 14, 15]))
  (.sq (.sq (.op 0 [⟨(some 65), none, .mv (.t 15)⟩,
    ⟨(some 66), none, .bin .eql (.t 65) (.c (.int .i64 0))⟩,
    ⟨(some 67), none, .mv (.t 66)⟩,
    ⟨(some 68), (some (67, true)), .mv (.t 7)⟩,
    ⟨(some 69), (some (67, true)), .len false (.t 68)⟩,
    ⟨(some 70), (some (67, true)), .mv (.t 8)⟩,
    ⟨(some 71), (some (67, true)), .len false (.t 70)⟩,
    ⟨(some 72), (some (67, true)), .bin .add (.t 69) (.t 71)⟩,
    ⟨(some 73), (some (67, true)), .bin .gtr (.t 72) (.c (.int .i64 400))⟩,
    ⟨(some 74), none, .pick (.t 67) (.t 73) (.c (.bool false))⟩] (some [0, 5, 7, 8, 9, 10, 11, 12, 13, 14, 15, 74]))
  (.cd (.t 74)
   (.op 0 [⟨(some 15), none, .mv (.c (.int .i64 8))⟩] none)
   .sk))
  (.sq (.sq (.op 0 [⟨(some 75), none, .mv (.t 15)⟩,
    ⟨(some 76), none, .bin .neq (.t 75) (.c (.int .i64 0))⟩] none)
  (.cd (.t 76)
   (.sq (.op 0 [⟨(some 77), none, .mv (.t 13)⟩,
     ⟨(some 78), none, .mv (.t 15)⟩,
     ⟨(some 79), none, .bin .neq (.t 77) (.t 78)⟩,
     ⟨(some 80), none, .mv (.t 79)⟩,
     ⟨(some 81), (some (80, false)), .mv (.t 11)⟩,
     ⟨(some 82), (some (80, false)), .len false (.t 81)⟩,
     ⟨(some 83), (some (80, false)), .bin .neq (.t 82) (.c (.int .i64 0))⟩,
     ⟨(some 84), none, .pick (.t 80) (.c (.bool true)) (.t 83)⟩,
     ⟨(some 85), none, .mv (.t 84)⟩,
     ⟨(some 86), (some (85, false)), .mv (.t 12)⟩,
     ⟨(some 87), (some (85, false)), .len false (.t 86)⟩,
     ⟨(some 88), (some (85, false)), .bin .neq (.t 87) (.c (.int .i64 0))⟩,
     ⟨(some 89), none, .pick (.t 85) (.c (.bool true)) (.t 88)⟩] (some [0, 5, 7, 9, 10, 14, 89]))
   (.cd (.t 89)
    (.sq (.op 0 [⟨(some 6), none, .mv (.c (.bool false))⟩] none)
    .rt)
    .sk))
   (.sq (.op 0 [⟨(some 91), none, .mv (.t 7)⟩,
     ⟨(some 92), none, .mv (.t 8)⟩,
     ⟨(some 93), none, .callV false (.c (.fn n_ratchetref02_Appended [])) [(.t 91), (.t 92)]⟩,
     ⟨(some 90), none, .mv (.t 93)⟩,
     ⟨(some 94), none, .ext (.t 90) 0⟩,
     ⟨(some 95), none, .ext (.t 90) 1⟩,
     ⟨(some 16), none, .mv (.t 94)⟩,
     ⟨(some 17), none, .mv (.t 95)⟩] (some [0, 5, 7, 9, 10, 11, 12, 13, 14, 16, 17]))
   (.sq (.op 0 [⟨(some 96), none, .mv (.t 13)⟩,
     ⟨(some 97), none, .bin .neq (.t 96) (.c (.int .i64 0))⟩,
     ⟨(some 98), none, .mv (.t 97)⟩,
     ⟨(some 99), (some (98, false)), .mv (.t 11)⟩,
     ⟨(some 100), (some (98, false)), .mv (.t 16)⟩,
     ⟨(some 101), (some (98, false)), .callV true (.c (.fn n_ratchetbase_SameNodes [])) [(.t 99), (.t 100)]⟩,
     ⟨(some 102), (some (98, false)), .un .not (.t 101)⟩,
     ⟨(some 103), none, .pick (.t 98) (.c (.bool true)) (.t 102)⟩,
     ⟨(some 104), none, .mv (.t 103)⟩,
     ⟨(some 105), (some (104, false)), .mv (.t 12)⟩,
     ⟨(some 106), (some (104, false)), .mv (.t 17)⟩,
     ⟨(some 107), (some (104, false)), .callV true (.c (.fn n_ratchetbase_Ints [])) [(.t 105), (.t 106)]⟩,
     ⟨(some 108), (some (104, false)), .un .not (.t 107)⟩,
     ⟨(some 109), none, .pick (.t 104) (.c (.bool true)) (.t 108)⟩] (some [0, 5, 7, 9, 10, 14, 109]))
   (.cd (.t 109)
    (.sq (.op 0 [⟨(some 6), none, .mv (.c (.bool false))⟩] none)
    .rt)
    .sk)))))
  (.sq (.sq (.op 0 [⟨(some 110), none, .mv (.t 14)⟩,
    ⟨(some 111), none, .bin .eql (.t 110) (.c (.int .i64 0))⟩,
    ⟨(some 112), none, .mv (.t 111)⟩,
    ⟨(some 113), (some (112, true)), .iaa (.t 5) (.c (.int .i64 0)) 2 1⟩,
    ⟨(some 114), (some (112, true)), .ld (.t 113) 1 false⟩,
    ⟨(some 115), (some (112, true)), .mv (.t 0)⟩,
    ⟨(some 116), (some (112, true)), .len false (.t 115)⟩,
    ⟨(some 117), (some (112, true)), .bin .sub (.t 116) (.c (.int .i64 1))⟩,
    ⟨(some 118), (some (112, true)), .callV true (.c (.fn n_ratchetbase_Within [])) [(.t 114), (.c (.int .i64 0)), (.t 117)]⟩,
    ⟨(some 119), (some (112, true)), .un .not (.t 118)⟩,
    ⟨(some 120), none, .pick (.t 112) (.t 119) (.c (.bool false))⟩] (some [0, 5, 7, 9, 10, 14, 120]))
  (.cd (.t 120)
   (.op 0 [⟨(some 14), none, .mv (.c (.int .i64 6))⟩] none)
   .sk))
  (.sq (.sq (.op 10 [⟨(some 121), none, .mv (.t 14)⟩,
    ⟨(some 122), none, .bin .eql (.t 121) (.c (.int .i64 0))⟩,
    ⟨(some 123), none, .mv (.t 122)⟩,
    ⟨(some 124), (some (123, true)), .iaa (.t 5) (.c (.int .i64 1)) 2 1⟩,
    ⟨(some 125), (some (123, true)), .ld (.t 124) 1 false⟩,
    ⟨(some 126), (some (123, true)), .mv (.t 0)⟩,
    ⟨(some 127), (some (123, true)), .iaa (.t 5) (.c (.int .i64 0)) 2 1⟩,
    ⟨(some 128), (some (123, true)), .ld (.t 127) 1 false⟩,
    ⟨(some 129), (some (123, true)), .ia (.t 126) (.t 128) 1⟩,
    ⟨(some 130), (some (123, true)), .ld (.t 129) 1 false⟩,
    ⟨(some 131), (some (123, true)), .callV true (.c (.fn n_ratchetbase_Fits [])) [(.t 125), (.t 130)]⟩,
    ⟨(some 132), (some (123, true)), .un .not (.t 131)⟩,
    ⟨(some 133), none, .pick (.t 123) (.t 132) (.c (.bool false))⟩] (some [5, 7, 9, 10, 14, 133]))
  (.cd (.t 133)
   (.op 0 [⟨(some 14), none, .mv (.c (.int .i64 2))⟩] none)
   .sk))
  (.sq (.sq (.op 0 [⟨(some 134), none, .mv (.t 14)⟩,
    ⟨(some 135), none, .bin .neq (.t 134) (.c (.int .i64 0))⟩] none)
  (.cd (.t 135)
   (.sq (.op 0 [⟨(some 136), none, .mv (.t 10)⟩,
     ⟨(some 137), none, .mv (.t 14)⟩,
     ⟨(some 138), none, .bin .eql (.t 136) (.t 137)⟩,
     ⟨(some 139), none, .mv (.t 138)⟩,
     ⟨(some 140), (some (139, true)), .mv (.t 9)⟩,
     ⟨(some 141), (some (139, true)), .len false (.t 140)⟩,
     ⟨(some 142), (some (139, true)), .bin .eql (.t 141) (.c (.int .i64 0))⟩,
     ⟨(some 143), none, .pick (.t 139) (.t 142) (.c (.bool false))⟩,
     ⟨(some 6), none, .mv (.t 143)⟩] (some [6]))
   .rt)
   .sk))
  (.sq (.op 0 [⟨(some 144), none, .mv (.t 10)⟩,
    ⟨(some 145), none, .bin .eql (.t 144) (.c (.int .i64 0))⟩,
    ⟨(some 146), none, .mv (.t 145)⟩,
    ⟨(some 147), (some (146, true)), .mv (.t 9)⟩,
    ⟨(some 148), (some (146, true)), .mv (.t 7)⟩,
    ⟨(some 149), (some (146, true)), .iaa (.t 5) (.c (.int .i64 0)) 2 1⟩,
    ⟨(some 150), (some (146, true)), .ld (.t 149) 1 false⟩,
    ⟨(some 151), (some (146, true)), .iaa (.t 5) (.c (.int .i64 1)) 2 1⟩,
    ⟨(some 152), (some (146, true)), .ld (.t 151) 1 false⟩,
    ⟨(some 153), (some (146, true)), .callV false (.c (.fn n_ratchetref02_Substituted [])) [(.t 148), (.t 150), (.t 152)]⟩,
    ⟨(some 154), (some (146, true)), .callV true (.c (.fn n_ratchetbase_SameNodes [])) [(.t 147), (.t 153)]⟩,
    ⟨(some 155), none, .pick (.t 146) (.t 154) (.c (.bool false))⟩,
    ⟨(some 6), none, .mv (.t 155)⟩] (some [6]))
  .rt)))))))))))))),
  [.t 6]⟩
def c_ratchetlaw02_GraphSmaller : FnIR := ⟨166,
  (.sq (.op 0 [⟨(some 6), none, .mv (.c (.bool false))⟩] none)
  (.sq (.sq (.op 0 [⟨(some 18), none, .callV true (.c (.fn n_ratchetlaw02_awake [])) []⟩,
    ⟨(some 19), none, .un .not (.t 18)⟩] none)
  (.cd (.t 19)
   (.sq (.op 0 [⟨(some 6), none, .mv (.c (.bool false))⟩] none)
   .rt)
   .sk))
  (.sq (.sq (.op 0 [⟨(some 20), none, .mv (.t 0)⟩,
    ⟨(some 21), none, .mv (.t 1)⟩,
    ⟨(some 22), none, .callV true (.c (.fn n_ratchetlaw02_few [])) [(.t 20), (.t 21)]⟩,
    ⟨(some 23), none, .un .not (.t 22)⟩,
    ⟨(some 24), none, .mv (.t 23)⟩,
    ⟨(some 25), (some (24, false)), .mv (.t 2)⟩,
    ⟨(some 26), (some (24, false)), .len false (.t 25)⟩,
    ⟨(some 27), (some (24, false)), .bin .gtr (.t 26) (.c (.int .i64 60))⟩,
    ⟨(some 28), none, .pick (.t 24) (.c (.bool true)) (.t 27)⟩] (some [0, 1, 2, 28]))
  (.cd (.t 28)
   (.sq (.op 0 [⟨(some 6), none, .mv (.c (.bool true))⟩] none)
   .rt)
   .sk))
  (.sq (.op 0 [⟨(some 30), none, .mv (.t 0)⟩,
    ⟨(some 31), none, .callV false (.c (.fn n_ratchetbase_CopyInts [])) [(.t 30)]⟩,
    ⟨(some 32), none, .mv (.t 1)⟩,
    ⟨(some 33), none, .callV false (.c (.fn n_ratchetbase_CopyNodes [])) [(.t 32)]⟩,
    ⟨(some 34), none, .callV false (.c (.fn n_graph_SharedOf [])) [(.t 31), (.t 33)]⟩,
    ⟨(some 29), none, .mv (.t 34)⟩,
    ⟨(some 35), none, .ext (.t 29) 0⟩,
    ⟨(some 36), none, .ext (.t 29) 1⟩,
    ⟨(some 37), none, .ext (.t 29) 2⟩,
    ⟨(some 7), none, .mv (.t 35)⟩,
    ⟨(some 8), none, .mv (.t 36)⟩,
    ⟨(some 9), none, .mv (.t 37)⟩] (some [0, 1, 2, 7, 8, 9]))
  (.sq (.op 0 [⟨(some 39), none, .mv (.t 0)⟩,
    ⟨(some 40), none, .callV false (.c (.fn n_ratchetbase_CopyInts [])) [(.t 39)]⟩,
    ⟨(some 41), none, .mv (.t 1)⟩,
    ⟨(some 42), none, .callV false (.c (.fn n_ratchetbase_CopyNodes [])) [(.t 41)]⟩,
    ⟨(some 43), none, .callV false (.c (.fn n_graph_FoldedOf [])) [(.t 40), (.t 42)]⟩,
    ⟨(some 38), none, .mv (.t 43)⟩,
    ⟨(some 44), none, .ext (.t 38) 0⟩,
    ⟨(some 45), none, .ext (.t 38) 1⟩,
    ⟨(some 10), none, .mv (.t 44)⟩,
    ⟨(some 11), none, .mv (.t 45)⟩] (some [0, 1, 2, 7, 8, 9, 10, 11]))
  (.sq (.op 0 [⟨(some 47), none, .mv (.t 0)⟩,
    ⟨(some 48), none, .callV false (.c (.fn n_ratchetbase_CopyInts [])) [(.t 47)]⟩,
    ⟨(some 49), none, .mv (.t 1)⟩,
    ⟨(some 50), none, .callV false (.c (.fn n_ratchetbase_CopyNodes [])) [(.t 49)]⟩,
    ⟨(some 51), none, .mv (.t 2)⟩,
    ⟨(some 52), none, .callV false (.c (.fn n_ratchetbase_CopyInts [])) [(.t 51)]⟩,
    ⟨(some 53), none, .callV false (.c (.fn n_graph_ConeOf [])) [(.t 48), (.t 50), (.t 52)]⟩,
    ⟨(some 46), none, .mv (.t 53)⟩,
    ⟨(some 54), none, .ext (.t 46) 0⟩,
    ⟨(some 55), none, .ext (.t 46) 1⟩,
    ⟨(some 56), none, .ext (.t 46) 2⟩,
    ⟨(some 12), none, .mv (.t 54)⟩,
    ⟨(some 13), none, .mv (.t 55)⟩,
    ⟨(some 14), none, .mv (.t 56)⟩] (some [0, 1, 2, 7, 8, 9, 10, 11, 12, 13, 14]))
  (.sq (.op 0 [⟨(some 57), none, .mv (.t 0)⟩,
    ⟨(some 58), none, .mv (.t 1)⟩,
    ⟨(some 59), none, .callV true (.c (.fn n_ratchetref02_NodesErr [])) [(.t 57), (.t 58)]⟩,
    ⟨(some 15), none, .mv (.t 59)⟩] (some [1, 2, 7, 8, 9, 10, 11, 12, 13, 14, 15]))
  (.sq (.sq (.op 0 [⟨(some 60), none, .mv (.t 15)⟩,
    ⟨(some 61), none, .bin .neq (.t 60) (.c (.int .i64 0))⟩] none)
  (.cd (.t 61)
   (.sq (.op 0 [⟨(some 62), none, .mv (.t 9)⟩,
     ⟨(some 63), none, .mv (.t 15)⟩,
     ⟨(some 64), none, .bin .eql (.t 62) (.t 63)⟩,
     ⟨(some 65), none, .mv (.t 64)⟩,
     ⟨(some 66), (some (65, true)), .mv (.t 7)⟩,
     ⟨(some 67), (some (65, true)), .len false (.t 66)⟩,
     ⟨(some 68), (some (65, true)), .bin .eql (.t 67) (.c (.int .i64 0))⟩,
     ⟨(some 69), none, .pick (.t 65) (.t 68) (.c (.bool false))⟩,
     ⟨(some 70), none, .mv (.t 69)⟩,
     ⟨(some 71), (some (70, true)), .mv (.t 8)⟩,
     ⟨(some 72), (some (70, true)), .len false (.t 71)⟩,
     ⟨(some 73), (some (70, true)), .bin .eql (.t 72) (.c (.int .i64 0))⟩,
     ⟨(some 74), none, .pick (.t 70) (.t 73) (.c (.bool false))⟩,
     ⟨(some 75), none, .mv (.t 74)⟩,
     ⟨(some 76), (some (75, true)), .mv (.t 11)⟩,
     ⟨(some 77), (some (75, true)), .mv (.t 15)⟩,
     ⟨(some 78), (some (75, true)), .bin .eql (.t 76) (.t 77)⟩,
     ⟨(some 79), none, .pick (.t 75) (.t 78) (.c (.bool false))⟩,
     ⟨(some 80), none, .mv (.t 79)⟩,
     ⟨(some 81), (some (80, true)), .mv (.t 10)⟩,
     ⟨(some 82), (some (80, true)), .len false (.t 81)⟩,
     ⟨(some 83), (some (80, true)), .bin .eql (.t 82) (.c (.int .i64 0))⟩,
     ⟨(some 84), none, .pick (.t 80) (.t 83) (.c (.bool false))⟩,
     ⟨(some 85), none, .mv (.t 84)⟩,
     ⟨(some 86), (some (85, true)), .mv (.t 14)⟩,
     ⟨(some 87), (some (85, true)), .mv (.t 15)⟩,
     ⟨(some 88), (some (85, true)), .bin .eql (.t 86) (.t 87)⟩,
     ⟨(some 89), none, .pick (.t 85) (.t 88) (.c (.bool false))⟩,
     ⟨(some 90), none, .mv (.t 89)⟩,
     ⟨(some 91), (some (90, true)), .mv (.t 12)⟩,
     ⟨(some 92), (some (90, true)), .len false (.t 91)⟩,
     ⟨(some 93), (some (90, true)), .bin .eql (.t 92) (.c (.int .i64 0))⟩,
     ⟨(some 94), none, .pick (.t 90) (.t 93) (.c (.bool false))⟩,
     ⟨(some 95), none, .mv (.t 94)⟩,
     ⟨(some 96), (some (95, true)), .mv (.t 13)⟩,
     ⟨(some 97), (some (95, true)), .len false (.t 96)⟩,
     ⟨(some 98), (some (95, true)), .bin .eql (.t 97) (.c (.int .i64 0))⟩,
     ⟨(some 99), none, .pick (.t 95) (.t 98) (.c (.bool false))⟩,
     ⟨(some 6), none, .mv (.t 99)⟩] (some [6]))
   .rt)
   .sk))
  (.sq (.op 0 [⟨(some 101), none, .mv (.t 1)⟩,
    ⟨(some 102), none, .callV false (.c (.fn n_ratchetref02_Shared [])) [(.t 101)]⟩,
    ⟨(some 100), none, .mv (.t 102)⟩,
    ⟨(some 103), none, .ext (.t 100) 0⟩,
    ⟨(some 104), none, .ext (.t 100) 1⟩,
    ⟨(some 16), none, .mv (.t 103)⟩,
    ⟨(some 17), none, .mv (.t 104)⟩] (some [1, 2, 7, 8, 9, 10, 11, 12, 13, 14, 16, 17]))
  (.sq (.sq (.op 0 [⟨(some 105), none, .mv (.t 9)⟩,
    ⟨(some 106), none, .bin .neq (.t 105) (.c (.int .i64 0))⟩,
    ⟨(some 107), none, .mv (.t 106)⟩,
    ⟨(some 108), (some (107, false)), .mv (.t 7)⟩,
    ⟨(some 109), (some (107, false)), .mv (.t 16)⟩,
    ⟨(some 110), (some (107, false)), .callV true (.c (.fn n_ratchetbase_SameNodes [])) [(.t 108), (.t 109)]⟩,
    ⟨(some 111), (some (107, false)), .un .not (.t 110)⟩,
    ⟨(some 112), none, .pick (.t 107) (.c (.bool true)) (.t 111)⟩,
    ⟨(some 113), none, .mv (.t 112)⟩,
    ⟨(some 114), (some (113, false)), .mv (.t 8)⟩,
    ⟨(some 115), (some (113, false)), .mv (.t 17)⟩,
    ⟨(some 116), (some (113, false)), .callV true (.c (.fn n_ratchetbase_Ints [])) [(.t 114), (.t 115)]⟩,
    ⟨(some 117), (some (113, false)), .un .not (.t 116)⟩,
    ⟨(some 118), none, .pick (.t 113) (.c (.bool true)) (.t 117)⟩,
    ⟨(some 119), none, .mv (.t 118)⟩,
    ⟨(some 120), (some (119, false)), .mv (.t 11)⟩,
    ⟨(some 121), (some (119, false)), .bin .neq (.t 120) (.c (.int .i64 0))⟩,
    ⟨(some 122), none, .pick (.t 119) (.c (.bool true)) (.t 121)⟩,
    ⟨(some 123), none, .mv (.t 122)⟩,
    ⟨(some 124), (some (123, false)), .mv (.t 10)⟩,
    ⟨(some 125), (some (123, false)), .mv (.t 1)⟩,
    ⟨(some 126), (some (123, false)), .callV false (.c (.fn n_ratchetref02_Folded [])) [(.t 125)]⟩,
    ⟨(some 127), (some (123, false)), .callV true (.c (.fn n_ratchetbase_SameNodes [])) [(.t 124), (.t 126)]⟩,
    ⟨(some 128), (some (123, false)), .un .not (.t 127)⟩,
    ⟨(some 129), none, .pick (.t 123) (.c (.bool true)) (.t 128)⟩] (some [1, 2, 12, 13, 14, 129]))
  (.cd (.t 129)
   (.sq (.op 0 [⟨(some 6), none, .mv (.c (.bool false))⟩] none)
   .rt)
   .sk))
  (.sq (.sq (.op 0 [⟨(some 130), none, .mv (.t 1)⟩,
    ⟨(some 131), none, .mv (.t 2)⟩,
    ⟨(some 132), none, .callV true (.c (.fn n_ratchetref02_FromErr [])) [(.t 130), (.t 131)]⟩,
    ⟨(some 15), none, .mv (.t 132)⟩] (some [1, 2, 12, 13, 14, 15]))
  (.sq (.op 0 [⟨(some 133), none, .mv (.t 15)⟩,
    ⟨(some 134), none, .bin .neq (.t 133) (.c (.int .i64 0))⟩] none)
  (.cd (.t 134)
   (.sq (.op 0 [⟨(some 135), none, .mv (.t 14)⟩,
     ⟨(some 136), none, .mv (.t 15)⟩,
     ⟨(some 137), none, .bin .eql (.t 135) (.t 136)⟩,
     ⟨(some 138), none, .mv (.t 137)⟩,
     ⟨(some 139), (some (138, true)), .mv (.t 12)⟩,
     ⟨(some 140), (some (138, true)), .len false (.t 139)⟩,
     ⟨(some 141), (some (138, true)), .bin .eql (.t 140) (.c (.int .i64 0))⟩,
     ⟨(some 142), none, .pick (.t 138) (.t 141) (.c (.bool false))⟩,
     ⟨(some 143), none, .mv (.t 142)⟩,
     ⟨(some 144), (some (143, true)), .mv (.t 13)⟩,
     ⟨(some 145), (some (143, true)), .len false (.t 144)⟩,
     ⟨(some 146), (some (143, true)), .bin .eql (.t 145) (.c (.int .i64 0))⟩,
     ⟨(some 147), none, .pick (.t 143) (.t 146) (.c (.bool false))⟩,
     ⟨(some 6), none, .mv (.t 147)⟩] (some [6]))
   .rt)
   .sk)))
  (.sq (.op 0 [⟨(some 149), none, .mv (.t 1)⟩,
    ⟨(some 150), none, .mv (.t 2)⟩,
    ⟨(some 151), none, .callV false (.c (.fn n_ratchetref02_Cone [])) [(.t 149), (.t 150)]⟩,
    ⟨(some 148), none, .mv (.t 151)⟩,
    ⟨(some 152), none, .ext (.t 148) 0⟩,
    ⟨(some 153), none, .ext (.t 148) 1⟩,
    ⟨(some 16), none, .mv (.t 152)⟩,
    ⟨(some 17), none, .mv (.t 153)⟩] (some [12, 13, 14, 16, 17]))
  (.sq (.op 0 [⟨(some 154), none, .mv (.t 14)⟩,
    ⟨(some 155), none, .bin .eql (.t 154) (.c (.int .i64 0))⟩,
    ⟨(some 156), none, .mv (.t 155)⟩,
    ⟨(some 157), (some (156, true)), .mv (.t 12)⟩,
    ⟨(some 158), (some (156, true)), .mv (.t 16)⟩,
    ⟨(some 159), (some (156, true)), .callV true (.c (.fn n_ratchetbase_SameNodes [])) [(.t 157), (.t 158)]⟩,
    ⟨(some 160), none, .pick (.t 156) (.t 159) (.c (.bool false))⟩,
    ⟨(some 161), none, .mv (.t 160)⟩,
    ⟨(some 162), (some (161, true)), .mv (.t 13)⟩,
    ⟨(some 163), (some (161, true)), .mv (.t 17)⟩,
    ⟨(some 164), (some (161, true)), .callV true (.c (.fn n_ratchetbase_Ints [])) [(.t 162), (.t 163)]⟩,
    ⟨(some 165), none, .pick (.t 161) (.t 164) (.c (.bool false))⟩,
    ⟨(some 6), none, .mv (.t 165)⟩] (some [6]))
  .rt))))))))))))),
  [.t 6]⟩
def c_ratchetlaw02_awake : FnIR := ⟨58,
  (.sq (.op 0 [⟨(some 0), none, .mv (.c (.bool false))⟩] none)
  (.sq (.op 0 [⟨(some 9), none, .callV false (.c (.fn n_ratchetlaw02_Leaves [])) []⟩,
    ⟨(some 10), none, .callV false (.c (.fn n_ratchetlaw02_Nodes [])) []⟩,
    ⟨(some 11), none, .bsl t_int 1 false [.int .i64 0] 2 [(0, (.c (.int .i64 14))), (1, (.c (.int .i64 1)))]⟩,
    ⟨(some 12), none, .callV false (.c (.fn n_graph_ValuesOf [])) [(.t 9), (.t 10), (.t 11)]⟩,
    ⟨(some 8), none, .mv (.t 12)⟩,
    ⟨(some 13), none, .ext (.t 8) 0⟩,
    ⟨(some 14), none, .ext (.t 8) 1⟩,
    ⟨(some 1), none, .mv (.t 13)⟩,
    ⟨(some 2), none, .mv (.t 14)⟩] (some [1, 2]))
  (.sq (.op 0 [⟨(some 16), none, .callV false (.c (.fn n_ratchetlaw02_Leaves [])) []⟩,
    ⟨(some 17), none, .callV false (.c (.fn n_ratchetlaw02_Nodes [])) []⟩,
    ⟨(some 18), none, .callV false (.c (.fn n_graph_DepthsOf [])) [(.t 16), (.t 17)]⟩,
    ⟨(some 15), none, .mv (.t 18)⟩,
    ⟨(some 19), none, .ext (.t 15) 0⟩,
    ⟨(some 20), none, .ext (.t 15) 1⟩,
    ⟨(some 3), none, .mv (.t 19)⟩,
    ⟨(some 4), none, .mv (.t 20)⟩] (some [1, 2, 3, 4]))
  (.sq (.op 0 [⟨(some 22), none, .callV false (.c (.fn n_ratchetlaw02_Leaves [])) []⟩,
    ⟨(some 23), none, .callV false (.c (.fn n_ratchetlaw02_Nodes [])) []⟩,
    ⟨(some 24), none, .callV false (.c (.fn n_graph_DifferenceOf [])) [(.t 22), (.t 23), (.c (.int .i64 0)), (.c (.int .i64 2))]⟩,
    ⟨(some 21), none, .mv (.t 24)⟩,
    ⟨(some 25), none, .ext (.t 21) 0⟩,
    ⟨(some 26), none, .ext (.t 21) 1⟩,
    ⟨(some 5), none, .mv (.t 25)⟩,
    ⟨(some 6), none, .mv (.t 26)⟩] (some [1, 2, 3, 4, 5, 6]))
  (.sq (.op 0 [⟨(some 27), none, .callV false (.c (.fn n_ratchetlaw02_Nodes [])) []⟩,
    ⟨(some 28), none, .callV true (.c (.fn n_graph_FormatNodes [])) [(.t 27)]⟩,
    ⟨(some 7), none, .mv (.t 28)⟩] none)
  (.sq (.op 0 [⟨(some 29), none, .mv (.t 2)⟩,
    ⟨(some 30), none, .bin .eql (.t 29) (.c (.int .i64 0))⟩,
    ⟨(some 31), none, .mv (.t 30)⟩,
    ⟨(some 32), (some (31, true)), .mv (.t 1)⟩,
    ⟨(some 33), (some (31, true)), .bsl t_int 1 false [.int .i64 0] 6 [(0, (.c (.int .i64 14))), (1, (.c (.int .i64 3))), (2, (.c (.int .i64 1))), (3, (.c (.int .i64 1))), (4, (.c (.int .i64 1))), (5, (.c (.int .i64 1)))]⟩,
    ⟨(some 34), (some (31, true)), .callV true (.c (.fn n_ratchetbase_Ints [])) [(.t 32), (.t 33)]⟩,
    ⟨(some 35), none, .pick (.t 31) (.t 34) (.c (.bool false))⟩,
    ⟨(some 36), none, .mv (.t 35)⟩,
    ⟨(some 37), (some (36, true)), .mv (.t 4)⟩,
    ⟨(some 38), (some (36, true)), .bin .eql (.t 37) (.c (.int .i64 0))⟩,
    ⟨(some 39), none, .pick (.t 36) (.t 38) (.c (.bool false))⟩,
    ⟨(some 40), none, .mv (.t 39)⟩,
    ⟨(some 41), (some (40, true)), .mv (.t 3)⟩,
    ⟨(some 42), (some (40, true)), .bsl t_int 1 false [.int .i64 0] 6 [(0, (.c (.int .i64 0))), (1, (.c (.int .i64 0))), (2, (.c (.int .i64 1))), (3, (.c (.int .i64 0))), (4, (.c (.int .i64 2))), (5, (.c (.int .i64 3)))]⟩,
    ⟨(some 43), (some (40, true)), .callV true (.c (.fn n_ratchetbase_Ints [])) [(.t 41), (.t 42)]⟩,
    ⟨(some 44), none, .pick (.t 40) (.t 43) (.c (.bool false))⟩,
    ⟨(some 45), none, .mv (.t 44)⟩,
    ⟨(some 46), (some (45, true)), .mv (.t 6)⟩,
    ⟨(some 47), (some (45, true)), .bin .eql (.t 46) (.c (.int .i64 0))⟩,
    ⟨(some 48), none, .pick (.t 45) (.t 47) (.c (.bool false))⟩,
    ⟨(some 49), none, .mv (.t 48)⟩,
    ⟨(some 50), (some (49, true)), .mv (.t 5)⟩,
    ⟨(some 51), (some (49, true)), .bsl t_int 1 false [.int .i64 0] 2 [(0, (.c (.int .i64 0))), (1, (.c (.int .i64 0)))]⟩,
    ⟨(some 52), (some (49, true)), .callV true (.c (.fn n_ratchetbase_Ints [])) [(.t 50), (.t 51)]⟩,
    ⟨(some 53), none, .pick (.t 49) (.t 52) (.c (.bool false))⟩,
    ⟨(some 54), none, .mv (.t 53)⟩,
    ⟨(some 55), (some (54, true)), .mv (.t 7)⟩,
    ⟨(some 56), (some (54, true)), .bin .eql (.t 55) (.c (.str ⟨#[108, 101, 97, 102, 32, 52, 32, 48, 59, 99, 111, 110, 115, 116, 32, 52, 32, 51, 59, 97, 100, 100, 32, 52, 32, 48, 32, 49, 59, 108, 101, 97, 102, 32, 49, 32, 49, 59, 109, 117, 120, 32, 52, 32, 51, 32, 50, 32, 48, 59, 108, 116, 32, 49, 32, 52, 32, 49]⟩))⟩,
    ⟨(some 57), none, .pick (.t 54) (.t 56) (.c (.bool false))⟩,
    ⟨(some 0), none, .mv (.t 57)⟩] (some [0]))
  .rt)))))),
  [.t 0]⟩
def b_ratchetlaw02_few_L0 : IR :=
 (.sq (.sq (.op 0 [⟨(some 24), none, .mv (.t 5)⟩,
   ⟨(some 25), none, .mv (.t 1)⟩,
   ⟨(some 26), none, .len false (.t 25)⟩,
   ⟨(some 27), none, .bin .lss (.t 24) (.t 26)⟩] (some [1, 5, 27]))
 (.cd (.t 27)
  .sk
  (.ex 0)))
 (.sq (.bk 1 (.sq (.op 0 [⟨(some 30), none, .mv (.t 1)⟩,
    ⟨(some 31), none, .mv (.t 5)⟩,
    ⟨(some 32), none, .ia (.t 30) (.t 31) 4⟩,
    ⟨(some 33), none, .fa (.t 32) 2⟩,
    ⟨(some 34), none, .ld (.t 33) 1 false⟩,
    ⟨(some 35), none, .len false (.t 34)⟩,
    ⟨(some 36), none, .bin .gtr (.t 35) (.c (.int .i64 5))⟩] (some [1, 5, 36]))
  (.cd (.t 36)
   (.sq (.op 0 [⟨(some 4), none, .mv (.c (.bool false))⟩] none)
   .rt)
   .sk)))
 (.op 0 [⟨(some 28), none, .mv (.t 5)⟩,
   ⟨(some 29), none, .bin .add (.t 28) (.c (.int .i64 1))⟩,
   ⟨(some 5), none, .mv (.t 29)⟩] none)))
def c_ratchetlaw02_few_L0 : IR := b_ratchetlaw02_few_L0
theorem u_ratchetlaw02_few_L0 {C : Call} {L : Loop} {π : Id} {k0 : List Id} {e : Env} {s : Sto} : evC C L π k0 c_ratchetlaw02_few_L0 e s = evC C L π k0 b_ratchetlaw02_few_L0 e s := rfl
def c_ratchetlaw02_few : FnIR := ⟨37,
  (.sq (.op 0 [⟨(some 4), none, .mv (.c (.bool false))⟩] none)
  (.sq (.sq (.op 0 [⟨(some 6), none, .mv (.t 0)⟩,
    ⟨(some 7), none, .len false (.t 6)⟩,
    ⟨(some 8), none, .bin .gtr (.t 7) (.c (.int .i64 60))⟩,
    ⟨(some 9), none, .mv (.t 8)⟩,
    ⟨(some 10), (some (9, false)), .mv (.t 1)⟩,
    ⟨(some 11), (some (9, false)), .len false (.t 10)⟩,
    ⟨(some 12), (some (9, false)), .bin .gtr (.t 11) (.c (.int .i64 60))⟩,
    ⟨(some 13), (some (9, false)), .mv (.t 12)⟩,
    ⟨(some 14), (some (13, true)), .mv (.t 1)⟩,
    ⟨(some 15), (some (13, true)), .len false (.t 14)⟩,
    ⟨(some 16), (some (13, true)), .bin .leq (.t 15) (.c (.int .i64 400))⟩,
    ⟨(some 17), (some (9, false)), .pick (.t 13) (.t 16) (.c (.bool false))⟩,
    ⟨(some 18), none, .pick (.t 9) (.c (.bool true)) (.t 17)⟩,
    ⟨(some 19), none, .mv (.t 18)⟩,
    ⟨(some 20), (some (19, false)), .mv (.t 1)⟩,
    ⟨(some 21), (some (19, false)), .len false (.t 20)⟩,
    ⟨(some 22), (some (19, false)), .bin .gtr (.t 21) (.c (.int .i64 405))⟩,
    ⟨(some 23), none, .pick (.t 19) (.c (.bool true)) (.t 22)⟩] (some [1, 23]))
  (.cd (.t 23)
   (.sq (.op 0 [⟨(some 4), none, .mv (.c (.bool false))⟩] none)
   .rt)
   .sk))
  (.sq (.sq (.op 0 [⟨(some 5), none, .mv (.c (.int .i64 0))⟩] none)
  (.kp [] [4] (.bk 0 (.lp [] [1, 5] c_ratchetlaw02_few_L0))))
  (.sq (.op 0 [⟨(some 4), none, .mv (.c (.bool true))⟩] none)
  .rt)))),
  [.t 4]⟩
def c_graph_CheckNodes : FnIR := ⟨30,
  (.sq (.op 0 [⟨(some 2), none, .box (.t 0) 1⟩,
    ⟨(some 3), none, .box (.t 1) 1⟩,
    ⟨(some 4), none, .mv (.c (.int .i64 0))⟩,
    ⟨(some 5), none, .mv (.c (.int .i64 0))⟩] (some [2, 3]))
  (.sq (.sq (.op 0 [⟨(some 9), none, .ld (.t 2) 1 false⟩,
    ⟨(some 10), none, .len false (.t 9)⟩,
    ⟨(some 11), none, .bin .gtr (.t 10) (.c (.int .i64 40))⟩] none)
  (.cd (.t 11)
   (.sq (.op 0 [⟨(some 4), none, .mv (.c (.int .i64 0))⟩,
     ⟨(some 5), none, .mv (.c (.int .i64 8))⟩] none)
   .rt)
   .sk))
  (.sq (.sq (.op 0 [⟨(some 13), none, .ld (.t 2) 1 false⟩,
    ⟨(some 14), none, .callV true (.c (.fn n_graph_each_int [])) [(.t 13), (.c (.fn n_graph_CheckNodes_1 []))]⟩,
    ⟨(some 12), none, .mv (.t 14)⟩,
    ⟨(some 15), none, .ext (.t 12) 0⟩,
    ⟨(some 16), none, .ext (.t 12) 1⟩,
    ⟨(some 6), none, .mv (.t 15)⟩,
    ⟨(some 7), none, .mv (.t 16)⟩] (some [2, 3, 6, 7]))
  (.sq (.op 0 [⟨(some 17), none, .mv (.t 7)⟩,
    ⟨(some 18), none, .bin .neq (.t 17) (.c (.int .i64 0))⟩] none)
  (.cd (.t 18)
   (.sq (.op 0 [⟨(some 19), none, .mv (.t 6)⟩,
     ⟨(some 20), none, .mv (.t 7)⟩,
     ⟨(some 4), none, .mv (.t 19)⟩,
     ⟨(some 5), none, .mv (.t 20)⟩] (some [4, 5]))
   .rt)
   .sk)))
  (.sq (.sq (.op 0 [⟨(some 21), none, .ld (.t 3) 1 false⟩,
    ⟨(some 22), none, .len false (.t 21)⟩,
    ⟨(some 23), none, .bin .gtr (.t 22) (.c (.int .i64 400))⟩] none)
  (.cd (.t 23)
   (.sq (.op 0 [⟨(some 4), none, .mv (.c (.int .i64 0))⟩,
     ⟨(some 5), none, .mv (.c (.int .i64 8))⟩] none)
   .rt)
   .sk))
  (.sq (.op 0 [⟨(some 24), none, .callV true (.c (.fn n_graph_operations [])) []⟩,
    ⟨(some 8), none, .alloc [.str ⟨#[]⟩, .int .i64 0, .bool false, .nilf, .nilf, .str ⟨#[]⟩, .int .i64 0, .bool false, .nilf, .nilf, .str ⟨#[]⟩, .int .i64 0, .bool false, .nilf, .nilf, .str ⟨#[]⟩, .int .i64 0, .bool false, .nilf, .nilf, .str ⟨#[]⟩, .int .i64 0, .bool false, .nilf, .nilf, .str ⟨#[]⟩, .int .i64 0, .bool false, .nilf, .nilf, .str ⟨#[]⟩, .int .i64 0, .bool false, .nilf, .nilf, .str ⟨#[]⟩, .int .i64 0, .bool false, .nilf, .nilf, .str ⟨#[]⟩, .int .i64 0, .bool false, .nilf, .nilf, .str ⟨#[]⟩, .int .i64 0, .bool false, .nilf, .nilf, .str ⟨#[]⟩, .int .i64 0, .bool false, .nilf, .nilf, .str ⟨#[]⟩, .int .i64 0, .bool false, .nilf, .nilf, .str ⟨#[]⟩, .int .i64 0, .bool false, .nilf, .nilf, .str ⟨#[]⟩, .int .i64 0, .bool false, .nilf, .nilf, .str ⟨#[]⟩, .int .i64 0, .bool false, .nilf, .nilf, .str ⟨#[]⟩, .int .i64 0, .bool false, .nilf, .nilf, .str ⟨#[]⟩, .int .i64 0, .bool false, .nilf, .nilf, .str ⟨#[]⟩, .int .i64 0, .bool false, .nilf, .nilf, .str ⟨#[]⟩, .int .i64 0, .bool false, .nilf, .nilf]⟩,
    ⟨none, none, .st (.t 8) (.t 24) 95⟩] none)
  (.sq (.op 0 [⟨(some 25), none, .ld (.t 3) 1 false⟩,
    ⟨(some 26), none, .mkf n_graph_CheckNodes_2 [(.t 8), (.t 2), (.t 3)]⟩,
    ⟨(some 27), none, .callV true (.c (.fn n_graph_each_api_Node [])) [(.t 25), (.t 26)]⟩,
    ⟨(some 28), none, .ext (.t 27) 0⟩,
    ⟨(some 29), none, .ext (.t 27) 1⟩,
    ⟨(some 4), none, .mv (.t 28)⟩,
    ⟨(some 5), none, .mv (.t 29)⟩] (some [4, 5]))
  .rt)))))),
  [.t 4, .t 5]⟩
def c_ratchetbase_CopyInts : FnIR := ⟨6,
  (.sq (.op 0 [⟨(some 2), none, .mv (.c (.sl 1 (some true) []))⟩] none)
  (.sq (.op 0 [⟨(some 3), none, .bsl t_int 1 false [.int .i64 0] 0 []⟩,
    ⟨(some 4), none, .mv (.t 0)⟩,
    ⟨(some 5), none, .app (.t 3) (.t 4) t_int 1⟩,
    ⟨(some 2), none, .mv (.t 5)⟩] (some [2]))
  .rt)),
  [.t 2]⟩
def b_ratchetbase_CopyNodes_L0 : IR :=
 (.sq (.sq (.op 0 [⟨(some 8), none, .mv (.t 4)⟩,
   ⟨(some 9), none, .mv (.t 0)⟩,
   ⟨(some 10), none, .len false (.t 9)⟩,
   ⟨(some 11), none, .bin .lss (.t 8) (.t 10)⟩] (some [0, 3, 4, 11]))
 (.cd (.t 11)
  .sk
  (.ex 0)))
 (.sq (.bk 1 (.sq (.op 0 [⟨(some 14), none, .mv (.t 3)⟩,
    ⟨(some 15), none, .mv (.t 4)⟩,
    ⟨(some 16), none, .mv (.t 0)⟩,
    ⟨(some 17), none, .mv (.t 4)⟩,
    ⟨(some 18), none, .ia (.t 16) (.t 17) 4⟩,
    ⟨(some 19), none, .ld (.t 18) 4 true⟩,
    ⟨(some 20), none, .ia (.t 14) (.t 15) 4⟩,
    ⟨none, none, .st (.t 20) (.t 19) 4⟩] (some [0, 3, 4]))
  (.op 0 [⟨(some 21), none, .mv (.t 3)⟩,
    ⟨(some 22), none, .mv (.t 4)⟩,
    ⟨(some 23), none, .mv (.t 0)⟩,
    ⟨(some 24), none, .mv (.t 4)⟩,
    ⟨(some 25), none, .ia (.t 23) (.t 24) 4⟩,
    ⟨(some 26), none, .fa (.t 25) 2⟩,
    ⟨(some 27), none, .ld (.t 26) 1 false⟩,
    ⟨(some 28), none, .callV true (.c (.fn n_ratchetbase_CopyInts [])) [(.t 27)]⟩,
    ⟨(some 29), none, .ia (.t 21) (.t 22) 4⟩,
    ⟨(some 30), none, .fa (.t 29) 2⟩,
    ⟨none, none, .st (.t 30) (.t 28) 1⟩] (some [0, 3, 4]))))
 (.op 0 [⟨(some 12), none, .mv (.t 4)⟩,
   ⟨(some 13), none, .bin .add (.t 12) (.c (.int .i64 1))⟩,
   ⟨(some 4), none, .mv (.t 13)⟩] none)))
def c_ratchetbase_CopyNodes_L0 : IR := b_ratchetbase_CopyNodes_L0
theorem u_ratchetbase_CopyNodes_L0 {C : Call} {L : Loop} {π : Id} {k0 : List Id} {e : Env} {s : Sto} : evC C L π k0 c_ratchetbase_CopyNodes_L0 e s = evC C L π k0 b_ratchetbase_CopyNodes_L0 e s := rfl
def c_ratchetbase_CopyNodes : FnIR := ⟨32,
  (.sq (.op 0 [⟨(some 2), none, .mv (.c (.sl 4 (some true) []))⟩] none)
  (.sq (.op 0 [⟨(some 5), none, .mv (.t 0)⟩,
    ⟨(some 6), none, .len false (.t 5)⟩,
    ⟨(some 7), none, .mks t_api_Node 4 true [.int .i64 0, .int .i64 0, .sl 1 (some true) [], .int .i64 0] (.t 6) (.t 6)⟩,
    ⟨(some 3), none, .mv (.t 7)⟩] (some [0, 3]))
  (.sq (.sq (.op 0 [⟨(some 4), none, .mv (.c (.int .i64 0))⟩] none)
  (.kp [3] [2] (.bk 0 (.lp [] [0, 3, 4] c_ratchetbase_CopyNodes_L0))))
  (.sq (.op 0 [⟨(some 31), none, .mv (.t 3)⟩,
    ⟨(some 2), none, .mv (.t 31)⟩] none)
  .rt)))),
  [.t 2]⟩
def b_ratchetref02_CheckNodes_L0 : IR :=
 (.sq (.sq (.op 0 [⟨(some 10), none, .mv (.t 6)⟩,
   ⟨(some 11), none, .mv (.t 0)⟩,
   ⟨(some 12), none, .len false (.t 11)⟩,
   ⟨(some 13), none, .bin .lss (.t 10) (.t 12)⟩] (some [0, 1, 6, 13]))
 (.cd (.t 13)
  .sk
  (.ex 0)))
 (.sq (.bk 1 (.sq (.op 0 [⟨(some 16), none, .mv (.t 0)⟩,
    ⟨(some 17), none, .mv (.t 6)⟩,
    ⟨(some 18), none, .ia (.t 16) (.t 17) 1⟩,
    ⟨(some 19), none, .ld (.t 18) 1 false⟩,
    ⟨(some 20), none, .callV true (.c (.fn n_ratchetbase_IsWidth [])) [(.t 19)]⟩,
    ⟨(some 21), none, .un .not (.t 20)⟩] (some [0, 1, 6, 21]))
  (.cd (.t 21)
   (.sq (.op 0 [⟨(some 22), none, .mv (.t 6)⟩,
     ⟨(some 4), none, .mv (.t 22)⟩,
     ⟨(some 5), none, .mv (.c (.int .i64 2))⟩] none)
   .rt)
   .sk)))
 (.op 0 [⟨(some 14), none, .mv (.t 6)⟩,
   ⟨(some 15), none, .bin .add (.t 14) (.c (.int .i64 1))⟩,
   ⟨(some 6), none, .mv (.t 15)⟩] none)))
def c_ratchetref02_CheckNodes_L0 : IR := b_ratchetref02_CheckNodes_L0
theorem u_ratchetref02_CheckNodes_L0 {C : Call} {L : Loop} {π : Id} {k0 : List Id} {e : Env} {s : Sto} : evC C L π k0 c_ratchetref02_CheckNodes_L0 e s = evC C L π k0 b_ratchetref02_CheckNodes_L0 e s := rfl
def c_ratchetref02_CheckNodes : FnIR := ⟨28,
  (.sq (.op 0 [⟨(some 4), none, .mv (.c (.int .i64 0))⟩,
    ⟨(some 5), none, .mv (.c (.int .i64 0))⟩] none)
  (.sq (.sq (.op 0 [⟨(some 7), none, .mv (.t 0)⟩,
    ⟨(some 8), none, .len false (.t 7)⟩,
    ⟨(some 9), none, .bin .gtr (.t 8) (.c (.int .i64 40))⟩] none)
  (.cd (.t 9)
   (.sq (.op 0 [⟨(some 4), none, .mv (.c (.int .i64 0))⟩,
     ⟨(some 5), none, .mv (.c (.int .i64 8))⟩] none)
   .rt)
   .sk))
  (.sq (.sq (.op 0 [⟨(some 6), none, .mv (.c (.int .i64 0))⟩] none)
  (.kp [0, 1] [4, 5] (.bk 0 (.lp [] [0, 1, 6] c_ratchetref02_CheckNodes_L0))))
  (.sq (.op 0 [⟨(some 23), none, .mv (.t 0)⟩,
    ⟨(some 24), none, .mv (.t 1)⟩,
    ⟨(some 25), none, .callV true (.c (.fn n_ratchetbase_NodesErr [])) [(.t 23), (.t 24)]⟩,
    ⟨(some 26), none, .ext (.t 25) 0⟩,
    ⟨(some 27), none, .ext (.t 25) 1⟩,
    ⟨(some 4), none, .mv (.t 26)⟩,
    ⟨(some 5), none, .mv (.t 27)⟩] (some [4, 5]))
  .rt)))),
  [.t 4, .t 5]⟩
def c_ratchetref02_NodesErr : FnIR := ⟨14,
  (.sq (.op 0 [⟨(some 4), none, .mv (.c (.int .i64 0))⟩] none)
  (.sq (.op 0 [⟨(some 8), none, .mv (.t 0)⟩,
    ⟨(some 9), none, .mv (.t 1)⟩,
    ⟨(some 10), none, .callV true (.c (.fn n_ratchetref02_CheckNodes [])) [(.t 8), (.t 9)]⟩,
    ⟨(some 7), none, .mv (.t 10)⟩,
    ⟨(some 11), none, .ext (.t 7) 0⟩,
    ⟨(some 12), none, .ext (.t 7) 1⟩,
    ⟨(some 5), none, .mv (.t 11)⟩,
    ⟨(some 6), none, .mv (.t 12)⟩] (some [6]))
  (.sq (.op 0 [⟨(some 13), none, .mv (.t 6)⟩,
    ⟨(some 4), none, .mv (.t 13)⟩] none)
  .rt))),
  [.t 4]⟩
def c_ratchetref02_ValuesErr : FnIR := ⟨14,
  (.sq (.op 0 [⟨(some 4), none, .mv (.c (.int .i64 0))⟩] none)
  (.sq (.sq (.op 0 [⟨(some 5), none, .mv (.t 0)⟩,
    ⟨(some 6), none, .len false (.t 5)⟩,
    ⟨(some 7), none, .mv (.t 1)⟩,
    ⟨(some 8), none, .len false (.t 7)⟩,
    ⟨(some 9), none, .bin .neq (.t 6) (.t 8)⟩] (some [0, 1, 9]))
  (.cd (.t 9)
   (.sq (.op 0 [⟨(some 4), none, .mv (.c (.int .i64 10))⟩] none)
   .rt)
   .sk))
  (.sq (.sq (.op 0 [⟨(some 10), none, .mv (.t 0)⟩,
    ⟨(some 11), none, .mv (.t 1)⟩,
    ⟨(some 12), none, .callV true (.c (.fn n_ratchetbase_IsValues [])) [(.t 10), (.t 11)]⟩,
    ⟨(some 13), none, .un .not (.t 12)⟩] (some [13]))
  (.cd (.t 13)
   (.sq (.op 0 [⟨(some 4), none, .mv (.c (.int .i64 2))⟩] none)
   .rt)
   .sk))
  (.sq (.op 0 [⟨(some 4), none, .mv (.c (.int .i64 0))⟩] none)
  .rt)))),
  [.t 4]⟩
def b_ratchetref02_FromErr_L0 : IR :=
 (.sq (.sq (.op 0 [⟨(some 6), none, .mv (.t 5)⟩,
   ⟨(some 7), none, .mv (.t 1)⟩,
   ⟨(some 8), none, .len false (.t 7)⟩,
   ⟨(some 9), none, .bin .lss (.t 6) (.t 8)⟩] (some [0, 1, 5, 9]))
 (.cd (.t 9)
  .sk
  (.ex 0)))
 (.sq (.bk 1 (.sq (.op 0 [⟨(some 12), none, .mv (.t 0)⟩,
    ⟨(some 13), none, .mv (.t 1)⟩,
    ⟨(some 14), none, .mv (.t 5)⟩,
    ⟨(some 15), none, .ia (.t 13) (.t 14) 1⟩,
    ⟨(some 16), none, .ld (.t 15) 1 false⟩,
    ⟨(some 17), none, .callV true (.c (.fn n_ratchetbase_IsNode [])) [(.t 12), (.t 16)]⟩,
    ⟨(some 18), none, .un .not (.t 17)⟩] (some [0, 1, 5, 18]))
  (.cd (.t 18)
   (.sq (.op 0 [⟨(some 4), none, .mv (.c (.int .i64 6))⟩] none)
   .rt)
   .sk)))
 (.op 0 [⟨(some 10), none, .mv (.t 5)⟩,
   ⟨(some 11), none, .bin .add (.t 10) (.c (.int .i64 1))⟩,
   ⟨(some 5), none, .mv (.t 11)⟩] none)))
def c_ratchetref02_FromErr_L0 : IR := b_ratchetref02_FromErr_L0
theorem u_ratchetref02_FromErr_L0 {C : Call} {L : Loop} {π : Id} {k0 : List Id} {e : Env} {s : Sto} : evC C L π k0 c_ratchetref02_FromErr_L0 e s = evC C L π k0 b_ratchetref02_FromErr_L0 e s := rfl
def c_ratchetref02_FromErr : FnIR := ⟨19,
  (.sq (.op 0 [⟨(some 4), none, .mv (.c (.int .i64 0))⟩] none)
  (.sq (.sq (.op 0 [⟨(some 5), none, .mv (.c (.int .i64 0))⟩] none)
  (.kp [] [4] (.bk 0 (.lp [] [0, 1, 5] c_ratchetref02_FromErr_L0))))
  (.sq (.op 0 [⟨(some 4), none, .mv (.c (.int .i64 0))⟩] none)
  .rt))),
  [.t 4]⟩
def c_ratchetlaw02_light : FnIR := ⟨19,
  (.sq (.op 0 [⟨(some 6), none, .mv (.c (.bool false))⟩] none)
  (.sq (.op 0 [⟨(some 7), none, .mv (.t 0)⟩,
    ⟨(some 8), none, .mv (.t 1)⟩,
    ⟨(some 9), none, .mv (.t 2)⟩,
    ⟨(some 10), none, .callV true (.c (.fn n_ratchetref02_Bits [])) [(.t 7), (.t 8), (.t 9)]⟩,
    ⟨(some 11), none, .bin .leq (.t 10) (.c (.int .i64 9))⟩,
    ⟨(some 12), none, .mv (.t 11)⟩,
    ⟨(some 13), (some (12, false)), .mv (.t 0)⟩,
    ⟨(some 14), (some (12, false)), .mv (.t 1)⟩,
    ⟨(some 15), (some (12, false)), .mv (.t 2)⟩,
    ⟨(some 16), (some (12, false)), .callV true (.c (.fn n_ratchetref02_Bits [])) [(.t 13), (.t 14), (.t 15)]⟩,
    ⟨(some 17), (some (12, false)), .bin .gtr (.t 16) (.c (.int .i64 12))⟩,
    ⟨(some 18), none, .pick (.t 12) (.c (.bool true)) (.t 17)⟩,
    ⟨(some 6), none, .mv (.t 18)⟩] (some [6]))
  .rt)),
  [.t 6]⟩
def c_graph_LeavesOf : FnIR := ⟨19,
  (.sq (.op 0 [⟨(some 6), none, .mv (.c (.sl 1 (some true) []))⟩,
    ⟨(some 7), none, .mv (.c (.int .i64 0))⟩] none)
  (.sq (.sq (.op 0 [⟨(some 9), none, .mv (.t 0)⟩,
    ⟨(some 10), none, .mv (.t 1)⟩,
    ⟨(some 11), none, .mv (.t 2)⟩,
    ⟨(some 12), none, .callV true (.c (.fn n_graph_namedErr [])) [(.t 9), (.t 10), (.t 11)]⟩,
    ⟨(some 8), none, .mv (.t 12)⟩] (some [1, 2, 8]))
  (.sq (.op 0 [⟨(some 13), none, .mv (.t 8)⟩,
    ⟨(some 14), none, .bin .neq (.t 13) (.c (.int .i64 0))⟩] none)
  (.cd (.t 14)
   (.sq (.op 0 [⟨(some 15), none, .mv (.t 8)⟩,
     ⟨(some 6), none, .mv (.c (.sl 1 (some true) []))⟩,
     ⟨(some 7), none, .mv (.t 15)⟩] none)
   .rt)
   .sk)))
  (.sq (.op 0 [⟨(some 16), none, .mv (.t 1)⟩,
    ⟨(some 17), none, .mv (.t 2)⟩,
    ⟨(some 18), none, .callV false (.c (.fn n_graph_leavesBelow [])) [(.t 16), (.t 17)]⟩,
    ⟨(some 6), none, .mv (.t 18)⟩,
    ⟨(some 7), none, .mv (.c (.int .i64 0))⟩] (some [6, 7]))
  .rt))),
  [.t 6, .t 7]⟩
def c_graph_ValuesOf : FnIR := ⟨37,
  (.sq (.op 0 [⟨(some 3), none, .box (.t 0) 1⟩,
    ⟨(some 6), none, .mv (.c (.sl 1 (some true) []))⟩,
    ⟨(some 7), none, .mv (.c (.int .i64 0))⟩] none)
  (.sq (.sq (.fz [1] (.op 8 [⟨(some 11), none, .ld (.t 3) 1 false⟩,
    ⟨(some 12), none, .mv (.t 1)⟩,
    ⟨(some 13), none, .callV true (.c (.fn n_graph_graphErr [])) [(.t 11), (.t 12)]⟩,
    ⟨(some 14), none, .mv (.t 2)⟩,
    ⟨(some 15), none, .len false (.t 14)⟩,
    ⟨(some 16), none, .ld (.t 3) 1 false⟩,
    ⟨(some 17), none, .len false (.t 16)⟩,
    ⟨(some 18), none, .bin .eql (.t 15) (.t 17)⟩,
    ⟨(some 19), none, .callV true (.c (.fn n_graph_unless [])) [(.t 18), (.c (.int .i64 10))]⟩,
    ⟨(some 20), none, .bsl t_api_Errno 1 false [.int .i64 0] 2 [(0, (.t 13)), (1, (.t 19))]⟩,
    ⟨(some 21), none, .callV true (.c (.fn n_graph_first [])) [(.t 20)]⟩,
    ⟨(some 8), none, .mv (.t 21)⟩] (some [1, 2, 3, 8])))
  (.sq (.op 0 [⟨(some 22), none, .mv (.t 8)⟩,
    ⟨(some 23), none, .bin .neq (.t 22) (.c (.int .i64 0))⟩] none)
  (.cd (.t 23)
   (.sq (.op 0 [⟨(some 24), none, .mv (.t 8)⟩,
     ⟨(some 6), none, .mv (.c (.sl 1 (some true) []))⟩,
     ⟨(some 7), none, .mv (.t 24)⟩] none)
   .rt)
   .sk)))
  (.sq (.sq (.op 0 [⟨(some 26), none, .mv (.t 2)⟩,
    ⟨(some 27), none, .mkf n_graph_ValuesOf_1 [(.t 3)]⟩,
    ⟨(some 28), none, .callV true (.c (.fn n_graph_each_int [])) [(.t 26), (.t 27)]⟩,
    ⟨(some 25), none, .mv (.t 28)⟩,
    ⟨(some 29), none, .ext (.t 25) 0⟩,
    ⟨(some 30), none, .ext (.t 25) 1⟩,
    ⟨(some 9), none, .mv (.t 29)⟩,
    ⟨(some 10), none, .mv (.t 30)⟩] (some [1, 2, 10]))
  (.sq (.op 0 [⟨(some 31), none, .mv (.t 10)⟩,
    ⟨(some 32), none, .bin .neq (.t 31) (.c (.int .i64 0))⟩] none)
  (.cd (.t 32)
   (.sq (.op 0 [⟨(some 33), none, .mv (.t 10)⟩,
     ⟨(some 6), none, .mv (.c (.sl 1 (some true) []))⟩,
     ⟨(some 7), none, .mv (.t 33)⟩] none)
   .rt)
   .sk)))
  (.sq (.op 0 [⟨(some 34), none, .mv (.t 1)⟩,
    ⟨(some 35), none, .mv (.t 2)⟩,
    ⟨(some 36), none, .callV false (.c (.fn n_graph_valued [])) [(.t 34), (.t 35)]⟩,
    ⟨(some 6), none, .mv (.t 36)⟩,
    ⟨(some 7), none, .mv (.c (.int .i64 0))⟩] (some [6, 7]))
  .rt)))),
  [.t 6, .t 7]⟩
def b_ratchetbase_Has_L0 : IR :=
 (.sq (.sq (.op 0 [⟨(some 6), none, .mv (.t 5)⟩,
   ⟨(some 7), none, .mv (.t 0)⟩,
   ⟨(some 8), none, .len false (.t 7)⟩,
   ⟨(some 9), none, .bin .lss (.t 6) (.t 8)⟩] (some [0, 1, 5, 9]))
 (.cd (.t 9)
  .sk
  (.ex 0)))
 (.sq (.bk 1 (.sq (.op 0 [⟨(some 12), none, .mv (.t 0)⟩,
    ⟨(some 13), none, .mv (.t 5)⟩,
    ⟨(some 14), none, .ia (.t 12) (.t 13) 1⟩,
    ⟨(some 15), none, .ld (.t 14) 1 false⟩,
    ⟨(some 16), none, .mv (.t 1)⟩,
    ⟨(some 17), none, .bin .eql (.t 15) (.t 16)⟩] (some [0, 1, 5, 17]))
  (.cd (.t 17)
   (.sq (.op 0 [⟨(some 4), none, .mv (.c (.bool true))⟩] none)
   .rt)
   .sk)))
 (.op 0 [⟨(some 10), none, .mv (.t 5)⟩,
   ⟨(some 11), none, .bin .add (.t 10) (.c (.int .i64 1))⟩,
   ⟨(some 5), none, .mv (.t 11)⟩] none)))
def c_ratchetbase_Has_L0 : IR := b_ratchetbase_Has_L0
theorem u_ratchetbase_Has_L0 {C : Call} {L : Loop} {π : Id} {k0 : List Id} {e : Env} {s : Sto} : evC C L π k0 c_ratchetbase_Has_L0 e s = evC C L π k0 b_ratchetbase_Has_L0 e s := rfl
def c_ratchetbase_Has : FnIR := ⟨18,
  (.sq (.op 0 [⟨(some 4), none, .mv (.c (.bool false))⟩] none)
  (.sq (.sq (.op 0 [⟨(some 5), none, .mv (.c (.int .i64 0))⟩] none)
  (.kp [] [4] (.bk 0 (.lp [] [0, 1, 5] c_ratchetbase_Has_L0))))
  (.sq (.op 0 [⟨(some 4), none, .mv (.c (.bool false))⟩] none)
  .rt))),
  [.t 4]⟩
def c_ratchetbase_Power : FnIR := ⟨5,
  (.sq (.op 0 [⟨(some 2), none, .mv (.c (.int .i64 0))⟩] none)
  (.sq (.op 0 [⟨(some 3), none, .mv (.t 0)⟩,
    ⟨(some 4), none, .bin .shl (.c (.int .i64 1)) (.t 3)⟩,
    ⟨(some 2), none, .mv (.t 4)⟩] none)
  .rt)),
  [.t 2]⟩
def b_graph_DifferenceOf_R0A : IR :=
 (.sq (.op 0 [⟨(some 13), none, .mv (.t 53)⟩] none)
 (.op 0 [⟨(some 14), none, .mv (.t 54)⟩] none))
def c_graph_DifferenceOf_R0A : IR := b_graph_DifferenceOf_R0A
theorem u_graph_DifferenceOf_R0A {C : Call} {L : Loop} {π : Id} {k0 : List Id} {e : Env} {s : Sto} : evC C L π k0 c_graph_DifferenceOf_R0A e s = evC C L π k0 b_graph_DifferenceOf_R0A e s := rfl
def b_graph_DifferenceOf_R0B : IR :=
 (.bk 1 (.sq (.op 8 [⟨(some 55), none, .mv (.t 14)⟩,
    ⟨(some 56), none, .ld (.t 6) 1 false⟩,
    ⟨(some 57), none, .ia (.t 55) (.t 56) 1⟩,
    ⟨(some 58), none, .ld (.t 57) 1 false⟩,
    ⟨(some 59), none, .mv (.t 14)⟩,
    ⟨(some 60), none, .ld (.t 7) 1 false⟩,
    ⟨(some 61), none, .ia (.t 59) (.t 60) 1⟩,
    ⟨(some 62), none, .ld (.t 61) 1 false⟩,
    ⟨(some 63), none, .bin .neq (.t 58) (.t 62)⟩] (some [8, 9, 13, 63]))
  (.cd (.t 63)
   (.sq (.fz [13, 53] (.op 0 [⟨(some 64), none, .mv (.t 13)⟩,
     ⟨(some 65), none, .callV false (.c (.fn n_slices_Clone_int_int [])) [(.t 64)]⟩,
     ⟨none, none, .st (.t 8) (.t 65) 1⟩,
     ⟨none, none, .st (.t 9) (.c (.int .i64 0)) 1⟩] (some [])))
   .rt)
   .sk)))
def c_graph_DifferenceOf_R0B : IR := b_graph_DifferenceOf_R0B
theorem u_graph_DifferenceOf_R0B {C : Call} {L : Loop} {π : Id} {k0 : List Id} {e : Env} {s : Sto} : evC C L π k0 c_graph_DifferenceOf_R0B e s = evC C L π k0 b_graph_DifferenceOf_R0B e s := rfl
def c_graph_DifferenceOf : FnIR := ⟨66,
  (.sq (.op 0 [⟨(some 6), none, .box (.t 2) 1⟩,
    ⟨(some 7), none, .box (.t 3) 1⟩,
    ⟨(some 8), none, .alloc [.sl 1 (some true) []]⟩,
    ⟨(some 9), none, .alloc [.int .i64 0]⟩] none)
  (.sq (.sq (.op 0 [⟨(some 15), none, .mv (.t 0)⟩,
    ⟨(some 16), none, .mv (.t 1)⟩,
    ⟨(some 17), none, .ld (.t 6) 1 false⟩,
    ⟨(some 18), none, .ld (.t 7) 1 false⟩,
    ⟨(some 19), none, .bsl t_int 1 false [.int .i64 0] 2 [(0, (.t 17)), (1, (.t 18))]⟩,
    ⟨(some 20), none, .callV true (.c (.fn n_graph_namedErr [])) [(.t 15), (.t 16), (.t 19)]⟩,
    ⟨(some 10), none, .mv (.t 20)⟩] (some [0, 1, 6, 7, 8, 9, 10]))
  (.sq (.op 0 [⟨(some 21), none, .mv (.t 10)⟩,
    ⟨(some 22), none, .bin .neq (.t 21) (.c (.int .i64 0))⟩] none)
  (.cd (.t 22)
   (.sq (.op 0 [⟨(some 23), none, .mv (.t 10)⟩,
     ⟨none, none, .st (.t 8) (.c (.sl 1 (some true) [])) 1⟩,
     ⟨none, none, .st (.t 9) (.t 23) 1⟩] none)
   .rt)
   .sk)))
  (.sq (.op 0 [⟨(some 24), none, .mv (.t 1)⟩,
    ⟨(some 25), none, .ld (.t 6) 1 false⟩,
    ⟨(some 26), none, .ld (.t 7) 1 false⟩,
    ⟨(some 27), none, .bsl t_int 1 false [.int .i64 0] 2 [(0, (.t 25)), (1, (.t 26))]⟩,
    ⟨(some 28), none, .callV false (.c (.fn n_graph_leavesBelow [])) [(.t 24), (.t 27)]⟩,
    ⟨(some 11), none, .mv (.t 28)⟩] (some [0, 1, 6, 7, 8, 9, 11]))
  (.sq (.sq (.op 14 [⟨(some 29), none, .mv (.t 1)⟩,
    ⟨(some 30), none, .ld (.t 6) 1 false⟩,
    ⟨(some 31), none, .ia (.t 29) (.t 30) 4⟩,
    ⟨(some 32), none, .fa (.t 31) 1⟩,
    ⟨(some 33), none, .ld (.t 32) 1 false⟩,
    ⟨(some 34), none, .mv (.t 1)⟩,
    ⟨(some 35), none, .ld (.t 7) 1 false⟩,
    ⟨(some 36), none, .ia (.t 34) (.t 35) 4⟩,
    ⟨(some 37), none, .fa (.t 36) 1⟩,
    ⟨(some 38), none, .ld (.t 37) 1 false⟩,
    ⟨(some 39), none, .bin .eql (.t 33) (.t 38)⟩,
    ⟨(some 40), none, .callV true (.c (.fn n_graph_unless [])) [(.t 39), (.c (.int .i64 25))]⟩,
    ⟨(some 41), none, .mv (.t 0)⟩,
    ⟨(some 42), none, .mv (.t 11)⟩,
    ⟨(some 43), none, .callV true (.c (.fn n_graph_bitsErr [])) [(.t 41), (.t 42)]⟩,
    ⟨(some 44), none, .bsl t_api_Errno 1 false [.int .i64 0] 2 [(0, (.t 40)), (1, (.t 43))]⟩,
    ⟨(some 45), none, .callV true (.c (.fn n_graph_first [])) [(.t 44)]⟩,
    ⟨(some 12), none, .mv (.t 45)⟩] (some [0, 1, 6, 7, 8, 9, 11, 12]))
  (.sq (.op 0 [⟨(some 46), none, .mv (.t 12)⟩,
    ⟨(some 47), none, .bin .neq (.t 46) (.c (.int .i64 0))⟩] none)
  (.cd (.t 47)
   (.sq (.op 0 [⟨(some 48), none, .mv (.t 12)⟩,
     ⟨none, none, .st (.t 8) (.c (.sl 1 (some true) [])) 1⟩,
     ⟨none, none, .st (.t 9) (.t 48) 1⟩] none)
   .rt)
   .sk)))
  (.sq (.sq (.kp [6, 7, 8, 9, 52] [8, 9] (.op 0 [⟨(some 49), none, .mv (.t 0)⟩,
    ⟨(some 50), none, .mv (.t 1)⟩,
    ⟨(some 51), none, .mv (.t 11)⟩,
    ⟨(some 52), none, .callV false (.c (.fn n_graph_runs [])) [(.t 49), (.t 50), (.t 51)]⟩] (some [6, 7, 8, 9, 52])))
  (.bk 0 (.kp [8, 9] [8, 9] (.rf (.t 52) 66 0 [6, 7, 8, 9] [53, 54] c_graph_DifferenceOf_R0A c_graph_DifferenceOf_R0B))))
  (.sq (.op 0 [⟨none, none, .st (.t 8) (.c (.sl 1 (some true) [])) 1⟩,
    ⟨none, none, .st (.t 9) (.c (.int .i64 12)) 1⟩] none)
  .rt)))))),
  [.c 8 1 false, .c 9 1 false]⟩
def b_graph_ConstantAt_R0A : IR :=
 (.op 0 [⟨(some 13), none, .mv (.t 37)⟩] none)
def c_graph_ConstantAt_R0A : IR := b_graph_ConstantAt_R0A
theorem u_graph_ConstantAt_R0A {C : Call} {L : Loop} {π : Id} {k0 : List Id} {e : Env} {s : Sto} : evC C L π k0 c_graph_ConstantAt_R0A e s = evC C L π k0 b_graph_ConstantAt_R0A e s := rfl
def b_graph_ConstantAt_R0B : IR :=
 (.bk 1 (.sq (.sq (.op 8 [⟨(some 38), none, .ld (.t 11) 1 false⟩,
    ⟨(some 39), none, .bin .geq (.t 38) (.c (.int .i64 0))⟩,
    ⟨(some 40), none, .mv (.t 39)⟩,
    ⟨(some 41), (some (40, true)), .mv (.t 13)⟩,
    ⟨(some 42), (some (40, true)), .ld (.t 5) 1 false⟩,
    ⟨(some 43), (some (40, true)), .ia (.t 41) (.t 42) 1⟩,
    ⟨(some 44), (some (40, true)), .ld (.t 43) 1 false⟩,
    ⟨(some 45), (some (40, true)), .ld (.t 11) 1 false⟩,
    ⟨(some 46), (some (40, true)), .bin .neq (.t 44) (.t 45)⟩,
    ⟨(some 47), none, .pick (.t 40) (.t 46) (.c (.bool false))⟩] (some [5, 6, 7, 11, 13, 47]))
  (.cd (.t 47)
   (.sq (.op 0 [⟨none, none, .st (.t 6) (.c (.int .i64 0)) 1⟩,
     ⟨none, none, .st (.t 7) (.c (.int .i64 12)) 1⟩] none)
   .rt)
   .sk))
  (.op 0 [⟨(some 48), none, .mv (.t 13)⟩,
    ⟨(some 49), none, .ld (.t 5) 1 false⟩,
    ⟨(some 50), none, .ia (.t 48) (.t 49) 1⟩,
    ⟨(some 51), none, .ld (.t 50) 1 false⟩,
    ⟨none, none, .st (.t 11) (.t 51) 1⟩] (some []))))
def c_graph_ConstantAt_R0B : IR := b_graph_ConstantAt_R0B
theorem u_graph_ConstantAt_R0B {C : Call} {L : Loop} {π : Id} {k0 : List Id} {e : Env} {s : Sto} : evC C L π k0 c_graph_ConstantAt_R0B e s = evC C L π k0 b_graph_ConstantAt_R0B e s := rfl
def c_graph_ConstantAt : FnIR := ⟨53,
  (.sq (.op 0 [⟨(some 5), none, .box (.t 2) 1⟩,
    ⟨(some 6), none, .alloc [.int .i64 0]⟩,
    ⟨(some 7), none, .alloc [.int .i64 0]⟩] none)
  (.sq (.sq (.op 0 [⟨(some 14), none, .mv (.t 0)⟩,
    ⟨(some 15), none, .mv (.t 1)⟩,
    ⟨(some 16), none, .ld (.t 5) 1 false⟩,
    ⟨(some 17), none, .bsl t_int 1 false [.int .i64 0] 1 [(0, (.t 16))]⟩,
    ⟨(some 18), none, .callV true (.c (.fn n_graph_namedErr [])) [(.t 14), (.t 15), (.t 17)]⟩,
    ⟨(some 8), none, .mv (.t 18)⟩] (some [0, 1, 5, 6, 7, 8]))
  (.sq (.op 0 [⟨(some 19), none, .mv (.t 8)⟩,
    ⟨(some 20), none, .bin .neq (.t 19) (.c (.int .i64 0))⟩] none)
  (.cd (.t 20)
   (.sq (.op 0 [⟨(some 21), none, .mv (.t 8)⟩,
     ⟨none, none, .st (.t 6) (.c (.int .i64 0)) 1⟩,
     ⟨none, none, .st (.t 7) (.t 21) 1⟩] none)
   .rt)
   .sk)))
  (.sq (.op 0 [⟨(some 22), none, .mv (.t 1)⟩,
    ⟨(some 23), none, .ld (.t 5) 1 false⟩,
    ⟨(some 24), none, .bsl t_int 1 false [.int .i64 0] 1 [(0, (.t 23))]⟩,
    ⟨(some 25), none, .callV false (.c (.fn n_graph_leavesBelow [])) [(.t 22), (.t 24)]⟩,
    ⟨(some 9), none, .mv (.t 25)⟩] (some [0, 1, 5, 6, 7, 9]))
  (.sq (.sq (.op 0 [⟨(some 26), none, .mv (.t 0)⟩,
    ⟨(some 27), none, .mv (.t 9)⟩,
    ⟨(some 28), none, .callV true (.c (.fn n_graph_bitsErr [])) [(.t 26), (.t 27)]⟩,
    ⟨(some 10), none, .mv (.t 28)⟩] (some [0, 1, 5, 6, 7, 9, 10]))
  (.sq (.op 0 [⟨(some 29), none, .mv (.t 10)⟩,
    ⟨(some 30), none, .bin .neq (.t 29) (.c (.int .i64 0))⟩] none)
  (.cd (.t 30)
   (.sq (.op 0 [⟨(some 31), none, .mv (.t 10)⟩,
     ⟨none, none, .st (.t 6) (.c (.int .i64 0)) 1⟩,
     ⟨none, none, .st (.t 7) (.t 31) 1⟩] none)
   .rt)
   .sk)))
  (.sq (.op 0 [⟨(some 11), none, .alloc [.int .i64 0]⟩,
    ⟨none, none, .st (.t 11) (.c (.int .i64 (-1))) 1⟩] none)
  (.sq (.sq (.kp [5, 6, 7, 11, 35] [6, 7] (.op 0 [⟨(some 32), none, .mv (.t 0)⟩,
    ⟨(some 33), none, .mv (.t 1)⟩,
    ⟨(some 34), none, .mv (.t 9)⟩,
    ⟨(some 35), none, .callV false (.c (.fn n_graph_runs [])) [(.t 32), (.t 33), (.t 34)]⟩] (some [5, 6, 7, 11, 35])))
  (.bk 0 (.kp [6, 7, 11] [6, 7] (.rf (.t 35) 53 0 [5, 6, 7, 11] [36, 37] c_graph_ConstantAt_R0A c_graph_ConstantAt_R0B))))
  (.sq (.op 0 [⟨(some 52), none, .ld (.t 11) 1 false⟩,
    ⟨none, none, .st (.t 6) (.t 52) 1⟩,
    ⟨none, none, .st (.t 7) (.c (.int .i64 0)) 1⟩] none)
  .rt))))))),
  [.c 6 1 false, .c 7 1 false]⟩
def c_ratchetlaw02_both : FnIR := ⟨9,
  (.sq (.op 0 [⟨(some 4), none, .mv (.c (.int .i64 0))⟩] none)
  (.sq (.sq (.op 0 [⟨(some 5), none, .mv (.t 0)⟩,
    ⟨(some 6), none, .bin .neq (.t 5) (.c (.int .i64 0))⟩] none)
  (.cd (.t 6)
   (.sq (.op 0 [⟨(some 7), none, .mv (.t 0)⟩,
     ⟨(some 4), none, .mv (.t 7)⟩] none)
   .rt)
   .sk))
  (.sq (.op 0 [⟨(some 8), none, .mv (.t 1)⟩,
    ⟨(some 4), none, .mv (.t 8)⟩] none)
  .rt))),
  [.t 4]⟩
def b_ratchetref02_Bits_L0 : IR :=
 (.sq (.sq (.op 0 [⟨(some 15), none, .mv (.t 9)⟩,
   ⟨(some 16), none, .mv (.t 8)⟩,
   ⟨(some 17), none, .len false (.t 16)⟩,
   ⟨(some 18), none, .bin .lss (.t 15) (.t 17)⟩] (some [0, 7, 8, 9, 18]))
 (.cd (.t 18)
  .sk
  (.ex 0)))
 (.sq (.bk 1 (.op 0 [⟨(some 21), none, .mv (.t 7)⟩,
    ⟨(some 22), none, .mv (.t 0)⟩,
    ⟨(some 23), none, .mv (.t 8)⟩,
    ⟨(some 24), none, .mv (.t 9)⟩,
    ⟨(some 25), none, .ia (.t 23) (.t 24) 1⟩,
    ⟨(some 26), none, .ld (.t 25) 1 false⟩,
    ⟨(some 27), none, .ia (.t 22) (.t 26) 1⟩,
    ⟨(some 28), none, .ld (.t 27) 1 false⟩,
    ⟨(some 29), none, .bin .add (.t 21) (.t 28)⟩,
    ⟨(some 7), none, .mv (.t 29)⟩] (some [0, 7, 8, 9])))
 (.op 0 [⟨(some 19), none, .mv (.t 9)⟩,
   ⟨(some 20), none, .bin .add (.t 19) (.c (.int .i64 1))⟩,
   ⟨(some 9), none, .mv (.t 20)⟩] none)))
def c_ratchetref02_Bits_L0 : IR := b_ratchetref02_Bits_L0
theorem u_ratchetref02_Bits_L0 {C : Call} {L : Loop} {π : Id} {k0 : List Id} {e : Env} {s : Sto} : evC C L π k0 c_ratchetref02_Bits_L0 e s = evC C L π k0 b_ratchetref02_Bits_L0 e s := rfl
def c_ratchetref02_Bits : FnIR := ⟨31,
  (.sq (.op 0 [⟨(some 6), none, .mv (.c (.int .i64 0))⟩] none)
  (.sq (.op 0 [⟨(some 7), none, .mv (.c (.int .i64 0))⟩] none)
  (.sq (.op 0 [⟨(some 10), none, .mv (.t 1)⟩,
    ⟨(some 11), none, .mv (.t 2)⟩,
    ⟨(some 12), none, .mv (.t 0)⟩,
    ⟨(some 13), none, .len false (.t 12)⟩,
    ⟨(some 14), none, .callV false (.c (.fn n_ratchetbase_LeavesBelow [])) [(.t 10), (.t 11), (.t 13)]⟩,
    ⟨(some 8), none, .mv (.t 14)⟩] (some [0, 7, 8]))
  (.sq (.sq (.op 0 [⟨(some 9), none, .mv (.c (.int .i64 0))⟩] none)
  (.kp [7] [6] (.bk 0 (.lp [] [0, 7, 8, 9] c_ratchetref02_Bits_L0))))
  (.sq (.op 0 [⟨(some 30), none, .mv (.t 7)⟩,
    ⟨(some 6), none, .mv (.t 30)⟩] none)
  .rt))))),
  [.t 6]⟩
def b_ratchetref02_Constant_L0 : IR :=
 (.sq (.sq (.op 0 [⟨(some 24), none, .mv (.t 10)⟩,
   ⟨(some 25), none, .mv (.t 8)⟩,
   ⟨(some 26), none, .len false (.t 25)⟩,
   ⟨(some 27), none, .bin .lss (.t 24) (.t 26)⟩] (some [1, 2, 8, 9, 10, 27]))
 (.cd (.t 27)
  .sk
  (.ex 0)))
 (.sq (.bk 1 (.sq (.op 0 [⟨(some 30), none, .mv (.t 1)⟩,
    ⟨(some 31), none, .mv (.t 8)⟩,
    ⟨(some 32), none, .mv (.t 10)⟩,
    ⟨(some 33), none, .ia (.t 31) (.t 32) 1⟩,
    ⟨(some 34), none, .ld (.t 33) 1 false⟩,
    ⟨(some 35), none, .callV false (.c (.fn n_ratchetbase_NodeValues [])) [(.t 30), (.t 34)]⟩,
    ⟨(some 36), none, .mv (.t 2)⟩,
    ⟨(some 37), none, .ia (.t 35) (.t 36) 1⟩,
    ⟨(some 38), none, .ld (.t 37) 1 false⟩,
    ⟨(some 39), none, .mv (.t 9)⟩,
    ⟨(some 40), none, .bin .neq (.t 38) (.t 39)⟩] (some [1, 2, 8, 9, 10, 40]))
  (.cd (.t 40)
   (.sq (.op 0 [⟨(some 6), none, .mv (.c (.int .i64 0))⟩,
     ⟨(some 7), none, .mv (.c (.bool false))⟩] none)
   .rt)
   .sk)))
 (.op 0 [⟨(some 28), none, .mv (.t 10)⟩,
   ⟨(some 29), none, .bin .add (.t 28) (.c (.int .i64 1))⟩,
   ⟨(some 10), none, .mv (.t 29)⟩] none)))
def c_ratchetref02_Constant_L0 : IR := b_ratchetref02_Constant_L0
theorem u_ratchetref02_Constant_L0 {C : Call} {L : Loop} {π : Id} {k0 : List Id} {e : Env} {s : Sto} : evC C L π k0 c_ratchetref02_Constant_L0 e s = evC C L π k0 b_ratchetref02_Constant_L0 e s := rfl
def c_ratchetref02_Constant : FnIR := ⟨42,
  (.sq (.op 0 [⟨(some 6), none, .mv (.c (.int .i64 0))⟩,
    ⟨(some 7), none, .mv (.c (.bool false))⟩] none)
  (.sq (.op 0 [⟨(some 11), none, .mv (.t 0)⟩,
    ⟨(some 12), none, .mv (.t 1)⟩,
    ⟨(some 13), none, .mv (.t 2)⟩,
    ⟨(some 14), none, .bsl t_int 1 false [.int .i64 0] 1 [(0, (.t 13))]⟩,
    ⟨(some 15), none, .callV false (.c (.fn n_ratchetref02_Tries [])) [(.t 11), (.t 12), (.t 14)]⟩,
    ⟨(some 8), none, .mv (.t 15)⟩] (some [1, 2, 8]))
  (.sq (.op 0 [⟨(some 16), none, .mv (.t 1)⟩,
    ⟨(some 17), none, .mv (.t 8)⟩,
    ⟨(some 18), none, .ia (.t 17) (.c (.int .i64 0)) 1⟩,
    ⟨(some 19), none, .ld (.t 18) 1 false⟩,
    ⟨(some 20), none, .callV false (.c (.fn n_ratchetbase_NodeValues [])) [(.t 16), (.t 19)]⟩,
    ⟨(some 21), none, .mv (.t 2)⟩,
    ⟨(some 22), none, .ia (.t 20) (.t 21) 1⟩,
    ⟨(some 23), none, .ld (.t 22) 1 false⟩,
    ⟨(some 9), none, .mv (.t 23)⟩] (some [1, 2, 8, 9]))
  (.sq (.sq (.op 0 [⟨(some 10), none, .mv (.c (.int .i64 0))⟩] none)
  (.kp [9] [6, 7] (.bk 0 (.lp [] [1, 2, 8, 9, 10] c_ratchetref02_Constant_L0))))
  (.sq (.op 0 [⟨(some 41), none, .mv (.t 9)⟩,
    ⟨(some 6), none, .mv (.t 41)⟩,
    ⟨(some 7), none, .mv (.c (.bool true))⟩] none)
  .rt))))),
  [.t 6, .t 7]⟩
def b_ratchetref02_Difference_L0 : IR :=
 (.sq (.sq (.op 0 [⟨(some 19), none, .mv (.t 11)⟩,
   ⟨(some 20), none, .mv (.t 10)⟩,
   ⟨(some 21), none, .len false (.t 20)⟩,
   ⟨(some 22), none, .bin .lss (.t 19) (.t 21)⟩] (some [1, 2, 3, 10, 11, 22]))
 (.cd (.t 22)
  .sk
  (.ex 0)))
 (.sq (.bk 1 (.sq (.op 0 [⟨(some 25), none, .mv (.t 1)⟩,
    ⟨(some 26), none, .mv (.t 10)⟩,
    ⟨(some 27), none, .mv (.t 11)⟩,
    ⟨(some 28), none, .ia (.t 26) (.t 27) 1⟩,
    ⟨(some 29), none, .ld (.t 28) 1 false⟩,
    ⟨(some 30), none, .callV false (.c (.fn n_ratchetbase_NodeValues [])) [(.t 25), (.t 29)]⟩,
    ⟨(some 12), none, .mv (.t 30)⟩] (some [1, 2, 3, 10, 11, 12]))
  (.sq (.op 8 [⟨(some 31), none, .mv (.t 12)⟩,
    ⟨(some 32), none, .mv (.t 2)⟩,
    ⟨(some 33), none, .ia (.t 31) (.t 32) 1⟩,
    ⟨(some 34), none, .ld (.t 33) 1 false⟩,
    ⟨(some 35), none, .mv (.t 12)⟩,
    ⟨(some 36), none, .mv (.t 3)⟩,
    ⟨(some 37), none, .ia (.t 35) (.t 36) 1⟩,
    ⟨(some 38), none, .ld (.t 37) 1 false⟩,
    ⟨(some 39), none, .bin .neq (.t 34) (.t 38)⟩] (some [1, 2, 3, 10, 11, 39]))
  (.cd (.t 39)
   (.sq (.op 0 [⟨(some 40), none, .mv (.t 10)⟩,
     ⟨(some 41), none, .mv (.t 11)⟩,
     ⟨(some 42), none, .ia (.t 40) (.t 41) 1⟩,
     ⟨(some 43), none, .ld (.t 42) 1 false⟩,
     ⟨(some 8), none, .mv (.t 43)⟩,
     ⟨(some 9), none, .mv (.c (.bool true))⟩] (some [8, 9]))
   .rt)
   .sk))))
 (.op 0 [⟨(some 23), none, .mv (.t 11)⟩,
   ⟨(some 24), none, .bin .add (.t 23) (.c (.int .i64 1))⟩,
   ⟨(some 11), none, .mv (.t 24)⟩] none)))
def c_ratchetref02_Difference_L0 : IR := b_ratchetref02_Difference_L0
theorem u_ratchetref02_Difference_L0 {C : Call} {L : Loop} {π : Id} {k0 : List Id} {e : Env} {s : Sto} : evC C L π k0 c_ratchetref02_Difference_L0 e s = evC C L π k0 b_ratchetref02_Difference_L0 e s := rfl
def c_ratchetref02_Difference : FnIR := ⟨44,
  (.sq (.op 0 [⟨(some 8), none, .mv (.c (.sl 1 (some true) []))⟩,
    ⟨(some 9), none, .mv (.c (.bool false))⟩] none)
  (.sq (.op 0 [⟨(some 13), none, .mv (.t 0)⟩,
    ⟨(some 14), none, .mv (.t 1)⟩,
    ⟨(some 15), none, .mv (.t 2)⟩,
    ⟨(some 16), none, .mv (.t 3)⟩,
    ⟨(some 17), none, .bsl t_int 1 false [.int .i64 0] 2 [(0, (.t 15)), (1, (.t 16))]⟩,
    ⟨(some 18), none, .callV false (.c (.fn n_ratchetref02_Tries [])) [(.t 13), (.t 14), (.t 17)]⟩,
    ⟨(some 10), none, .mv (.t 18)⟩] (some [1, 2, 3, 10]))
  (.sq (.sq (.op 0 [⟨(some 11), none, .mv (.c (.int .i64 0))⟩] none)
  (.kp [] [8, 9] (.bk 0 (.lp [] [1, 2, 3, 10, 11] c_ratchetref02_Difference_L0))))
  (.sq (.op 0 [⟨(some 8), none, .mv (.c (.sl 1 (some true) []))⟩,
    ⟨(some 9), none, .mv (.c (.bool false))⟩] none)
  .rt)))),
  [.t 8, .t 9]⟩
def b_ratchetbase_Ints_L0 : IR :=
 (.sq (.sq (.op 0 [⟨(some 11), none, .mv (.t 5)⟩,
   ⟨(some 12), none, .mv (.t 0)⟩,
   ⟨(some 13), none, .len false (.t 12)⟩,
   ⟨(some 14), none, .bin .lss (.t 11) (.t 13)⟩] (some [0, 1, 5, 14]))
 (.cd (.t 14)
  .sk
  (.ex 0)))
 (.sq (.bk 1 (.sq (.op 8 [⟨(some 17), none, .mv (.t 0)⟩,
    ⟨(some 18), none, .mv (.t 5)⟩,
    ⟨(some 19), none, .ia (.t 17) (.t 18) 1⟩,
    ⟨(some 20), none, .ld (.t 19) 1 false⟩,
    ⟨(some 21), none, .mv (.t 1)⟩,
    ⟨(some 22), none, .mv (.t 5)⟩,
    ⟨(some 23), none, .ia (.t 21) (.t 22) 1⟩,
    ⟨(some 24), none, .ld (.t 23) 1 false⟩,
    ⟨(some 25), none, .bin .neq (.t 20) (.t 24)⟩] (some [0, 1, 5, 25]))
  (.cd (.t 25)
   (.sq (.op 0 [⟨(some 4), none, .mv (.c (.bool false))⟩] none)
   .rt)
   .sk)))
 (.op 0 [⟨(some 15), none, .mv (.t 5)⟩,
   ⟨(some 16), none, .bin .add (.t 15) (.c (.int .i64 1))⟩,
   ⟨(some 5), none, .mv (.t 16)⟩] none)))
def c_ratchetbase_Ints_L0 : IR := b_ratchetbase_Ints_L0
theorem u_ratchetbase_Ints_L0 {C : Call} {L : Loop} {π : Id} {k0 : List Id} {e : Env} {s : Sto} : evC C L π k0 c_ratchetbase_Ints_L0 e s = evC C L π k0 b_ratchetbase_Ints_L0 e s := rfl
def c_ratchetbase_Ints : FnIR := ⟨26,
  (.sq (.op 0 [⟨(some 4), none, .mv (.c (.bool false))⟩] none)
  (.sq (.sq (.op 0 [⟨(some 6), none, .mv (.t 0)⟩,
    ⟨(some 7), none, .len false (.t 6)⟩,
    ⟨(some 8), none, .mv (.t 1)⟩,
    ⟨(some 9), none, .len false (.t 8)⟩,
    ⟨(some 10), none, .bin .neq (.t 7) (.t 9)⟩] (some [0, 1, 10]))
  (.cd (.t 10)
   (.sq (.op 0 [⟨(some 4), none, .mv (.c (.bool false))⟩] none)
   .rt)
   .sk))
  (.sq (.sq (.op 0 [⟨(some 5), none, .mv (.c (.int .i64 0))⟩] none)
  (.kp [] [4] (.bk 0 (.lp [] [0, 1, 5] c_ratchetbase_Ints_L0))))
  (.sq (.op 0 [⟨(some 4), none, .mv (.c (.bool true))⟩] none)
  .rt)))),
  [.t 4]⟩
def b_graph_BelowOf_L0 : IR :=
 (.sq (.op 0 [⟨(some 24), none, .bin .lss (.t 23) (.t 22)⟩] none)
 (.sq (.cd (.t 24)
  .sk
  (.ex 0))
 (.sq (.bk 1 (.sq (.op 0 [⟨(some 25), none, .mv (.t 23)⟩,
    ⟨(some 26), none, .ia (.t 21) (.t 23) 1⟩,
    ⟨(some 27), none, .ld (.t 26) 1 false⟩,
    ⟨(some 10), none, .mv (.t 25)⟩,
    ⟨(some 11), none, .mv (.t 27)⟩] (some [9, 10, 11, 21, 22, 23]))
  (.sq (.op 0 [⟨(some 28), none, .mv (.t 11)⟩] none)
  (.cd (.t 28)
   (.op 0 [⟨(some 29), none, .mv (.t 9)⟩,
     ⟨(some 30), none, .mv (.t 10)⟩,
     ⟨(some 31), none, .bsl t_int 1 false [.int .i64 0] 1 [(0, (.t 30))]⟩,
     ⟨(some 32), none, .app (.t 29) (.t 31) t_int 1⟩,
     ⟨(some 9), none, .mv (.t 32)⟩] (some [9, 21, 22, 23]))
   .sk))))
 (.op 0 [⟨(some 33), none, .bin .add (.t 23) (.c (.int .i64 1))⟩,
   ⟨(some 23), none, .mv (.t 33)⟩] none))))
def c_graph_BelowOf_L0 : IR := b_graph_BelowOf_L0
theorem u_graph_BelowOf_L0 {C : Call} {L : Loop} {π : Id} {k0 : List Id} {e : Env} {s : Sto} : evC C L π k0 c_graph_BelowOf_L0 e s = evC C L π k0 b_graph_BelowOf_L0 e s := rfl
def c_graph_BelowOf : FnIR := ⟨35,
  (.sq (.op 0 [⟨(some 6), none, .mv (.c (.sl 1 (some true) []))⟩,
    ⟨(some 7), none, .mv (.c (.int .i64 0))⟩] none)
  (.sq (.sq (.op 0 [⟨(some 12), none, .mv (.t 0)⟩,
    ⟨(some 13), none, .mv (.t 1)⟩,
    ⟨(some 14), none, .mv (.t 2)⟩,
    ⟨(some 15), none, .callV true (.c (.fn n_graph_namedErr [])) [(.t 12), (.t 13), (.t 14)]⟩,
    ⟨(some 8), none, .mv (.t 15)⟩] (some [1, 2, 8]))
  (.sq (.op 0 [⟨(some 16), none, .mv (.t 8)⟩,
    ⟨(some 17), none, .bin .neq (.t 16) (.c (.int .i64 0))⟩] none)
  (.cd (.t 17)
   (.sq (.op 0 [⟨(some 18), none, .mv (.t 8)⟩,
     ⟨(some 6), none, .mv (.c (.sl 1 (some true) []))⟩,
     ⟨(some 7), none, .mv (.t 18)⟩] none)
   .rt)
   .sk)))
  (.sq (.op 0 [⟨(some 9), none, .mv (.c (.sl 1 (some true) []))⟩] none)
  (.sq (.sq (.op 0 [⟨(some 19), none, .mv (.t 1)⟩,
    ⟨(some 20), none, .mv (.t 2)⟩,
    ⟨(some 21), none, .callV false (.c (.fn n_graph_below [])) [(.t 19), (.t 20)]⟩,
    ⟨(some 22), none, .len false (.t 21)⟩,
    ⟨(some 23), none, .mv (.c (.int .i64 0))⟩] (some [9, 21, 22, 23]))
  (.kp [9] [6, 7] (.bk 0 (.lp [(t_int, .inl 9)] [9, 21, 22, 23] c_graph_BelowOf_L0))))
  (.sq (.op 0 [⟨(some 34), none, .mv (.t 9)⟩,
    ⟨(some 6), none, .mv (.t 34)⟩,
    ⟨(some 7), none, .mv (.c (.int .i64 0))⟩] none)
  .rt))))),
  [.t 6, .t 7]⟩
def b_graph_DepthsOf_L1 : IR :=
 (.sq (.op 0 [⟨(some 32), none, .bin .lss (.t 31) (.t 30)⟩] none)
 (.sq (.cd (.t 32)
  .sk
  (.ex 2))
 (.sq (.bk 3 (.sq (.op 0 [⟨(some 33), none, .ia (.t 29) (.t 31) 1⟩,
    ⟨(some 34), none, .ld (.t 33) 1 false⟩,
    ⟨(some 11), none, .mv (.t 34)⟩] none)
  (.op 11 [⟨(some 35), none, .mv (.t 7)⟩,
    ⟨(some 36), none, .mv (.t 8)⟩,
    ⟨(some 37), none, .mv (.t 7)⟩,
    ⟨(some 38), none, .mv (.t 8)⟩,
    ⟨(some 39), none, .ia (.t 37) (.t 38) 1⟩,
    ⟨(some 40), none, .ld (.t 39) 1 false⟩,
    ⟨(some 41), none, .mv (.t 7)⟩,
    ⟨(some 42), none, .mv (.t 11)⟩,
    ⟨(some 43), none, .ia (.t 41) (.t 42) 1⟩,
    ⟨(some 44), none, .ld (.t 43) 1 false⟩,
    ⟨(some 45), none, .bin .add (.t 44) (.c (.int .i64 1))⟩,
    ⟨(some 46), none, .mm true (.t 40) (.t 45)⟩,
    ⟨(some 47), none, .ia (.t 35) (.t 36) 1⟩,
    ⟨none, none, .st (.t 47) (.t 46) 1⟩] (some [7, 8, 21, 22, 23, 29, 30, 31]))))
 (.op 0 [⟨(some 48), none, .bin .add (.t 31) (.c (.int .i64 1))⟩,
   ⟨(some 31), none, .mv (.t 48)⟩] none))))
def c_graph_DepthsOf_L1 : IR := b_graph_DepthsOf_L1
theorem u_graph_DepthsOf_L1 {C : Call} {L : Loop} {π : Id} {k0 : List Id} {e : Env} {s : Sto} : evC C L π k0 c_graph_DepthsOf_L1 e s = evC C L π k0 b_graph_DepthsOf_L1 e s := rfl
def b_graph_DepthsOf_L0 : IR :=
 (.sq (.op 0 [⟨(some 24), none, .bin .lss (.t 23) (.t 22)⟩] none)
 (.sq (.cd (.t 24)
  .sk
  (.ex 0))
 (.sq (.bk 1 (.sq (.op 0 [⟨(some 25), none, .mv (.t 23)⟩,
    ⟨(some 26), none, .ia (.t 21) (.t 23) 4⟩,
    ⟨(some 27), none, .ld (.t 26) 4 true⟩,
    ⟨(some 9), none, .alloc [.int .i64 0, .int .i64 0, .sl 1 (some true) [], .int .i64 0]⟩,
    ⟨(some 8), none, .mv (.t 25)⟩,
    ⟨none, none, .st (.t 9) (.t 27) 4⟩] (some [7, 8, 9, 21, 22, 23]))
  (.sq (.op 0 [⟨(some 28), none, .fa (.t 9) 2⟩,
    ⟨(some 29), none, .ld (.t 28) 1 false⟩,
    ⟨(some 30), none, .len false (.t 29)⟩,
    ⟨(some 31), none, .mv (.c (.int .i64 0))⟩] (some [7, 8, 21, 22, 23, 29, 30, 31]))
  (.kp [7, 21, 22, 23] [4, 5] (.bk 2 (.lp [] [7, 8, 21, 22, 23, 29, 30, 31] c_graph_DepthsOf_L1))))))
 (.op 0 [⟨(some 49), none, .bin .add (.t 23) (.c (.int .i64 1))⟩,
   ⟨(some 23), none, .mv (.t 49)⟩] none))))
def c_graph_DepthsOf_L0 : IR := b_graph_DepthsOf_L0
theorem u_graph_DepthsOf_L0 {C : Call} {L : Loop} {π : Id} {k0 : List Id} {e : Env} {s : Sto} : evC C L π k0 c_graph_DepthsOf_L0 e s = evC C L π k0 b_graph_DepthsOf_L0 e s := rfl
def c_graph_DepthsOf : FnIR := ⟨51,
  (.sq (.op 0 [⟨(some 4), none, .mv (.c (.sl 1 (some true) []))⟩,
    ⟨(some 5), none, .mv (.c (.int .i64 0))⟩] none)
  (.sq (.sq (.op 0 [⟨(some 12), none, .mv (.t 0)⟩,
    ⟨(some 13), none, .mv (.t 1)⟩,
    ⟨(some 14), none, .callV true (.c (.fn n_graph_graphErr [])) [(.t 12), (.t 13)]⟩,
    ⟨(some 6), none, .mv (.t 14)⟩] (some [1, 6]))
  (.sq (.op 0 [⟨(some 15), none, .mv (.t 6)⟩,
    ⟨(some 16), none, .bin .neq (.t 15) (.c (.int .i64 0))⟩] none)
  (.cd (.t 16)
   (.sq (.op 0 [⟨(some 17), none, .mv (.t 6)⟩,
     ⟨(some 4), none, .mv (.c (.sl 1 (some true) []))⟩,
     ⟨(some 5), none, .mv (.t 17)⟩] none)
   .rt)
   .sk)))
  (.sq (.op 0 [⟨(some 18), none, .mv (.t 1)⟩,
    ⟨(some 19), none, .len false (.t 18)⟩,
    ⟨(some 20), none, .mks t_int 1 false [.int .i64 0] (.t 19) (.t 19)⟩,
    ⟨(some 7), none, .mv (.t 20)⟩] (some [1, 7]))
  (.sq (.sq (.op 0 [⟨(some 21), none, .mv (.t 1)⟩,
    ⟨(some 22), none, .len false (.t 21)⟩,
    ⟨(some 23), none, .mv (.c (.int .i64 0))⟩] none)
  (.kp [7] [4, 5] (.bk 0 (.lp [] [7, 21, 22, 23] c_graph_DepthsOf_L0))))
  (.sq (.op 0 [⟨(some 50), none, .mv (.t 7)⟩,
    ⟨(some 4), none, .mv (.t 50)⟩,
    ⟨(some 5), none, .mv (.c (.int .i64 0))⟩] none)
  .rt))))),
  [.t 4, .t 5]⟩
def b_ratchetref02_Depths_L1 : IR :=
 (.sq (.sq (.op 0 [⟨(some 15), none, .mv (.t 5)⟩,
   ⟨(some 16), none, .mv (.t 0)⟩,
   ⟨(some 17), none, .mv (.t 4)⟩,
   ⟨(some 18), none, .ia (.t 16) (.t 17) 4⟩,
   ⟨(some 19), none, .fa (.t 18) 2⟩,
   ⟨(some 20), none, .ld (.t 19) 1 false⟩,
   ⟨(some 21), none, .len false (.t 20)⟩,
   ⟨(some 22), none, .bin .lss (.t 15) (.t 21)⟩] (some [0, 3, 4, 5, 22]))
 (.cd (.t 22)
  .sk
  (.ex 2)))
 (.sq (.bk 3 (.op 18 [⟨(some 25), none, .mv (.t 3)⟩,
    ⟨(some 26), none, .mv (.t 4)⟩,
    ⟨(some 27), none, .mv (.t 3)⟩,
    ⟨(some 28), none, .mv (.t 4)⟩,
    ⟨(some 29), none, .ia (.t 27) (.t 28) 1⟩,
    ⟨(some 30), none, .ld (.t 29) 1 false⟩,
    ⟨(some 31), none, .mv (.t 3)⟩,
    ⟨(some 32), none, .mv (.t 0)⟩,
    ⟨(some 33), none, .mv (.t 4)⟩,
    ⟨(some 34), none, .ia (.t 32) (.t 33) 4⟩,
    ⟨(some 35), none, .fa (.t 34) 2⟩,
    ⟨(some 36), none, .ld (.t 35) 1 false⟩,
    ⟨(some 37), none, .mv (.t 5)⟩,
    ⟨(some 38), none, .ia (.t 36) (.t 37) 1⟩,
    ⟨(some 39), none, .ld (.t 38) 1 false⟩,
    ⟨(some 40), none, .ia (.t 31) (.t 39) 1⟩,
    ⟨(some 41), none, .ld (.t 40) 1 false⟩,
    ⟨(some 42), none, .bin .add (.t 41) (.c (.int .i64 1))⟩,
    ⟨(some 43), none, .mm true (.t 30) (.t 42)⟩,
    ⟨(some 44), none, .ia (.t 25) (.t 26) 1⟩,
    ⟨none, none, .st (.t 44) (.t 43) 1⟩] (some [0, 3, 4, 5])))
 (.op 0 [⟨(some 23), none, .mv (.t 5)⟩,
   ⟨(some 24), none, .bin .add (.t 23) (.c (.int .i64 1))⟩,
   ⟨(some 5), none, .mv (.t 24)⟩] none)))
def c_ratchetref02_Depths_L1 : IR := b_ratchetref02_Depths_L1
theorem u_ratchetref02_Depths_L1 {C : Call} {L : Loop} {π : Id} {k0 : List Id} {e : Env} {s : Sto} : evC C L π k0 c_ratchetref02_Depths_L1 e s = evC C L π k0 b_ratchetref02_Depths_L1 e s := rfl
def b_ratchetref02_Depths_L0 : IR :=
 (.sq (.sq (.op 0 [⟨(some 9), none, .mv (.t 4)⟩,
   ⟨(some 10), none, .mv (.t 0)⟩,
   ⟨(some 11), none, .len false (.t 10)⟩,
   ⟨(some 12), none, .bin .lss (.t 9) (.t 11)⟩] (some [0, 3, 4, 12]))
 (.cd (.t 12)
  .sk
  (.ex 0)))
 (.sq (.bk 1 (.sq (.op 0 [⟨(some 5), none, .mv (.c (.int .i64 0))⟩] none)
  (.kp [0, 3, 4] [2] (.bk 2 (.lp [] [0, 3, 4, 5] c_ratchetref02_Depths_L1)))))
 (.op 0 [⟨(some 13), none, .mv (.t 4)⟩,
   ⟨(some 14), none, .bin .add (.t 13) (.c (.int .i64 1))⟩,
   ⟨(some 4), none, .mv (.t 14)⟩] none)))
def c_ratchetref02_Depths_L0 : IR := b_ratchetref02_Depths_L0
theorem u_ratchetref02_Depths_L0 {C : Call} {L : Loop} {π : Id} {k0 : List Id} {e : Env} {s : Sto} : evC C L π k0 c_ratchetref02_Depths_L0 e s = evC C L π k0 b_ratchetref02_Depths_L0 e s := rfl
def c_ratchetref02_Depths : FnIR := ⟨46,
  (.sq (.op 0 [⟨(some 2), none, .mv (.c (.sl 1 (some true) []))⟩] none)
  (.sq (.op 0 [⟨(some 6), none, .mv (.t 0)⟩,
    ⟨(some 7), none, .len false (.t 6)⟩,
    ⟨(some 8), none, .mks t_int 1 false [.int .i64 0] (.t 7) (.t 7)⟩,
    ⟨(some 3), none, .mv (.t 8)⟩] (some [0, 3]))
  (.sq (.sq (.op 0 [⟨(some 4), none, .mv (.c (.int .i64 0))⟩] none)
  (.kp [3] [2] (.bk 0 (.lp [] [0, 3, 4] c_ratchetref02_Depths_L0))))
  (.sq (.op 0 [⟨(some 45), none, .mv (.t 3)⟩,
    ⟨(some 2), none, .mv (.t 45)⟩] none)
  .rt)))),
  [.t 2]⟩
def b_ratchetref02_Below_L0 : IR :=
 (.sq (.sq (.op 0 [⟨(some 11), none, .mv (.t 7)⟩,
   ⟨(some 12), none, .mv (.t 0)⟩,
   ⟨(some 13), none, .len false (.t 12)⟩,
   ⟨(some 14), none, .bin .lss (.t 11) (.t 13)⟩] (some [0, 5, 6, 7, 14]))
 (.cd (.t 14)
  .sk
  (.ex 0)))
 (.sq (.bk 1 (.sq (.op 0 [⟨(some 17), none, .mv (.t 5)⟩,
    ⟨(some 18), none, .mv (.t 7)⟩,
    ⟨(some 19), none, .ia (.t 17) (.t 18) 1⟩,
    ⟨(some 20), none, .ld (.t 19) 1 false⟩] (some [0, 5, 6, 7, 20]))
  (.cd (.t 20)
   (.op 0 [⟨(some 21), none, .mv (.t 6)⟩,
     ⟨(some 22), none, .mv (.t 7)⟩,
     ⟨(some 23), none, .bsl t_int 1 false [.int .i64 0] 1 [(0, (.t 22))]⟩,
     ⟨(some 24), none, .app (.t 21) (.t 23) t_int 1⟩,
     ⟨(some 6), none, .mv (.t 24)⟩] (some [0, 5, 6, 7]))
   .sk)))
 (.op 0 [⟨(some 15), none, .mv (.t 7)⟩,
   ⟨(some 16), none, .bin .add (.t 15) (.c (.int .i64 1))⟩,
   ⟨(some 7), none, .mv (.t 16)⟩] none)))
def c_ratchetref02_Below_L0 : IR := b_ratchetref02_Below_L0
theorem u_ratchetref02_Below_L0 {C : Call} {L : Loop} {π : Id} {k0 : List Id} {e : Env} {s : Sto} : evC C L π k0 c_ratchetref02_Below_L0 e s = evC C L π k0 b_ratchetref02_Below_L0 e s := rfl
def c_ratchetref02_Below : FnIR := ⟨26,
  (.sq (.op 0 [⟨(some 4), none, .mv (.c (.sl 1 (some true) []))⟩] none)
  (.sq (.op 0 [⟨(some 8), none, .mv (.t 0)⟩,
    ⟨(some 9), none, .mv (.t 1)⟩,
    ⟨(some 10), none, .callV false (.c (.fn n_ratchetbase_Below [])) [(.t 8), (.t 9)]⟩,
    ⟨(some 5), none, .mv (.t 10)⟩] (some [0, 5]))
  (.sq (.op 0 [⟨(some 6), none, .mv (.c (.sl 1 (some true) []))⟩] none)
  (.sq (.sq (.op 0 [⟨(some 7), none, .mv (.c (.int .i64 0))⟩] none)
  (.kp [6] [4] (.bk 0 (.lp [(t_int, .inl 6)] [0, 5, 6, 7] c_ratchetref02_Below_L0))))
  (.sq (.op 0 [⟨(some 25), none, .mv (.t 6)⟩,
    ⟨(some 4), none, .mv (.t 25)⟩] none)
  .rt))))),
  [.t 4]⟩
def b_ratchetbase_LeavesBelow_L0 : IR :=
 (.sq (.sq (.op 0 [⟨(some 17), none, .mv (.t 9)⟩,
   ⟨(some 18), none, .mv (.t 0)⟩,
   ⟨(some 19), none, .len false (.t 18)⟩,
   ⟨(some 20), none, .bin .lss (.t 17) (.t 19)⟩] (some [0, 2, 7, 8, 9, 20]))
 (.cd (.t 20)
  .sk
  (.ex 0)))
 (.sq (.bk 1 (.sq (.op 0 [⟨(some 23), none, .mv (.t 7)⟩,
    ⟨(some 24), none, .mv (.t 9)⟩,
    ⟨(some 25), none, .ia (.t 23) (.t 24) 1⟩,
    ⟨(some 26), none, .ld (.t 25) 1 false⟩,
    ⟨(some 27), none, .mv (.t 26)⟩,
    ⟨(some 28), (some (27, true)), .mv (.t 0)⟩,
    ⟨(some 29), (some (27, true)), .mv (.t 9)⟩,
    ⟨(some 30), (some (27, true)), .ia (.t 28) (.t 29) 4⟩,
    ⟨(some 31), (some (27, true)), .fa (.t 30) 0⟩,
    ⟨(some 32), (some (27, true)), .ld (.t 31) 1 false⟩,
    ⟨(some 33), (some (27, true)), .bin .eql (.t 32) (.c (.int .i64 1))⟩,
    ⟨(some 34), none, .pick (.t 27) (.t 33) (.c (.bool false))⟩] (some [0, 2, 7, 8, 9, 34]))
  (.cd (.t 34)
   (.op 0 [⟨(some 35), none, .mv (.t 8)⟩,
     ⟨(some 36), none, .mv (.t 0)⟩,
     ⟨(some 37), none, .mv (.t 9)⟩,
     ⟨(some 38), none, .ia (.t 36) (.t 37) 4⟩,
     ⟨(some 39), none, .fa (.t 38) 3⟩,
     ⟨(some 40), none, .ld (.t 39) 1 false⟩,
     ⟨(some 41), none, .ia (.t 35) (.t 40) 1⟩,
     ⟨none, none, .st (.t 41) (.c (.bool true)) 1⟩] (some [0, 2, 7, 8, 9]))
   .sk)))
 (.op 0 [⟨(some 21), none, .mv (.t 9)⟩,
   ⟨(some 22), none, .bin .add (.t 21) (.c (.int .i64 1))⟩,
   ⟨(some 9), none, .mv (.t 22)⟩] none)))
def c_ratchetbase_LeavesBelow_L0 : IR := b_ratchetbase_LeavesBelow_L0
theorem u_ratchetbase_LeavesBelow_L0 {C : Call} {L : Loop} {π : Id} {k0 : List Id} {e : Env} {s : Sto} : evC C L π k0 c_ratchetbase_LeavesBelow_L0 e s = evC C L π k0 b_ratchetbase_LeavesBelow_L0 e s := rfl
def b_ratchetbase_LeavesBelow_L1 : IR :=
 (.sq (.sq (.op 0 [⟨(some 42), none, .mv (.t 11)⟩,
   ⟨(some 43), none, .mv (.t 2)⟩,
   ⟨(some 44), none, .bin .lss (.t 42) (.t 43)⟩] none)
 (.cd (.t 44)
  .sk
  (.ex 2)))
 (.sq (.bk 3 (.sq (.op 0 [⟨(some 47), none, .mv (.t 8)⟩,
    ⟨(some 48), none, .mv (.t 11)⟩,
    ⟨(some 49), none, .ia (.t 47) (.t 48) 1⟩,
    ⟨(some 50), none, .ld (.t 49) 1 false⟩] (some [2, 8, 10, 11, 50]))
  (.cd (.t 50)
   (.op 0 [⟨(some 51), none, .mv (.t 10)⟩,
     ⟨(some 52), none, .mv (.t 11)⟩,
     ⟨(some 53), none, .bsl t_int 1 false [.int .i64 0] 1 [(0, (.t 52))]⟩,
     ⟨(some 54), none, .app (.t 51) (.t 53) t_int 1⟩,
     ⟨(some 10), none, .mv (.t 54)⟩] (some [2, 8, 10, 11]))
   .sk)))
 (.op 0 [⟨(some 45), none, .mv (.t 11)⟩,
   ⟨(some 46), none, .bin .add (.t 45) (.c (.int .i64 1))⟩,
   ⟨(some 11), none, .mv (.t 46)⟩] none)))
def c_ratchetbase_LeavesBelow_L1 : IR := b_ratchetbase_LeavesBelow_L1
theorem u_ratchetbase_LeavesBelow_L1 {C : Call} {L : Loop} {π : Id} {k0 : List Id} {e : Env} {s : Sto} : evC C L π k0 c_ratchetbase_LeavesBelow_L1 e s = evC C L π k0 b_ratchetbase_LeavesBelow_L1 e s := rfl
def c_ratchetbase_LeavesBelow : FnIR := ⟨56,
  (.sq (.op 0 [⟨(some 6), none, .mv (.c (.sl 1 (some true) []))⟩] none)
  (.sq (.op 0 [⟨(some 12), none, .mv (.t 0)⟩,
    ⟨(some 13), none, .mv (.t 1)⟩,
    ⟨(some 14), none, .callV false (.c (.fn n_ratchetbase_Below [])) [(.t 12), (.t 13)]⟩,
    ⟨(some 7), none, .mv (.t 14)⟩] (some [0, 2, 7]))
  (.sq (.op 0 [⟨(some 15), none, .mv (.t 2)⟩,
    ⟨(some 16), none, .mks t_bool 1 false [.bool false] (.t 15) (.t 15)⟩,
    ⟨(some 8), none, .mv (.t 16)⟩] none)
  (.sq (.sq (.op 0 [⟨(some 9), none, .mv (.c (.int .i64 0))⟩] none)
  (.kp [2, 8] [6] (.bk 0 (.lp [] [0, 2, 7, 8, 9] c_ratchetbase_LeavesBelow_L0))))
  (.sq (.op 0 [⟨(some 10), none, .mv (.c (.sl 1 (some true) []))⟩] none)
  (.sq (.sq (.op 0 [⟨(some 11), none, .mv (.c (.int .i64 0))⟩] none)
  (.kp [10] [6] (.bk 2 (.lp [(t_int, .inl 10)] [2, 8, 10, 11] c_ratchetbase_LeavesBelow_L1))))
  (.sq (.op 0 [⟨(some 55), none, .mv (.t 10)⟩,
    ⟨(some 6), none, .mv (.t 55)⟩] none)
  .rt))))))),
  [.t 6]⟩
def b_ratchetbase_NodeValues_L1 : IR :=
 (.sq (.sq (.op 0 [⟨(some 19), none, .mv (.t 9)⟩,
   ⟨(some 20), none, .mv (.t 0)⟩,
   ⟨(some 21), none, .mv (.t 6)⟩,
   ⟨(some 22), none, .ia (.t 20) (.t 21) 4⟩,
   ⟨(some 23), none, .fa (.t 22) 2⟩,
   ⟨(some 24), none, .ld (.t 23) 1 false⟩,
   ⟨(some 25), none, .len false (.t 24)⟩,
   ⟨(some 26), none, .bin .lss (.t 19) (.t 25)⟩] (some [0, 1, 5, 6, 7, 8, 9, 26]))
 (.cd (.t 26)
  .sk
  (.ex 2)))
 (.sq (.bk 3 (.op 28 [⟨(some 29), none, .mv (.t 7)⟩,
    ⟨(some 30), none, .mv (.t 5)⟩,
    ⟨(some 31), none, .mv (.t 0)⟩,
    ⟨(some 32), none, .mv (.t 6)⟩,
    ⟨(some 33), none, .ia (.t 31) (.t 32) 4⟩,
    ⟨(some 34), none, .fa (.t 33) 2⟩,
    ⟨(some 35), none, .ld (.t 34) 1 false⟩,
    ⟨(some 36), none, .mv (.t 9)⟩,
    ⟨(some 37), none, .ia (.t 35) (.t 36) 1⟩,
    ⟨(some 38), none, .ld (.t 37) 1 false⟩,
    ⟨(some 39), none, .ia (.t 30) (.t 38) 1⟩,
    ⟨(some 40), none, .ld (.t 39) 1 false⟩,
    ⟨(some 41), none, .bsl t_int 1 false [.int .i64 0] 1 [(0, (.t 40))]⟩,
    ⟨(some 42), none, .apx (.t 29) (.t 41) t_int 1 [0, 1, 2, 3, 4, 5, 6, 7, 8, 9, 10, 11, 12]⟩,
    ⟨(some 43), none, .mv (.t 8)⟩,
    ⟨(some 44), none, .mv (.t 0)⟩,
    ⟨(some 45), none, .mv (.t 0)⟩,
    ⟨(some 46), none, .mv (.t 6)⟩,
    ⟨(some 47), none, .ia (.t 45) (.t 46) 4⟩,
    ⟨(some 48), none, .fa (.t 47) 2⟩,
    ⟨(some 49), none, .ld (.t 48) 1 false⟩,
    ⟨(some 50), none, .mv (.t 9)⟩,
    ⟨(some 51), none, .ia (.t 49) (.t 50) 1⟩,
    ⟨(some 52), none, .ld (.t 51) 1 false⟩,
    ⟨(some 53), none, .ia (.t 44) (.t 52) 4⟩,
    ⟨(some 54), none, .fa (.t 53) 1⟩,
    ⟨(some 55), none, .ld (.t 54) 1 false⟩,
    ⟨(some 56), none, .bsl t_int 1 false [.int .i64 0] 1 [(0, (.t 55))]⟩,
    ⟨(some 57), none, .app (.t 43) (.t 56) t_int 1⟩,
    ⟨(some 7), none, .mv (.t 42)⟩,
    ⟨(some 8), none, .mv (.t 57)⟩] (some [0, 1, 5, 6, 7, 8, 9])))
 (.op 0 [⟨(some 27), none, .mv (.t 9)⟩,
   ⟨(some 28), none, .bin .add (.t 27) (.c (.int .i64 1))⟩,
   ⟨(some 9), none, .mv (.t 28)⟩] none)))
def c_ratchetbase_NodeValues_L1 : IR := b_ratchetbase_NodeValues_L1
theorem u_ratchetbase_NodeValues_L1 {C : Call} {L : Loop} {π : Id} {k0 : List Id} {e : Env} {s : Sto} : evC C L π k0 c_ratchetbase_NodeValues_L1 e s = evC C L π k0 b_ratchetbase_NodeValues_L1 e s := rfl
def b_ratchetbase_NodeValues_L0 : IR :=
 (.sq (.sq (.op 0 [⟨(some 13), none, .mv (.t 6)⟩,
   ⟨(some 14), none, .mv (.t 0)⟩,
   ⟨(some 15), none, .len false (.t 14)⟩,
   ⟨(some 16), none, .bin .lss (.t 13) (.t 15)⟩] (some [0, 1, 5, 6, 16]))
 (.cd (.t 16)
  .sk
  (.ex 0)))
 (.sq (.bk 1 (.sq (.op 0 [⟨(some 7), none, .mv (.c (.sl 1 (some true) []))⟩,
    ⟨(some 8), none, .mv (.c (.sl 1 (some true) []))⟩] none)
  (.sq (.sq (.op 0 [⟨(some 9), none, .mv (.c (.int .i64 0))⟩] none)
  (.kp [0, 1, 5, 6, 7, 8] [4] (.bk 2 (.lp [(t_int, .inl 8), (t_int, .inl 7)] [0, 1, 5, 6, 7, 8, 9] c_ratchetbase_NodeValues_L1))))
  (.op 0 [⟨(some 58), none, .mv (.t 5)⟩,
    ⟨(some 59), none, .mv (.t 6)⟩,
    ⟨(some 60), none, .mv (.t 0)⟩,
    ⟨(some 61), none, .mv (.t 6)⟩,
    ⟨(some 62), none, .ia (.t 60) (.t 61) 4⟩,
    ⟨(some 63), none, .ld (.t 62) 4 true⟩,
    ⟨(some 64), none, .mv (.t 7)⟩,
    ⟨(some 65), none, .mv (.t 8)⟩,
    ⟨(some 66), none, .mv (.t 1)⟩,
    ⟨(some 67), none, .callV true (.c (.fn n_ratchetbase_Apply [])) [(.t 63), (.t 64), (.t 65), (.t 66)]⟩,
    ⟨(some 68), none, .ia (.t 58) (.t 59) 1⟩,
    ⟨none, none, .st (.t 68) (.t 67) 1⟩] (some [0, 1, 5, 6])))))
 (.op 0 [⟨(some 17), none, .mv (.t 6)⟩,
   ⟨(some 18), none, .bin .add (.t 17) (.c (.int .i64 1))⟩,
   ⟨(some 6), none, .mv (.t 18)⟩] none)))
def c_ratchetbase_NodeValues_L0 : IR := b_ratchetbase_NodeValues_L0
theorem u_ratchetbase_NodeValues_L0 {C : Call} {L : Loop} {π : Id} {k0 : List Id} {e : Env} {s : Sto} : evC C L π k0 c_ratchetbase_NodeValues_L0 e s = evC C L π k0 b_ratchetbase_NodeValues_L0 e s := rfl
def c_ratchetbase_NodeValues : FnIR := ⟨70,
  (.sq (.op 0 [⟨(some 4), none, .mv (.c (.sl 1 (some true) []))⟩] none)
  (.sq (.op 0 [⟨(some 10), none, .mv (.t 0)⟩,
    ⟨(some 11), none, .len false (.t 10)⟩,
    ⟨(some 12), none, .mks t_int 1 false [.int .i64 0] (.t 11) (.t 11)⟩,
    ⟨(some 5), none, .mv (.t 12)⟩] (some [0, 1, 5]))
  (.sq (.sq (.op 0 [⟨(some 6), none, .mv (.c (.int .i64 0))⟩] none)
  (.kp [5] [4] (.bk 0 (.lp [] [0, 1, 5, 6] c_ratchetbase_NodeValues_L0))))
  (.sq (.op 0 [⟨(some 69), none, .mv (.t 5)⟩,
    ⟨(some 4), none, .mv (.t 69)⟩] none)
  .rt)))),
  [.t 4]⟩
def b_graph_Substituted_L0 : IR :=
 (.sq (.op 0 [⟨(some 39), none, .bin .lss (.t 38) (.t 37)⟩] none)
 (.sq (.cd (.t 39)
  .sk
  (.ex 0))
 (.sq (.bk 1 (.sq (.op 0 [⟨(some 40), none, .ia (.t 36) (.t 38) 4⟩,
    ⟨(some 41), none, .ld (.t 40) 4 true⟩,
    ⟨(some 13), none, .alloc [.int .i64 0, .int .i64 0, .sl 1 (some true) [], .int .i64 0]⟩,
    ⟨none, none, .st (.t 13) (.t 41) 4⟩] (some [2, 3, 11, 13, 36, 37, 38]))
  (.sq (.op 0 [⟨(some 42), none, .ld (.t 13) 4 true⟩,
    ⟨(some 43), none, .callV true (.c (.fn n_graph_moved [])) [(.t 42), (.c (.fn n_graph_Substituted_1 []))]⟩,
    ⟨(some 14), none, .alloc [.int .i64 0, .int .i64 0, .sl 1 (some true) [], .int .i64 0]⟩,
    ⟨none, none, .st (.t 14) (.t 43) 4⟩] (some [2, 3, 11, 13, 14, 36, 37, 38]))
  (.sq (.sq (.op 0 [⟨(some 44), none, .fa (.t 13) 0⟩,
    ⟨(some 45), none, .ld (.t 44) 1 false⟩,
    ⟨(some 46), none, .bin .eql (.t 45) (.c (.int .i64 1))⟩,
    ⟨(some 47), none, .mv (.t 46)⟩,
    ⟨(some 48), (some (47, true)), .fa (.t 13) 3⟩,
    ⟨(some 49), (some (47, true)), .ld (.t 48) 1 false⟩,
    ⟨(some 50), (some (47, true)), .mv (.t 2)⟩,
    ⟨(some 51), (some (47, true)), .bin .eql (.t 49) (.t 50)⟩,
    ⟨(some 52), none, .pick (.t 47) (.t 51) (.c (.bool false))⟩] (some [2, 3, 11, 13, 14, 36, 37, 38, 52]))
  (.cd (.t 52)
   (.op 0 [⟨(some 53), none, .fa (.t 13) 1⟩,
     ⟨(some 54), none, .ld (.t 53) 1 false⟩,
     ⟨(some 55), none, .mv (.t 3)⟩,
     ⟨(some 56), none, .callV false (.c (.fn n_graph_constant [])) [(.t 54), (.t 55)]⟩,
     ⟨none, none, .st (.t 14) (.t 56) 4⟩] (some [2, 3, 11, 14, 36, 37, 38]))
   .sk))
  (.op 0 [⟨(some 57), none, .mv (.t 11)⟩,
    ⟨(some 58), none, .ld (.t 14) 4 true⟩,
    ⟨(some 59), none, .bsl t_api_Node 4 true [.int .i64 0, .int .i64 0, .sl 1 (some true) [], .int .i64 0] 1 [(0, (.t 58))]⟩,
    ⟨(some 60), none, .app (.t 57) (.t 59) t_api_Node 4⟩,
    ⟨(some 11), none, .mv (.t 60)⟩] (some [2, 3, 11, 36, 37, 38]))))))
 (.op 0 [⟨(some 61), none, .bin .add (.t 38) (.c (.int .i64 1))⟩,
   ⟨(some 38), none, .mv (.t 61)⟩] none))))
def c_graph_Substituted_L0 : IR := b_graph_Substituted_L0
theorem u_graph_Substituted_L0 {C : Call} {L : Loop} {π : Id} {k0 : List Id} {e : Env} {s : Sto} : evC C L π k0 c_graph_Substituted_L0 e s = evC C L π k0 b_graph_Substituted_L0 e s := rfl
def c_graph_Substituted : FnIR := ⟨63,
  (.sq (.op 0 [⟨(some 8), none, .mv (.c (.sl 4 (some true) []))⟩,
    ⟨(some 9), none, .mv (.c (.int .i64 0))⟩] none)
  (.sq (.sq (.op 0 [⟨(some 15), none, .mv (.t 0)⟩,
    ⟨(some 16), none, .mv (.t 1)⟩,
    ⟨(some 17), none, .callV true (.c (.fn n_graph_graphErr [])) [(.t 15), (.t 16)]⟩,
    ⟨(some 18), none, .mv (.t 2)⟩,
    ⟨(some 19), none, .mv (.t 0)⟩,
    ⟨(some 20), none, .len false (.t 19)⟩,
    ⟨(some 21), none, .bin .sub (.t 20) (.c (.int .i64 1))⟩,
    ⟨(some 22), none, .callV true (.c (.fn n_graph_within [])) [(.t 18), (.c (.int .i64 0)), (.t 21)]⟩,
    ⟨(some 23), none, .callV true (.c (.fn n_graph_unless [])) [(.t 22), (.c (.int .i64 6))]⟩,
    ⟨(some 24), none, .bsl t_api_Errno 1 false [.int .i64 0] 2 [(0, (.t 17)), (1, (.t 23))]⟩,
    ⟨(some 25), none, .callV true (.c (.fn n_graph_first [])) [(.t 24)]⟩,
    ⟨(some 10), none, .mv (.t 25)⟩] (some [0, 1, 2, 3, 10]))
  (.sq (.op 0 [⟨(some 26), none, .mv (.t 10)⟩,
    ⟨(some 27), none, .bin .neq (.t 26) (.c (.int .i64 0))⟩] none)
  (.cd (.t 27)
   (.sq (.op 0 [⟨(some 28), none, .mv (.t 10)⟩,
     ⟨(some 8), none, .mv (.c (.sl 4 (some true) []))⟩,
     ⟨(some 9), none, .mv (.t 28)⟩] none)
   .rt)
   .sk)))
  (.sq (.sq (.op 0 [⟨(some 29), none, .mv (.t 3)⟩,
    ⟨(some 30), none, .mv (.t 0)⟩,
    ⟨(some 31), none, .mv (.t 2)⟩,
    ⟨(some 32), none, .ia (.t 30) (.t 31) 1⟩,
    ⟨(some 33), none, .ld (.t 32) 1 false⟩,
    ⟨(some 34), none, .callV true (.c (.fn n_graph_fits [])) [(.t 29), (.t 33)]⟩,
    ⟨(some 35), none, .un .not (.t 34)⟩] (some [1, 2, 3, 35]))
  (.cd (.t 35)
   (.sq (.op 0 [⟨(some 8), none, .mv (.c (.sl 4 (some true) []))⟩,
     ⟨(some 9), none, .mv (.c (.int .i64 2))⟩] none)
   .rt)
   .sk))
  (.sq (.op 0 [⟨(some 11), none, .mv (.c (.sl 4 (some true) []))⟩] none)
  (.sq (.sq (.op 0 [⟨(some 36), none, .mv (.t 1)⟩,
    ⟨(some 37), none, .len false (.t 36)⟩,
    ⟨(some 38), none, .mv (.c (.int .i64 0))⟩] none)
  (.kp [11] [8, 9] (.bk 0 (.lp [(t_api_Node, .inl 11)] [2, 3, 11, 36, 37, 38] c_graph_Substituted_L0))))
  (.sq (.op 0 [⟨(some 62), none, .mv (.t 11)⟩,
    ⟨(some 8), none, .mv (.t 62)⟩,
    ⟨(some 9), none, .mv (.c (.int .i64 0))⟩] none)
  .rt)))))),
  [.t 8, .t 9]⟩
def b_graph_Appended_L0 : IR :=
 (.sq (.op 0 [⟨(some 37), none, .bin .lss (.t 36) (.t 35)⟩] none)
 (.sq (.cd (.t 37)
  .sk
  (.ex 0))
 (.sq (.bk 1 (.sq (.op 0 [⟨(some 38), none, .ia (.t 34) (.t 36) 4⟩,
    ⟨(some 39), none, .ld (.t 38) 4 true⟩,
    ⟨(some 13), none, .alloc [.int .i64 0, .int .i64 0, .sl 1 (some true) [], .int .i64 0]⟩,
    ⟨none, none, .st (.t 13) (.t 39) 4⟩] (some [2, 4, 10, 11, 13, 34, 35, 36]))
  (.op 0 [⟨(some 40), none, .mv (.t 10)⟩,
    ⟨(some 41), none, .ld (.t 13) 4 true⟩,
    ⟨(some 42), none, .callV true (.c (.fn n_graph_moved [])) [(.t 41), (.c (.fn n_graph_Appended_1 []))]⟩,
    ⟨(some 43), none, .bsl t_api_Node 4 true [.int .i64 0, .int .i64 0, .sl 1 (some true) [], .int .i64 0] 1 [(0, (.t 42))]⟩,
    ⟨(some 44), none, .app (.t 40) (.t 43) t_api_Node 4⟩,
    ⟨(some 10), none, .mv (.t 44)⟩] (some [2, 4, 10, 11, 34, 35, 36]))))
 (.op 0 [⟨(some 45), none, .bin .add (.t 36) (.c (.int .i64 1))⟩,
   ⟨(some 36), none, .mv (.t 45)⟩] none))))
def c_graph_Appended_L0 : IR := b_graph_Appended_L0
theorem u_graph_Appended_L0 {C : Call} {L : Loop} {π : Id} {k0 : List Id} {e : Env} {s : Sto} : evC C L π k0 c_graph_Appended_L0 e s = evC C L π k0 b_graph_Appended_L0 e s := rfl
def b_graph_Appended_L1 : IR :=
 (.sq (.op 0 [⟨(some 49), none, .bin .lss (.t 48) (.t 47)⟩] none)
 (.sq (.cd (.t 49)
  .sk
  (.ex 2))
 (.sq (.bk 3 (.sq (.op 0 [⟨(some 50), none, .ia (.t 46) (.t 48) 4⟩,
    ⟨(some 51), none, .ld (.t 50) 4 true⟩,
    ⟨(some 15), none, .alloc [.int .i64 0, .int .i64 0, .sl 1 (some true) [], .int .i64 0]⟩,
    ⟨none, none, .st (.t 15) (.t 51) 4⟩] (some [4, 10, 11, 15, 46, 47, 48]))
  (.sq (.op 0 [⟨(some 52), none, .mv (.t 11)⟩,
    ⟨(some 53), none, .mv (.t 10)⟩,
    ⟨(some 54), none, .len false (.t 53)⟩,
    ⟨(some 55), none, .bsl t_int 1 false [.int .i64 0] 1 [(0, (.t 54))]⟩,
    ⟨(some 56), none, .app (.t 52) (.t 55) t_int 1⟩,
    ⟨(some 11), none, .mv (.t 56)⟩] (some [4, 10, 11, 15, 46, 47, 48]))
  (.op 0 [⟨(some 57), none, .mv (.t 10)⟩,
    ⟨(some 58), none, .ld (.t 15) 4 true⟩,
    ⟨(some 59), none, .mkf n_graph_Appended_2 [(.t 4)]⟩,
    ⟨(some 60), none, .callV true (.c (.fn n_graph_moved [])) [(.t 58), (.t 59)]⟩,
    ⟨(some 61), none, .bsl t_api_Node 4 true [.int .i64 0, .int .i64 0, .sl 1 (some true) [], .int .i64 0] 1 [(0, (.t 60))]⟩,
    ⟨(some 62), none, .app (.t 57) (.t 61) t_api_Node 4⟩,
    ⟨(some 10), none, .mv (.t 62)⟩] (some [4, 10, 11, 46, 47, 48])))))
 (.op 0 [⟨(some 63), none, .bin .add (.t 48) (.c (.int .i64 1))⟩,
   ⟨(some 48), none, .mv (.t 63)⟩] none))))
def c_graph_Appended_L1 : IR := b_graph_Appended_L1
theorem u_graph_Appended_L1 {C : Call} {L : Loop} {π : Id} {k0 : List Id} {e : Env} {s : Sto} : evC C L π k0 c_graph_Appended_L1 e s = evC C L π k0 b_graph_Appended_L1 e s := rfl
def c_graph_Appended : FnIR := ⟨66,
  (.sq (.op 0 [⟨(some 4), none, .box (.t 1) 1⟩,
    ⟨(some 6), none, .mv (.c (.sl 4 (some true) []))⟩,
    ⟨(some 7), none, .mv (.c (.sl 1 (some true) []))⟩,
    ⟨(some 8), none, .mv (.c (.int .i64 0))⟩] (some [0, 2, 4]))
  (.sq (.fz [0, 2, 4] (.op 12 [⟨(some 16), none, .mv (.t 0)⟩,
    ⟨(some 17), none, .ld (.t 4) 1 false⟩,
    ⟨(some 18), none, .callV true (.c (.fn n_graph_graphErr [])) [(.t 16), (.t 17)]⟩,
    ⟨(some 19), none, .mv (.t 0)⟩,
    ⟨(some 20), none, .mv (.t 2)⟩,
    ⟨(some 21), none, .callV true (.c (.fn n_graph_graphErr [])) [(.t 19), (.t 20)]⟩,
    ⟨(some 22), none, .ld (.t 4) 1 false⟩,
    ⟨(some 23), none, .len false (.t 22)⟩,
    ⟨(some 24), none, .mv (.t 2)⟩,
    ⟨(some 25), none, .len false (.t 24)⟩,
    ⟨(some 26), none, .bin .add (.t 23) (.t 25)⟩,
    ⟨(some 27), none, .bin .leq (.t 26) (.c (.int .i64 400))⟩,
    ⟨(some 28), none, .callV true (.c (.fn n_graph_unless [])) [(.t 27), (.c (.int .i64 8))]⟩,
    ⟨(some 29), none, .bsl t_api_Errno 1 false [.int .i64 0] 3 [(0, (.t 18)), (1, (.t 21)), (2, (.t 28))]⟩,
    ⟨(some 30), none, .callV true (.c (.fn n_graph_first [])) [(.t 29)]⟩,
    ⟨(some 9), none, .mv (.t 30)⟩] (some [2, 4, 9])))
  (.sq (.sq (.op 0 [⟨(some 31), none, .mv (.t 9)⟩,
    ⟨(some 32), none, .bin .neq (.t 31) (.c (.int .i64 0))⟩] none)
  (.cd (.t 32)
   (.sq (.op 0 [⟨(some 33), none, .mv (.t 9)⟩,
     ⟨(some 6), none, .mv (.c (.sl 4 (some true) []))⟩,
     ⟨(some 7), none, .mv (.c (.sl 1 (some true) []))⟩,
     ⟨(some 8), none, .mv (.t 33)⟩] (some [6, 7, 8]))
   .rt)
   .sk))
  (.sq (.op 0 [⟨(some 10), none, .mv (.c (.sl 4 (some true) []))⟩] none)
  (.sq (.op 0 [⟨(some 11), none, .mv (.c (.sl 1 (some true) []))⟩] none)
  (.sq (.sq (.op 0 [⟨(some 34), none, .ld (.t 4) 1 false⟩,
    ⟨(some 35), none, .len false (.t 34)⟩,
    ⟨(some 36), none, .mv (.c (.int .i64 0))⟩] none)
  (.kp [2, 4, 10, 11] [6, 7, 8] (.bk 0 (.lp [(t_api_Node, .inl 10)] [2, 4, 10, 11, 34, 35, 36] c_graph_Appended_L0))))
  (.sq (.sq (.op 0 [⟨(some 46), none, .mv (.t 2)⟩,
    ⟨(some 47), none, .len false (.t 46)⟩,
    ⟨(some 48), none, .mv (.c (.int .i64 0))⟩] none)
  (.kp [10, 11] [6, 7, 8] (.bk 2 (.lp [(t_int, .inl 11), (t_api_Node, .inl 10)] [4, 10, 11, 46, 47, 48] c_graph_Appended_L1))))
  (.sq (.op 0 [⟨(some 64), none, .mv (.t 10)⟩,
    ⟨(some 65), none, .mv (.t 11)⟩,
    ⟨(some 6), none, .mv (.t 64)⟩,
    ⟨(some 7), none, .mv (.t 65)⟩,
    ⟨(some 8), none, .mv (.c (.int .i64 0))⟩] (some [6, 7, 8]))
  .rt)))))))),
  [.t 6, .t 7, .t 8]⟩
def b_ratchetref02_Appended_L0 : IR :=
 (.sq (.sq (.op 0 [⟨(some 11), none, .mv (.t 8)⟩,
   ⟨(some 12), none, .mv (.t 1)⟩,
   ⟨(some 13), none, .len false (.t 12)⟩,
   ⟨(some 14), none, .bin .lss (.t 11) (.t 13)⟩] (some [0, 1, 6, 7, 8, 14]))
 (.cd (.t 14)
  .sk
  (.ex 0)))
 (.sq (.bk 1 (.sq (.op 0 [⟨(some 17), none, .mv (.t 7)⟩,
    ⟨(some 18), none, .mv (.t 0)⟩,
    ⟨(some 19), none, .len false (.t 18)⟩,
    ⟨(some 20), none, .mv (.t 8)⟩,
    ⟨(some 21), none, .bin .add (.t 19) (.t 20)⟩,
    ⟨(some 22), none, .bsl t_int 1 false [.int .i64 0] 1 [(0, (.t 21))]⟩,
    ⟨(some 23), none, .app (.t 17) (.t 22) t_int 1⟩,
    ⟨(some 7), none, .mv (.t 23)⟩] (some [0, 1, 6, 7, 8]))
  (.op 0 [⟨(some 24), none, .mv (.t 6)⟩,
    ⟨(some 25), none, .mv (.t 1)⟩,
    ⟨(some 26), none, .mv (.t 8)⟩,
    ⟨(some 27), none, .ia (.t 25) (.t 26) 4⟩,
    ⟨(some 28), none, .ld (.t 27) 4 true⟩,
    ⟨(some 29), none, .mv (.t 7)⟩,
    ⟨(some 30), none, .callV false (.c (.fn n_ratchetref02_moved [])) [(.t 28), (.t 29)]⟩,
    ⟨(some 31), none, .bsl t_api_Node 4 true [.int .i64 0, .int .i64 0, .sl 1 (some true) [], .int .i64 0] 1 [(0, (.t 30))]⟩,
    ⟨(some 32), none, .app (.t 24) (.t 31) t_api_Node 4⟩,
    ⟨(some 6), none, .mv (.t 32)⟩] (some [0, 1, 6, 7, 8]))))
 (.op 0 [⟨(some 15), none, .mv (.t 8)⟩,
   ⟨(some 16), none, .bin .add (.t 15) (.c (.int .i64 1))⟩,
   ⟨(some 8), none, .mv (.t 16)⟩] none)))
def c_ratchetref02_Appended_L0 : IR := b_ratchetref02_Appended_L0
theorem u_ratchetref02_Appended_L0 {C : Call} {L : Loop} {π : Id} {k0 : List Id} {e : Env} {s : Sto} : evC C L π k0 c_ratchetref02_Appended_L0 e s = evC C L π k0 b_ratchetref02_Appended_L0 e s := rfl
def c_ratchetref02_Appended : FnIR := ⟨35,
  (.sq (.op 0 [⟨(some 4), none, .mv (.c (.sl 4 (some true) []))⟩,
    ⟨(some 5), none, .mv (.c (.sl 1 (some true) []))⟩] none)
  (.sq (.op 0 [⟨(some 9), none, .mv (.t 0)⟩,
    ⟨(some 10), none, .callV false (.c (.fn n_ratchetbase_CopyNodes [])) [(.t 9)]⟩,
    ⟨(some 6), none, .mv (.t 10)⟩] none)
  (.sq (.op 0 [⟨(some 7), none, .mv (.c (.sl 1 (some true) []))⟩] none)
  (.sq (.sq (.op 0 [⟨(some 8), none, .mv (.c (.int .i64 0))⟩] none)
  (.kp [6, 7] [4, 5] (.bk 0 (.lp [(t_int, .inl 7), (t_api_Node, .inl 6)] [0, 1, 6, 7, 8] c_ratchetref02_Appended_L0))))
  (.sq (.op 0 [⟨(some 33), none, .mv (.t 6)⟩,
    ⟨(some 34), none, .mv (.t 7)⟩,
    ⟨(some 4), none, .mv (.t 33)⟩,
    ⟨(some 5), none, .mv (.t 34)⟩] (some [4, 5]))
  .rt))))),
  [.t 4, .t 5]⟩
def b_ratchetbase_SameNodes_L0 : IR :=
 (.sq (.sq (.op 0 [⟨(some 11), none, .mv (.t 5)⟩,
   ⟨(some 12), none, .mv (.t 0)⟩,
   ⟨(some 13), none, .len false (.t 12)⟩,
   ⟨(some 14), none, .bin .lss (.t 11) (.t 13)⟩] (some [0, 1, 5, 14]))
 (.cd (.t 14)
  .sk
  (.ex 0)))
 (.sq (.bk 1 (.sq (.op 48 [⟨(some 17), none, .mv (.t 0)⟩,
    ⟨(some 18), none, .mv (.t 5)⟩,
    ⟨(some 19), none, .ia (.t 17) (.t 18) 4⟩,
    ⟨(some 20), none, .fa (.t 19) 0⟩,
    ⟨(some 21), none, .ld (.t 20) 1 false⟩,
    ⟨(some 22), none, .mv (.t 1)⟩,
    ⟨(some 23), none, .mv (.t 5)⟩,
    ⟨(some 24), none, .ia (.t 22) (.t 23) 4⟩,
    ⟨(some 25), none, .fa (.t 24) 0⟩,
    ⟨(some 26), none, .ld (.t 25) 1 false⟩,
    ⟨(some 27), none, .bin .neq (.t 21) (.t 26)⟩,
    ⟨(some 28), none, .mv (.t 27)⟩,
    ⟨(some 29), (some (28, false)), .mv (.t 0)⟩,
    ⟨(some 30), (some (28, false)), .mv (.t 5)⟩,
    ⟨(some 31), (some (28, false)), .ia (.t 29) (.t 30) 4⟩,
    ⟨(some 32), (some (28, false)), .fa (.t 31) 1⟩,
    ⟨(some 33), (some (28, false)), .ld (.t 32) 1 false⟩,
    ⟨(some 34), (some (28, false)), .mv (.t 1)⟩,
    ⟨(some 35), (some (28, false)), .mv (.t 5)⟩,
    ⟨(some 36), (some (28, false)), .ia (.t 34) (.t 35) 4⟩,
    ⟨(some 37), (some (28, false)), .fa (.t 36) 1⟩,
    ⟨(some 38), (some (28, false)), .ld (.t 37) 1 false⟩,
    ⟨(some 39), (some (28, false)), .bin .neq (.t 33) (.t 38)⟩,
    ⟨(some 40), none, .pick (.t 28) (.c (.bool true)) (.t 39)⟩,
    ⟨(some 41), none, .mv (.t 40)⟩,
    ⟨(some 42), (some (41, false)), .mv (.t 0)⟩,
    ⟨(some 43), (some (41, false)), .mv (.t 5)⟩,
    ⟨(some 44), (some (41, false)), .ia (.t 42) (.t 43) 4⟩,
    ⟨(some 45), (some (41, false)), .fa (.t 44) 3⟩,
    ⟨(some 46), (some (41, false)), .ld (.t 45) 1 false⟩,
    ⟨(some 47), (some (41, false)), .mv (.t 1)⟩,
    ⟨(some 48), (some (41, false)), .mv (.t 5)⟩,
    ⟨(some 49), (some (41, false)), .ia (.t 47) (.t 48) 4⟩,
    ⟨(some 50), (some (41, false)), .fa (.t 49) 3⟩,
    ⟨(some 51), (some (41, false)), .ld (.t 50) 1 false⟩,
    ⟨(some 52), (some (41, false)), .bin .neq (.t 46) (.t 51)⟩,
    ⟨(some 53), none, .pick (.t 41) (.c (.bool true)) (.t 52)⟩,
    ⟨(some 54), none, .mv (.t 53)⟩,
    ⟨(some 55), (some (54, false)), .mv (.t 0)⟩,
    ⟨(some 56), (some (54, false)), .mv (.t 5)⟩,
    ⟨(some 57), (some (54, false)), .ia (.t 55) (.t 56) 4⟩,
    ⟨(some 58), (some (54, false)), .fa (.t 57) 2⟩,
    ⟨(some 59), (some (54, false)), .ld (.t 58) 1 false⟩,
    ⟨(some 60), (some (54, false)), .mv (.t 1)⟩,
    ⟨(some 61), (some (54, false)), .mv (.t 5)⟩,
    ⟨(some 62), (some (54, false)), .ia (.t 60) (.t 61) 4⟩,
    ⟨(some 63), (some (54, false)), .fa (.t 62) 2⟩,
    ⟨(some 64), (some (54, false)), .ld (.t 63) 1 false⟩,
    ⟨(some 65), (some (54, false)), .callV true (.c (.fn n_ratchetbase_Ints [])) [(.t 59), (.t 64)]⟩,
    ⟨(some 66), (some (54, false)), .un .not (.t 65)⟩,
    ⟨(some 67), none, .pick (.t 54) (.c (.bool true)) (.t 66)⟩] (some [0, 1, 5, 67]))
  (.cd (.t 67)
   (.sq (.op 0 [⟨(some 4), none, .mv (.c (.bool false))⟩] none)
   .rt)
   .sk)))
 (.op 0 [⟨(some 15), none, .mv (.t 5)⟩,
   ⟨(some 16), none, .bin .add (.t 15) (.c (.int .i64 1))⟩,
   ⟨(some 5), none, .mv (.t 16)⟩] none)))
def c_ratchetbase_SameNodes_L0 : IR := b_ratchetbase_SameNodes_L0
theorem u_ratchetbase_SameNodes_L0 {C : Call} {L : Loop} {π : Id} {k0 : List Id} {e : Env} {s : Sto} : evC C L π k0 c_ratchetbase_SameNodes_L0 e s = evC C L π k0 b_ratchetbase_SameNodes_L0 e s := rfl
def c_ratchetbase_SameNodes : FnIR := ⟨68,
  (.sq (.op 0 [⟨(some 4), none, .mv (.c (.bool false))⟩] none)
  (.sq (.sq (.op 0 [⟨(some 6), none, .mv (.t 0)⟩,
    ⟨(some 7), none, .len false (.t 6)⟩,
    ⟨(some 8), none, .mv (.t 1)⟩,
    ⟨(some 9), none, .len false (.t 8)⟩,
    ⟨(some 10), none, .bin .neq (.t 7) (.t 9)⟩] (some [0, 1, 10]))
  (.cd (.t 10)
   (.sq (.op 0 [⟨(some 4), none, .mv (.c (.bool false))⟩] none)
   .rt)
   .sk))
  (.sq (.sq (.op 0 [⟨(some 5), none, .mv (.c (.int .i64 0))⟩] none)
  (.kp [] [4] (.bk 0 (.lp [] [0, 1, 5] c_ratchetbase_SameNodes_L0))))
  (.sq (.op 0 [⟨(some 4), none, .mv (.c (.bool true))⟩] none)
  .rt)))),
  [.t 4]⟩
def c_ratchetbase_Within : FnIR := ⟨15,
  (.sq (.op 0 [⟨(some 6), none, .mv (.c (.bool false))⟩] none)
  (.sq (.op 0 [⟨(some 7), none, .mv (.t 1)⟩,
    ⟨(some 8), none, .mv (.t 0)⟩,
    ⟨(some 9), none, .bin .leq (.t 7) (.t 8)⟩,
    ⟨(some 10), none, .mv (.t 9)⟩,
    ⟨(some 11), (some (10, true)), .mv (.t 0)⟩,
    ⟨(some 12), (some (10, true)), .mv (.t 2)⟩,
    ⟨(some 13), (some (10, true)), .bin .leq (.t 11) (.t 12)⟩,
    ⟨(some 14), none, .pick (.t 10) (.t 13) (.c (.bool false))⟩,
    ⟨(some 6), none, .mv (.t 14)⟩] (some [6]))
  .rt)),
  [.t 6]⟩
def c_ratchetbase_Fits : FnIR := ⟨10,
  (.sq (.op 0 [⟨(some 4), none, .mv (.c (.bool false))⟩] none)
  (.sq (.op 0 [⟨(some 5), none, .mv (.t 0)⟩,
    ⟨(some 6), none, .mv (.t 1)⟩,
    ⟨(some 7), none, .callV true (.c (.fn n_ratchetbase_Power [])) [(.t 6)]⟩,
    ⟨(some 8), none, .bin .sub (.t 7) (.c (.int .i64 1))⟩,
    ⟨(some 9), none, .callV true (.c (.fn n_ratchetbase_Within [])) [(.t 5), (.c (.int .i64 0)), (.t 8)]⟩,
    ⟨(some 4), none, .mv (.t 9)⟩] (some [4]))
  .rt)),
  [.t 4]⟩
def b_ratchetref02_Substituted_L0 : IR :=
 (.sq (.sq (.op 0 [⟨(some 11), none, .mv (.t 8)⟩,
   ⟨(some 12), none, .mv (.t 7)⟩,
   ⟨(some 13), none, .len false (.t 12)⟩,
   ⟨(some 14), none, .bin .lss (.t 11) (.t 13)⟩] (some [1, 2, 7, 8, 14]))
 (.cd (.t 14)
  .sk
  (.ex 0)))
 (.sq (.bk 1 (.sq (.op 0 [⟨(some 17), none, .mv (.t 7)⟩,
    ⟨(some 18), none, .mv (.t 8)⟩,
    ⟨(some 19), none, .ia (.t 17) (.t 18) 4⟩,
    ⟨(some 20), none, .fa (.t 19) 0⟩,
    ⟨(some 21), none, .ld (.t 20) 1 false⟩,
    ⟨(some 22), none, .bin .eql (.t 21) (.c (.int .i64 1))⟩,
    ⟨(some 23), none, .mv (.t 22)⟩,
    ⟨(some 24), (some (23, true)), .mv (.t 7)⟩,
    ⟨(some 25), (some (23, true)), .mv (.t 8)⟩,
    ⟨(some 26), (some (23, true)), .ia (.t 24) (.t 25) 4⟩,
    ⟨(some 27), (some (23, true)), .fa (.t 26) 3⟩,
    ⟨(some 28), (some (23, true)), .ld (.t 27) 1 false⟩,
    ⟨(some 29), (some (23, true)), .mv (.t 1)⟩,
    ⟨(some 30), (some (23, true)), .bin .eql (.t 28) (.t 29)⟩,
    ⟨(some 31), none, .pick (.t 23) (.t 30) (.c (.bool false))⟩] (some [1, 2, 7, 8, 31]))
  (.cd (.t 31)
   (.op 0 [⟨(some 32), none, .mv (.t 7)⟩,
     ⟨(some 33), none, .mv (.t 8)⟩,
     ⟨(some 34), none, .mv (.t 7)⟩,
     ⟨(some 35), none, .mv (.t 8)⟩,
     ⟨(some 36), none, .ia (.t 34) (.t 35) 4⟩,
     ⟨(some 37), none, .fa (.t 36) 1⟩,
     ⟨(some 38), none, .ld (.t 37) 1 false⟩,
     ⟨(some 39), none, .mv (.t 2)⟩,
     ⟨(some 40), none, .build [.int .i64 0, .int .i64 0, .sl 1 (some true) [], .int .i64 0] [(0, 1, (.c (.int .i64 0))), (1, 1, (.t 38)), (3, 1, (.t 39))]⟩,
     ⟨(some 41), none, .ia (.t 32) (.t 33) 4⟩,
     ⟨none, none, .st (.t 41) (.t 40) 4⟩] (some [1, 2, 7, 8]))
   .sk)))
 (.op 0 [⟨(some 15), none, .mv (.t 8)⟩,
   ⟨(some 16), none, .bin .add (.t 15) (.c (.int .i64 1))⟩,
   ⟨(some 8), none, .mv (.t 16)⟩] none)))
def c_ratchetref02_Substituted_L0 : IR := b_ratchetref02_Substituted_L0
theorem u_ratchetref02_Substituted_L0 {C : Call} {L : Loop} {π : Id} {k0 : List Id} {e : Env} {s : Sto} : evC C L π k0 c_ratchetref02_Substituted_L0 e s = evC C L π k0 b_ratchetref02_Substituted_L0 e s := rfl
def c_ratchetref02_Substituted : FnIR := ⟨43,
  (.sq (.op 0 [⟨(some 6), none, .mv (.c (.sl 4 (some true) []))⟩] none)
  (.sq (.op 0 [⟨(some 9), none, .mv (.t 0)⟩,
    ⟨(some 10), none, .callV false (.c (.fn n_ratchetbase_CopyNodes [])) [(.t 9)]⟩,
    ⟨(some 7), none, .mv (.t 10)⟩] none)
  (.sq (.sq (.op 0 [⟨(some 8), none, .mv (.c (.int .i64 0))⟩] none)
  (.kp [7] [6] (.bk 0 (.lp [] [1, 2, 7, 8] c_ratchetref02_Substituted_L0))))
  (.sq (.op 0 [⟨(some 42), none, .mv (.t 7)⟩,
    ⟨(some 6), none, .mv (.t 42)⟩] none)
  .rt)))),
  [.t 6]⟩
def b_graph_SharedOf_L0 : IR :=
 (.sq (.op 0 [⟨(some 27), none, .bin .lss (.t 26) (.t 25)⟩] none)
 (.sq (.cd (.t 27)
  .sk
  (.ex 0))
 (.sq (.bk 1 (.sq (.op 0 [⟨(some 28), none, .ia (.t 24) (.t 26) 4⟩,
    ⟨(some 29), none, .ld (.t 28) 4 true⟩,
    ⟨(some 12), none, .alloc [.int .i64 0, .int .i64 0, .sl 1 (some true) [], .int .i64 0]⟩,
    ⟨none, none, .st (.t 12) (.t 29) 4⟩] (some [8, 9, 10, 12, 24, 25, 26]))
  (.sq (.op 5 [⟨(some 30), none, .ld (.t 12) 4 true⟩,
    ⟨(some 31), none, .mv (.t 10)⟩,
    ⟨(some 32), none, .callV true (.c (.fn n_graph_mapped [])) [(.t 31)]⟩,
    ⟨(some 33), none, .callV true (.c (.fn n_graph_moved [])) [(.t 30), (.t 32)]⟩,
    ⟨(some 13), none, .alloc [.int .i64 0, .int .i64 0, .sl 1 (some true) [], .int .i64 0]⟩,
    ⟨none, none, .st (.t 13) (.t 33) 4⟩] (some [8, 9, 10, 13, 24, 25, 26]))
  (.sq (.op 0 [⟨(some 34), none, .fa (.t 13) 0⟩,
    ⟨(some 35), none, .ld (.t 34) 1 false⟩,
    ⟨(some 36), none, .fa (.t 13) 1⟩,
    ⟨(some 37), none, .ld (.t 36) 1 false⟩,
    ⟨(some 38), none, .fa (.t 13) 3⟩,
    ⟨(some 39), none, .ld (.t 38) 1 false⟩,
    ⟨(some 40), none, .build [.int .i64 0, .int .i64 0, .int .i64 0, .int .i64 0, .int .i64 0, .int .i64 0] [(0, 1, (.t 35)), (1, 1, (.t 37)), (2, 1, (.t 39))]⟩,
    ⟨(some 14), none, .alloc [.int .i64 0, .int .i64 0, .int .i64 0, .int .i64 0, .int .i64 0, .int .i64 0]⟩,
    ⟨none, none, .st (.t 14) (.t 40) 6⟩] (some [8, 9, 10, 13, 14, 24, 25, 26]))
  (.sq (.op 4 [⟨(some 41), none, .fa (.t 14) 3⟩,
    ⟨(some 42), none, .bad⟩,
    ⟨(some 43), none, .fa (.t 13) 2⟩,
    ⟨(some 44), none, .ld (.t 43) 1 false⟩,
    ⟨(some 45), none, .cpy (.t 42) (.t 44) 1⟩] (some [8, 9, 10, 13, 14, 24, 25, 26]))
  (.sq (.op 0 [⟨(some 47), none, .mv (.t 8)⟩,
    ⟨(some 48), none, .ld (.t 14) 6 true⟩,
    ⟨(some 49), none, .bad⟩,
    ⟨(some 46), none, .mv (.t 49)⟩,
    ⟨(some 50), none, .ext (.t 46) 0⟩,
    ⟨(some 51), none, .ext (.t 46) 1⟩,
    ⟨(some 15), none, .mv (.t 50)⟩,
    ⟨(some 16), none, .mv (.t 51)⟩] (some [8, 9, 10, 13, 14, 15, 16, 24, 25, 26]))
  (.sq (.sq (.op 0 [⟨(some 52), none, .mv (.t 16)⟩,
    ⟨(some 53), none, .un .not (.t 52)⟩] none)
  (.cd (.t 53)
   (.sq (.op 0 [⟨(some 54), none, .mv (.t 9)⟩,
     ⟨(some 55), none, .len false (.t 54)⟩,
     ⟨(some 15), none, .mv (.t 55)⟩] none)
   (.sq (.op 0 [⟨(some 56), none, .mv (.t 8)⟩,
     ⟨(some 57), none, .ld (.t 14) 6 true⟩,
     ⟨(some 58), none, .mv (.t 15)⟩,
     ⟨none, none, .bad⟩] (some [8, 9, 10, 13, 15, 24, 25, 26]))
   (.op 0 [⟨(some 59), none, .mv (.t 9)⟩,
     ⟨(some 60), none, .ld (.t 13) 4 true⟩,
     ⟨(some 61), none, .bsl t_api_Node 4 true [.int .i64 0, .int .i64 0, .sl 1 (some true) [], .int .i64 0] 1 [(0, (.t 60))]⟩,
     ⟨(some 62), none, .app (.t 59) (.t 61) t_api_Node 4⟩,
     ⟨(some 9), none, .mv (.t 62)⟩] (some [8, 9, 10, 15, 24, 25, 26]))))
   .sk))
  (.op 0 [⟨(some 63), none, .mv (.t 10)⟩,
    ⟨(some 64), none, .mv (.t 15)⟩,
    ⟨(some 65), none, .bsl t_int 1 false [.int .i64 0] 1 [(0, (.t 64))]⟩,
    ⟨(some 66), none, .app (.t 63) (.t 65) t_int 1⟩,
    ⟨(some 10), none, .mv (.t 66)⟩] (some [8, 9, 10, 24, 25, 26])))))))))
 (.op 0 [⟨(some 67), none, .bin .add (.t 26) (.c (.int .i64 1))⟩,
   ⟨(some 26), none, .mv (.t 67)⟩] none))))
def c_graph_SharedOf_L0 : IR := b_graph_SharedOf_L0
theorem u_graph_SharedOf_L0 {C : Call} {L : Loop} {π : Id} {k0 : List Id} {e : Env} {s : Sto} : evC C L π k0 c_graph_SharedOf_L0 e s = evC C L π k0 b_graph_SharedOf_L0 e s := rfl
def c_graph_SharedOf : FnIR := ⟨70,
  (.sq (.op 0 [⟨(some 4), none, .mv (.c (.sl 4 (some true) []))⟩,
    ⟨(some 5), none, .mv (.c (.sl 1 (some true) []))⟩,
    ⟨(some 6), none, .mv (.c (.int .i64 0))⟩] none)
  (.sq (.sq (.op 0 [⟨(some 17), none, .mv (.t 0)⟩,
    ⟨(some 18), none, .mv (.t 1)⟩,
    ⟨(some 19), none, .callV true (.c (.fn n_graph_graphErr [])) [(.t 17), (.t 18)]⟩,
    ⟨(some 7), none, .mv (.t 19)⟩] (some [1, 7]))
  (.sq (.op 0 [⟨(some 20), none, .mv (.t 7)⟩,
    ⟨(some 21), none, .bin .neq (.t 20) (.c (.int .i64 0))⟩] none)
  (.cd (.t 21)
   (.sq (.op 0 [⟨(some 22), none, .mv (.t 7)⟩,
     ⟨(some 4), none, .mv (.c (.sl 4 (some true) []))⟩,
     ⟨(some 5), none, .mv (.c (.sl 1 (some true) []))⟩,
     ⟨(some 6), none, .mv (.t 22)⟩] (some [4, 5, 6]))
   .rt)
   .sk)))
  (.sq (.op 0 [⟨(some 23), none, .bad⟩,
    ⟨(some 8), none, .mv (.t 23)⟩] none)
  (.sq (.op 0 [⟨(some 9), none, .mv (.c (.sl 4 (some true) []))⟩] none)
  (.sq (.op 0 [⟨(some 10), none, .mv (.c (.sl 1 (some true) []))⟩] none)
  (.sq (.sq (.op 0 [⟨(some 24), none, .mv (.t 1)⟩,
    ⟨(some 25), none, .len false (.t 24)⟩,
    ⟨(some 26), none, .mv (.c (.int .i64 0))⟩] none)
  (.kp [9, 10] [4, 5, 6] (.bk 0 (.lp [(t_api_Node, .inl 9), (t_int, .inl 10)] [8, 9, 10, 24, 25, 26] c_graph_SharedOf_L0))))
  (.sq (.op 0 [⟨(some 68), none, .mv (.t 9)⟩,
    ⟨(some 69), none, .mv (.t 10)⟩,
    ⟨(some 4), none, .mv (.t 68)⟩,
    ⟨(some 5), none, .mv (.t 69)⟩,
    ⟨(some 6), none, .mv (.c (.int .i64 0))⟩] (some [4, 5, 6]))
  .rt))))))),
  [.t 4, .t 5, .t 6]⟩

end Go.Proofs.YtglelclmlkeheaaGreatDoor.V
