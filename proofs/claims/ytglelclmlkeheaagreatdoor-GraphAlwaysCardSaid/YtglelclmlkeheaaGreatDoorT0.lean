/- The functions of the program in the small language. Printed by a program of this work. -/
import Derived.Test.YtglelclmlkeheaaGreatDoorK4

set_option linter.unusedSimpArgs false
set_option linter.unusedVariables false

/- The functions of the program in the small language. Printed by a program of this work. -/
namespace Go.Proofs.YtglelclmlkeheaaGreatDoor.V
open Go (IntKind BinOp UnOp)

def n_ratchetlaw02_GraphAlways : Nat := 5
def n_ratchetlaw02_awake : Nat := 9
def n_ratchetlaw02_few : Nat := 10
def n_graph_CheckNodes : Nat := 11
def n_ratchetbase_CopyInts : Nat := 12
def n_ratchetbase_CopyNodes : Nat := 13
def n_ratchetref02_CheckNodes : Nat := 14
def n_ratchetref02_NodesErr : Nat := 15
def n_ratchetref02_ValuesErr : Nat := 16
def n_ratchetref02_FromErr : Nat := 17
def n_ratchetlaw02_light : Nat := 18
def n_graph_LeavesOf : Nat := 19
def n_graph_ValuesOf : Nat := 20
def n_ratchetbase_Power : Nat := 22
def n_graph_DifferenceOf : Nat := 23
def n_graph_ConstantAt : Nat := 24
def n_ratchetlaw02_both : Nat := 25
def n_ratchetref02_Bits : Nat := 26
def n_ratchetref02_Constant : Nat := 27
def n_ratchetref02_Difference : Nat := 28
def n_ratchetbase_Ints : Nat := 29
def n_graph_BelowOf : Nat := 30
def n_graph_DepthsOf : Nat := 31
def n_ratchetref02_Below : Nat := 33
def n_ratchetbase_LeavesBelow : Nat := 34
def n_ratchetbase_NodeValues : Nat := 35
def n_graph_Substituted : Nat := 36
def n_graph_Appended : Nat := 37
def n_ratchetbase_Within : Nat := 40
def n_ratchetbase_Fits : Nat := 41
def n_ratchetlaw02_Leaves : Nat := 49
def n_ratchetlaw02_Nodes : Nat := 50
def n_graph_FormatNodes : Nat := 51
def n_graph_each_int : Nat := 52
def n_graph_CheckNodes_1 : Nat := 53
def n_graph_unless : Nat := 54
def n_graph_isWidth : Nat := 55
def n_graph_operations : Nat := 56
def n_graph_each_api_Node : Nat := 57
def n_graph_CheckNodes_2 : Nat := 58
def n_graph_first : Nat := 59
def n_graph_within : Nat := 60
def n_slices_ContainsFunc_int_int : Nat := 61
def n_graph_CheckNodes_2_1 : Nat := 62
def n_graph_valueErr : Nat := 63
def n_ratchetbase_IsWidth : Nat := 64
def n_ratchetbase_NodesErr : Nat := 65
def n_ratchetbase_IsValues : Nat := 66
def n_ratchetbase_IsNode : Nat := 67
def n_graph_namedErr : Nat := 68
def n_graph_leavesBelow : Nat := 69
def n_graph_graphErr : Nat := 70
def n_graph_ValuesOf_1 : Nat := 71
def n_graph_fits : Nat := 72
def n_graph_valued : Nat := 73
def n_graph_bitsErr : Nat := 74
def n_graph_runs : Nat := 75
def n_slices_Clone_int_int : Nat := 76
def n_ratchetref02_Tries : Nat := 77
def n_graph_below : Nat := 78
def n_ratchetbase_Below : Nat := 79
def n_ratchetbase_Apply : Nat := 80
def n_graph_moved : Nat := 81
def n_graph_Substituted_1 : Nat := 82
def n_graph_constant : Nat := 83
def n_graph_Appended_1 : Nat := 84
def n_graph_Appended_2 : Nat := 85
def n_graph_applied : Nat := 90
def n_strconv_Itoa : Nat := 91
def n_strings_Join : Nat := 92
def n_graph_operations_1 : Nat := 93
def n_graph_anyWidth : Nat := 94
def n_graph_same : Nat := 95
def n_graph_operations_2 : Nat := 96
def n_graph_mask : Nat := 97
def n_graph_binary : Nat := 98
def n_graph_operations_3 : Nat := 99
def n_graph_operations_4 : Nat := 100
def n_graph_operations_5 : Nat := 101
def n_graph_operations_6 : Nat := 102
def n_graph_operations_7 : Nat := 103
def n_graph_operations_8 : Nat := 104
def n_graph_relation : Nat := 105
def n_graph_operations_9 : Nat := 106
def n_graph_operations_10 : Nat := 107
def n_graph_operations_11 : Nat := 108
def n_graph_signed : Nat := 109
def n_graph_operations_12 : Nat := 110
def n_graph_operations_13 : Nat := 111
def n_graph_operations_14 : Nat := 112
def n_graph_operations_15 : Nat := 113
def n_graph_operations_16 : Nat := 114
def n_graph_operations_17 : Nat := 115
def n_graph_extended : Nat := 116
def n_graph_operations_18 : Nat := 117
def n_graph_operations_19 : Nat := 118
def n_graph_shifted : Nat := 119
def n_graph_operations_20 : Nat := 120
def n_graph_operations_21 : Nat := 121
def n_slices_IndexFunc_int_int : Nat := 122
def n_ratchetbase_nodeErr : Nat := 123
def n_graph_namedErr_1 : Nat := 124
def n_slices_Sort_int_int : Nat := 125
def n_slices_Compact_int_int : Nat := 126
def n_graph_runs_1 : Nat := 127
def n_slices_Backward_api_Node_api_Node : Nat := 128
def n_ratchetbase_Bit : Nat := 129
def n_ratchetbase_Signed : Nat := 130
def n_graph_same_1 : Nat := 136
def n_graph_binary_1 : Nat := 137
def n_graph_compared : Nat := 138
def n_graph_relation_1 : Nat := 139
def n_graph_truth : Nat := 140
def n_ratchetbase_ArgCount : Nat := 141
def n_ratchetbase_widthsFit : Nat := 142
def n_slices_Backward_api_Node_api_Node_1 : Nat := 145
@[simp] theorem y_ratchetlaw02_GraphAlways : (n_ratchetlaw02_GraphAlways = yieldF) = False := eq_false (by decide)
@[simp] theorem y_ratchetlaw02_awake : (n_ratchetlaw02_awake = yieldF) = False := eq_false (by decide)
@[simp] theorem y_ratchetlaw02_few : (n_ratchetlaw02_few = yieldF) = False := eq_false (by decide)
@[simp] theorem y_graph_CheckNodes : (n_graph_CheckNodes = yieldF) = False := eq_false (by decide)
@[simp] theorem y_ratchetbase_CopyInts : (n_ratchetbase_CopyInts = yieldF) = False := eq_false (by decide)
@[simp] theorem y_ratchetbase_CopyNodes : (n_ratchetbase_CopyNodes = yieldF) = False := eq_false (by decide)
@[simp] theorem y_ratchetref02_CheckNodes : (n_ratchetref02_CheckNodes = yieldF) = False := eq_false (by decide)
@[simp] theorem y_ratchetref02_NodesErr : (n_ratchetref02_NodesErr = yieldF) = False := eq_false (by decide)
@[simp] theorem y_ratchetref02_ValuesErr : (n_ratchetref02_ValuesErr = yieldF) = False := eq_false (by decide)
@[simp] theorem y_ratchetref02_FromErr : (n_ratchetref02_FromErr = yieldF) = False := eq_false (by decide)
@[simp] theorem y_ratchetlaw02_light : (n_ratchetlaw02_light = yieldF) = False := eq_false (by decide)
@[simp] theorem y_graph_LeavesOf : (n_graph_LeavesOf = yieldF) = False := eq_false (by decide)
@[simp] theorem y_graph_ValuesOf : (n_graph_ValuesOf = yieldF) = False := eq_false (by decide)
@[simp] theorem y_ratchetbase_Power : (n_ratchetbase_Power = yieldF) = False := eq_false (by decide)
@[simp] theorem y_graph_DifferenceOf : (n_graph_DifferenceOf = yieldF) = False := eq_false (by decide)
@[simp] theorem y_graph_ConstantAt : (n_graph_ConstantAt = yieldF) = False := eq_false (by decide)
@[simp] theorem y_ratchetlaw02_both : (n_ratchetlaw02_both = yieldF) = False := eq_false (by decide)
@[simp] theorem y_ratchetref02_Bits : (n_ratchetref02_Bits = yieldF) = False := eq_false (by decide)
@[simp] theorem y_ratchetref02_Constant : (n_ratchetref02_Constant = yieldF) = False := eq_false (by decide)
@[simp] theorem y_ratchetref02_Difference : (n_ratchetref02_Difference = yieldF) = False := eq_false (by decide)
@[simp] theorem y_ratchetbase_Ints : (n_ratchetbase_Ints = yieldF) = False := eq_false (by decide)
@[simp] theorem y_graph_BelowOf : (n_graph_BelowOf = yieldF) = False := eq_false (by decide)
@[simp] theorem y_graph_DepthsOf : (n_graph_DepthsOf = yieldF) = False := eq_false (by decide)
@[simp] theorem y_ratchetref02_Below : (n_ratchetref02_Below = yieldF) = False := eq_false (by decide)
@[simp] theorem y_ratchetbase_LeavesBelow : (n_ratchetbase_LeavesBelow = yieldF) = False := eq_false (by decide)
@[simp] theorem y_ratchetbase_NodeValues : (n_ratchetbase_NodeValues = yieldF) = False := eq_false (by decide)
@[simp] theorem y_graph_Substituted : (n_graph_Substituted = yieldF) = False := eq_false (by decide)
@[simp] theorem y_graph_Appended : (n_graph_Appended = yieldF) = False := eq_false (by decide)
@[simp] theorem y_ratchetbase_Within : (n_ratchetbase_Within = yieldF) = False := eq_false (by decide)
@[simp] theorem y_ratchetbase_Fits : (n_ratchetbase_Fits = yieldF) = False := eq_false (by decide)
@[simp] theorem y_ratchetlaw02_Leaves : (n_ratchetlaw02_Leaves = yieldF) = False := eq_false (by decide)
@[simp] theorem y_ratchetlaw02_Nodes : (n_ratchetlaw02_Nodes = yieldF) = False := eq_false (by decide)
@[simp] theorem y_graph_FormatNodes : (n_graph_FormatNodes = yieldF) = False := eq_false (by decide)
@[simp] theorem y_graph_each_int : (n_graph_each_int = yieldF) = False := eq_false (by decide)
@[simp] theorem y_graph_CheckNodes_1 : (n_graph_CheckNodes_1 = yieldF) = False := eq_false (by decide)
@[simp] theorem y_graph_unless : (n_graph_unless = yieldF) = False := eq_false (by decide)
@[simp] theorem y_graph_isWidth : (n_graph_isWidth = yieldF) = False := eq_false (by decide)
@[simp] theorem y_graph_operations : (n_graph_operations = yieldF) = False := eq_false (by decide)
@[simp] theorem y_graph_each_api_Node : (n_graph_each_api_Node = yieldF) = False := eq_false (by decide)
@[simp] theorem y_graph_CheckNodes_2 : (n_graph_CheckNodes_2 = yieldF) = False := eq_false (by decide)
@[simp] theorem y_graph_first : (n_graph_first = yieldF) = False := eq_false (by decide)
@[simp] theorem y_graph_within : (n_graph_within = yieldF) = False := eq_false (by decide)
@[simp] theorem y_slices_ContainsFunc_int_int : (n_slices_ContainsFunc_int_int = yieldF) = False := eq_false (by decide)
@[simp] theorem y_graph_CheckNodes_2_1 : (n_graph_CheckNodes_2_1 = yieldF) = False := eq_false (by decide)
@[simp] theorem y_graph_valueErr : (n_graph_valueErr = yieldF) = False := eq_false (by decide)
@[simp] theorem y_ratchetbase_IsWidth : (n_ratchetbase_IsWidth = yieldF) = False := eq_false (by decide)
@[simp] theorem y_ratchetbase_NodesErr : (n_ratchetbase_NodesErr = yieldF) = False := eq_false (by decide)
@[simp] theorem y_ratchetbase_IsValues : (n_ratchetbase_IsValues = yieldF) = False := eq_false (by decide)
@[simp] theorem y_ratchetbase_IsNode : (n_ratchetbase_IsNode = yieldF) = False := eq_false (by decide)
@[simp] theorem y_graph_namedErr : (n_graph_namedErr = yieldF) = False := eq_false (by decide)
@[simp] theorem y_graph_leavesBelow : (n_graph_leavesBelow = yieldF) = False := eq_false (by decide)
@[simp] theorem y_graph_graphErr : (n_graph_graphErr = yieldF) = False := eq_false (by decide)
@[simp] theorem y_graph_ValuesOf_1 : (n_graph_ValuesOf_1 = yieldF) = False := eq_false (by decide)
@[simp] theorem y_graph_fits : (n_graph_fits = yieldF) = False := eq_false (by decide)
@[simp] theorem y_graph_valued : (n_graph_valued = yieldF) = False := eq_false (by decide)
@[simp] theorem y_graph_bitsErr : (n_graph_bitsErr = yieldF) = False := eq_false (by decide)
@[simp] theorem y_graph_runs : (n_graph_runs = yieldF) = False := eq_false (by decide)
@[simp] theorem y_slices_Clone_int_int : (n_slices_Clone_int_int = yieldF) = False := eq_false (by decide)
@[simp] theorem y_ratchetref02_Tries : (n_ratchetref02_Tries = yieldF) = False := eq_false (by decide)
@[simp] theorem y_graph_below : (n_graph_below = yieldF) = False := eq_false (by decide)
@[simp] theorem y_ratchetbase_Below : (n_ratchetbase_Below = yieldF) = False := eq_false (by decide)
@[simp] theorem y_ratchetbase_Apply : (n_ratchetbase_Apply = yieldF) = False := eq_false (by decide)
@[simp] theorem y_graph_moved : (n_graph_moved = yieldF) = False := eq_false (by decide)
@[simp] theorem y_graph_Substituted_1 : (n_graph_Substituted_1 = yieldF) = False := eq_false (by decide)
@[simp] theorem y_graph_constant : (n_graph_constant = yieldF) = False := eq_false (by decide)
@[simp] theorem y_graph_Appended_1 : (n_graph_Appended_1 = yieldF) = False := eq_false (by decide)
@[simp] theorem y_graph_Appended_2 : (n_graph_Appended_2 = yieldF) = False := eq_false (by decide)
@[simp] theorem y_graph_applied : (n_graph_applied = yieldF) = False := eq_false (by decide)
@[simp] theorem y_strconv_Itoa : (n_strconv_Itoa = yieldF) = False := eq_false (by decide)
@[simp] theorem y_strings_Join : (n_strings_Join = yieldF) = False := eq_false (by decide)
@[simp] theorem y_graph_operations_1 : (n_graph_operations_1 = yieldF) = False := eq_false (by decide)
@[simp] theorem y_graph_anyWidth : (n_graph_anyWidth = yieldF) = False := eq_false (by decide)
@[simp] theorem y_graph_same : (n_graph_same = yieldF) = False := eq_false (by decide)
@[simp] theorem y_graph_operations_2 : (n_graph_operations_2 = yieldF) = False := eq_false (by decide)
@[simp] theorem y_graph_mask : (n_graph_mask = yieldF) = False := eq_false (by decide)
@[simp] theorem y_graph_binary : (n_graph_binary = yieldF) = False := eq_false (by decide)
@[simp] theorem y_graph_operations_3 : (n_graph_operations_3 = yieldF) = False := eq_false (by decide)
@[simp] theorem y_graph_operations_4 : (n_graph_operations_4 = yieldF) = False := eq_false (by decide)
@[simp] theorem y_graph_operations_5 : (n_graph_operations_5 = yieldF) = False := eq_false (by decide)
@[simp] theorem y_graph_operations_6 : (n_graph_operations_6 = yieldF) = False := eq_false (by decide)
@[simp] theorem y_graph_operations_7 : (n_graph_operations_7 = yieldF) = False := eq_false (by decide)
@[simp] theorem y_graph_operations_8 : (n_graph_operations_8 = yieldF) = False := eq_false (by decide)
@[simp] theorem y_graph_relation : (n_graph_relation = yieldF) = False := eq_false (by decide)
@[simp] theorem y_graph_operations_9 : (n_graph_operations_9 = yieldF) = False := eq_false (by decide)
@[simp] theorem y_graph_operations_10 : (n_graph_operations_10 = yieldF) = False := eq_false (by decide)
@[simp] theorem y_graph_operations_11 : (n_graph_operations_11 = yieldF) = False := eq_false (by decide)
@[simp] theorem y_graph_signed : (n_graph_signed = yieldF) = False := eq_false (by decide)
@[simp] theorem y_graph_operations_12 : (n_graph_operations_12 = yieldF) = False := eq_false (by decide)
@[simp] theorem y_graph_operations_13 : (n_graph_operations_13 = yieldF) = False := eq_false (by decide)
@[simp] theorem y_graph_operations_14 : (n_graph_operations_14 = yieldF) = False := eq_false (by decide)
@[simp] theorem y_graph_operations_15 : (n_graph_operations_15 = yieldF) = False := eq_false (by decide)
@[simp] theorem y_graph_operations_16 : (n_graph_operations_16 = yieldF) = False := eq_false (by decide)
@[simp] theorem y_graph_operations_17 : (n_graph_operations_17 = yieldF) = False := eq_false (by decide)
@[simp] theorem y_graph_extended : (n_graph_extended = yieldF) = False := eq_false (by decide)
@[simp] theorem y_graph_operations_18 : (n_graph_operations_18 = yieldF) = False := eq_false (by decide)
@[simp] theorem y_graph_operations_19 : (n_graph_operations_19 = yieldF) = False := eq_false (by decide)
@[simp] theorem y_graph_shifted : (n_graph_shifted = yieldF) = False := eq_false (by decide)
@[simp] theorem y_graph_operations_20 : (n_graph_operations_20 = yieldF) = False := eq_false (by decide)
@[simp] theorem y_graph_operations_21 : (n_graph_operations_21 = yieldF) = False := eq_false (by decide)
@[simp] theorem y_slices_IndexFunc_int_int : (n_slices_IndexFunc_int_int = yieldF) = False := eq_false (by decide)
@[simp] theorem y_ratchetbase_nodeErr : (n_ratchetbase_nodeErr = yieldF) = False := eq_false (by decide)
@[simp] theorem y_graph_namedErr_1 : (n_graph_namedErr_1 = yieldF) = False := eq_false (by decide)
@[simp] theorem y_slices_Sort_int_int : (n_slices_Sort_int_int = yieldF) = False := eq_false (by decide)
@[simp] theorem y_slices_Compact_int_int : (n_slices_Compact_int_int = yieldF) = False := eq_false (by decide)
@[simp] theorem y_graph_runs_1 : (n_graph_runs_1 = yieldF) = False := eq_false (by decide)
@[simp] theorem y_slices_Backward_api_Node_api_Node : (n_slices_Backward_api_Node_api_Node = yieldF) = False := eq_false (by decide)
@[simp] theorem y_ratchetbase_Bit : (n_ratchetbase_Bit = yieldF) = False := eq_false (by decide)
@[simp] theorem y_ratchetbase_Signed : (n_ratchetbase_Signed = yieldF) = False := eq_false (by decide)
@[simp] theorem y_graph_same_1 : (n_graph_same_1 = yieldF) = False := eq_false (by decide)
@[simp] theorem y_graph_binary_1 : (n_graph_binary_1 = yieldF) = False := eq_false (by decide)
@[simp] theorem y_graph_compared : (n_graph_compared = yieldF) = False := eq_false (by decide)
@[simp] theorem y_graph_relation_1 : (n_graph_relation_1 = yieldF) = False := eq_false (by decide)
@[simp] theorem y_graph_truth : (n_graph_truth = yieldF) = False := eq_false (by decide)
@[simp] theorem y_ratchetbase_ArgCount : (n_ratchetbase_ArgCount = yieldF) = False := eq_false (by decide)
@[simp] theorem y_ratchetbase_widthsFit : (n_ratchetbase_widthsFit = yieldF) = False := eq_false (by decide)
@[simp] theorem y_slices_Backward_api_Node_api_Node_1 : (n_slices_Backward_api_Node_api_Node_1 = yieldF) = False := eq_false (by decide)
def t_int : Nat := 3
def t_bool : Nat := 4
def t_string : Nat := 9
def t_L_int : Nat := 22
def t_api_Errno : Nat := 26
def t_api_Node : Nat := 49

def c_ratchetlaw02_GraphAlways : FnIR := ⟨204,
  (.sq (.op 0 [⟨(some 5), none, .box (.t 2) 2⟩,
    ⟨(some 6), none, .mv (.c (.bool false))⟩] none)
  (.sq (.sq (.op 0 [⟨(some 18), none, .callV true (.c (.fn n_ratchetlaw02_awake [])) []⟩,
    ⟨(some 19), none, .un .not (.t 18)⟩] none)
  (.cd (.t 19)
   (.sq (.op 0 [⟨(some 6), none, .mv (.c (.bool false))⟩] none)
   .rt)
   .sk))
  (.sq (.sq (.op 0 [⟨(some 20), none, .mv (.t 0)⟩,
    ⟨(some 21), none, .mv (.t 1)⟩,
    ⟨(some 22), none, .callV true (.c (.fn n_ratchetlaw02_few [])) [(.t 20), (.t 21)]⟩,
    ⟨(some 23), none, .un .not (.t 22)⟩,
    ⟨(some 24), none, .mv (.t 23)⟩,
    ⟨(some 25), (some (24, false)), .mv (.t 0)⟩,
    ⟨(some 26), (some (24, false)), .len false (.t 25)⟩,
    ⟨(some 27), (some (24, false)), .bin .eql (.t 26) (.c (.int .i64 0))⟩,
    ⟨(some 28), none, .pick (.t 24) (.c (.bool true)) (.t 27)⟩] (some [0, 1, 5, 28]))
  (.cd (.t 28)
   (.sq (.op 0 [⟨(some 6), none, .mv (.c (.bool true))⟩] none)
   .rt)
   .sk))
  (.sq (.op 0 [⟨(some 29), none, .mv (.t 0)⟩,
    ⟨(some 30), none, .mv (.t 1)⟩,
    ⟨(some 31), none, .callV true (.c (.fn n_ratchetref02_NodesErr [])) [(.t 29), (.t 30)]⟩,
    ⟨(some 7), none, .mv (.t 31)⟩] (some [0, 1, 5, 7]))
  (.sq (.fe [8] (.op 0 [⟨(some 32), none, .iaa (.t 5) (.c (.int .i64 0)) 2 1⟩,
    ⟨(some 33), none, .ld (.t 32) 1 false⟩,
    ⟨(some 34), none, .iaa (.t 5) (.c (.int .i64 1)) 2 1⟩,
    ⟨(some 35), none, .ld (.t 34) 1 false⟩,
    ⟨(some 36), none, .bsl t_int 1 false [.int .i64 0] 2 [(0, (.t 33)), (1, (.t 35))]⟩,
    ⟨(some 8), none, .mv (.t 36)⟩] (some [0, 1, 5, 7, 8])))
  (.sq (.sq (.op 0 [⟨(some 37), none, .mv (.t 7)⟩,
    ⟨(some 38), none, .bin .eql (.t 37) (.c (.int .i64 0))⟩,
    ⟨(some 39), none, .mv (.t 38)⟩,
    ⟨(some 40), (some (39, true)), .mv (.t 1)⟩,
    ⟨(some 41), (some (39, true)), .mv (.t 8)⟩,
    ⟨(some 42), (some (39, true)), .callV true (.c (.fn n_ratchetref02_FromErr [])) [(.t 40), (.t 41)]⟩,
    ⟨(some 43), (some (39, true)), .bin .eql (.t 42) (.c (.int .i64 0))⟩,
    ⟨(some 44), none, .pick (.t 39) (.t 43) (.c (.bool false))⟩,
    ⟨(some 45), none, .mv (.t 44)⟩,
    ⟨(some 46), (some (45, true)), .mv (.t 0)⟩,
    ⟨(some 47), (some (45, true)), .mv (.t 1)⟩,
    ⟨(some 48), (some (45, true)), .mv (.t 8)⟩,
    ⟨(some 49), (some (45, true)), .callV true (.c (.fn n_ratchetlaw02_light [])) [(.t 46), (.t 47), (.t 48)]⟩,
    ⟨(some 50), (some (45, true)), .un .not (.t 49)⟩,
    ⟨(some 51), (some (45, true)), .mv (.t 50)⟩,
    ⟨(some 52), (some (51, false)), .mv (.t 0)⟩,
    ⟨(some 53), (some (51, false)), .mv (.t 1)⟩,
    ⟨(some 54), (some (51, false)), .mv (.t 8)⟩,
    ⟨(some 55), (some (51, false)), .slc false (.t 54) none (some (.c (.int .i64 1))) 1⟩,
    ⟨(some 56), (some (51, false)), .callV true (.c (.fn n_ratchetlaw02_light [])) [(.t 52), (.t 53), (.t 55)]⟩,
    ⟨(some 57), (some (51, false)), .un .not (.t 56)⟩,
    ⟨(some 58), (some (45, true)), .pick (.t 51) (.c (.bool true)) (.t 57)⟩,
    ⟨(some 59), none, .pick (.t 45) (.t 58) (.c (.bool false))⟩] (some [0, 1, 5, 7, 8, 59]))
  (.cd (.t 59)
   (.sq (.op 0 [⟨(some 6), none, .mv (.c (.bool true))⟩] none)
   .rt)
   .sk))
  (.sq (.fz [0, 1] (.op 13 [⟨(some 61), none, .mv (.t 0)⟩,
    ⟨(some 62), none, .callV true (.c (.fn n_ratchetbase_CopyInts [])) [(.t 61)]⟩,
    ⟨(some 63), none, .mv (.t 1)⟩,
    ⟨(some 64), none, .callV true (.c (.fn n_ratchetbase_CopyNodes [])) [(.t 63)]⟩,
    ⟨(some 65), none, .iaa (.t 5) (.c (.int .i64 0)) 2 1⟩,
    ⟨(some 66), none, .ld (.t 65) 1 false⟩,
    ⟨(some 67), none, .iaa (.t 5) (.c (.int .i64 1)) 2 1⟩,
    ⟨(some 68), none, .ld (.t 67) 1 false⟩,
    ⟨(some 69), none, .callV false (.c (.fn n_graph_DifferenceOf [])) [(.t 62), (.t 64), (.t 66), (.t 68)]⟩,
    ⟨(some 60), none, .mv (.t 69)⟩,
    ⟨(some 70), none, .ext (.t 60) 0⟩,
    ⟨(some 71), none, .ext (.t 60) 1⟩,
    ⟨(some 9), none, .mv (.t 70)⟩,
    ⟨(some 10), none, .mv (.t 71)⟩] (some [0, 1, 5, 7, 8, 9, 10])))
  (.sq (.fz [0, 1] (.op 11 [⟨(some 73), none, .mv (.t 0)⟩,
    ⟨(some 74), none, .callV true (.c (.fn n_ratchetbase_CopyInts [])) [(.t 73)]⟩,
    ⟨(some 75), none, .mv (.t 1)⟩,
    ⟨(some 76), none, .callV true (.c (.fn n_ratchetbase_CopyNodes [])) [(.t 75)]⟩,
    ⟨(some 77), none, .iaa (.t 5) (.c (.int .i64 0)) 2 1⟩,
    ⟨(some 78), none, .ld (.t 77) 1 false⟩,
    ⟨(some 79), none, .callV true (.c (.fn n_graph_ConstantAt [])) [(.t 74), (.t 76), (.t 78)]⟩,
    ⟨(some 72), none, .mv (.t 79)⟩,
    ⟨(some 80), none, .ext (.t 72) 0⟩,
    ⟨(some 81), none, .ext (.t 72) 1⟩,
    ⟨(some 11), none, .mv (.t 80)⟩,
    ⟨(some 12), none, .mv (.t 81)⟩] (some [0, 1, 5, 7, 8, 9, 10, 11, 12])))
  (.sq (.op 0 [⟨(some 82), none, .mv (.t 7)⟩,
    ⟨(some 83), none, .callV true (.c (.fn n_ratchetlaw02_both [])) [(.t 82), (.c (.int .i64 0))]⟩,
    ⟨(some 13), none, .mv (.t 83)⟩] none)
  (.sq (.sq (.op 0 [⟨(some 84), none, .mv (.t 7)⟩,
    ⟨(some 85), none, .bin .eql (.t 84) (.c (.int .i64 0))⟩] none)
  (.cd (.t 85)
   (.fz [1, 8, 36] (.op 6 [⟨(some 86), none, .mv (.t 1)⟩,
     ⟨(some 87), none, .mv (.t 8)⟩,
     ⟨(some 88), none, .callV true (.c (.fn n_ratchetref02_FromErr [])) [(.t 86), (.t 87)]⟩,
     ⟨(some 89), none, .mv (.t 1)⟩,
     ⟨(some 90), none, .mv (.t 8)⟩,
     ⟨(some 91), none, .slc false (.t 90) none (some (.c (.int .i64 1))) 1⟩,
     ⟨(some 92), none, .callV true (.c (.fn n_ratchetref02_FromErr [])) [(.t 89), (.t 91)]⟩,
     ⟨(some 7), none, .mv (.t 88)⟩,
     ⟨(some 13), none, .mv (.t 92)⟩] (some [0, 1, 5, 7, 8, 9, 10, 11, 12, 13])))
   .sk))
  (.sq (.sq (.op 15 [⟨(some 93), none, .mv (.t 7)⟩,
    ⟨(some 94), none, .bin .eql (.t 93) (.c (.int .i64 0))⟩,
    ⟨(some 95), none, .mv (.t 94)⟩,
    ⟨(some 96), (some (95, true)), .mv (.t 1)⟩,
    ⟨(some 97), (some (95, true)), .iaa (.t 5) (.c (.int .i64 0)) 2 1⟩,
    ⟨(some 98), (some (95, true)), .ld (.t 97) 1 false⟩,
    ⟨(some 99), (some (95, true)), .ia (.t 96) (.t 98) 4⟩,
    ⟨(some 100), (some (95, true)), .fa (.t 99) 1⟩,
    ⟨(some 101), (some (95, true)), .ld (.t 100) 1 false⟩,
    ⟨(some 102), (some (95, true)), .mv (.t 1)⟩,
    ⟨(some 103), (some (95, true)), .iaa (.t 5) (.c (.int .i64 1)) 2 1⟩,
    ⟨(some 104), (some (95, true)), .ld (.t 103) 1 false⟩,
    ⟨(some 105), (some (95, true)), .ia (.t 102) (.t 104) 4⟩,
    ⟨(some 106), (some (95, true)), .fa (.t 105) 1⟩,
    ⟨(some 107), (some (95, true)), .ld (.t 106) 1 false⟩,
    ⟨(some 108), (some (95, true)), .bin .neq (.t 101) (.t 107)⟩,
    ⟨(some 109), none, .pick (.t 95) (.t 108) (.c (.bool false))⟩] (some [0, 1, 5, 7, 8, 9, 10, 11, 12, 13, 109]))
  (.cd (.t 109)
   (.op 0 [⟨(some 7), none, .mv (.c (.int .i64 25))⟩] none)
   .sk))
  (.sq (.sq (.op 0 [⟨(some 110), none, .mv (.t 7)⟩,
    ⟨(some 111), none, .bin .eql (.t 110) (.c (.int .i64 0))⟩,
    ⟨(some 112), none, .mv (.t 111)⟩,
    ⟨(some 113), (some (112, true)), .mv (.t 0)⟩,
    ⟨(some 114), (some (112, true)), .mv (.t 1)⟩,
    ⟨(some 115), (some (112, true)), .mv (.t 8)⟩,
    ⟨(some 116), (some (112, true)), .callV true (.c (.fn n_ratchetref02_Bits [])) [(.t 113), (.t 114), (.t 115)]⟩,
    ⟨(some 117), (some (112, true)), .bin .gtr (.t 116) (.c (.int .i64 12))⟩,
    ⟨(some 118), none, .pick (.t 112) (.t 117) (.c (.bool false))⟩] (some [0, 1, 5, 7, 8, 9, 10, 11, 12, 13, 118]))
  (.cd (.t 118)
   (.op 0 [⟨(some 7), none, .mv (.c (.int .i64 8))⟩] none)
   .sk))
  (.sq (.sq (.op 0 [⟨(some 119), none, .mv (.t 13)⟩,
    ⟨(some 120), none, .bin .eql (.t 119) (.c (.int .i64 0))⟩,
    ⟨(some 121), none, .mv (.t 120)⟩,
    ⟨(some 122), (some (121, true)), .mv (.t 0)⟩,
    ⟨(some 123), (some (121, true)), .mv (.t 1)⟩,
    ⟨(some 124), (some (121, true)), .mv (.t 8)⟩,
    ⟨(some 125), (some (121, true)), .slc false (.t 124) none (some (.c (.int .i64 1))) 1⟩,
    ⟨(some 126), (some (121, true)), .callV true (.c (.fn n_ratchetref02_Bits [])) [(.t 122), (.t 123), (.t 125)]⟩,
    ⟨(some 127), (some (121, true)), .bin .gtr (.t 126) (.c (.int .i64 12))⟩,
    ⟨(some 128), none, .pick (.t 121) (.t 127) (.c (.bool false))⟩] (some [0, 1, 5, 7, 9, 10, 11, 12, 13, 128]))
  (.cd (.t 128)
   (.op 0 [⟨(some 13), none, .mv (.c (.int .i64 8))⟩] none)
   .sk))
  (.sq (.sq (.op 0 [⟨(some 129), none, .mv (.t 13)⟩,
    ⟨(some 130), none, .bin .neq (.t 129) (.c (.int .i64 0))⟩] none)
  (.cd (.t 130)
   (.sq (.op 0 [⟨(some 131), none, .mv (.t 12)⟩,
     ⟨(some 132), none, .mv (.t 13)⟩,
     ⟨(some 133), none, .bin .neq (.t 131) (.t 132)⟩,
     ⟨(some 134), none, .mv (.t 133)⟩,
     ⟨(some 135), (some (134, false)), .mv (.t 11)⟩,
     ⟨(some 136), (some (134, false)), .bin .neq (.t 135) (.c (.int .i64 0))⟩,
     ⟨(some 137), none, .pick (.t 134) (.c (.bool true)) (.t 136)⟩] (some [0, 1, 5, 7, 9, 10, 137]))
   (.cd (.t 137)
    (.sq (.op 0 [⟨(some 6), none, .mv (.c (.bool false))⟩] none)
    .rt)
    .sk))
   (.sq (.op 0 [⟨(some 139), none, .mv (.t 0)⟩,
     ⟨(some 140), none, .mv (.t 1)⟩,
     ⟨(some 141), none, .iaa (.t 5) (.c (.int .i64 0)) 2 1⟩,
     ⟨(some 142), none, .ld (.t 141) 1 false⟩,
     ⟨(some 143), none, .callV true (.c (.fn n_ratchetref02_Constant [])) [(.t 139), (.t 140), (.t 142)]⟩,
     ⟨(some 138), none, .mv (.t 143)⟩,
     ⟨(some 144), none, .ext (.t 138) 0⟩,
     ⟨(some 145), none, .ext (.t 138) 1⟩,
     ⟨(some 14), none, .mv (.t 144)⟩,
     ⟨(some 15), none, .mv (.t 145)⟩] (some [0, 1, 5, 7, 9, 10, 11, 12, 14, 15]))
   (.sq (.op 0 [⟨(some 146), none, .mv (.t 15)⟩,
     ⟨(some 147), none, .mv (.t 146)⟩,
     ⟨(some 148), (some (147, true)), .mv (.t 12)⟩,
     ⟨(some 149), (some (147, true)), .bin .neq (.t 148) (.c (.int .i64 0))⟩,
     ⟨(some 150), (some (147, true)), .mv (.t 149)⟩,
     ⟨(some 151), (some (150, false)), .mv (.t 11)⟩,
     ⟨(some 152), (some (150, false)), .mv (.t 14)⟩,
     ⟨(some 153), (some (150, false)), .bin .neq (.t 151) (.t 152)⟩,
     ⟨(some 154), (some (147, true)), .pick (.t 150) (.c (.bool true)) (.t 153)⟩,
     ⟨(some 155), none, .pick (.t 147) (.t 154) (.c (.bool false))⟩,
     ⟨(some 156), none, .mv (.t 155)⟩,
     ⟨(some 157), (some (156, false)), .mv (.t 15)⟩,
     ⟨(some 158), (some (156, false)), .un .not (.t 157)⟩,
     ⟨(some 159), (some (156, false)), .mv (.t 158)⟩,
     ⟨(some 160), (some (159, true)), .mv (.t 12)⟩,
     ⟨(some 161), (some (159, true)), .bin .neq (.t 160) (.c (.int .i64 12))⟩,
     ⟨(some 162), (some (159, true)), .mv (.t 161)⟩,
     ⟨(some 163), (some (162, false)), .mv (.t 11)⟩,
     ⟨(some 164), (some (162, false)), .bin .neq (.t 163) (.c (.int .i64 0))⟩,
     ⟨(some 165), (some (159, true)), .pick (.t 162) (.c (.bool true)) (.t 164)⟩,
     ⟨(some 166), (some (156, false)), .pick (.t 159) (.t 165) (.c (.bool false))⟩,
     ⟨(some 167), none, .pick (.t 156) (.c (.bool true)) (.t 166)⟩] (some [0, 1, 5, 7, 9, 10, 167]))
   (.cd (.t 167)
    (.sq (.op 0 [⟨(some 6), none, .mv (.c (.bool false))⟩] none)
    .rt)
    .sk)))))
  (.sq (.sq (.op 0 [⟨(some 168), none, .mv (.t 7)⟩,
    ⟨(some 169), none, .bin .neq (.t 168) (.c (.int .i64 0))⟩] none)
  (.cd (.t 169)
   (.sq (.op 0 [⟨(some 170), none, .mv (.t 10)⟩,
     ⟨(some 171), none, .mv (.t 7)⟩,
     ⟨(some 172), none, .bin .eql (.t 170) (.t 171)⟩,
     ⟨(some 173), none, .mv (.t 172)⟩,
     ⟨(some 174), (some (173, true)), .mv (.t 9)⟩,
     ⟨(some 175), (some (173, true)), .len false (.t 174)⟩,
     ⟨(some 176), (some (173, true)), .bin .eql (.t 175) (.c (.int .i64 0))⟩,
     ⟨(some 177), none, .pick (.t 173) (.t 176) (.c (.bool false))⟩,
     ⟨(some 6), none, .mv (.t 177)⟩] (some [6]))
   .rt)
   .sk))
  (.sq (.op 0 [⟨(some 179), none, .mv (.t 0)⟩,
    ⟨(some 180), none, .mv (.t 1)⟩,
    ⟨(some 181), none, .iaa (.t 5) (.c (.int .i64 0)) 2 1⟩,
    ⟨(some 182), none, .ld (.t 181) 1 false⟩,
    ⟨(some 183), none, .iaa (.t 5) (.c (.int .i64 1)) 2 1⟩,
    ⟨(some 184), none, .ld (.t 183) 1 false⟩,
    ⟨(some 185), none, .callV false (.c (.fn n_ratchetref02_Difference [])) [(.t 179), (.t 180), (.t 182), (.t 184)]⟩,
    ⟨(some 178), none, .mv (.t 185)⟩,
    ⟨(some 186), none, .ext (.t 178) 0⟩,
    ⟨(some 187), none, .ext (.t 178) 1⟩,
    ⟨(some 16), none, .mv (.t 186)⟩,
    ⟨(some 17), none, .mv (.t 187)⟩] (some [9, 10, 16, 17]))
  (.sq (.sq (.op 0 [⟨(some 188), none, .mv (.t 17)⟩,
    ⟨(some 189), none, .un .not (.t 188)⟩] none)
  (.cd (.t 189)
   (.sq (.op 0 [⟨(some 190), none, .mv (.t 10)⟩,
     ⟨(some 191), none, .bin .eql (.t 190) (.c (.int .i64 12))⟩,
     ⟨(some 192), none, .mv (.t 191)⟩,
     ⟨(some 193), (some (192, true)), .mv (.t 9)⟩,
     ⟨(some 194), (some (192, true)), .len false (.t 193)⟩,
     ⟨(some 195), (some (192, true)), .bin .eql (.t 194) (.c (.int .i64 0))⟩,
     ⟨(some 196), none, .pick (.t 192) (.t 195) (.c (.bool false))⟩,
     ⟨(some 6), none, .mv (.t 196)⟩] (some [6]))
   .rt)
   .sk))
  (.sq (.op 0 [⟨(some 197), none, .mv (.t 10)⟩,
    ⟨(some 198), none, .bin .eql (.t 197) (.c (.int .i64 0))⟩,
    ⟨(some 199), none, .mv (.t 198)⟩,
    ⟨(some 200), (some (199, true)), .mv (.t 9)⟩,
    ⟨(some 201), (some (199, true)), .mv (.t 16)⟩,
    ⟨(some 202), (some (199, true)), .callV true (.c (.fn n_ratchetbase_Ints [])) [(.t 200), (.t 201)]⟩,
    ⟨(some 203), none, .pick (.t 199) (.t 202) (.c (.bool false))⟩,
    ⟨(some 6), none, .mv (.t 203)⟩] (some [6]))
  .rt)))))))))))))))))),
  [.t 6]⟩
def c_ratchetlaw02_awake : FnIR := ⟨58,
  (.sq (.op 0 [⟨(some 0), none, .mv (.c (.bool false))⟩] none)
  (.sq (.op 0 [⟨(some 9), none, .callV false (.c (.fn n_ratchetlaw02_Leaves [])) []⟩,
    ⟨(some 10), none, .callV false (.c (.fn n_ratchetlaw02_Nodes [])) []⟩,
    ⟨(some 11), none, .bsl t_int 1 false [.int .i64 0] 2 [(0, (.c (.int .i64 14))), (1, (.c (.int .i64 1)))]⟩,
    ⟨(some 12), none, .callV false (.c (.fn n_graph_ValuesOf [])) [(.t 9), (.t 10), (.t 11)]⟩,
    ⟨(some 8), none, .mv (.t 12)⟩,
    ⟨(some 13), none, .ext (.t 8) 0⟩,
    ⟨(some 14), none, .ext (.t 8) 1⟩,
    ⟨(some 1), none, .mv (.t 13)⟩,
    ⟨(some 2), none, .mv (.t 14)⟩] (some [1, 2]))
  (.sq (.op 0 [⟨(some 16), none, .callV false (.c (.fn n_ratchetlaw02_Leaves [])) []⟩,
    ⟨(some 17), none, .callV false (.c (.fn n_ratchetlaw02_Nodes [])) []⟩,
    ⟨(some 18), none, .callV false (.c (.fn n_graph_DepthsOf [])) [(.t 16), (.t 17)]⟩,
    ⟨(some 15), none, .mv (.t 18)⟩,
    ⟨(some 19), none, .ext (.t 15) 0⟩,
    ⟨(some 20), none, .ext (.t 15) 1⟩,
    ⟨(some 3), none, .mv (.t 19)⟩,
    ⟨(some 4), none, .mv (.t 20)⟩] (some [1, 2, 3, 4]))
  (.sq (.op 0 [⟨(some 22), none, .callV false (.c (.fn n_ratchetlaw02_Leaves [])) []⟩,
    ⟨(some 23), none, .callV false (.c (.fn n_ratchetlaw02_Nodes [])) []⟩,
    ⟨(some 24), none, .callV false (.c (.fn n_graph_DifferenceOf [])) [(.t 22), (.t 23), (.c (.int .i64 0)), (.c (.int .i64 2))]⟩,
    ⟨(some 21), none, .mv (.t 24)⟩,
    ⟨(some 25), none, .ext (.t 21) 0⟩,
    ⟨(some 26), none, .ext (.t 21) 1⟩,
    ⟨(some 5), none, .mv (.t 25)⟩,
    ⟨(some 6), none, .mv (.t 26)⟩] (some [1, 2, 3, 4, 5, 6]))
  (.sq (.op 0 [⟨(some 27), none, .callV false (.c (.fn n_ratchetlaw02_Nodes [])) []⟩,
    ⟨(some 28), none, .callV true (.c (.fn n_graph_FormatNodes [])) [(.t 27)]⟩,
    ⟨(some 7), none, .mv (.t 28)⟩] none)
  (.sq (.op 0 [⟨(some 29), none, .mv (.t 2)⟩,
    ⟨(some 30), none, .bin .eql (.t 29) (.c (.int .i64 0))⟩,
    ⟨(some 31), none, .mv (.t 30)⟩,
    ⟨(some 32), (some (31, true)), .mv (.t 1)⟩,
    ⟨(some 33), (some (31, true)), .bsl t_int 1 false [.int .i64 0] 6 [(0, (.c (.int .i64 14))), (1, (.c (.int .i64 3))), (2, (.c (.int .i64 1))), (3, (.c (.int .i64 1))), (4, (.c (.int .i64 1))), (5, (.c (.int .i64 1)))]⟩,
    ⟨(some 34), (some (31, true)), .callV true (.c (.fn n_ratchetbase_Ints [])) [(.t 32), (.t 33)]⟩,
    ⟨(some 35), none, .pick (.t 31) (.t 34) (.c (.bool false))⟩,
    ⟨(some 36), none, .mv (.t 35)⟩,
    ⟨(some 37), (some (36, true)), .mv (.t 4)⟩,
    ⟨(some 38), (some (36, true)), .bin .eql (.t 37) (.c (.int .i64 0))⟩,
    ⟨(some 39), none, .pick (.t 36) (.t 38) (.c (.bool false))⟩,
    ⟨(some 40), none, .mv (.t 39)⟩,
    ⟨(some 41), (some (40, true)), .mv (.t 3)⟩,
    ⟨(some 42), (some (40, true)), .bsl t_int 1 false [.int .i64 0] 6 [(0, (.c (.int .i64 0))), (1, (.c (.int .i64 0))), (2, (.c (.int .i64 1))), (3, (.c (.int .i64 0))), (4, (.c (.int .i64 2))), (5, (.c (.int .i64 3)))]⟩,
    ⟨(some 43), (some (40, true)), .callV true (.c (.fn n_ratchetbase_Ints [])) [(.t 41), (.t 42)]⟩,
    ⟨(some 44), none, .pick (.t 40) (.t 43) (.c (.bool false))⟩,
    ⟨(some 45), none, .mv (.t 44)⟩,
    ⟨(some 46), (some (45, true)), .mv (.t 6)⟩,
    ⟨(some 47), (some (45, true)), .bin .eql (.t 46) (.c (.int .i64 0))⟩,
    ⟨(some 48), none, .pick (.t 45) (.t 47) (.c (.bool false))⟩,
    ⟨(some 49), none, .mv (.t 48)⟩,
    ⟨(some 50), (some (49, true)), .mv (.t 5)⟩,
    ⟨(some 51), (some (49, true)), .bsl t_int 1 false [.int .i64 0] 2 [(0, (.c (.int .i64 0))), (1, (.c (.int .i64 0)))]⟩,
    ⟨(some 52), (some (49, true)), .callV true (.c (.fn n_ratchetbase_Ints [])) [(.t 50), (.t 51)]⟩,
    ⟨(some 53), none, .pick (.t 49) (.t 52) (.c (.bool false))⟩,
    ⟨(some 54), none, .mv (.t 53)⟩,
    ⟨(some 55), (some (54, true)), .mv (.t 7)⟩,
    ⟨(some 56), (some (54, true)), .bin .eql (.t 55) (.c (.str ⟨#[108, 101, 97, 102, 32, 52, 32, 48, 59, 99, 111, 110, 115, 116, 32, 52, 32, 51, 59, 97, 100, 100, 32, 52, 32, 48, 32, 49, 59, 108, 101, 97, 102, 32, 49, 32, 49, 59, 109, 117, 120, 32, 52, 32, 51, 32, 50, 32, 48, 59, 108, 116, 32, 49, 32, 52, 32, 49]⟩))⟩,
    ⟨(some 57), none, .pick (.t 54) (.t 56) (.c (.bool false))⟩,
    ⟨(some 0), none, .mv (.t 57)⟩] (some [0]))
  .rt)))))),
  [.t 0]⟩
def b_ratchetlaw02_few_L0 : IR :=
 (.sq (.sq (.op 0 [⟨(some 24), none, .mv (.t 5)⟩,
   ⟨(some 25), none, .mv (.t 1)⟩,
   ⟨(some 26), none, .len false (.t 25)⟩,
   ⟨(some 27), none, .bin .lss (.t 24) (.t 26)⟩] (some [1, 5, 27]))
 (.cd (.t 27)
  .sk
  (.ex 0)))
 (.sq (.bk 1 (.sq (.op 0 [⟨(some 30), none, .mv (.t 1)⟩,
    ⟨(some 31), none, .mv (.t 5)⟩,
    ⟨(some 32), none, .ia (.t 30) (.t 31) 4⟩,
    ⟨(some 33), none, .fa (.t 32) 2⟩,
    ⟨(some 34), none, .ld (.t 33) 1 false⟩,
    ⟨(some 35), none, .len false (.t 34)⟩,
    ⟨(some 36), none, .bin .gtr (.t 35) (.c (.int .i64 5))⟩] (some [1, 5, 36]))
  (.cd (.t 36)
   (.sq (.op 0 [⟨(some 4), none, .mv (.c (.bool false))⟩] none)
   .rt)
   .sk)))
 (.op 0 [⟨(some 28), none, .mv (.t 5)⟩,
   ⟨(some 29), none, .bin .add (.t 28) (.c (.int .i64 1))⟩,
   ⟨(some 5), none, .mv (.t 29)⟩] none)))
def c_ratchetlaw02_few_L0 : IR := b_ratchetlaw02_few_L0
theorem u_ratchetlaw02_few_L0 {C : Call} {L : Loop} {π : Id} {k0 : List Id} {e : Env} {s : Sto} : evC C L π k0 c_ratchetlaw02_few_L0 e s = evC C L π k0 b_ratchetlaw02_few_L0 e s := rfl
def c_ratchetlaw02_few : FnIR := ⟨37,
  (.sq (.op 0 [⟨(some 4), none, .mv (.c (.bool false))⟩] none)
  (.sq (.sq (.op 0 [⟨(some 6), none, .mv (.t 0)⟩,
    ⟨(some 7), none, .len false (.t 6)⟩,
    ⟨(some 8), none, .bin .gtr (.t 7) (.c (.int .i64 60))⟩,
    ⟨(some 9), none, .mv (.t 8)⟩,
    ⟨(some 10), (some (9, false)), .mv (.t 1)⟩,
    ⟨(some 11), (some (9, false)), .len false (.t 10)⟩,
    ⟨(some 12), (some (9, false)), .bin .gtr (.t 11) (.c (.int .i64 60))⟩,
    ⟨(some 13), (some (9, false)), .mv (.t 12)⟩,
    ⟨(some 14), (some (13, true)), .mv (.t 1)⟩,
    ⟨(some 15), (some (13, true)), .len false (.t 14)⟩,
    ⟨(some 16), (some (13, true)), .bin .leq (.t 15) (.c (.int .i64 400))⟩,
    ⟨(some 17), (some (9, false)), .pick (.t 13) (.t 16) (.c (.bool false))⟩,
    ⟨(some 18), none, .pick (.t 9) (.c (.bool true)) (.t 17)⟩,
    ⟨(some 19), none, .mv (.t 18)⟩,
    ⟨(some 20), (some (19, false)), .mv (.t 1)⟩,
    ⟨(some 21), (some (19, false)), .len false (.t 20)⟩,
    ⟨(some 22), (some (19, false)), .bin .gtr (.t 21) (.c (.int .i64 405))⟩,
    ⟨(some 23), none, .pick (.t 19) (.c (.bool true)) (.t 22)⟩] (some [1, 23]))
  (.cd (.t 23)
   (.sq (.op 0 [⟨(some 4), none, .mv (.c (.bool false))⟩] none)
   .rt)
   .sk))
  (.sq (.sq (.op 0 [⟨(some 5), none, .mv (.c (.int .i64 0))⟩] none)
  (.kp [] [4] (.bk 0 (.lp [] [1, 5] c_ratchetlaw02_few_L0))))
  (.sq (.op 0 [⟨(some 4), none, .mv (.c (.bool true))⟩] none)
  .rt)))),
  [.t 4]⟩
def c_graph_CheckNodes : FnIR := ⟨30,
  (.sq (.op 0 [⟨(some 2), none, .box (.t 0) 1⟩,
    ⟨(some 3), none, .box (.t 1) 1⟩,
    ⟨(some 4), none, .mv (.c (.int .i64 0))⟩,
    ⟨(some 5), none, .mv (.c (.int .i64 0))⟩] (some [2, 3]))
  (.sq (.sq (.op 0 [⟨(some 9), none, .ld (.t 2) 1 false⟩,
    ⟨(some 10), none, .len false (.t 9)⟩,
    ⟨(some 11), none, .bin .gtr (.t 10) (.c (.int .i64 40))⟩] none)
  (.cd (.t 11)
   (.sq (.op 0 [⟨(some 4), none, .mv (.c (.int .i64 0))⟩,
     ⟨(some 5), none, .mv (.c (.int .i64 8))⟩] none)
   .rt)
   .sk))
  (.sq (.sq (.op 0 [⟨(some 13), none, .ld (.t 2) 1 false⟩,
    ⟨(some 14), none, .callV true (.c (.fn n_graph_each_int [])) [(.t 13), (.c (.fn n_graph_CheckNodes_1 []))]⟩,
    ⟨(some 12), none, .mv (.t 14)⟩,
    ⟨(some 15), none, .ext (.t 12) 0⟩,
    ⟨(some 16), none, .ext (.t 12) 1⟩,
    ⟨(some 6), none, .mv (.t 15)⟩,
    ⟨(some 7), none, .mv (.t 16)⟩] (some [2, 3, 6, 7]))
  (.sq (.op 0 [⟨(some 17), none, .mv (.t 7)⟩,
    ⟨(some 18), none, .bin .neq (.t 17) (.c (.int .i64 0))⟩] none)
  (.cd (.t 18)
   (.sq (.op 0 [⟨(some 19), none, .mv (.t 6)⟩,
     ⟨(some 20), none, .mv (.t 7)⟩,
     ⟨(some 4), none, .mv (.t 19)⟩,
     ⟨(some 5), none, .mv (.t 20)⟩] (some [4, 5]))
   .rt)
   .sk)))
  (.sq (.sq (.op 0 [⟨(some 21), none, .ld (.t 3) 1 false⟩,
    ⟨(some 22), none, .len false (.t 21)⟩,
    ⟨(some 23), none, .bin .gtr (.t 22) (.c (.int .i64 400))⟩] none)
  (.cd (.t 23)
   (.sq (.op 0 [⟨(some 4), none, .mv (.c (.int .i64 0))⟩,
     ⟨(some 5), none, .mv (.c (.int .i64 8))⟩] none)
   .rt)
   .sk))
  (.sq (.op 0 [⟨(some 24), none, .callV true (.c (.fn n_graph_operations [])) []⟩,
    ⟨(some 8), none, .alloc [.str ⟨#[]⟩, .int .i64 0, .bool false, .nilf, .nilf, .str ⟨#[]⟩, .int .i64 0, .bool false, .nilf, .nilf, .str ⟨#[]⟩, .int .i64 0, .bool false, .nilf, .nilf, .str ⟨#[]⟩, .int .i64 0, .bool false, .nilf, .nilf, .str ⟨#[]⟩, .int .i64 0, .bool false, .nilf, .nilf, .str ⟨#[]⟩, .int .i64 0, .bool false, .nilf, .nilf, .str ⟨#[]⟩, .int .i64 0, .bool false, .nilf, .nilf, .str ⟨#[]⟩, .int .i64 0, .bool false, .nilf, .nilf, .str ⟨#[]⟩, .int .i64 0, .bool false, .nilf, .nilf, .str ⟨#[]⟩, .int .i64 0, .bool false, .nilf, .nilf, .str ⟨#[]⟩, .int .i64 0, .bool false, .nilf, .nilf, .str ⟨#[]⟩, .int .i64 0, .bool false, .nilf, .nilf, .str ⟨#[]⟩, .int .i64 0, .bool false, .nilf, .nilf, .str ⟨#[]⟩, .int .i64 0, .bool false, .nilf, .nilf, .str ⟨#[]⟩, .int .i64 0, .bool false, .nilf, .nilf, .str ⟨#[]⟩, .int .i64 0, .bool false, .nilf, .nilf, .str ⟨#[]⟩, .int .i64 0, .bool false, .nilf, .nilf, .str ⟨#[]⟩, .int .i64 0, .bool false, .nilf, .nilf, .str ⟨#[]⟩, .int .i64 0, .bool false, .nilf, .nilf]⟩,
    ⟨none, none, .st (.t 8) (.t 24) 95⟩] none)
  (.sq (.op 0 [⟨(some 25), none, .ld (.t 3) 1 false⟩,
    ⟨(some 26), none, .mkf n_graph_CheckNodes_2 [(.t 8), (.t 2), (.t 3)]⟩,
    ⟨(some 27), none, .callV true (.c (.fn n_graph_each_api_Node [])) [(.t 25), (.t 26)]⟩,
    ⟨(some 28), none, .ext (.t 27) 0⟩,
    ⟨(some 29), none, .ext (.t 27) 1⟩,
    ⟨(some 4), none, .mv (.t 28)⟩,
    ⟨(some 5), none, .mv (.t 29)⟩] (some [4, 5]))
  .rt)))))),
  [.t 4, .t 5]⟩
def c_ratchetbase_CopyInts : FnIR := ⟨6,
  (.sq (.op 0 [⟨(some 2), none, .mv (.c (.sl 1 (some true) []))⟩] none)
  (.sq (.op 0 [⟨(some 3), none, .bsl t_int 1 false [.int .i64 0] 0 []⟩,
    ⟨(some 4), none, .mv (.t 0)⟩,
    ⟨(some 5), none, .app (.t 3) (.t 4) t_int 1⟩,
    ⟨(some 2), none, .mv (.t 5)⟩] (some [2]))
  .rt)),
  [.t 2]⟩
def b_ratchetbase_CopyNodes_L0 : IR :=
 (.sq (.sq (.op 0 [⟨(some 8), none, .mv (.t 4)⟩,
   ⟨(some 9), none, .mv (.t 0)⟩,
   ⟨(some 10), none, .len false (.t 9)⟩,
   ⟨(some 11), none, .bin .lss (.t 8) (.t 10)⟩] (some [0, 3, 4, 11]))
 (.cd (.t 11)
  .sk
  (.ex 0)))
 (.sq (.bk 1 (.sq (.op 0 [⟨(some 14), none, .mv (.t 3)⟩,
    ⟨(some 15), none, .mv (.t 4)⟩,
    ⟨(some 16), none, .mv (.t 0)⟩,
    ⟨(some 17), none, .mv (.t 4)⟩,
    ⟨(some 18), none, .ia (.t 16) (.t 17) 4⟩,
    ⟨(some 19), none, .ld (.t 18) 4 true⟩,
    ⟨(some 20), none, .ia (.t 14) (.t 15) 4⟩,
    ⟨none, none, .st (.t 20) (.t 19) 4⟩] (some [0, 3, 4]))
  (.op 0 [⟨(some 21), none, .mv (.t 3)⟩,
    ⟨(some 22), none, .mv (.t 4)⟩,
    ⟨(some 23), none, .mv (.t 0)⟩,
    ⟨(some 24), none, .mv (.t 4)⟩,
    ⟨(some 25), none, .ia (.t 23) (.t 24) 4⟩,
    ⟨(some 26), none, .fa (.t 25) 2⟩,
    ⟨(some 27), none, .ld (.t 26) 1 false⟩,
    ⟨(some 28), none, .callV true (.c (.fn n_ratchetbase_CopyInts [])) [(.t 27)]⟩,
    ⟨(some 29), none, .ia (.t 21) (.t 22) 4⟩,
    ⟨(some 30), none, .fa (.t 29) 2⟩,
    ⟨none, none, .st (.t 30) (.t 28) 1⟩] (some [0, 3, 4]))))
 (.op 0 [⟨(some 12), none, .mv (.t 4)⟩,
   ⟨(some 13), none, .bin .add (.t 12) (.c (.int .i64 1))⟩,
   ⟨(some 4), none, .mv (.t 13)⟩] none)))
def c_ratchetbase_CopyNodes_L0 : IR := b_ratchetbase_CopyNodes_L0
theorem u_ratchetbase_CopyNodes_L0 {C : Call} {L : Loop} {π : Id} {k0 : List Id} {e : Env} {s : Sto} : evC C L π k0 c_ratchetbase_CopyNodes_L0 e s = evC C L π k0 b_ratchetbase_CopyNodes_L0 e s := rfl
def c_ratchetbase_CopyNodes : FnIR := ⟨32,
  (.sq (.op 0 [⟨(some 2), none, .mv (.c (.sl 4 (some true) []))⟩] none)
  (.sq (.op 0 [⟨(some 5), none, .mv (.t 0)⟩,
    ⟨(some 6), none, .len false (.t 5)⟩,
    ⟨(some 7), none, .mks t_api_Node 4 true [.int .i64 0, .int .i64 0, .sl 1 (some true) [], .int .i64 0] (.t 6) (.t 6)⟩,
    ⟨(some 3), none, .mv (.t 7)⟩] (some [0, 3]))
  (.sq (.sq (.op 0 [⟨(some 4), none, .mv (.c (.int .i64 0))⟩] none)
  (.kp [3] [2] (.bk 0 (.lp [] [0, 3, 4] c_ratchetbase_CopyNodes_L0))))
  (.sq (.op 0 [⟨(some 31), none, .mv (.t 3)⟩,
    ⟨(some 2), none, .mv (.t 31)⟩] none)
  .rt)))),
  [.t 2]⟩
def b_ratchetref02_CheckNodes_L0 : IR :=
 (.sq (.sq (.op 0 [⟨(some 10), none, .mv (.t 6)⟩,
   ⟨(some 11), none, .mv (.t 0)⟩,
   ⟨(some 12), none, .len false (.t 11)⟩,
   ⟨(some 13), none, .bin .lss (.t 10) (.t 12)⟩] (some [0, 1, 6, 13]))
 (.cd (.t 13)
  .sk
  (.ex 0)))
 (.sq (.bk 1 (.sq (.op 0 [⟨(some 16), none, .mv (.t 0)⟩,
    ⟨(some 17), none, .mv (.t 6)⟩,
    ⟨(some 18), none, .ia (.t 16) (.t 17) 1⟩,
    ⟨(some 19), none, .ld (.t 18) 1 false⟩,
    ⟨(some 20), none, .callV true (.c (.fn n_ratchetbase_IsWidth [])) [(.t 19)]⟩,
    ⟨(some 21), none, .un .not (.t 20)⟩] (some [0, 1, 6, 21]))
  (.cd (.t 21)
   (.sq (.op 0 [⟨(some 22), none, .mv (.t 6)⟩,
     ⟨(some 4), none, .mv (.t 22)⟩,
     ⟨(some 5), none, .mv (.c (.int .i64 2))⟩] none)
   .rt)
   .sk)))
 (.op 0 [⟨(some 14), none, .mv (.t 6)⟩,
   ⟨(some 15), none, .bin .add (.t 14) (.c (.int .i64 1))⟩,
   ⟨(some 6), none, .mv (.t 15)⟩] none)))
def c_ratchetref02_CheckNodes_L0 : IR := b_ratchetref02_CheckNodes_L0
theorem u_ratchetref02_CheckNodes_L0 {C : Call} {L : Loop} {π : Id} {k0 : List Id} {e : Env} {s : Sto} : evC C L π k0 c_ratchetref02_CheckNodes_L0 e s = evC C L π k0 b_ratchetref02_CheckNodes_L0 e s := rfl
def c_ratchetref02_CheckNodes : FnIR := ⟨28,
  (.sq (.op 0 [⟨(some 4), none, .mv (.c (.int .i64 0))⟩,
    ⟨(some 5), none, .mv (.c (.int .i64 0))⟩] none)
  (.sq (.sq (.op 0 [⟨(some 7), none, .mv (.t 0)⟩,
    ⟨(some 8), none, .len false (.t 7)⟩,
    ⟨(some 9), none, .bin .gtr (.t 8) (.c (.int .i64 40))⟩] none)
  (.cd (.t 9)
   (.sq (.op 0 [⟨(some 4), none, .mv (.c (.int .i64 0))⟩,
     ⟨(some 5), none, .mv (.c (.int .i64 8))⟩] none)
   .rt)
   .sk))
  (.sq (.sq (.op 0 [⟨(some 6), none, .mv (.c (.int .i64 0))⟩] none)
  (.kp [0, 1] [4, 5] (.bk 0 (.lp [] [0, 1, 6] c_ratchetref02_CheckNodes_L0))))
  (.sq (.op 0 [⟨(some 23), none, .mv (.t 0)⟩,
    ⟨(some 24), none, .mv (.t 1)⟩,
    ⟨(some 25), none, .callV true (.c (.fn n_ratchetbase_NodesErr [])) [(.t 23), (.t 24)]⟩,
    ⟨(some 26), none, .ext (.t 25) 0⟩,
    ⟨(some 27), none, .ext (.t 25) 1⟩,
    ⟨(some 4), none, .mv (.t 26)⟩,
    ⟨(some 5), none, .mv (.t 27)⟩] (some [4, 5]))
  .rt)))),
  [.t 4, .t 5]⟩
def c_ratchetref02_NodesErr : FnIR := ⟨14,
  (.sq (.op 0 [⟨(some 4), none, .mv (.c (.int .i64 0))⟩] none)
  (.sq (.op 0 [⟨(some 8), none, .mv (.t 0)⟩,
    ⟨(some 9), none, .mv (.t 1)⟩,
    ⟨(some 10), none, .callV true (.c (.fn n_ratchetref02_CheckNodes [])) [(.t 8), (.t 9)]⟩,
    ⟨(some 7), none, .mv (.t 10)⟩,
    ⟨(some 11), none, .ext (.t 7) 0⟩,
    ⟨(some 12), none, .ext (.t 7) 1⟩,
    ⟨(some 5), none, .mv (.t 11)⟩,
    ⟨(some 6), none, .mv (.t 12)⟩] (some [6]))
  (.sq (.op 0 [⟨(some 13), none, .mv (.t 6)⟩,
    ⟨(some 4), none, .mv (.t 13)⟩] none)
  .rt))),
  [.t 4]⟩
def c_ratchetref02_ValuesErr : FnIR := ⟨14,
  (.sq (.op 0 [⟨(some 4), none, .mv (.c (.int .i64 0))⟩] none)
  (.sq (.sq (.op 0 [⟨(some 5), none, .mv (.t 0)⟩,
    ⟨(some 6), none, .len false (.t 5)⟩,
    ⟨(some 7), none, .mv (.t 1)⟩,
    ⟨(some 8), none, .len false (.t 7)⟩,
    ⟨(some 9), none, .bin .neq (.t 6) (.t 8)⟩] (some [0, 1, 9]))
  (.cd (.t 9)
   (.sq (.op 0 [⟨(some 4), none, .mv (.c (.int .i64 10))⟩] none)
   .rt)
   .sk))
  (.sq (.sq (.op 0 [⟨(some 10), none, .mv (.t 0)⟩,
    ⟨(some 11), none, .mv (.t 1)⟩,
    ⟨(some 12), none, .callV true (.c (.fn n_ratchetbase_IsValues [])) [(.t 10), (.t 11)]⟩,
    ⟨(some 13), none, .un .not (.t 12)⟩] (some [13]))
  (.cd (.t 13)
   (.sq (.op 0 [⟨(some 4), none, .mv (.c (.int .i64 2))⟩] none)
   .rt)
   .sk))
  (.sq (.op 0 [⟨(some 4), none, .mv (.c (.int .i64 0))⟩] none)
  .rt)))),
  [.t 4]⟩
def b_ratchetref02_FromErr_L0 : IR :=
 (.sq (.sq (.op 0 [⟨(some 6), none, .mv (.t 5)⟩,
   ⟨(some 7), none, .mv (.t 1)⟩,
   ⟨(some 8), none, .len false (.t 7)⟩,
   ⟨(some 9), none, .bin .lss (.t 6) (.t 8)⟩] (some [0, 1, 5, 9]))
 (.cd (.t 9)
  .sk
  (.ex 0)))
 (.sq (.bk 1 (.sq (.op 0 [⟨(some 12), none, .mv (.t 0)⟩,
    ⟨(some 13), none, .mv (.t 1)⟩,
    ⟨(some 14), none, .mv (.t 5)⟩,
    ⟨(some 15), none, .ia (.t 13) (.t 14) 1⟩,
    ⟨(some 16), none, .ld (.t 15) 1 false⟩,
    ⟨(some 17), none, .callV true (.c (.fn n_ratchetbase_IsNode [])) [(.t 12), (.t 16)]⟩,
    ⟨(some 18), none, .un .not (.t 17)⟩] (some [0, 1, 5, 18]))
  (.cd (.t 18)
   (.sq (.op 0 [⟨(some 4), none, .mv (.c (.int .i64 6))⟩] none)
   .rt)
   .sk)))
 (.op 0 [⟨(some 10), none, .mv (.t 5)⟩,
   ⟨(some 11), none, .bin .add (.t 10) (.c (.int .i64 1))⟩,
   ⟨(some 5), none, .mv (.t 11)⟩] none)))
def c_ratchetref02_FromErr_L0 : IR := b_ratchetref02_FromErr_L0
theorem u_ratchetref02_FromErr_L0 {C : Call} {L : Loop} {π : Id} {k0 : List Id} {e : Env} {s : Sto} : evC C L π k0 c_ratchetref02_FromErr_L0 e s = evC C L π k0 b_ratchetref02_FromErr_L0 e s := rfl
def c_ratchetref02_FromErr : FnIR := ⟨19,
  (.sq (.op 0 [⟨(some 4), none, .mv (.c (.int .i64 0))⟩] none)
  (.sq (.sq (.op 0 [⟨(some 5), none, .mv (.c (.int .i64 0))⟩] none)
  (.kp [] [4] (.bk 0 (.lp [] [0, 1, 5] c_ratchetref02_FromErr_L0))))
  (.sq (.op 0 [⟨(some 4), none, .mv (.c (.int .i64 0))⟩] none)
  .rt))),
  [.t 4]⟩
def c_ratchetlaw02_light : FnIR := ⟨19,
  (.sq (.op 0 [⟨(some 6), none, .mv (.c (.bool false))⟩] none)
  (.sq (.op 0 [⟨(some 7), none, .mv (.t 0)⟩,
    ⟨(some 8), none, .mv (.t 1)⟩,
    ⟨(some 9), none, .mv (.t 2)⟩,
    ⟨(some 10), none, .callV true (.c (.fn n_ratchetref02_Bits [])) [(.t 7), (.t 8), (.t 9)]⟩,
    ⟨(some 11), none, .bin .leq (.t 10) (.c (.int .i64 9))⟩,
    ⟨(some 12), none, .mv (.t 11)⟩,
    ⟨(some 13), (some (12, false)), .mv (.t 0)⟩,
    ⟨(some 14), (some (12, false)), .mv (.t 1)⟩,
    ⟨(some 15), (some (12, false)), .mv (.t 2)⟩,
    ⟨(some 16), (some (12, false)), .callV true (.c (.fn n_ratchetref02_Bits [])) [(.t 13), (.t 14), (.t 15)]⟩,
    ⟨(some 17), (some (12, false)), .bin .gtr (.t 16) (.c (.int .i64 12))⟩,
    ⟨(some 18), none, .pick (.t 12) (.c (.bool true)) (.t 17)⟩,
    ⟨(some 6), none, .mv (.t 18)⟩] (some [6]))
  .rt)),
  [.t 6]⟩
def c_graph_LeavesOf : FnIR := ⟨19,
  (.sq (.op 0 [⟨(some 6), none, .mv (.c (.sl 1 (some true) []))⟩,
    ⟨(some 7), none, .mv (.c (.int .i64 0))⟩] none)
  (.sq (.sq (.op 0 [⟨(some 9), none, .mv (.t 0)⟩,
    ⟨(some 10), none, .mv (.t 1)⟩,
    ⟨(some 11), none, .mv (.t 2)⟩,
    ⟨(some 12), none, .callV true (.c (.fn n_graph_namedErr [])) [(.t 9), (.t 10), (.t 11)]⟩,
    ⟨(some 8), none, .mv (.t 12)⟩] (some [1, 2, 8]))
  (.sq (.op 0 [⟨(some 13), none, .mv (.t 8)⟩,
    ⟨(some 14), none, .bin .neq (.t 13) (.c (.int .i64 0))⟩] none)
  (.cd (.t 14)
   (.sq (.op 0 [⟨(some 15), none, .mv (.t 8)⟩,
     ⟨(some 6), none, .mv (.c (.sl 1 (some true) []))⟩,
     ⟨(some 7), none, .mv (.t 15)⟩] none)
   .rt)
   .sk)))
  (.sq (.op 0 [⟨(some 16), none, .mv (.t 1)⟩,
    ⟨(some 17), none, .mv (.t 2)⟩,
    ⟨(some 18), none, .callV false (.c (.fn n_graph_leavesBelow [])) [(.t 16), (.t 17)]⟩,
    ⟨(some 6), none, .mv (.t 18)⟩,
    ⟨(some 7), none, .mv (.c (.int .i64 0))⟩] (some [6, 7]))
  .rt))),
  [.t 6, .t 7]⟩
def c_graph_ValuesOf : FnIR := ⟨37,
  (.sq (.op 0 [⟨(some 3), none, .box (.t 0) 1⟩,
    ⟨(some 6), none, .mv (.c (.sl 1 (some true) []))⟩,
    ⟨(some 7), none, .mv (.c (.int .i64 0))⟩] none)
  (.sq (.sq (.fz [1] (.op 8 [⟨(some 11), none, .ld (.t 3) 1 false⟩,
    ⟨(some 12), none, .mv (.t 1)⟩,
    ⟨(some 13), none, .callV true (.c (.fn n_graph_graphErr [])) [(.t 11), (.t 12)]⟩,
    ⟨(some 14), none, .mv (.t 2)⟩,
    ⟨(some 15), none, .len false (.t 14)⟩,
    ⟨(some 16), none, .ld (.t 3) 1 false⟩,
    ⟨(some 17), none, .len false (.t 16)⟩,
    ⟨(some 18), none, .bin .eql (.t 15) (.t 17)⟩,
    ⟨(some 19), none, .callV true (.c (.fn n_graph_unless [])) [(.t 18), (.c (.int .i64 10))]⟩,
    ⟨(some 20), none, .bsl t_api_Errno 1 false [.int .i64 0] 2 [(0, (.t 13)), (1, (.t 19))]⟩,
    ⟨(some 21), none, .callV true (.c (.fn n_graph_first [])) [(.t 20)]⟩,
    ⟨(some 8), none, .mv (.t 21)⟩] (some [1, 2, 3, 8])))
  (.sq (.op 0 [⟨(some 22), none, .mv (.t 8)⟩,
    ⟨(some 23), none, .bin .neq (.t 22) (.c (.int .i64 0))⟩] none)
  (.cd (.t 23)
   (.sq (.op 0 [⟨(some 24), none, .mv (.t 8)⟩,
     ⟨(some 6), none, .mv (.c (.sl 1 (some true) []))⟩,
     ⟨(some 7), none, .mv (.t 24)⟩] none)
   .rt)
   .sk)))
  (.sq (.sq (.op 0 [⟨(some 26), none, .mv (.t 2)⟩,
    ⟨(some 27), none, .mkf n_graph_ValuesOf_1 [(.t 3)]⟩,
    ⟨(some 28), none, .callV true (.c (.fn n_graph_each_int [])) [(.t 26), (.t 27)]⟩,
    ⟨(some 25), none, .mv (.t 28)⟩,
    ⟨(some 29), none, .ext (.t 25) 0⟩,
    ⟨(some 30), none, .ext (.t 25) 1⟩,
    ⟨(some 9), none, .mv (.t 29)⟩,
    ⟨(some 10), none, .mv (.t 30)⟩] (some [1, 2, 10]))
  (.sq (.op 0 [⟨(some 31), none, .mv (.t 10)⟩,
    ⟨(some 32), none, .bin .neq (.t 31) (.c (.int .i64 0))⟩] none)
  (.cd (.t 32)
   (.sq (.op 0 [⟨(some 33), none, .mv (.t 10)⟩,
     ⟨(some 6), none, .mv (.c (.sl 1 (some true) []))⟩,
     ⟨(some 7), none, .mv (.t 33)⟩] none)
   .rt)
   .sk)))
  (.sq (.op 0 [⟨(some 34), none, .mv (.t 1)⟩,
    ⟨(some 35), none, .mv (.t 2)⟩,
    ⟨(some 36), none, .callV false (.c (.fn n_graph_valued [])) [(.t 34), (.t 35)]⟩,
    ⟨(some 6), none, .mv (.t 36)⟩,
    ⟨(some 7), none, .mv (.c (.int .i64 0))⟩] (some [6, 7]))
  .rt)))),
  [.t 6, .t 7]⟩
def c_ratchetbase_Power : FnIR := ⟨5,
  (.sq (.op 0 [⟨(some 2), none, .mv (.c (.int .i64 0))⟩] none)
  (.sq (.op 0 [⟨(some 3), none, .mv (.t 0)⟩,
    ⟨(some 4), none, .bin .shl (.c (.int .i64 1)) (.t 3)⟩,
    ⟨(some 2), none, .mv (.t 4)⟩] none)
  .rt)),
  [.t 2]⟩
def b_graph_DifferenceOf_R0A : IR :=
 (.sq (.op 0 [⟨(some 13), none, .mv (.t 53)⟩] none)
 (.op 0 [⟨(some 14), none, .mv (.t 54)⟩] none))
def c_graph_DifferenceOf_R0A : IR := b_graph_DifferenceOf_R0A
theorem u_graph_DifferenceOf_R0A {C : Call} {L : Loop} {π : Id} {k0 : List Id} {e : Env} {s : Sto} : evC C L π k0 c_graph_DifferenceOf_R0A e s = evC C L π k0 b_graph_DifferenceOf_R0A e s := rfl
def b_graph_DifferenceOf_R0B : IR :=
 (.bk 1 (.sq (.op 8 [⟨(some 55), none, .mv (.t 14)⟩,
    ⟨(some 56), none, .ld (.t 6) 1 false⟩,
    ⟨(some 57), none, .ia (.t 55) (.t 56) 1⟩,
    ⟨(some 58), none, .ld (.t 57) 1 false⟩,
    ⟨(some 59), none, .mv (.t 14)⟩,
    ⟨(some 60), none, .ld (.t 7) 1 false⟩,
    ⟨(some 61), none, .ia (.t 59) (.t 60) 1⟩,
    ⟨(some 62), none, .ld (.t 61) 1 false⟩,
    ⟨(some 63), none, .bin .neq (.t 58) (.t 62)⟩] (some [8, 9, 13, 63]))
  (.cd (.t 63)
   (.sq (.fz [13, 53] (.op 0 [⟨(some 64), none, .mv (.t 13)⟩,
     ⟨(some 65), none, .callV false (.c (.fn n_slices_Clone_int_int [])) [(.t 64)]⟩,
     ⟨none, none, .st (.t 8) (.t 65) 1⟩,
     ⟨none, none, .st (.t 9) (.c (.int .i64 0)) 1⟩] (some [])))
   .rt)
   .sk)))
def c_graph_DifferenceOf_R0B : IR := b_graph_DifferenceOf_R0B
theorem u_graph_DifferenceOf_R0B {C : Call} {L : Loop} {π : Id} {k0 : List Id} {e : Env} {s : Sto} : evC C L π k0 c_graph_DifferenceOf_R0B e s = evC C L π k0 b_graph_DifferenceOf_R0B e s := rfl
def c_graph_DifferenceOf : FnIR := ⟨66,
  (.sq (.op 0 [⟨(some 6), none, .box (.t 2) 1⟩,
    ⟨(some 7), none, .box (.t 3) 1⟩,
    ⟨(some 8), none, .alloc [.sl 1 (some true) []]⟩,
    ⟨(some 9), none, .alloc [.int .i64 0]⟩] none)
  (.sq (.sq (.op 0 [⟨(some 15), none, .mv (.t 0)⟩,
    ⟨(some 16), none, .mv (.t 1)⟩,
    ⟨(some 17), none, .ld (.t 6) 1 false⟩,
    ⟨(some 18), none, .ld (.t 7) 1 false⟩,
    ⟨(some 19), none, .bsl t_int 1 false [.int .i64 0] 2 [(0, (.t 17)), (1, (.t 18))]⟩,
    ⟨(some 20), none, .callV true (.c (.fn n_graph_namedErr [])) [(.t 15), (.t 16), (.t 19)]⟩,
    ⟨(some 10), none, .mv (.t 20)⟩] (some [0, 1, 6, 7, 8, 9, 10]))
  (.sq (.op 0 [⟨(some 21), none, .mv (.t 10)⟩,
    ⟨(some 22), none, .bin .neq (.t 21) (.c (.int .i64 0))⟩] none)
  (.cd (.t 22)
   (.sq (.op 0 [⟨(some 23), none, .mv (.t 10)⟩,
     ⟨none, none, .st (.t 8) (.c (.sl 1 (some true) [])) 1⟩,
     ⟨none, none, .st (.t 9) (.t 23) 1⟩] none)
   .rt)
   .sk)))
  (.sq (.op 0 [⟨(some 24), none, .mv (.t 1)⟩,
    ⟨(some 25), none, .ld (.t 6) 1 false⟩,
    ⟨(some 26), none, .ld (.t 7) 1 false⟩,
    ⟨(some 27), none, .bsl t_int 1 false [.int .i64 0] 2 [(0, (.t 25)), (1, (.t 26))]⟩,
    ⟨(some 28), none, .callV false (.c (.fn n_graph_leavesBelow [])) [(.t 24), (.t 27)]⟩,
    ⟨(some 11), none, .mv (.t 28)⟩] (some [0, 1, 6, 7, 8, 9, 11]))
  (.sq (.sq (.op 14 [⟨(some 29), none, .mv (.t 1)⟩,
    ⟨(some 30), none, .ld (.t 6) 1 false⟩,
    ⟨(some 31), none, .ia (.t 29) (.t 30) 4⟩,
    ⟨(some 32), none, .fa (.t 31) 1⟩,
    ⟨(some 33), none, .ld (.t 32) 1 false⟩,
    ⟨(some 34), none, .mv (.t 1)⟩,
    ⟨(some 35), none, .ld (.t 7) 1 false⟩,
    ⟨(some 36), none, .ia (.t 34) (.t 35) 4⟩,
    ⟨(some 37), none, .fa (.t 36) 1⟩,
    ⟨(some 38), none, .ld (.t 37) 1 false⟩,
    ⟨(some 39), none, .bin .eql (.t 33) (.t 38)⟩,
    ⟨(some 40), none, .callV true (.c (.fn n_graph_unless [])) [(.t 39), (.c (.int .i64 25))]⟩,
    ⟨(some 41), none, .mv (.t 0)⟩,
    ⟨(some 42), none, .mv (.t 11)⟩,
    ⟨(some 43), none, .callV true (.c (.fn n_graph_bitsErr [])) [(.t 41), (.t 42)]⟩,
    ⟨(some 44), none, .bsl t_api_Errno 1 false [.int .i64 0] 2 [(0, (.t 40)), (1, (.t 43))]⟩,
    ⟨(some 45), none, .callV true (.c (.fn n_graph_first [])) [(.t 44)]⟩,
    ⟨(some 12), none, .mv (.t 45)⟩] (some [0, 1, 6, 7, 8, 9, 11, 12]))
  (.sq (.op 0 [⟨(some 46), none, .mv (.t 12)⟩,
    ⟨(some 47), none, .bin .neq (.t 46) (.c (.int .i64 0))⟩] none)
  (.cd (.t 47)
   (.sq (.op 0 [⟨(some 48), none, .mv (.t 12)⟩,
     ⟨none, none, .st (.t 8) (.c (.sl 1 (some true) [])) 1⟩,
     ⟨none, none, .st (.t 9) (.t 48) 1⟩] none)
   .rt)
   .sk)))
  (.sq (.sq (.kp [6, 7, 8, 9, 52] [8, 9] (.op 0 [⟨(some 49), none, .mv (.t 0)⟩,
    ⟨(some 50), none, .mv (.t 1)⟩,
    ⟨(some 51), none, .mv (.t 11)⟩,
    ⟨(some 52), none, .callV false (.c (.fn n_graph_runs [])) [(.t 49), (.t 50), (.t 51)]⟩] (some [6, 7, 8, 9, 52])))
  (.bk 0 (.kp [8, 9] [8, 9] (.rf (.t 52) 66 0 [6, 7, 8, 9] [53, 54] c_graph_DifferenceOf_R0A c_graph_DifferenceOf_R0B))))
  (.sq (.op 0 [⟨none, none, .st (.t 8) (.c (.sl 1 (some true) [])) 1⟩,
    ⟨none, none, .st (.t 9) (.c (.int .i64 12)) 1⟩] none)
  .rt)))))),
  [.c 8 1 false, .c 9 1 false]⟩
def b_graph_ConstantAt_R0A : IR :=
 (.op 0 [⟨(some 13), none, .mv (.t 37)⟩] none)
def c_graph_ConstantAt_R0A : IR := b_graph_ConstantAt_R0A
theorem u_graph_ConstantAt_R0A {C : Call} {L : Loop} {π : Id} {k0 : List Id} {e : Env} {s : Sto} : evC C L π k0 c_graph_ConstantAt_R0A e s = evC C L π k0 b_graph_ConstantAt_R0A e s := rfl
def b_graph_ConstantAt_R0B : IR :=
 (.bk 1 (.sq (.sq (.op 8 [⟨(some 38), none, .ld (.t 11) 1 false⟩,
    ⟨(some 39), none, .bin .geq (.t 38) (.c (.int .i64 0))⟩,
    ⟨(some 40), none, .mv (.t 39)⟩,
    ⟨(some 41), (some (40, true)), .mv (.t 13)⟩,
    ⟨(some 42), (some (40, true)), .ld (.t 5) 1 false⟩,
    ⟨(some 43), (some (40, true)), .ia (.t 41) (.t 42) 1⟩,
    ⟨(some 44), (some (40, true)), .ld (.t 43) 1 false⟩,
    ⟨(some 45), (some (40, true)), .ld (.t 11) 1 false⟩,
    ⟨(some 46), (some (40, true)), .bin .neq (.t 44) (.t 45)⟩,
    ⟨(some 47), none, .pick (.t 40) (.t 46) (.c (.bool false))⟩] (some [5, 6, 7, 11, 13, 47]))
  (.cd (.t 47)
   (.sq (.op 0 [⟨none, none, .st (.t 6) (.c (.int .i64 0)) 1⟩,
     ⟨none, none, .st (.t 7) (.c (.int .i64 12)) 1⟩] none)
   .rt)
   .sk))
  (.op 0 [⟨(some 48), none, .mv (.t 13)⟩,
    ⟨(some 49), none, .ld (.t 5) 1 false⟩,
    ⟨(some 50), none, .ia (.t 48) (.t 49) 1⟩,
    ⟨(some 51), none, .ld (.t 50) 1 false⟩,
    ⟨none, none, .st (.t 11) (.t 51) 1⟩] (some []))))
def c_graph_ConstantAt_R0B : IR := b_graph_ConstantAt_R0B
theorem u_graph_ConstantAt_R0B {C : Call} {L : Loop} {π : Id} {k0 : List Id} {e : Env} {s : Sto} : evC C L π k0 c_graph_ConstantAt_R0B e s = evC C L π k0 b_graph_ConstantAt_R0B e s := rfl
def c_graph_ConstantAt : FnIR := ⟨53,
  (.sq (.op 0 [⟨(some 5), none, .box (.t 2) 1⟩,
    ⟨(some 6), none, .alloc [.int .i64 0]⟩,
    ⟨(some 7), none, .alloc [.int .i64 0]⟩] none)
  (.sq (.sq (.op 0 [⟨(some 14), none, .mv (.t 0)⟩,
    ⟨(some 15), none, .mv (.t 1)⟩,
    ⟨(some 16), none, .ld (.t 5) 1 false⟩,
    ⟨(some 17), none, .bsl t_int 1 false [.int .i64 0] 1 [(0, (.t 16))]⟩,
    ⟨(some 18), none, .callV true (.c (.fn n_graph_namedErr [])) [(.t 14), (.t 15), (.t 17)]⟩,
    ⟨(some 8), none, .mv (.t 18)⟩] (some [0, 1, 5, 6, 7, 8]))
  (.sq (.op 0 [⟨(some 19), none, .mv (.t 8)⟩,
    ⟨(some 20), none, .bin .neq (.t 19) (.c (.int .i64 0))⟩] none)
  (.cd (.t 20)
   (.sq (.op 0 [⟨(some 21), none, .mv (.t 8)⟩,
     ⟨none, none, .st (.t 6) (.c (.int .i64 0)) 1⟩,
     ⟨none, none, .st (.t 7) (.t 21) 1⟩] none)
   .rt)
   .sk)))
  (.sq (.op 0 [⟨(some 22), none, .mv (.t 1)⟩,
    ⟨(some 23), none, .ld (.t 5) 1 false⟩,
    ⟨(some 24), none, .bsl t_int 1 false [.int .i64 0] 1 [(0, (.t 23))]⟩,
    ⟨(some 25), none, .callV false (.c (.fn n_graph_leavesBelow [])) [(.t 22), (.t 24)]⟩,
    ⟨(some 9), none, .mv (.t 25)⟩] (some [0, 1, 5, 6, 7, 9]))
  (.sq (.sq (.op 0 [⟨(some 26), none, .mv (.t 0)⟩,
    ⟨(some 27), none, .mv (.t 9)⟩,
    ⟨(some 28), none, .callV true (.c (.fn n_graph_bitsErr [])) [(.t 26), (.t 27)]⟩,
    ⟨(some 10), none, .mv (.t 28)⟩] (some [0, 1, 5, 6, 7, 9, 10]))
  (.sq (.op 0 [⟨(some 29), none, .mv (.t 10)⟩,
    ⟨(some 30), none, .bin .neq (.t 29) (.c (.int .i64 0))⟩] none)
  (.cd (.t 30)
   (.sq (.op 0 [⟨(some 31), none, .mv (.t 10)⟩,
     ⟨none, none, .st (.t 6) (.c (.int .i64 0)) 1⟩,
     ⟨none, none, .st (.t 7) (.t 31) 1⟩] none)
   .rt)
   .sk)))
  (.sq (.op 0 [⟨(some 11), none, .alloc [.int .i64 0]⟩,
    ⟨none, none, .st (.t 11) (.c (.int .i64 (-1))) 1⟩] none)
  (.sq (.sq (.kp [5, 6, 7, 11, 35] [6, 7] (.op 0 [⟨(some 32), none, .mv (.t 0)⟩,
    ⟨(some 33), none, .mv (.t 1)⟩,
    ⟨(some 34), none, .mv (.t 9)⟩,
    ⟨(some 35), none, .callV false (.c (.fn n_graph_runs [])) [(.t 32), (.t 33), (.t 34)]⟩] (some [5, 6, 7, 11, 35])))
  (.bk 0 (.kp [6, 7, 11] [6, 7] (.rf (.t 35) 53 0 [5, 6, 7, 11] [36, 37] c_graph_ConstantAt_R0A c_graph_ConstantAt_R0B))))
  (.sq (.op 0 [⟨(some 52), none, .ld (.t 11) 1 false⟩,
    ⟨none, none, .st (.t 6) (.t 52) 1⟩,
    ⟨none, none, .st (.t 7) (.c (.int .i64 0)) 1⟩] none)
  .rt))))))),
  [.c 6 1 false, .c 7 1 false]⟩
def c_ratchetlaw02_both : FnIR := ⟨9,
  (.sq (.op 0 [⟨(some 4), none, .mv (.c (.int .i64 0))⟩] none)
  (.sq (.sq (.op 0 [⟨(some 5), none, .mv (.t 0)⟩,
    ⟨(some 6), none, .bin .neq (.t 5) (.c (.int .i64 0))⟩] none)
  (.cd (.t 6)
   (.sq (.op 0 [⟨(some 7), none, .mv (.t 0)⟩,
     ⟨(some 4), none, .mv (.t 7)⟩] none)
   .rt)
   .sk))
  (.sq (.op 0 [⟨(some 8), none, .mv (.t 1)⟩,
    ⟨(some 4), none, .mv (.t 8)⟩] none)
  .rt))),
  [.t 4]⟩
def b_ratchetref02_Bits_L0 : IR :=
 (.sq (.sq (.op 0 [⟨(some 15), none, .mv (.t 9)⟩,
   ⟨(some 16), none, .mv (.t 8)⟩,
   ⟨(some 17), none, .len false (.t 16)⟩,
   ⟨(some 18), none, .bin .lss (.t 15) (.t 17)⟩] (some [0, 7, 8, 9, 18]))
 (.cd (.t 18)
  .sk
  (.ex 0)))
 (.sq (.bk 1 (.op 0 [⟨(some 21), none, .mv (.t 7)⟩,
    ⟨(some 22), none, .mv (.t 0)⟩,
    ⟨(some 23), none, .mv (.t 8)⟩,
    ⟨(some 24), none, .mv (.t 9)⟩,
    ⟨(some 25), none, .ia (.t 23) (.t 24) 1⟩,
    ⟨(some 26), none, .ld (.t 25) 1 false⟩,
    ⟨(some 27), none, .ia (.t 22) (.t 26) 1⟩,
    ⟨(some 28), none, .ld (.t 27) 1 false⟩,
    ⟨(some 29), none, .bin .add (.t 21) (.t 28)⟩,
    ⟨(some 7), none, .mv (.t 29)⟩] (some [0, 7, 8, 9])))
 (.op 0 [⟨(some 19), none, .mv (.t 9)⟩,
   ⟨(some 20), none, .bin .add (.t 19) (.c (.int .i64 1))⟩,
   ⟨(some 9), none, .mv (.t 20)⟩] none)))
def c_ratchetref02_Bits_L0 : IR := b_ratchetref02_Bits_L0
theorem u_ratchetref02_Bits_L0 {C : Call} {L : Loop} {π : Id} {k0 : List Id} {e : Env} {s : Sto} : evC C L π k0 c_ratchetref02_Bits_L0 e s = evC C L π k0 b_ratchetref02_Bits_L0 e s := rfl
def c_ratchetref02_Bits : FnIR := ⟨31,
  (.sq (.op 0 [⟨(some 6), none, .mv (.c (.int .i64 0))⟩] none)
  (.sq (.op 0 [⟨(some 7), none, .mv (.c (.int .i64 0))⟩] none)
  (.sq (.op 0 [⟨(some 10), none, .mv (.t 1)⟩,
    ⟨(some 11), none, .mv (.t 2)⟩,
    ⟨(some 12), none, .mv (.t 0)⟩,
    ⟨(some 13), none, .len false (.t 12)⟩,
    ⟨(some 14), none, .callV false (.c (.fn n_ratchetbase_LeavesBelow [])) [(.t 10), (.t 11), (.t 13)]⟩,
    ⟨(some 8), none, .mv (.t 14)⟩] (some [0, 7, 8]))
  (.sq (.sq (.op 0 [⟨(some 9), none, .mv (.c (.int .i64 0))⟩] none)
  (.kp [7] [6] (.bk 0 (.lp [] [0, 7, 8, 9] c_ratchetref02_Bits_L0))))
  (.sq (.op 0 [⟨(some 30), none, .mv (.t 7)⟩,
    ⟨(some 6), none, .mv (.t 30)⟩] none)
  .rt))))),
  [.t 6]⟩
def b_ratchetref02_Constant_L0 : IR :=
 (.sq (.sq (.op 0 [⟨(some 24), none, .mv (.t 10)⟩,
   ⟨(some 25), none, .mv (.t 8)⟩,
   ⟨(some 26), none, .len false (.t 25)⟩,
   ⟨(some 27), none, .bin .lss (.t 24) (.t 26)⟩] (some [1, 2, 8, 9, 10, 27]))
 (.cd (.t 27)
  .sk
  (.ex 0)))
 (.sq (.bk 1 (.sq (.op 0 [⟨(some 30), none, .mv (.t 1)⟩,
    ⟨(some 31), none, .mv (.t 8)⟩,
    ⟨(some 32), none, .mv (.t 10)⟩,
    ⟨(some 33), none, .ia (.t 31) (.t 32) 1⟩,
    ⟨(some 34), none, .ld (.t 33) 1 false⟩,
    ⟨(some 35), none, .callV false (.c (.fn n_ratchetbase_NodeValues [])) [(.t 30), (.t 34)]⟩,
    ⟨(some 36), none, .mv (.t 2)⟩,
    ⟨(some 37), none, .ia (.t 35) (.t 36) 1⟩,
    ⟨(some 38), none, .ld (.t 37) 1 false⟩,
    ⟨(some 39), none, .mv (.t 9)⟩,
    ⟨(some 40), none, .bin .neq (.t 38) (.t 39)⟩] (some [1, 2, 8, 9, 10, 40]))
  (.cd (.t 40)
   (.sq (.op 0 [⟨(some 6), none, .mv (.c (.int .i64 0))⟩,
     ⟨(some 7), none, .mv (.c (.bool false))⟩] none)
   .rt)
   .sk)))
 (.op 0 [⟨(some 28), none, .mv (.t 10)⟩,
   ⟨(some 29), none, .bin .add (.t 28) (.c (.int .i64 1))⟩,
   ⟨(some 10), none, .mv (.t 29)⟩] none)))
def c_ratchetref02_Constant_L0 : IR := b_ratchetref02_Constant_L0
theorem u_ratchetref02_Constant_L0 {C : Call} {L : Loop} {π : Id} {k0 : List Id} {e : Env} {s : Sto} : evC C L π k0 c_ratchetref02_Constant_L0 e s = evC C L π k0 b_ratchetref02_Constant_L0 e s := rfl
def c_ratchetref02_Constant : FnIR := ⟨42,
  (.sq (.op 0 [⟨(some 6), none, .mv (.c (.int .i64 0))⟩,
    ⟨(some 7), none, .mv (.c (.bool false))⟩] none)
  (.sq (.op 0 [⟨(some 11), none, .mv (.t 0)⟩,
    ⟨(some 12), none, .mv (.t 1)⟩,
    ⟨(some 13), none, .mv (.t 2)⟩,
    ⟨(some 14), none, .bsl t_int 1 false [.int .i64 0] 1 [(0, (.t 13))]⟩,
    ⟨(some 15), none, .callV false (.c (.fn n_ratchetref02_Tries [])) [(.t 11), (.t 12), (.t 14)]⟩,
    ⟨(some 8), none, .mv (.t 15)⟩] (some [1, 2, 8]))
  (.sq (.op 0 [⟨(some 16), none, .mv (.t 1)⟩,
    ⟨(some 17), none, .mv (.t 8)⟩,
    ⟨(some 18), none, .ia (.t 17) (.c (.int .i64 0)) 1⟩,
    ⟨(some 19), none, .ld (.t 18) 1 false⟩,
    ⟨(some 20), none, .callV false (.c (.fn n_ratchetbase_NodeValues [])) [(.t 16), (.t 19)]⟩,
    ⟨(some 21), none, .mv (.t 2)⟩,
    ⟨(some 22), none, .ia (.t 20) (.t 21) 1⟩,
    ⟨(some 23), none, .ld (.t 22) 1 false⟩,
    ⟨(some 9), none, .mv (.t 23)⟩] (some [1, 2, 8, 9]))
  (.sq (.sq (.op 0 [⟨(some 10), none, .mv (.c (.int .i64 0))⟩] none)
  (.kp [9] [6, 7] (.bk 0 (.lp [] [1, 2, 8, 9, 10] c_ratchetref02_Constant_L0))))
  (.sq (.op 0 [⟨(some 41), none, .mv (.t 9)⟩,
    ⟨(some 6), none, .mv (.t 41)⟩,
    ⟨(some 7), none, .mv (.c (.bool true))⟩] none)
  .rt))))),
  [.t 6, .t 7]⟩
def b_ratchetref02_Difference_L0 : IR :=
 (.sq (.sq (.op 0 [⟨(some 19), none, .mv (.t 11)⟩,
   ⟨(some 20), none, .mv (.t 10)⟩,
   ⟨(some 21), none, .len false (.t 20)⟩,
   ⟨(some 22), none, .bin .lss (.t 19) (.t 21)⟩] (some [1, 2, 3, 10, 11, 22]))
 (.cd (.t 22)
  .sk
  (.ex 0)))
 (.sq (.bk 1 (.sq (.op 0 [⟨(some 25), none, .mv (.t 1)⟩,
    ⟨(some 26), none, .mv (.t 10)⟩,
    ⟨(some 27), none, .mv (.t 11)⟩,
    ⟨(some 28), none, .ia (.t 26) (.t 27) 1⟩,
    ⟨(some 29), none, .ld (.t 28) 1 false⟩,
    ⟨(some 30), none, .callV false (.c (.fn n_ratchetbase_NodeValues [])) [(.t 25), (.t 29)]⟩,
    ⟨(some 12), none, .mv (.t 30)⟩] (some [1, 2, 3, 10, 11, 12]))
  (.sq (.op 8 [⟨(some 31), none, .mv (.t 12)⟩,
    ⟨(some 32), none, .mv (.t 2)⟩,
    ⟨(some 33), none, .ia (.t 31) (.t 32) 1⟩,
    ⟨(some 34), none, .ld (.t 33) 1 false⟩,
    ⟨(some 35), none, .mv (.t 12)⟩,
    ⟨(some 36), none, .mv (.t 3)⟩,
    ⟨(some 37), none, .ia (.t 35) (.t 36) 1⟩,
    ⟨(some 38), none, .ld (.t 37) 1 false⟩,
    ⟨(some 39), none, .bin .neq (.t 34) (.t 38)⟩] (some [1, 2, 3, 10, 11, 39]))
  (.cd (.t 39)
   (.sq (.op 0 [⟨(some 40), none, .mv (.t 10)⟩,
     ⟨(some 41), none, .mv (.t 11)⟩,
     ⟨(some 42), none, .ia (.t 40) (.t 41) 1⟩,
     ⟨(some 43), none, .ld (.t 42) 1 false⟩,
     ⟨(some 8), none, .mv (.t 43)⟩,
     ⟨(some 9), none, .mv (.c (.bool true))⟩] (some [8, 9]))
   .rt)
   .sk))))
 (.op 0 [⟨(some 23), none, .mv (.t 11)⟩,
   ⟨(some 24), none, .bin .add (.t 23) (.c (.int .i64 1))⟩,
   ⟨(some 11), none, .mv (.t 24)⟩] none)))
def c_ratchetref02_Difference_L0 : IR := b_ratchetref02_Difference_L0
theorem u_ratchetref02_Difference_L0 {C : Call} {L : Loop} {π : Id} {k0 : List Id} {e : Env} {s : Sto} : evC C L π k0 c_ratchetref02_Difference_L0 e s = evC C L π k0 b_ratchetref02_Difference_L0 e s := rfl
def c_ratchetref02_Difference : FnIR := ⟨44,
  (.sq (.op 0 [⟨(some 8), none, .mv (.c (.sl 1 (some true) []))⟩,
    ⟨(some 9), none, .mv (.c (.bool false))⟩] none)
  (.sq (.op 0 [⟨(some 13), none, .mv (.t 0)⟩,
    ⟨(some 14), none, .mv (.t 1)⟩,
    ⟨(some 15), none, .mv (.t 2)⟩,
    ⟨(some 16), none, .mv (.t 3)⟩,
    ⟨(some 17), none, .bsl t_int 1 false [.int .i64 0] 2 [(0, (.t 15)), (1, (.t 16))]⟩,
    ⟨(some 18), none, .callV false (.c (.fn n_ratchetref02_Tries [])) [(.t 13), (.t 14), (.t 17)]⟩,
    ⟨(some 10), none, .mv (.t 18)⟩] (some [1, 2, 3, 10]))
  (.sq (.sq (.op 0 [⟨(some 11), none, .mv (.c (.int .i64 0))⟩] none)
  (.kp [] [8, 9] (.bk 0 (.lp [] [1, 2, 3, 10, 11] c_ratchetref02_Difference_L0))))
  (.sq (.op 0 [⟨(some 8), none, .mv (.c (.sl 1 (some true) []))⟩,
    ⟨(some 9), none, .mv (.c (.bool false))⟩] none)
  .rt)))),
  [.t 8, .t 9]⟩
def b_ratchetbase_Ints_L0 : IR :=
 (.sq (.sq (.op 0 [⟨(some 11), none, .mv (.t 5)⟩,
   ⟨(some 12), none, .mv (.t 0)⟩,
   ⟨(some 13), none, .len false (.t 12)⟩,
   ⟨(some 14), none, .bin .lss (.t 11) (.t 13)⟩] (some [0, 1, 5, 14]))
 (.cd (.t 14)
  .sk
  (.ex 0)))
 (.sq (.bk 1 (.sq (.op 8 [⟨(some 17), none, .mv (.t 0)⟩,
    ⟨(some 18), none, .mv (.t 5)⟩,
    ⟨(some 19), none, .ia (.t 17) (.t 18) 1⟩,
    ⟨(some 20), none, .ld (.t 19) 1 false⟩,
    ⟨(some 21), none, .mv (.t 1)⟩,
    ⟨(some 22), none, .mv (.t 5)⟩,
    ⟨(some 23), none, .ia (.t 21) (.t 22) 1⟩,
    ⟨(some 24), none, .ld (.t 23) 1 false⟩,
    ⟨(some 25), none, .bin .neq (.t 20) (.t 24)⟩] (some [0, 1, 5, 25]))
  (.cd (.t 25)
   (.sq (.op 0 [⟨(some 4), none, .mv (.c (.bool false))⟩] none)
   .rt)
   .sk)))
 (.op 0 [⟨(some 15), none, .mv (.t 5)⟩,
   ⟨(some 16), none, .bin .add (.t 15) (.c (.int .i64 1))⟩,
   ⟨(some 5), none, .mv (.t 16)⟩] none)))
def c_ratchetbase_Ints_L0 : IR := b_ratchetbase_Ints_L0
theorem u_ratchetbase_Ints_L0 {C : Call} {L : Loop} {π : Id} {k0 : List Id} {e : Env} {s : Sto} : evC C L π k0 c_ratchetbase_Ints_L0 e s = evC C L π k0 b_ratchetbase_Ints_L0 e s := rfl
def c_ratchetbase_Ints : FnIR := ⟨26,
  (.sq (.op 0 [⟨(some 4), none, .mv (.c (.bool false))⟩] none)
  (.sq (.sq (.op 0 [⟨(some 6), none, .mv (.t 0)⟩,
    ⟨(some 7), none, .len false (.t 6)⟩,
    ⟨(some 8), none, .mv (.t 1)⟩,
    ⟨(some 9), none, .len false (.t 8)⟩,
    ⟨(some 10), none, .bin .neq (.t 7) (.t 9)⟩] (some [0, 1, 10]))
  (.cd (.t 10)
   (.sq (.op 0 [⟨(some 4), none, .mv (.c (.bool false))⟩] none)
   .rt)
   .sk))
  (.sq (.sq (.op 0 [⟨(some 5), none, .mv (.c (.int .i64 0))⟩] none)
  (.kp [] [4] (.bk 0 (.lp [] [0, 1, 5] c_ratchetbase_Ints_L0))))
  (.sq (.op 0 [⟨(some 4), none, .mv (.c (.bool true))⟩] none)
  .rt)))),
  [.t 4]⟩
def b_graph_BelowOf_L0 : IR :=
 (.sq (.op 0 [⟨(some 24), none, .bin .lss (.t 23) (.t 22)⟩] none)
 (.sq (.cd (.t 24)
  .sk
  (.ex 0))
 (.sq (.bk 1 (.sq (.op 0 [⟨(some 25), none, .mv (.t 23)⟩,
    ⟨(some 26), none, .ia (.t 21) (.t 23) 1⟩,
    ⟨(some 27), none, .ld (.t 26) 1 false⟩,
    ⟨(some 10), none, .mv (.t 25)⟩,
    ⟨(some 11), none, .mv (.t 27)⟩] (some [9, 10, 11, 21, 22, 23]))
  (.sq (.op 0 [⟨(some 28), none, .mv (.t 11)⟩] none)
  (.cd (.t 28)
   (.op 0 [⟨(some 29), none, .mv (.t 9)⟩,
     ⟨(some 30), none, .mv (.t 10)⟩,
     ⟨(some 31), none, .bsl t_int 1 false [.int .i64 0] 1 [(0, (.t 30))]⟩,
     ⟨(some 32), none, .app (.t 29) (.t 31) t_int 1⟩,
     ⟨(some 9), none, .mv (.t 32)⟩] (some [9, 21, 22, 23]))
   .sk))))
 (.op 0 [⟨(some 33), none, .bin .add (.t 23) (.c (.int .i64 1))⟩,
   ⟨(some 23), none, .mv (.t 33)⟩] none))))
def c_graph_BelowOf_L0 : IR := b_graph_BelowOf_L0
theorem u_graph_BelowOf_L0 {C : Call} {L : Loop} {π : Id} {k0 : List Id} {e : Env} {s : Sto} : evC C L π k0 c_graph_BelowOf_L0 e s = evC C L π k0 b_graph_BelowOf_L0 e s := rfl
def c_graph_BelowOf : FnIR := ⟨35,
  (.sq (.op 0 [⟨(some 6), none, .mv (.c (.sl 1 (some true) []))⟩,
    ⟨(some 7), none, .mv (.c (.int .i64 0))⟩] none)
  (.sq (.sq (.op 0 [⟨(some 12), none, .mv (.t 0)⟩,
    ⟨(some 13), none, .mv (.t 1)⟩,
    ⟨(some 14), none, .mv (.t 2)⟩,
    ⟨(some 15), none, .callV true (.c (.fn n_graph_namedErr [])) [(.t 12), (.t 13), (.t 14)]⟩,
    ⟨(some 8), none, .mv (.t 15)⟩] (some [1, 2, 8]))
  (.sq (.op 0 [⟨(some 16), none, .mv (.t 8)⟩,
    ⟨(some 17), none, .bin .neq (.t 16) (.c (.int .i64 0))⟩] none)
  (.cd (.t 17)
   (.sq (.op 0 [⟨(some 18), none, .mv (.t 8)⟩,
     ⟨(some 6), none, .mv (.c (.sl 1 (some true) []))⟩,
     ⟨(some 7), none, .mv (.t 18)⟩] none)
   .rt)
   .sk)))
  (.sq (.op 0 [⟨(some 9), none, .mv (.c (.sl 1 (some true) []))⟩] none)
  (.sq (.sq (.op 0 [⟨(some 19), none, .mv (.t 1)⟩,
    ⟨(some 20), none, .mv (.t 2)⟩,
    ⟨(some 21), none, .callV false (.c (.fn n_graph_below [])) [(.t 19), (.t 20)]⟩,
    ⟨(some 22), none, .len false (.t 21)⟩,
    ⟨(some 23), none, .mv (.c (.int .i64 0))⟩] (some [9, 21, 22, 23]))
  (.kp [9] [6, 7] (.bk 0 (.lp [(t_int, .inl 9)] [9, 21, 22, 23] c_graph_BelowOf_L0))))
  (.sq (.op 0 [⟨(some 34), none, .mv (.t 9)⟩,
    ⟨(some 6), none, .mv (.t 34)⟩,
    ⟨(some 7), none, .mv (.c (.int .i64 0))⟩] none)
  .rt))))),
  [.t 6, .t 7]⟩
def b_graph_DepthsOf_L1 : IR :=
 (.sq (.op 0 [⟨(some 32), none, .bin .lss (.t 31) (.t 30)⟩] none)
 (.sq (.cd (.t 32)
  .sk
  (.ex 2))
 (.sq (.bk 3 (.sq (.op 0 [⟨(some 33), none, .ia (.t 29) (.t 31) 1⟩,
    ⟨(some 34), none, .ld (.t 33) 1 false⟩,
    ⟨(some 11), none, .mv (.t 34)⟩] none)
  (.op 11 [⟨(some 35), none, .mv (.t 7)⟩,
    ⟨(some 36), none, .mv (.t 8)⟩,
    ⟨(some 37), none, .mv (.t 7)⟩,
    ⟨(some 38), none, .mv (.t 8)⟩,
    ⟨(some 39), none, .ia (.t 37) (.t 38) 1⟩,
    ⟨(some 40), none, .ld (.t 39) 1 false⟩,
    ⟨(some 41), none, .mv (.t 7)⟩,
    ⟨(some 42), none, .mv (.t 11)⟩,
    ⟨(some 43), none, .ia (.t 41) (.t 42) 1⟩,
    ⟨(some 44), none, .ld (.t 43) 1 false⟩,
    ⟨(some 45), none, .bin .add (.t 44) (.c (.int .i64 1))⟩,
    ⟨(some 46), none, .mm true (.t 40) (.t 45)⟩,
    ⟨(some 47), none, .ia (.t 35) (.t 36) 1⟩,
    ⟨none, none, .st (.t 47) (.t 46) 1⟩] (some [7, 8, 21, 22, 23, 29, 30, 31]))))
 (.op 0 [⟨(some 48), none, .bin .add (.t 31) (.c (.int .i64 1))⟩,
   ⟨(some 31), none, .mv (.t 48)⟩] none))))
def c_graph_DepthsOf_L1 : IR := b_graph_DepthsOf_L1
theorem u_graph_DepthsOf_L1 {C : Call} {L : Loop} {π : Id} {k0 : List Id} {e : Env} {s : Sto} : evC C L π k0 c_graph_DepthsOf_L1 e s = evC C L π k0 b_graph_DepthsOf_L1 e s := rfl
def b_graph_DepthsOf_L0 : IR :=
 (.sq (.op 0 [⟨(some 24), none, .bin .lss (.t 23) (.t 22)⟩] none)
 (.sq (.cd (.t 24)
  .sk
  (.ex 0))
 (.sq (.bk 1 (.sq (.op 0 [⟨(some 25), none, .mv (.t 23)⟩,
    ⟨(some 26), none, .ia (.t 21) (.t 23) 4⟩,
    ⟨(some 27), none, .ld (.t 26) 4 true⟩,
    ⟨(some 9), none, .alloc [.int .i64 0, .int .i64 0, .sl 1 (some true) [], .int .i64 0]⟩,
    ⟨(some 8), none, .mv (.t 25)⟩,
    ⟨none, none, .st (.t 9) (.t 27) 4⟩] (some [7, 8, 9, 21, 22, 23]))
  (.sq (.op 0 [⟨(some 28), none, .fa (.t 9) 2⟩,
    ⟨(some 29), none, .ld (.t 28) 1 false⟩,
    ⟨(some 30), none, .len false (.t 29)⟩,
    ⟨(some 31), none, .mv (.c (.int .i64 0))⟩] (some [7, 8, 21, 22, 23, 29, 30, 31]))
  (.kp [7, 21, 22, 23] [4, 5] (.bk 2 (.lp [] [7, 8, 21, 22, 23, 29, 30, 31] c_graph_DepthsOf_L1))))))
 (.op 0 [⟨(some 49), none, .bin .add (.t 23) (.c (.int .i64 1))⟩,
   ⟨(some 23), none, .mv (.t 49)⟩] none))))
def c_graph_DepthsOf_L0 : IR := b_graph_DepthsOf_L0
theorem u_graph_DepthsOf_L0 {C : Call} {L : Loop} {π : Id} {k0 : List Id} {e : Env} {s : Sto} : evC C L π k0 c_graph_DepthsOf_L0 e s = evC C L π k0 b_graph_DepthsOf_L0 e s := rfl
def c_graph_DepthsOf : FnIR := ⟨51,
  (.sq (.op 0 [⟨(some 4), none, .mv (.c (.sl 1 (some true) []))⟩,
    ⟨(some 5), none, .mv (.c (.int .i64 0))⟩] none)
  (.sq (.sq (.op 0 [⟨(some 12), none, .mv (.t 0)⟩,
    ⟨(some 13), none, .mv (.t 1)⟩,
    ⟨(some 14), none, .callV true (.c (.fn n_graph_graphErr [])) [(.t 12), (.t 13)]⟩,
    ⟨(some 6), none, .mv (.t 14)⟩] (some [1, 6]))
  (.sq (.op 0 [⟨(some 15), none, .mv (.t 6)⟩,
    ⟨(some 16), none, .bin .neq (.t 15) (.c (.int .i64 0))⟩] none)
  (.cd (.t 16)
   (.sq (.op 0 [⟨(some 17), none, .mv (.t 6)⟩,
     ⟨(some 4), none, .mv (.c (.sl 1 (some true) []))⟩,
     ⟨(some 5), none, .mv (.t 17)⟩] none)
   .rt)
   .sk)))
  (.sq (.op 0 [⟨(some 18), none, .mv (.t 1)⟩,
    ⟨(some 19), none, .len false (.t 18)⟩,
    ⟨(some 20), none, .mks t_int 1 false [.int .i64 0] (.t 19) (.t 19)⟩,
    ⟨(some 7), none, .mv (.t 20)⟩] (some [1, 7]))
  (.sq (.sq (.op 0 [⟨(some 21), none, .mv (.t 1)⟩,
    ⟨(some 22), none, .len false (.t 21)⟩,
    ⟨(some 23), none, .mv (.c (.int .i64 0))⟩] none)
  (.kp [7] [4, 5] (.bk 0 (.lp [] [7, 21, 22, 23] c_graph_DepthsOf_L0))))
  (.sq (.op 0 [⟨(some 50), none, .mv (.t 7)⟩,
    ⟨(some 4), none, .mv (.t 50)⟩,
    ⟨(some 5), none, .mv (.c (.int .i64 0))⟩] none)
  .rt))))),
  [.t 4, .t 5]⟩
def b_ratchetref02_Below_L0 : IR :=
 (.sq (.sq (.op 0 [⟨(some 11), none, .mv (.t 7)⟩,
   ⟨(some 12), none, .mv (.t 0)⟩,
   ⟨(some 13), none, .len false (.t 12)⟩,
   ⟨(some 14), none, .bin .lss (.t 11) (.t 13)⟩] (some [0, 5, 6, 7, 14]))
 (.cd (.t 14)
  .sk
  (.ex 0)))
 (.sq (.bk 1 (.sq (.op 0 [⟨(some 17), none, .mv (.t 5)⟩,
    ⟨(some 18), none, .mv (.t 7)⟩,
    ⟨(some 19), none, .ia (.t 17) (.t 18) 1⟩,
    ⟨(some 20), none, .ld (.t 19) 1 false⟩] (some [0, 5, 6, 7, 20]))
  (.cd (.t 20)
   (.op 0 [⟨(some 21), none, .mv (.t 6)⟩,
     ⟨(some 22), none, .mv (.t 7)⟩,
     ⟨(some 23), none, .bsl t_int 1 false [.int .i64 0] 1 [(0, (.t 22))]⟩,
     ⟨(some 24), none, .app (.t 21) (.t 23) t_int 1⟩,
     ⟨(some 6), none, .mv (.t 24)⟩] (some [0, 5, 6, 7]))
   .sk)))
 (.op 0 [⟨(some 15), none, .mv (.t 7)⟩,
   ⟨(some 16), none, .bin .add (.t 15) (.c (.int .i64 1))⟩,
   ⟨(some 7), none, .mv (.t 16)⟩] none)))
def c_ratchetref02_Below_L0 : IR := b_ratchetref02_Below_L0
theorem u_ratchetref02_Below_L0 {C : Call} {L : Loop} {π : Id} {k0 : List Id} {e : Env} {s : Sto} : evC C L π k0 c_ratchetref02_Below_L0 e s = evC C L π k0 b_ratchetref02_Below_L0 e s := rfl
def c_ratchetref02_Below : FnIR := ⟨26,
  (.sq (.op 0 [⟨(some 4), none, .mv (.c (.sl 1 (some true) []))⟩] none)
  (.sq (.op 0 [⟨(some 8), none, .mv (.t 0)⟩,
    ⟨(some 9), none, .mv (.t 1)⟩,
    ⟨(some 10), none, .callV false (.c (.fn n_ratchetbase_Below [])) [(.t 8), (.t 9)]⟩,
    ⟨(some 5), none, .mv (.t 10)⟩] (some [0, 5]))
  (.sq (.op 0 [⟨(some 6), none, .mv (.c (.sl 1 (some true) []))⟩] none)
  (.sq (.sq (.op 0 [⟨(some 7), none, .mv (.c (.int .i64 0))⟩] none)
  (.kp [6] [4] (.bk 0 (.lp [(t_int, .inl 6)] [0, 5, 6, 7] c_ratchetref02_Below_L0))))
  (.sq (.op 0 [⟨(some 25), none, .mv (.t 6)⟩,
    ⟨(some 4), none, .mv (.t 25)⟩] none)
  .rt))))),
  [.t 4]⟩
def b_ratchetbase_LeavesBelow_L0 : IR :=
 (.sq (.sq (.op 0 [⟨(some 17), none, .mv (.t 9)⟩,
   ⟨(some 18), none, .mv (.t 0)⟩,
   ⟨(some 19), none, .len false (.t 18)⟩,
   ⟨(some 20), none, .bin .lss (.t 17) (.t 19)⟩] (some [0, 2, 7, 8, 9, 20]))
 (.cd (.t 20)
  .sk
  (.ex 0)))
 (.sq (.bk 1 (.sq (.op 0 [⟨(some 23), none, .mv (.t 7)⟩,
    ⟨(some 24), none, .mv (.t 9)⟩,
    ⟨(some 25), none, .ia (.t 23) (.t 24) 1⟩,
    ⟨(some 26), none, .ld (.t 25) 1 false⟩,
    ⟨(some 27), none, .mv (.t 26)⟩,
    ⟨(some 28), (some (27, true)), .mv (.t 0)⟩,
    ⟨(some 29), (some (27, true)), .mv (.t 9)⟩,
    ⟨(some 30), (some (27, true)), .ia (.t 28) (.t 29) 4⟩,
    ⟨(some 31), (some (27, true)), .fa (.t 30) 0⟩,
    ⟨(some 32), (some (27, true)), .ld (.t 31) 1 false⟩,
    ⟨(some 33), (some (27, true)), .bin .eql (.t 32) (.c (.int .i64 1))⟩,
    ⟨(some 34), none, .pick (.t 27) (.t 33) (.c (.bool false))⟩] (some [0, 2, 7, 8, 9, 34]))
  (.cd (.t 34)
   (.op 0 [⟨(some 35), none, .mv (.t 8)⟩,
     ⟨(some 36), none, .mv (.t 0)⟩,
     ⟨(some 37), none, .mv (.t 9)⟩,
     ⟨(some 38), none, .ia (.t 36) (.t 37) 4⟩,
     ⟨(some 39), none, .fa (.t 38) 3⟩,
     ⟨(some 40), none, .ld (.t 39) 1 false⟩,
     ⟨(some 41), none, .ia (.t 35) (.t 40) 1⟩,
     ⟨none, none, .st (.t 41) (.c (.bool true)) 1⟩] (some [0, 2, 7, 8, 9]))
   .sk)))
 (.op 0 [⟨(some 21), none, .mv (.t 9)⟩,
   ⟨(some 22), none, .bin .add (.t 21) (.c (.int .i64 1))⟩,
   ⟨(some 9), none, .mv (.t 22)⟩] none)))
def c_ratchetbase_LeavesBelow_L0 : IR := b_ratchetbase_LeavesBelow_L0
theorem u_ratchetbase_LeavesBelow_L0 {C : Call} {L : Loop} {π : Id} {k0 : List Id} {e : Env} {s : Sto} : evC C L π k0 c_ratchetbase_LeavesBelow_L0 e s = evC C L π k0 b_ratchetbase_LeavesBelow_L0 e s := rfl
def b_ratchetbase_LeavesBelow_L1 : IR :=
 (.sq (.sq (.op 0 [⟨(some 42), none, .mv (.t 11)⟩,
   ⟨(some 43), none, .mv (.t 2)⟩,
   ⟨(some 44), none, .bin .lss (.t 42) (.t 43)⟩] none)
 (.cd (.t 44)
  .sk
  (.ex 2)))
 (.sq (.bk 3 (.sq (.op 0 [⟨(some 47), none, .mv (.t 8)⟩,
    ⟨(some 48), none, .mv (.t 11)⟩,
    ⟨(some 49), none, .ia (.t 47) (.t 48) 1⟩,
    ⟨(some 50), none, .ld (.t 49) 1 false⟩] (some [2, 8, 10, 11, 50]))
  (.cd (.t 50)
   (.op 0 [⟨(some 51), none, .mv (.t 10)⟩,
     ⟨(some 52), none, .mv (.t 11)⟩,
     ⟨(some 53), none, .bsl t_int 1 false [.int .i64 0] 1 [(0, (.t 52))]⟩,
     ⟨(some 54), none, .app (.t 51) (.t 53) t_int 1⟩,
     ⟨(some 10), none, .mv (.t 54)⟩] (some [2, 8, 10, 11]))
   .sk)))
 (.op 0 [⟨(some 45), none, .mv (.t 11)⟩,
   ⟨(some 46), none, .bin .add (.t 45) (.c (.int .i64 1))⟩,
   ⟨(some 11), none, .mv (.t 46)⟩] none)))
def c_ratchetbase_LeavesBelow_L1 : IR := b_ratchetbase_LeavesBelow_L1
theorem u_ratchetbase_LeavesBelow_L1 {C : Call} {L : Loop} {π : Id} {k0 : List Id} {e : Env} {s : Sto} : evC C L π k0 c_ratchetbase_LeavesBelow_L1 e s = evC C L π k0 b_ratchetbase_LeavesBelow_L1 e s := rfl
def c_ratchetbase_LeavesBelow : FnIR := ⟨56,
  (.sq (.op 0 [⟨(some 6), none, .mv (.c (.sl 1 (some true) []))⟩] none)
  (.sq (.op 0 [⟨(some 12), none, .mv (.t 0)⟩,
    ⟨(some 13), none, .mv (.t 1)⟩,
    ⟨(some 14), none, .callV false (.c (.fn n_ratchetbase_Below [])) [(.t 12), (.t 13)]⟩,
    ⟨(some 7), none, .mv (.t 14)⟩] (some [0, 2, 7]))
  (.sq (.op 0 [⟨(some 15), none, .mv (.t 2)⟩,
    ⟨(some 16), none, .mks t_bool 1 false [.bool false] (.t 15) (.t 15)⟩,
    ⟨(some 8), none, .mv (.t 16)⟩] none)
  (.sq (.sq (.op 0 [⟨(some 9), none, .mv (.c (.int .i64 0))⟩] none)
  (.kp [2, 8] [6] (.bk 0 (.lp [] [0, 2, 7, 8, 9] c_ratchetbase_LeavesBelow_L0))))
  (.sq (.op 0 [⟨(some 10), none, .mv (.c (.sl 1 (some true) []))⟩] none)
  (.sq (.sq (.op 0 [⟨(some 11), none, .mv (.c (.int .i64 0))⟩] none)
  (.kp [10] [6] (.bk 2 (.lp [(t_int, .inl 10)] [2, 8, 10, 11] c_ratchetbase_LeavesBelow_L1))))
  (.sq (.op 0 [⟨(some 55), none, .mv (.t 10)⟩,
    ⟨(some 6), none, .mv (.t 55)⟩] none)
  .rt))))))),
  [.t 6]⟩
def b_ratchetbase_NodeValues_L1 : IR :=
 (.sq (.sq (.op 0 [⟨(some 19), none, .mv (.t 9)⟩,
   ⟨(some 20), none, .mv (.t 0)⟩,
   ⟨(some 21), none, .mv (.t 6)⟩,
   ⟨(some 22), none, .ia (.t 20) (.t 21) 4⟩,
   ⟨(some 23), none, .fa (.t 22) 2⟩,
   ⟨(some 24), none, .ld (.t 23) 1 false⟩,
   ⟨(some 25), none, .len false (.t 24)⟩,
   ⟨(some 26), none, .bin .lss (.t 19) (.t 25)⟩] (some [0, 1, 5, 6, 7, 8, 9, 26]))
 (.cd (.t 26)
  .sk
  (.ex 2)))
 (.sq (.bk 3 (.op 28 [⟨(some 29), none, .mv (.t 7)⟩,
    ⟨(some 30), none, .mv (.t 5)⟩,
    ⟨(some 31), none, .mv (.t 0)⟩,
    ⟨(some 32), none, .mv (.t 6)⟩,
    ⟨(some 33), none, .ia (.t 31) (.t 32) 4⟩,
    ⟨(some 34), none, .fa (.t 33) 2⟩,
    ⟨(some 35), none, .ld (.t 34) 1 false⟩,
    ⟨(some 36), none, .mv (.t 9)⟩,
    ⟨(some 37), none, .ia (.t 35) (.t 36) 1⟩,
    ⟨(some 38), none, .ld (.t 37) 1 false⟩,
    ⟨(some 39), none, .ia (.t 30) (.t 38) 1⟩,
    ⟨(some 40), none, .ld (.t 39) 1 false⟩,
    ⟨(some 41), none, .bsl t_int 1 false [.int .i64 0] 1 [(0, (.t 40))]⟩,
    ⟨(some 42), none, .apx (.t 29) (.t 41) t_int 1 [0, 1, 2, 3, 4, 5, 6, 7, 8, 9, 10, 11, 12]⟩,
    ⟨(some 43), none, .mv (.t 8)⟩,
    ⟨(some 44), none, .mv (.t 0)⟩,
    ⟨(some 45), none, .mv (.t 0)⟩,
    ⟨(some 46), none, .mv (.t 6)⟩,
    ⟨(some 47), none, .ia (.t 45) (.t 46) 4⟩,
    ⟨(some 48), none, .fa (.t 47) 2⟩,
    ⟨(some 49), none, .ld (.t 48) 1 false⟩,
    ⟨(some 50), none, .mv (.t 9)⟩,
    ⟨(some 51), none, .ia (.t 49) (.t 50) 1⟩,
    ⟨(some 52), none, .ld (.t 51) 1 false⟩,
    ⟨(some 53), none, .ia (.t 44) (.t 52) 4⟩,
    ⟨(some 54), none, .fa (.t 53) 1⟩,
    ⟨(some 55), none, .ld (.t 54) 1 false⟩,
    ⟨(some 56), none, .bsl t_int 1 false [.int .i64 0] 1 [(0, (.t 55))]⟩,
    ⟨(some 57), none, .app (.t 43) (.t 56) t_int 1⟩,
    ⟨(some 7), none, .mv (.t 42)⟩,
    ⟨(some 8), none, .mv (.t 57)⟩] (some [0, 1, 5, 6, 7, 8, 9])))
 (.op 0 [⟨(some 27), none, .mv (.t 9)⟩,
   ⟨(some 28), none, .bin .add (.t 27) (.c (.int .i64 1))⟩,
   ⟨(some 9), none, .mv (.t 28)⟩] none)))
def c_ratchetbase_NodeValues_L1 : IR := b_ratchetbase_NodeValues_L1
theorem u_ratchetbase_NodeValues_L1 {C : Call} {L : Loop} {π : Id} {k0 : List Id} {e : Env} {s : Sto} : evC C L π k0 c_ratchetbase_NodeValues_L1 e s = evC C L π k0 b_ratchetbase_NodeValues_L1 e s := rfl
def b_ratchetbase_NodeValues_L0 : IR :=
 (.sq (.sq (.op 0 [⟨(some 13), none, .mv (.t 6)⟩,
   ⟨(some 14), none, .mv (.t 0)⟩,
   ⟨(some 15), none, .len false (.t 14)⟩,
   ⟨(some 16), none, .bin .lss (.t 13) (.t 15)⟩] (some [0, 1, 5, 6, 16]))
 (.cd (.t 16)
  .sk
  (.ex 0)))
 (.sq (.bk 1 (.sq (.op 0 [⟨(some 7), none, .mv (.c (.sl 1 (some true) []))⟩,
    ⟨(some 8), none, .mv (.c (.sl 1 (some true) []))⟩] none)
  (.sq (.sq (.op 0 [⟨(some 9), none, .mv (.c (.int .i64 0))⟩] none)
  (.kp [0, 1, 5, 6, 7, 8] [4] (.bk 2 (.lp [(t_int, .inl 8), (t_int, .inl 7)] [0, 1, 5, 6, 7, 8, 9] c_ratchetbase_NodeValues_L1))))
  (.op 0 [⟨(some 58), none, .mv (.t 5)⟩,
    ⟨(some 59), none, .mv (.t 6)⟩,
    ⟨(some 60), none, .mv (.t 0)⟩,
    ⟨(some 61), none, .mv (.t 6)⟩,
    ⟨(some 62), none, .ia (.t 60) (.t 61) 4⟩,
    ⟨(some 63), none, .ld (.t 62) 4 true⟩,
    ⟨(some 64), none, .mv (.t 7)⟩,
    ⟨(some 65), none, .mv (.t 8)⟩,
    ⟨(some 66), none, .mv (.t 1)⟩,
    ⟨(some 67), none, .callV true (.c (.fn n_ratchetbase_Apply [])) [(.t 63), (.t 64), (.t 65), (.t 66)]⟩,
    ⟨(some 68), none, .ia (.t 58) (.t 59) 1⟩,
    ⟨none, none, .st (.t 68) (.t 67) 1⟩] (some [0, 1, 5, 6])))))
 (.op 0 [⟨(some 17), none, .mv (.t 6)⟩,
   ⟨(some 18), none, .bin .add (.t 17) (.c (.int .i64 1))⟩,
   ⟨(some 6), none, .mv (.t 18)⟩] none)))
def c_ratchetbase_NodeValues_L0 : IR := b_ratchetbase_NodeValues_L0
theorem u_ratchetbase_NodeValues_L0 {C : Call} {L : Loop} {π : Id} {k0 : List Id} {e : Env} {s : Sto} : evC C L π k0 c_ratchetbase_NodeValues_L0 e s = evC C L π k0 b_ratchetbase_NodeValues_L0 e s := rfl
def c_ratchetbase_NodeValues : FnIR := ⟨70,
  (.sq (.op 0 [⟨(some 4), none, .mv (.c (.sl 1 (some true) []))⟩] none)
  (.sq (.op 0 [⟨(some 10), none, .mv (.t 0)⟩,
    ⟨(some 11), none, .len false (.t 10)⟩,
    ⟨(some 12), none, .mks t_int 1 false [.int .i64 0] (.t 11) (.t 11)⟩,
    ⟨(some 5), none, .mv (.t 12)⟩] (some [0, 1, 5]))
  (.sq (.sq (.op 0 [⟨(some 6), none, .mv (.c (.int .i64 0))⟩] none)
  (.kp [5] [4] (.bk 0 (.lp [] [0, 1, 5, 6] c_ratchetbase_NodeValues_L0))))
  (.sq (.op 0 [⟨(some 69), none, .mv (.t 5)⟩,
    ⟨(some 4), none, .mv (.t 69)⟩] none)
  .rt)))),
  [.t 4]⟩
def b_graph_Substituted_L0 : IR :=
 (.sq (.op 0 [⟨(some 39), none, .bin .lss (.t 38) (.t 37)⟩] none)
 (.sq (.cd (.t 39)
  .sk
  (.ex 0))
 (.sq (.bk 1 (.sq (.op 0 [⟨(some 40), none, .ia (.t 36) (.t 38) 4⟩,
    ⟨(some 41), none, .ld (.t 40) 4 true⟩,
    ⟨(some 13), none, .alloc [.int .i64 0, .int .i64 0, .sl 1 (some true) [], .int .i64 0]⟩,
    ⟨none, none, .st (.t 13) (.t 41) 4⟩] (some [2, 3, 11, 13, 36, 37, 38]))
  (.sq (.op 0 [⟨(some 42), none, .ld (.t 13) 4 true⟩,
    ⟨(some 43), none, .callV true (.c (.fn n_graph_moved [])) [(.t 42), (.c (.fn n_graph_Substituted_1 []))]⟩,
    ⟨(some 14), none, .alloc [.int .i64 0, .int .i64 0, .sl 1 (some true) [], .int .i64 0]⟩,
    ⟨none, none, .st (.t 14) (.t 43) 4⟩] (some [2, 3, 11, 13, 14, 36, 37, 38]))
  (.sq (.sq (.op 0 [⟨(some 44), none, .fa (.t 13) 0⟩,
    ⟨(some 45), none, .ld (.t 44) 1 false⟩,
    ⟨(some 46), none, .bin .eql (.t 45) (.c (.int .i64 1))⟩,
    ⟨(some 47), none, .mv (.t 46)⟩,
    ⟨(some 48), (some (47, true)), .fa (.t 13) 3⟩,
    ⟨(some 49), (some (47, true)), .ld (.t 48) 1 false⟩,
    ⟨(some 50), (some (47, true)), .mv (.t 2)⟩,
    ⟨(some 51), (some (47, true)), .bin .eql (.t 49) (.t 50)⟩,
    ⟨(some 52), none, .pick (.t 47) (.t 51) (.c (.bool false))⟩] (some [2, 3, 11, 13, 14, 36, 37, 38, 52]))
  (.cd (.t 52)
   (.op 0 [⟨(some 53), none, .fa (.t 13) 1⟩,
     ⟨(some 54), none, .ld (.t 53) 1 false⟩,
     ⟨(some 55), none, .mv (.t 3)⟩,
     ⟨(some 56), none, .callV false (.c (.fn n_graph_constant [])) [(.t 54), (.t 55)]⟩,
     ⟨none, none, .st (.t 14) (.t 56) 4⟩] (some [2, 3, 11, 14, 36, 37, 38]))
   .sk))
  (.op 0 [⟨(some 57), none, .mv (.t 11)⟩,
    ⟨(some 58), none, .ld (.t 14) 4 true⟩,
    ⟨(some 59), none, .bsl t_api_Node 4 true [.int .i64 0, .int .i64 0, .sl 1 (some true) [], .int .i64 0] 1 [(0, (.t 58))]⟩,
    ⟨(some 60), none, .app (.t 57) (.t 59) t_api_Node 4⟩,
    ⟨(some 11), none, .mv (.t 60)⟩] (some [2, 3, 11, 36, 37, 38]))))))
 (.op 0 [⟨(some 61), none, .bin .add (.t 38) (.c (.int .i64 1))⟩,
   ⟨(some 38), none, .mv (.t 61)⟩] none))))
def c_graph_Substituted_L0 : IR := b_graph_Substituted_L0
theorem u_graph_Substituted_L0 {C : Call} {L : Loop} {π : Id} {k0 : List Id} {e : Env} {s : Sto} : evC C L π k0 c_graph_Substituted_L0 e s = evC C L π k0 b_graph_Substituted_L0 e s := rfl
def c_graph_Substituted : FnIR := ⟨63,
  (.sq (.op 0 [⟨(some 8), none, .mv (.c (.sl 4 (some true) []))⟩,
    ⟨(some 9), none, .mv (.c (.int .i64 0))⟩] none)
  (.sq (.sq (.op 0 [⟨(some 15), none, .mv (.t 0)⟩,
    ⟨(some 16), none, .mv (.t 1)⟩,
    ⟨(some 17), none, .callV true (.c (.fn n_graph_graphErr [])) [(.t 15), (.t 16)]⟩,
    ⟨(some 18), none, .mv (.t 2)⟩,
    ⟨(some 19), none, .mv (.t 0)⟩,
    ⟨(some 20), none, .len false (.t 19)⟩,
    ⟨(some 21), none, .bin .sub (.t 20) (.c (.int .i64 1))⟩,
    ⟨(some 22), none, .callV true (.c (.fn n_graph_within [])) [(.t 18), (.c (.int .i64 0)), (.t 21)]⟩,
    ⟨(some 23), none, .callV true (.c (.fn n_graph_unless [])) [(.t 22), (.c (.int .i64 6))]⟩,
    ⟨(some 24), none, .bsl t_api_Errno 1 false [.int .i64 0] 2 [(0, (.t 17)), (1, (.t 23))]⟩,
    ⟨(some 25), none, .callV true (.c (.fn n_graph_first [])) [(.t 24)]⟩,
    ⟨(some 10), none, .mv (.t 25)⟩] (some [0, 1, 2, 3, 10]))
  (.sq (.op 0 [⟨(some 26), none, .mv (.t 10)⟩,
    ⟨(some 27), none, .bin .neq (.t 26) (.c (.int .i64 0))⟩] none)
  (.cd (.t 27)
   (.sq (.op 0 [⟨(some 28), none, .mv (.t 10)⟩,
     ⟨(some 8), none, .mv (.c (.sl 4 (some true) []))⟩,
     ⟨(some 9), none, .mv (.t 28)⟩] none)
   .rt)
   .sk)))
  (.sq (.sq (.op 0 [⟨(some 29), none, .mv (.t 3)⟩,
    ⟨(some 30), none, .mv (.t 0)⟩,
    ⟨(some 31), none, .mv (.t 2)⟩,
    ⟨(some 32), none, .ia (.t 30) (.t 31) 1⟩,
    ⟨(some 33), none, .ld (.t 32) 1 false⟩,
    ⟨(some 34), none, .callV true (.c (.fn n_graph_fits [])) [(.t 29), (.t 33)]⟩,
    ⟨(some 35), none, .un .not (.t 34)⟩] (some [1, 2, 3, 35]))
  (.cd (.t 35)
   (.sq (.op 0 [⟨(some 8), none, .mv (.c (.sl 4 (some true) []))⟩,
     ⟨(some 9), none, .mv (.c (.int .i64 2))⟩] none)
   .rt)
   .sk))
  (.sq (.op 0 [⟨(some 11), none, .mv (.c (.sl 4 (some true) []))⟩] none)
  (.sq (.sq (.op 0 [⟨(some 36), none, .mv (.t 1)⟩,
    ⟨(some 37), none, .len false (.t 36)⟩,
    ⟨(some 38), none, .mv (.c (.int .i64 0))⟩] none)
  (.kp [11] [8, 9] (.bk 0 (.lp [(t_api_Node, .inl 11)] [2, 3, 11, 36, 37, 38] c_graph_Substituted_L0))))
  (.sq (.op 0 [⟨(some 62), none, .mv (.t 11)⟩,
    ⟨(some 8), none, .mv (.t 62)⟩,
    ⟨(some 9), none, .mv (.c (.int .i64 0))⟩] none)
  .rt)))))),
  [.t 8, .t 9]⟩
def b_graph_Appended_L0 : IR :=
 (.sq (.op 0 [⟨(some 37), none, .bin .lss (.t 36) (.t 35)⟩] none)
 (.sq (.cd (.t 37)
  .sk
  (.ex 0))
 (.sq (.bk 1 (.sq (.op 0 [⟨(some 38), none, .ia (.t 34) (.t 36) 4⟩,
    ⟨(some 39), none, .ld (.t 38) 4 true⟩,
    ⟨(some 13), none, .alloc [.int .i64 0, .int .i64 0, .sl 1 (some true) [], .int .i64 0]⟩,
    ⟨none, none, .st (.t 13) (.t 39) 4⟩] (some [2, 4, 10, 11, 13, 34, 35, 36]))
  (.op 0 [⟨(some 40), none, .mv (.t 10)⟩,
    ⟨(some 41), none, .ld (.t 13) 4 true⟩,
    ⟨(some 42), none, .callV true (.c (.fn n_graph_moved [])) [(.t 41), (.c (.fn n_graph_Appended_1 []))]⟩,
    ⟨(some 43), none, .bsl t_api_Node 4 true [.int .i64 0, .int .i64 0, .sl 1 (some true) [], .int .i64 0] 1 [(0, (.t 42))]⟩,
    ⟨(some 44), none, .app (.t 40) (.t 43) t_api_Node 4⟩,
    ⟨(some 10), none, .mv (.t 44)⟩] (some [2, 4, 10, 11, 34, 35, 36]))))
 (.op 0 [⟨(some 45), none, .bin .add (.t 36) (.c (.int .i64 1))⟩,
   ⟨(some 36), none, .mv (.t 45)⟩] none))))
def c_graph_Appended_L0 : IR := b_graph_Appended_L0
theorem u_graph_Appended_L0 {C : Call} {L : Loop} {π : Id} {k0 : List Id} {e : Env} {s : Sto} : evC C L π k0 c_graph_Appended_L0 e s = evC C L π k0 b_graph_Appended_L0 e s := rfl
def b_graph_Appended_L1 : IR :=
 (.sq (.op 0 [⟨(some 49), none, .bin .lss (.t 48) (.t 47)⟩] none)
 (.sq (.cd (.t 49)
  .sk
  (.ex 2))
 (.sq (.bk 3 (.sq (.op 0 [⟨(some 50), none, .ia (.t 46) (.t 48) 4⟩,
    ⟨(some 51), none, .ld (.t 50) 4 true⟩,
    ⟨(some 15), none, .alloc [.int .i64 0, .int .i64 0, .sl 1 (some true) [], .int .i64 0]⟩,
    ⟨none, none, .st (.t 15) (.t 51) 4⟩] (some [4, 10, 11, 15, 46, 47, 48]))
  (.sq (.op 0 [⟨(some 52), none, .mv (.t 11)⟩,
    ⟨(some 53), none, .mv (.t 10)⟩,
    ⟨(some 54), none, .len false (.t 53)⟩,
    ⟨(some 55), none, .bsl t_int 1 false [.int .i64 0] 1 [(0, (.t 54))]⟩,
    ⟨(some 56), none, .app (.t 52) (.t 55) t_int 1⟩,
    ⟨(some 11), none, .mv (.t 56)⟩] (some [4, 10, 11, 15, 46, 47, 48]))
  (.op 0 [⟨(some 57), none, .mv (.t 10)⟩,
    ⟨(some 58), none, .ld (.t 15) 4 true⟩,
    ⟨(some 59), none, .mkf n_graph_Appended_2 [(.t 4)]⟩,
    ⟨(some 60), none, .callV true (.c (.fn n_graph_moved [])) [(.t 58), (.t 59)]⟩,
    ⟨(some 61), none, .bsl t_api_Node 4 true [.int .i64 0, .int .i64 0, .sl 1 (some true) [], .int .i64 0] 1 [(0, (.t 60))]⟩,
    ⟨(some 62), none, .app (.t 57) (.t 61) t_api_Node 4⟩,
    ⟨(some 10), none, .mv (.t 62)⟩] (some [4, 10, 11, 46, 47, 48])))))
 (.op 0 [⟨(some 63), none, .bin .add (.t 48) (.c (.int .i64 1))⟩,
   ⟨(some 48), none, .mv (.t 63)⟩] none))))
def c_graph_Appended_L1 : IR := b_graph_Appended_L1
theorem u_graph_Appended_L1 {C : Call} {L : Loop} {π : Id} {k0 : List Id} {e : Env} {s : Sto} : evC C L π k0 c_graph_Appended_L1 e s = evC C L π k0 b_graph_Appended_L1 e s := rfl
def c_graph_Appended : FnIR := ⟨66,
  (.sq (.op 0 [⟨(some 4), none, .box (.t 1) 1⟩,
    ⟨(some 6), none, .mv (.c (.sl 4 (some true) []))⟩,
    ⟨(some 7), none, .mv (.c (.sl 1 (some true) []))⟩,
    ⟨(some 8), none, .mv (.c (.int .i64 0))⟩] (some [0, 2, 4]))
  (.sq (.fz [0, 2, 4] (.op 12 [⟨(some 16), none, .mv (.t 0)⟩,
    ⟨(some 17), none, .ld (.t 4) 1 false⟩,
    ⟨(some 18), none, .callV true (.c (.fn n_graph_graphErr [])) [(.t 16), (.t 17)]⟩,
    ⟨(some 19), none, .mv (.t 0)⟩,
    ⟨(some 20), none, .mv (.t 2)⟩,
    ⟨(some 21), none, .callV true (.c (.fn n_graph_graphErr [])) [(.t 19), (.t 20)]⟩,
    ⟨(some 22), none, .ld (.t 4) 1 false⟩,
    ⟨(some 23), none, .len false (.t 22)⟩,
    ⟨(some 24), none, .mv (.t 2)⟩,
    ⟨(some 25), none, .len false (.t 24)⟩,
    ⟨(some 26), none, .bin .add (.t 23) (.t 25)⟩,
    ⟨(some 27), none, .bin .leq (.t 26) (.c (.int .i64 400))⟩,
    ⟨(some 28), none, .callV true (.c (.fn n_graph_unless [])) [(.t 27), (.c (.int .i64 8))]⟩,
    ⟨(some 29), none, .bsl t_api_Errno 1 false [.int .i64 0] 3 [(0, (.t 18)), (1, (.t 21)), (2, (.t 28))]⟩,
    ⟨(some 30), none, .callV true (.c (.fn n_graph_first [])) [(.t 29)]⟩,
    ⟨(some 9), none, .mv (.t 30)⟩] (some [2, 4, 9])))
  (.sq (.sq (.op 0 [⟨(some 31), none, .mv (.t 9)⟩,
    ⟨(some 32), none, .bin .neq (.t 31) (.c (.int .i64 0))⟩] none)
  (.cd (.t 32)
   (.sq (.op 0 [⟨(some 33), none, .mv (.t 9)⟩,
     ⟨(some 6), none, .mv (.c (.sl 4 (some true) []))⟩,
     ⟨(some 7), none, .mv (.c (.sl 1 (some true) []))⟩,
     ⟨(some 8), none, .mv (.t 33)⟩] (some [6, 7, 8]))
   .rt)
   .sk))
  (.sq (.op 0 [⟨(some 10), none, .mv (.c (.sl 4 (some true) []))⟩] none)
  (.sq (.op 0 [⟨(some 11), none, .mv (.c (.sl 1 (some true) []))⟩] none)
  (.sq (.sq (.op 0 [⟨(some 34), none, .ld (.t 4) 1 false⟩,
    ⟨(some 35), none, .len false (.t 34)⟩,
    ⟨(some 36), none, .mv (.c (.int .i64 0))⟩] none)
  (.kp [2, 4, 10, 11] [6, 7, 8] (.bk 0 (.lp [(t_api_Node, .inl 10)] [2, 4, 10, 11, 34, 35, 36] c_graph_Appended_L0))))
  (.sq (.sq (.op 0 [⟨(some 46), none, .mv (.t 2)⟩,
    ⟨(some 47), none, .len false (.t 46)⟩,
    ⟨(some 48), none, .mv (.c (.int .i64 0))⟩] none)
  (.kp [10, 11] [6, 7, 8] (.bk 2 (.lp [(t_int, .inl 11), (t_api_Node, .inl 10)] [4, 10, 11, 46, 47, 48] c_graph_Appended_L1))))
  (.sq (.op 0 [⟨(some 64), none, .mv (.t 10)⟩,
    ⟨(some 65), none, .mv (.t 11)⟩,
    ⟨(some 6), none, .mv (.t 64)⟩,
    ⟨(some 7), none, .mv (.t 65)⟩,
    ⟨(some 8), none, .mv (.c (.int .i64 0))⟩] (some [6, 7, 8]))
  .rt)))))))),
  [.t 6, .t 7, .t 8]⟩
def c_ratchetbase_Within : FnIR := ⟨15,
  (.sq (.op 0 [⟨(some 6), none, .mv (.c (.bool false))⟩] none)
  (.sq (.op 0 [⟨(some 7), none, .mv (.t 1)⟩,
    ⟨(some 8), none, .mv (.t 0)⟩,
    ⟨(some 9), none, .bin .leq (.t 7) (.t 8)⟩,
    ⟨(some 10), none, .mv (.t 9)⟩,
    ⟨(some 11), (some (10, true)), .mv (.t 0)⟩,
    ⟨(some 12), (some (10, true)), .mv (.t 2)⟩,
    ⟨(some 13), (some (10, true)), .bin .leq (.t 11) (.t 12)⟩,
    ⟨(some 14), none, .pick (.t 10) (.t 13) (.c (.bool false))⟩,
    ⟨(some 6), none, .mv (.t 14)⟩] (some [6]))
  .rt)),
  [.t 6]⟩
def c_ratchetbase_Fits : FnIR := ⟨10,
  (.sq (.op 0 [⟨(some 4), none, .mv (.c (.bool false))⟩] none)
  (.sq (.op 0 [⟨(some 5), none, .mv (.t 0)⟩,
    ⟨(some 6), none, .mv (.t 1)⟩,
    ⟨(some 7), none, .callV true (.c (.fn n_ratchetbase_Power [])) [(.t 6)]⟩,
    ⟨(some 8), none, .bin .sub (.t 7) (.c (.int .i64 1))⟩,
    ⟨(some 9), none, .callV true (.c (.fn n_ratchetbase_Within [])) [(.t 5), (.c (.int .i64 0)), (.t 8)]⟩,
    ⟨(some 4), none, .mv (.t 9)⟩] (some [4]))
  .rt)),
  [.t 4]⟩
def c_ratchetlaw02_Leaves : FnIR := ⟨2,
  (.sq (.op 0 [⟨(some 0), none, .mv (.c (.sl 1 (some true) []))⟩] none)
  (.sq (.op 0 [⟨(some 1), none, .bsl t_int 1 false [.int .i64 0] 2 [(0, (.c (.int .i64 4))), (1, (.c (.int .i64 1)))]⟩,
    ⟨(some 0), none, .mv (.t 1)⟩] none)
  .rt)),
  [.t 0]⟩
def c_ratchetlaw02_Nodes : FnIR := ⟨11,
  (.sq (.op 0 [⟨(some 0), none, .mv (.c (.sl 4 (some true) []))⟩] none)
  (.sq (.op 0 [⟨(some 1), none, .build [.int .i64 0, .int .i64 0, .sl 1 (some true) [], .int .i64 0] [(0, 1, (.c (.int .i64 1))), (1, 1, (.c (.int .i64 4)))]⟩,
    ⟨(some 2), none, .build [.int .i64 0, .int .i64 0, .sl 1 (some true) [], .int .i64 0] [(0, 1, (.c (.int .i64 0))), (1, 1, (.c (.int .i64 4))), (3, 1, (.c (.int .i64 3)))]⟩,
    ⟨(some 3), none, .bsl t_int 1 false [.int .i64 0] 2 [(0, (.c (.int .i64 0))), (1, (.c (.int .i64 1)))]⟩,
    ⟨(some 4), none, .build [.int .i64 0, .int .i64 0, .sl 1 (some true) [], .int .i64 0] [(0, 1, (.c (.int .i64 6))), (1, 1, (.c (.int .i64 4))), (2, 1, (.t 3))]⟩,
    ⟨(some 5), none, .build [.int .i64 0, .int .i64 0, .sl 1 (some true) [], .int .i64 0] [(0, 1, (.c (.int .i64 1))), (1, 1, (.c (.int .i64 1))), (3, 1, (.c (.int .i64 1)))]⟩,
    ⟨(some 6), none, .bsl t_int 1 false [.int .i64 0] 3 [(0, (.c (.int .i64 3))), (1, (.c (.int .i64 2))), (2, (.c (.int .i64 0)))]⟩,
    ⟨(some 7), none, .build [.int .i64 0, .int .i64 0, .sl 1 (some true) [], .int .i64 0] [(0, 1, (.c (.int .i64 12))), (1, 1, (.c (.int .i64 4))), (2, 1, (.t 6))]⟩,
    ⟨(some 8), none, .bsl t_int 1 false [.int .i64 0] 2 [(0, (.c (.int .i64 4))), (1, (.c (.int .i64 1)))]⟩,
    ⟨(some 9), none, .build [.int .i64 0, .int .i64 0, .sl 1 (some true) [], .int .i64 0] [(0, 1, (.c (.int .i64 10))), (1, 1, (.c (.int .i64 1))), (2, 1, (.t 8))]⟩,
    ⟨(some 10), none, .bsl t_api_Node 4 true [.int .i64 0, .int .i64 0, .sl 1 (some true) [], .int .i64 0] 6 [(0, (.t 1)), (1, (.t 2)), (2, (.t 4)), (3, (.t 5)), (4, (.t 7)), (5, (.t 9))]⟩,
    ⟨(some 0), none, .mv (.t 10)⟩] (some [0]))
  .rt)),
  [.t 0]⟩
def b_graph_FormatNodes_L1 : IR :=
 (.sq (.op 0 [⟨(some 45), none, .bin .lss (.t 44) (.t 43)⟩] none)
 (.sq (.cd (.t 45)
  .sk
  (.ex 2))
 (.sq (.bk 3 (.sq (.op 0 [⟨(some 46), none, .ia (.t 42) (.t 44) 1⟩,
    ⟨(some 47), none, .ld (.t 46) 1 false⟩,
    ⟨(some 10), none, .mv (.t 47)⟩] none)
  (.op 0 [⟨(some 48), none, .mv (.t 7)⟩,
    ⟨(some 49), none, .mv (.t 10)⟩,
    ⟨(some 50), none, .callV true (.c (.fn n_strconv_Itoa [])) [(.t 49)]⟩,
    ⟨(some 51), none, .bin .add (.c (.str ⟨#[32]⟩)) (.t 50)⟩,
    ⟨(some 52), none, .bin .add (.t 48) (.t 51)⟩,
    ⟨(some 7), none, .mv (.t 52)⟩] (some [3, 4, 7, 12, 13, 14, 42, 43, 44]))))
 (.op 0 [⟨(some 53), none, .bin .add (.t 44) (.c (.int .i64 1))⟩,
   ⟨(some 44), none, .mv (.t 53)⟩] none))))
def c_graph_FormatNodes_L1 : IR := b_graph_FormatNodes_L1
theorem u_graph_FormatNodes_L1 {C : Call} {L : Loop} {π : Id} {k0 : List Id} {e : Env} {s : Sto} : evC C L π k0 c_graph_FormatNodes_L1 e s = evC C L π k0 b_graph_FormatNodes_L1 e s := rfl
def b_graph_FormatNodes_L0 : IR :=
 (.sq (.op 0 [⟨(some 15), none, .bin .lss (.t 14) (.t 13)⟩] none)
 (.sq (.cd (.t 15)
  .sk
  (.ex 0))
 (.sq (.bk 1 (.sq (.op 0 [⟨(some 16), none, .ia (.t 12) (.t 14) 4⟩,
    ⟨(some 17), none, .ld (.t 16) 4 true⟩,
    ⟨(some 6), none, .alloc [.int .i64 0, .int .i64 0, .sl 1 (some true) [], .int .i64 0]⟩,
    ⟨none, none, .st (.t 6) (.t 17) 4⟩] (some [3, 4, 6, 12, 13, 14]))
  (.sq (.op 0 [⟨(some 18), none, .fa (.t 6) 1⟩,
    ⟨(some 19), none, .ld (.t 18) 1 false⟩,
    ⟨(some 20), none, .bsl t_int 1 false [.int .i64 0] 1 [(0, (.t 19))]⟩,
    ⟨(some 21), none, .fa (.t 6) 2⟩,
    ⟨(some 22), none, .ld (.t 21) 1 false⟩,
    ⟨(some 23), none, .app (.t 20) (.t 22) t_int 1⟩,
    ⟨(some 7), none, .mv (.c (.str ⟨#[63]⟩))⟩,
    ⟨(some 8), none, .mv (.t 23)⟩] (some [3, 4, 6, 7, 8, 12, 13, 14]))
  (.sq (.sq (.op 0 [⟨(some 24), none, .fa (.t 6) 0⟩,
    ⟨(some 25), none, .ld (.t 24) 1 false⟩,
    ⟨(some 26), none, .callV true (.c (.fn n_graph_within [])) [(.t 25), (.c (.int .i64 0)), (.c (.int .i64 18))]⟩] none)
  (.cd (.t 26)
   (.sq (.op 0 [⟨(some 27), none, .fa (.t 6) 0⟩,
     ⟨(some 28), none, .ld (.t 27) 1 false⟩,
     ⟨(some 29), none, .iaa (.t 3) (.t 28) 19 5⟩,
     ⟨(some 30), none, .fa (.t 29) 0⟩,
     ⟨(some 31), none, .ld (.t 30) 1 false⟩,
     ⟨(some 7), none, .mv (.t 31)⟩] (some [3, 4, 6, 7, 8, 12, 13, 14]))
   (.sq (.op 0 [⟨(some 32), none, .fa (.t 6) 0⟩,
     ⟨(some 33), none, .ld (.t 32) 1 false⟩,
     ⟨(some 34), none, .iaa (.t 3) (.t 33) 19 5⟩,
     ⟨(some 35), none, .fa (.t 34) 2⟩,
     ⟨(some 36), none, .ld (.t 35) 1 false⟩] (some [3, 4, 6, 7, 8, 12, 13, 14, 36]))
   (.cd (.t 36)
    (.op 0 [⟨(some 37), none, .mv (.t 8)⟩,
      ⟨(some 38), none, .fa (.t 6) 3⟩,
      ⟨(some 39), none, .ld (.t 38) 1 false⟩,
      ⟨(some 40), none, .bsl t_int 1 false [.int .i64 0] 1 [(0, (.t 39))]⟩,
      ⟨(some 41), none, .app (.t 37) (.t 40) t_int 1⟩,
      ⟨(some 8), none, .mv (.t 41)⟩] (some [3, 4, 7, 8, 12, 13, 14]))
    .sk)))
   .sk))
  (.sq (.sq (.op 0 [⟨(some 42), none, .mv (.t 8)⟩,
    ⟨(some 43), none, .len false (.t 42)⟩,
    ⟨(some 44), none, .mv (.c (.int .i64 0))⟩] none)
  (.kp [3, 4, 7, 12, 13, 14] [2] (.bk 2 (.lp [] [3, 4, 7, 12, 13, 14, 42, 43, 44] c_graph_FormatNodes_L1))))
  (.op 0 [⟨(some 54), none, .mv (.t 4)⟩,
    ⟨(some 55), none, .mv (.t 7)⟩,
    ⟨(some 56), none, .bsl t_string 1 false [.str ⟨#[]⟩] 1 [(0, (.t 55))]⟩,
    ⟨(some 57), none, .app (.t 54) (.t 56) t_string 1⟩,
    ⟨(some 4), none, .mv (.t 57)⟩] (some [3, 4, 12, 13, 14])))))))
 (.op 0 [⟨(some 58), none, .bin .add (.t 14) (.c (.int .i64 1))⟩,
   ⟨(some 14), none, .mv (.t 58)⟩] none))))
def c_graph_FormatNodes_L0 : IR := b_graph_FormatNodes_L0
theorem u_graph_FormatNodes_L0 {C : Call} {L : Loop} {π : Id} {k0 : List Id} {e : Env} {s : Sto} : evC C L π k0 c_graph_FormatNodes_L0 e s = evC C L π k0 b_graph_FormatNodes_L0 e s := rfl
def c_graph_FormatNodes : FnIR := ⟨61,
  (.sq (.op 0 [⟨(some 2), none, .mv (.c (.str ⟨#[]⟩))⟩] none)
  (.sq (.op 0 [⟨(some 11), none, .callV true (.c (.fn n_graph_operations [])) []⟩,
    ⟨(some 3), none, .alloc [.str ⟨#[]⟩, .int .i64 0, .bool false, .nilf, .nilf, .str ⟨#[]⟩, .int .i64 0, .bool false, .nilf, .nilf, .str ⟨#[]⟩, .int .i64 0, .bool false, .nilf, .nilf, .str ⟨#[]⟩, .int .i64 0, .bool false, .nilf, .nilf, .str ⟨#[]⟩, .int .i64 0, .bool false, .nilf, .nilf, .str ⟨#[]⟩, .int .i64 0, .bool false, .nilf, .nilf, .str ⟨#[]⟩, .int .i64 0, .bool false, .nilf, .nilf, .str ⟨#[]⟩, .int .i64 0, .bool false, .nilf, .nilf, .str ⟨#[]⟩, .int .i64 0, .bool false, .nilf, .nilf, .str ⟨#[]⟩, .int .i64 0, .bool false, .nilf, .nilf, .str ⟨#[]⟩, .int .i64 0, .bool false, .nilf, .nilf, .str ⟨#[]⟩, .int .i64 0, .bool false, .nilf, .nilf, .str ⟨#[]⟩, .int .i64 0, .bool false, .nilf, .nilf, .str ⟨#[]⟩, .int .i64 0, .bool false, .nilf, .nilf, .str ⟨#[]⟩, .int .i64 0, .bool false, .nilf, .nilf, .str ⟨#[]⟩, .int .i64 0, .bool false, .nilf, .nilf, .str ⟨#[]⟩, .int .i64 0, .bool false, .nilf, .nilf, .str ⟨#[]⟩, .int .i64 0, .bool false, .nilf, .nilf, .str ⟨#[]⟩, .int .i64 0, .bool false, .nilf, .nilf]⟩,
    ⟨none, none, .st (.t 3) (.t 11) 95⟩] none)
  (.sq (.op 0 [⟨(some 4), none, .mv (.c (.sl 1 (some true) []))⟩] none)
  (.sq (.sq (.op 0 [⟨(some 12), none, .mv (.t 0)⟩,
    ⟨(some 13), none, .len false (.t 12)⟩,
    ⟨(some 14), none, .mv (.c (.int .i64 0))⟩] none)
  (.kp [4] [2] (.bk 0 (.lp [(t_string, .inl 4)] [3, 4, 12, 13, 14] c_graph_FormatNodes_L0))))
  (.sq (.op 0 [⟨(some 59), none, .mv (.t 4)⟩,
    ⟨(some 60), none, .callV true (.c (.fn n_strings_Join [])) [(.t 59), (.c (.str ⟨#[59]⟩))]⟩,
    ⟨(some 2), none, .mv (.t 60)⟩] none)
  .rt))))),
  [.t 2]⟩
def b_graph_each_int_L0 : IR :=
 (.sq (.op 0 [⟨(some 12), none, .bin .lss (.t 11) (.t 10)⟩] none)
 (.sq (.cd (.t 12)
  .sk
  (.ex 0))
 (.sq (.bk 1 (.sq (.op 0 [⟨(some 13), none, .mv (.t 11)⟩,
    ⟨(some 14), none, .ia (.t 9) (.t 11) 1⟩,
    ⟨(some 15), none, .ld (.t 14) 1 false⟩,
    ⟨(some 6), none, .mv (.t 13)⟩,
    ⟨(some 7), none, .mv (.t 15)⟩] (some [1, 6, 7, 9, 10, 11]))
  (.sq (.op 0 [⟨(some 16), none, .mv (.t 1)⟩,
    ⟨(some 17), none, .mv (.t 6)⟩,
    ⟨(some 18), none, .mv (.t 7)⟩,
    ⟨(some 19), none, .callV true (.t 16) [(.t 17), (.t 18)]⟩,
    ⟨(some 8), none, .mv (.t 19)⟩] (some [1, 6, 8, 9, 10, 11]))
  (.sq (.op 0 [⟨(some 20), none, .mv (.t 8)⟩,
    ⟨(some 21), none, .bin .neq (.t 20) (.c (.int .i64 0))⟩] none)
  (.cd (.t 21)
   (.sq (.op 0 [⟨(some 22), none, .mv (.t 6)⟩,
     ⟨(some 23), none, .mv (.t 8)⟩,
     ⟨(some 4), none, .mv (.t 22)⟩,
     ⟨(some 5), none, .mv (.t 23)⟩] (some [4, 5]))
   .rt)
   .sk)))))
 (.op 0 [⟨(some 24), none, .bin .add (.t 11) (.c (.int .i64 1))⟩,
   ⟨(some 11), none, .mv (.t 24)⟩] none))))
def c_graph_each_int_L0 : IR := b_graph_each_int_L0
theorem u_graph_each_int_L0 {C : Call} {L : Loop} {π : Id} {k0 : List Id} {e : Env} {s : Sto} : evC C L π k0 c_graph_each_int_L0 e s = evC C L π k0 b_graph_each_int_L0 e s := rfl
def c_graph_each_int : FnIR := ⟨25,
  (.sq (.op 0 [⟨(some 4), none, .mv (.c (.int .i64 0))⟩,
    ⟨(some 5), none, .mv (.c (.int .i64 0))⟩] none)
  (.sq (.sq (.op 0 [⟨(some 9), none, .mv (.t 0)⟩,
    ⟨(some 10), none, .len false (.t 9)⟩,
    ⟨(some 11), none, .mv (.c (.int .i64 0))⟩] none)
  (.kp [] [4, 5] (.bk 0 (.lp [] [1, 9, 10, 11] c_graph_each_int_L0))))
  (.sq (.op 0 [⟨(some 4), none, .mv (.c (.int .i64 0))⟩,
    ⟨(some 5), none, .mv (.c (.int .i64 0))⟩] none)
  .rt))),
  [.t 4, .t 5]⟩
def c_graph_CheckNodes_1 : FnIR := ⟨8,
  (.sq (.op 0 [⟨(some 4), none, .mv (.c (.int .i64 0))⟩] none)
  (.sq (.op 0 [⟨(some 5), none, .mv (.t 1)⟩,
    ⟨(some 6), none, .callV true (.c (.fn n_graph_isWidth [])) [(.t 5)]⟩,
    ⟨(some 7), none, .callV true (.c (.fn n_graph_unless [])) [(.t 6), (.c (.int .i64 2))]⟩,
    ⟨(some 4), none, .mv (.t 7)⟩] (some [4]))
  .rt)),
  [.t 4]⟩
def c_graph_unless : FnIR := ⟨7,
  (.sq (.op 0 [⟨(some 4), none, .mv (.c (.int .i64 0))⟩] none)
  (.sq (.sq (.op 0 [⟨(some 5), none, .mv (.t 0)⟩] none)
  (.cd (.t 5)
   (.sq (.op 0 [⟨(some 4), none, .mv (.c (.int .i64 0))⟩] none)
   .rt)
   .sk))
  (.sq (.op 0 [⟨(some 6), none, .mv (.t 1)⟩,
    ⟨(some 4), none, .mv (.t 6)⟩] none)
  .rt))),
  [.t 4]⟩
def c_graph_isWidth : FnIR := ⟨5,
  (.sq (.op 0 [⟨(some 2), none, .mv (.c (.bool false))⟩] none)
  (.sq (.op 0 [⟨(some 3), none, .mv (.t 0)⟩,
    ⟨(some 4), none, .callV true (.c (.fn n_graph_within [])) [(.t 3), (.c (.int .i64 1)), (.c (.int .i64 16))]⟩,
    ⟨(some 2), none, .mv (.t 4)⟩] none)
  .rt)),
  [.t 2]⟩
def c_graph_operations : FnIR := ⟨24,
  (.sq (.op 0 [⟨(some 0), none, .alloc [.str ⟨#[]⟩, .int .i64 0, .bool false, .nilf, .nilf, .str ⟨#[]⟩, .int .i64 0, .bool false, .nilf, .nilf, .str ⟨#[]⟩, .int .i64 0, .bool false, .nilf, .nilf, .str ⟨#[]⟩, .int .i64 0, .bool false, .nilf, .nilf, .str ⟨#[]⟩, .int .i64 0, .bool false, .nilf, .nilf, .str ⟨#[]⟩, .int .i64 0, .bool false, .nilf, .nilf, .str ⟨#[]⟩, .int .i64 0, .bool false, .nilf, .nilf, .str ⟨#[]⟩, .int .i64 0, .bool false, .nilf, .nilf, .str ⟨#[]⟩, .int .i64 0, .bool false, .nilf, .nilf, .str ⟨#[]⟩, .int .i64 0, .bool false, .nilf, .nilf, .str ⟨#[]⟩, .int .i64 0, .bool false, .nilf, .nilf, .str ⟨#[]⟩, .int .i64 0, .bool false, .nilf, .nilf, .str ⟨#[]⟩, .int .i64 0, .bool false, .nilf, .nilf, .str ⟨#[]⟩, .int .i64 0, .bool false, .nilf, .nilf, .str ⟨#[]⟩, .int .i64 0, .bool false, .nilf, .nilf, .str ⟨#[]⟩, .int .i64 0, .bool false, .nilf, .nilf, .str ⟨#[]⟩, .int .i64 0, .bool false, .nilf, .nilf, .str ⟨#[]⟩, .int .i64 0, .bool false, .nilf, .nilf, .str ⟨#[]⟩, .int .i64 0, .bool false, .nilf, .nilf]⟩] none)
  (.sq (.op 0 [⟨(some 1), none, .mv (.c (.fn n_graph_operations_1 []))⟩] none)
  (.sq (.op 0 [⟨(some 2), none, .mv (.t 1)⟩,
    ⟨(some 3), none, .build [.str ⟨#[]⟩, .int .i64 0, .bool false, .nilf, .nilf] [(0, 1, (.c (.str ⟨#[99, 111, 110, 115, 116]⟩))), (1, 1, (.c (.int .i64 0))), (2, 1, (.c (.bool true))), (3, 1, (.c (.fn n_graph_anyWidth []))), (4, 1, (.t 2))]⟩,
    ⟨(some 4), none, .mv (.t 1)⟩,
    ⟨(some 5), none, .build [.str ⟨#[]⟩, .int .i64 0, .bool false, .nilf, .nilf] [(0, 1, (.c (.str ⟨#[108, 101, 97, 102]⟩))), (1, 1, (.c (.int .i64 0))), (2, 1, (.c (.bool true))), (3, 1, (.c (.fn n_graph_anyWidth []))), (4, 1, (.t 4))]⟩,
    ⟨(some 6), none, .build [.str ⟨#[]⟩, .int .i64 0, .bool false, .nilf, .nilf] [(0, 1, (.c (.str ⟨#[110, 111, 116]⟩))), (1, 1, (.c (.int .i64 1))), (2, 1, (.c (.bool false))), (3, 1, (.c (.fn n_graph_same []))), (4, 1, (.c (.fn n_graph_operations_2 [])))]⟩,
    ⟨(some 7), none, .callV false (.c (.fn n_graph_binary [])) [(.c (.str ⟨#[97, 110, 100]⟩)), (.c (.fn n_graph_operations_3 []))]⟩,
    ⟨(some 8), none, .callV false (.c (.fn n_graph_binary [])) [(.c (.str ⟨#[111, 114]⟩)), (.c (.fn n_graph_operations_4 []))]⟩,
    ⟨(some 9), none, .callV false (.c (.fn n_graph_binary [])) [(.c (.str ⟨#[120, 111, 114]⟩)), (.c (.fn n_graph_operations_5 []))]⟩,
    ⟨(some 10), none, .callV false (.c (.fn n_graph_binary [])) [(.c (.str ⟨#[97, 100, 100]⟩)), (.c (.fn n_graph_operations_6 []))]⟩,
    ⟨(some 11), none, .callV false (.c (.fn n_graph_binary [])) [(.c (.str ⟨#[115, 117, 98]⟩)), (.c (.fn n_graph_operations_7 []))]⟩,
    ⟨(some 12), none, .callV false (.c (.fn n_graph_binary [])) [(.c (.str ⟨#[109, 117, 108]⟩)), (.c (.fn n_graph_operations_8 []))]⟩,
    ⟨(some 13), none, .callV false (.c (.fn n_graph_relation [])) [(.c (.str ⟨#[101, 113]⟩)), (.c (.fn n_graph_operations_9 []))]⟩,
    ⟨(some 14), none, .callV false (.c (.fn n_graph_relation [])) [(.c (.str ⟨#[108, 116]⟩)), (.c (.fn n_graph_operations_10 []))]⟩,
    ⟨(some 15), none, .callV false (.c (.fn n_graph_relation [])) [(.c (.str ⟨#[115, 108, 116]⟩)), (.c (.fn n_graph_operations_11 []))]⟩,
    ⟨(some 16), none, .build [.str ⟨#[]⟩, .int .i64 0, .bool false, .nilf, .nilf] [(0, 1, (.c (.str ⟨#[109, 117, 120]⟩))), (1, 1, (.c (.int .i64 3))), (2, 1, (.c (.bool false))), (3, 1, (.c (.fn n_graph_operations_12 []))), (4, 1, (.c (.fn n_graph_operations_13 [])))]⟩,
    ⟨(some 17), none, .build [.str ⟨#[]⟩, .int .i64 0, .bool false, .nilf, .nilf] [(0, 1, (.c (.str ⟨#[106, 111, 105, 110]⟩))), (1, 1, (.c (.int .i64 2))), (2, 1, (.c (.bool false))), (3, 1, (.c (.fn n_graph_operations_14 []))), (4, 1, (.c (.fn n_graph_operations_15 [])))]⟩,
    ⟨(some 18), none, .build [.str ⟨#[]⟩, .int .i64 0, .bool false, .nilf, .nilf] [(0, 1, (.c (.str ⟨#[115, 108, 105, 99, 101]⟩))), (1, 1, (.c (.int .i64 1))), (2, 1, (.c (.bool true))), (3, 1, (.c (.fn n_graph_operations_16 []))), (4, 1, (.c (.fn n_graph_operations_17 [])))]⟩,
    ⟨(some 19), none, .build [.str ⟨#[]⟩, .int .i64 0, .bool false, .nilf, .nilf] [(0, 1, (.c (.str ⟨#[122, 101, 120, 116]⟩))), (1, 1, (.c (.int .i64 1))), (2, 1, (.c (.bool false))), (3, 1, (.c (.fn n_graph_extended []))), (4, 1, (.c (.fn n_graph_operations_18 [])))]⟩,
    ⟨(some 20), none, .build [.str ⟨#[]⟩, .int .i64 0, .bool false, .nilf, .nilf] [(0, 1, (.c (.str ⟨#[115, 101, 120, 116]⟩))), (1, 1, (.c (.int .i64 1))), (2, 1, (.c (.bool false))), (3, 1, (.c (.fn n_graph_extended []))), (4, 1, (.c (.fn n_graph_operations_19 [])))]⟩,
    ⟨(some 21), none, .build [.str ⟨#[]⟩, .int .i64 0, .bool false, .nilf, .nilf] [(0, 1, (.c (.str ⟨#[115, 104, 108]⟩))), (1, 1, (.c (.int .i64 2))), (2, 1, (.c (.bool false))), (3, 1, (.c (.fn n_graph_shifted []))), (4, 1, (.c (.fn n_graph_operations_20 [])))]⟩,
    ⟨(some 22), none, .build [.str ⟨#[]⟩, .int .i64 0, .bool false, .nilf, .nilf] [(0, 1, (.c (.str ⟨#[115, 104, 114]⟩))), (1, 1, (.c (.int .i64 2))), (2, 1, (.c (.bool false))), (3, 1, (.c (.fn n_graph_shifted []))), (4, 1, (.c (.fn n_graph_operations_21 [])))]⟩,
    ⟨(some 23), none, .build [.str ⟨#[]⟩, .int .i64 0, .bool false, .nilf, .nilf, .str ⟨#[]⟩, .int .i64 0, .bool false, .nilf, .nilf, .str ⟨#[]⟩, .int .i64 0, .bool false, .nilf, .nilf, .str ⟨#[]⟩, .int .i64 0, .bool false, .nilf, .nilf, .str ⟨#[]⟩, .int .i64 0, .bool false, .nilf, .nilf, .str ⟨#[]⟩, .int .i64 0, .bool false, .nilf, .nilf, .str ⟨#[]⟩, .int .i64 0, .bool false, .nilf, .nilf, .str ⟨#[]⟩, .int .i64 0, .bool false, .nilf, .nilf, .str ⟨#[]⟩, .int .i64 0, .bool false, .nilf, .nilf, .str ⟨#[]⟩, .int .i64 0, .bool false, .nilf, .nilf, .str ⟨#[]⟩, .int .i64 0, .bool false, .nilf, .nilf, .str ⟨#[]⟩, .int .i64 0, .bool false, .nilf, .nilf, .str ⟨#[]⟩, .int .i64 0, .bool false, .nilf, .nilf, .str ⟨#[]⟩, .int .i64 0, .bool false, .nilf, .nilf, .str ⟨#[]⟩, .int .i64 0, .bool false, .nilf, .nilf, .str ⟨#[]⟩, .int .i64 0, .bool false, .nilf, .nilf, .str ⟨#[]⟩, .int .i64 0, .bool false, .nilf, .nilf, .str ⟨#[]⟩, .int .i64 0, .bool false, .nilf, .nilf, .str ⟨#[]⟩, .int .i64 0, .bool false, .nilf, .nilf] [(0, 5, (.t 3)), (5, 5, (.t 5)), (10, 5, (.t 6)), (15, 5, (.t 7)), (20, 5, (.t 8)), (25, 5, (.t 9)), (30, 5, (.t 10)), (35, 5, (.t 11)), (40, 5, (.t 12)), (45, 5, (.t 13)), (50, 5, (.t 14)), (55, 5, (.t 15)), (60, 5, (.t 16)), (65, 5, (.t 17)), (70, 5, (.t 18)), (75, 5, (.t 19)), (80, 5, (.t 20)), (85, 5, (.t 21)), (90, 5, (.t 22))]⟩,
    ⟨none, none, .st (.t 0) (.t 23) 95⟩] (some [0]))
  .rt))),
  [.c 0 95 true]⟩
def b_graph_each_api_Node_L0 : IR :=
 (.sq (.op 0 [⟨(some 12), none, .bin .lss (.t 11) (.t 10)⟩] none)
 (.sq (.cd (.t 12)
  .sk
  (.ex 0))
 (.sq (.bk 1 (.sq (.op 0 [⟨(some 13), none, .mv (.t 11)⟩,
    ⟨(some 14), none, .ia (.t 9) (.t 11) 4⟩,
    ⟨(some 15), none, .ld (.t 14) 4 true⟩,
    ⟨(some 7), none, .alloc [.int .i64 0, .int .i64 0, .sl 1 (some true) [], .int .i64 0]⟩,
    ⟨(some 6), none, .mv (.t 13)⟩,
    ⟨none, none, .st (.t 7) (.t 15) 4⟩] (some [1, 6, 7, 9, 10, 11]))
  (.sq (.op 0 [⟨(some 16), none, .mv (.t 1)⟩,
    ⟨(some 17), none, .mv (.t 6)⟩,
    ⟨(some 18), none, .ld (.t 7) 4 true⟩,
    ⟨(some 19), none, .callV true (.t 16) [(.t 17), (.t 18)]⟩,
    ⟨(some 8), none, .mv (.t 19)⟩] (some [1, 6, 8, 9, 10, 11]))
  (.sq (.op 0 [⟨(some 20), none, .mv (.t 8)⟩,
    ⟨(some 21), none, .bin .neq (.t 20) (.c (.int .i64 0))⟩] none)
  (.cd (.t 21)
   (.sq (.op 0 [⟨(some 22), none, .mv (.t 6)⟩,
     ⟨(some 23), none, .mv (.t 8)⟩,
     ⟨(some 4), none, .mv (.t 22)⟩,
     ⟨(some 5), none, .mv (.t 23)⟩] (some [4, 5]))
   .rt)
   .sk)))))
 (.op 0 [⟨(some 24), none, .bin .add (.t 11) (.c (.int .i64 1))⟩,
   ⟨(some 11), none, .mv (.t 24)⟩] none))))
def c_graph_each_api_Node_L0 : IR := b_graph_each_api_Node_L0
theorem u_graph_each_api_Node_L0 {C : Call} {L : Loop} {π : Id} {k0 : List Id} {e : Env} {s : Sto} : evC C L π k0 c_graph_each_api_Node_L0 e s = evC C L π k0 b_graph_each_api_Node_L0 e s := rfl
def c_graph_each_api_Node : FnIR := ⟨25,
  (.sq (.op 0 [⟨(some 4), none, .mv (.c (.int .i64 0))⟩,
    ⟨(some 5), none, .mv (.c (.int .i64 0))⟩] none)
  (.sq (.sq (.op 0 [⟨(some 9), none, .mv (.t 0)⟩,
    ⟨(some 10), none, .len false (.t 9)⟩,
    ⟨(some 11), none, .mv (.c (.int .i64 0))⟩] none)
  (.kp [] [4, 5] (.bk 0 (.lp [] [1, 9, 10, 11] c_graph_each_api_Node_L0))))
  (.sq (.op 0 [⟨(some 4), none, .mv (.c (.int .i64 0))⟩,
    ⟨(some 5), none, .mv (.c (.int .i64 0))⟩] none)
  .rt))),
  [.t 4, .t 5]⟩
def b_graph_CheckNodes_2_L0 : IR :=
 (.sq (.op 0 [⟨(some 59), none, .bin .lss (.t 58) (.t 57)⟩] none)
 (.sq (.cd (.t 59)
  .sk
  (.ex 0))
 (.sq (.bk 1 (.sq (.op 0 [⟨(some 60), none, .ia (.t 56) (.t 58) 1⟩,
    ⟨(some 61), none, .ld (.t 60) 1 false⟩,
    ⟨(some 14), none, .mv (.t 61)⟩] none)
  (.op 0 [⟨(some 62), none, .mv (.t 12)⟩,
    ⟨(some 63), none, .ld (.t 4) 1 false⟩,
    ⟨(some 64), none, .mv (.t 14)⟩,
    ⟨(some 65), none, .ia (.t 63) (.t 64) 4⟩,
    ⟨(some 66), none, .fa (.t 65) 1⟩,
    ⟨(some 67), none, .ld (.t 66) 1 false⟩,
    ⟨(some 68), none, .bsl t_int 1 false [.int .i64 0] 1 [(0, (.t 67))]⟩,
    ⟨(some 69), none, .app (.t 62) (.t 68) t_int 1⟩,
    ⟨(some 12), none, .mv (.t 69)⟩] (some [4, 6, 9, 12, 56, 57, 58]))))
 (.op 0 [⟨(some 70), none, .bin .add (.t 58) (.c (.int .i64 1))⟩,
   ⟨(some 58), none, .mv (.t 70)⟩] none))))
def c_graph_CheckNodes_2_L0 : IR := b_graph_CheckNodes_2_L0
theorem u_graph_CheckNodes_2_L0 {C : Call} {L : Loop} {π : Id} {k0 : List Id} {e : Env} {s : Sto} : evC C L π k0 c_graph_CheckNodes_2_L0 e s = evC C L π k0 b_graph_CheckNodes_2_L0 e s := rfl
def c_graph_CheckNodes_2 : FnIR := ⟨80,
  (.sq (.op 0 [⟨(some 5), none, .box (.t 0) 1⟩,
    ⟨(some 6), none, .box (.t 1) 4⟩,
    ⟨(some 7), none, .mv (.c (.int .i64 0))⟩] none)
  (.sq (.sq (.op 6 [⟨(some 15), none, .fa (.t 6) 0⟩,
    ⟨(some 16), none, .ld (.t 15) 1 false⟩,
    ⟨(some 17), none, .callV true (.c (.fn n_graph_within [])) [(.t 16), (.c (.int .i64 0)), (.c (.int .i64 18))]⟩,
    ⟨(some 18), none, .callV true (.c (.fn n_graph_unless [])) [(.t 17), (.c (.int .i64 15))]⟩,
    ⟨(some 19), none, .fa (.t 6) 1⟩,
    ⟨(some 20), none, .ld (.t 19) 1 false⟩,
    ⟨(some 21), none, .callV true (.c (.fn n_graph_isWidth [])) [(.t 20)]⟩,
    ⟨(some 22), none, .callV true (.c (.fn n_graph_unless [])) [(.t 21), (.c (.int .i64 2))]⟩,
    ⟨(some 23), none, .bsl t_api_Errno 1 false [.int .i64 0] 2 [(0, (.t 18)), (1, (.t 22))]⟩,
    ⟨(some 24), none, .callV true (.c (.fn n_graph_first [])) [(.t 23)]⟩,
    ⟨(some 8), none, .mv (.t 24)⟩] (some [2, 3, 4, 5, 6, 8]))
  (.sq (.op 0 [⟨(some 25), none, .mv (.t 8)⟩,
    ⟨(some 26), none, .bin .neq (.t 25) (.c (.int .i64 0))⟩] none)
  (.cd (.t 26)
   (.sq (.op 0 [⟨(some 27), none, .mv (.t 8)⟩,
     ⟨(some 7), none, .mv (.t 27)⟩] none)
   .rt)
   .sk)))
  (.sq (.op 0 [⟨(some 28), none, .fa (.t 6) 0⟩,
    ⟨(some 29), none, .ld (.t 28) 1 false⟩,
    ⟨(some 30), none, .iaa (.t 2) (.t 29) 19 5⟩,
    ⟨(some 31), none, .ld (.t 30) 5 true⟩,
    ⟨(some 9), none, .alloc [.str ⟨#[]⟩, .int .i64 0, .bool false, .nilf, .nilf]⟩,
    ⟨none, none, .st (.t 9) (.t 31) 5⟩] (some [3, 4, 5, 6, 9]))
  (.sq (.op 0 [⟨(some 32), none, .fa (.t 6) 2⟩,
    ⟨(some 33), none, .ld (.t 32) 1 false⟩,
    ⟨(some 34), none, .mkf n_graph_CheckNodes_2_1 [(.t 5)]⟩,
    ⟨(some 35), none, .callV true (.c (.fn n_slices_ContainsFunc_int_int [])) [(.t 33), (.t 34)]⟩,
    ⟨(some 10), none, .mv (.t 35)⟩] (some [3, 4, 6, 9, 10]))
  (.sq (.sq (.op 13 [⟨(some 36), none, .fa (.t 6) 2⟩,
    ⟨(some 37), none, .ld (.t 36) 1 false⟩,
    ⟨(some 38), none, .len false (.t 37)⟩,
    ⟨(some 39), none, .fa (.t 9) 1⟩,
    ⟨(some 40), none, .ld (.t 39) 1 false⟩,
    ⟨(some 41), none, .bin .eql (.t 38) (.t 40)⟩,
    ⟨(some 42), none, .callV true (.c (.fn n_graph_unless [])) [(.t 41), (.c (.int .i64 10))]⟩,
    ⟨(some 43), none, .mv (.t 10)⟩,
    ⟨(some 44), none, .un .not (.t 43)⟩,
    ⟨(some 45), none, .callV true (.c (.fn n_graph_unless [])) [(.t 44), (.c (.int .i64 9))]⟩,
    ⟨(some 46), none, .ld (.t 3) 1 false⟩,
    ⟨(some 47), none, .ld (.t 6) 4 true⟩,
    ⟨(some 48), none, .ld (.t 9) 5 true⟩,
    ⟨(some 49), none, .callV true (.c (.fn n_graph_valueErr [])) [(.t 46), (.t 47), (.t 48)]⟩,
    ⟨(some 50), none, .bsl t_api_Errno 1 false [.int .i64 0] 3 [(0, (.t 42)), (1, (.t 45)), (2, (.t 49))]⟩,
    ⟨(some 51), none, .callV true (.c (.fn n_graph_first [])) [(.t 50)]⟩,
    ⟨(some 11), none, .mv (.t 51)⟩] (some [4, 6, 9, 11]))
  (.sq (.op 0 [⟨(some 52), none, .mv (.t 11)⟩,
    ⟨(some 53), none, .bin .neq (.t 52) (.c (.int .i64 0))⟩] none)
  (.cd (.t 53)
   (.sq (.op 0 [⟨(some 54), none, .mv (.t 11)⟩,
     ⟨(some 7), none, .mv (.t 54)⟩] none)
   .rt)
   .sk)))
  (.sq (.op 0 [⟨(some 12), none, .mv (.c (.sl 1 (some true) []))⟩] none)
  (.sq (.sq (.op 0 [⟨(some 55), none, .fa (.t 6) 2⟩,
    ⟨(some 56), none, .ld (.t 55) 1 false⟩,
    ⟨(some 57), none, .len false (.t 56)⟩,
    ⟨(some 58), none, .mv (.c (.int .i64 0))⟩] (some [4, 6, 9, 12, 56, 57, 58]))
  (.kp [6, 9, 12] [7] (.bk 0 (.lp [(t_int, .inl 12)] [4, 6, 9, 12, 56, 57, 58] c_graph_CheckNodes_2_L0))))
  (.sq (.op 0 [⟨(some 71), none, .fa (.t 9) 3⟩,
    ⟨(some 72), none, .ld (.t 71) 1 false⟩,
    ⟨(some 73), none, .fa (.t 6) 1⟩,
    ⟨(some 74), none, .ld (.t 73) 1 false⟩,
    ⟨(some 75), none, .mv (.t 12)⟩,
    ⟨(some 76), none, .fa (.t 6) 3⟩,
    ⟨(some 77), none, .ld (.t 76) 1 false⟩,
    ⟨(some 78), none, .callV true (.t 72) [(.t 74), (.t 75), (.t 77)]⟩,
    ⟨(some 79), none, .callV true (.c (.fn n_graph_unless [])) [(.t 78), (.c (.int .i64 25))]⟩,
    ⟨(some 7), none, .mv (.t 79)⟩] (some [7]))
  .rt)))))))),
  [.t 7]⟩
def b_graph_first_L0 : IR :=
 (.sq (.op 0 [⟨(some 8), none, .bin .lss (.t 7) (.t 6)⟩] none)
 (.sq (.cd (.t 8)
  .sk
  (.ex 0))
 (.sq (.bk 1 (.sq (.op 0 [⟨(some 9), none, .ia (.t 5) (.t 7) 1⟩,
    ⟨(some 10), none, .ld (.t 9) 1 false⟩,
    ⟨(some 4), none, .mv (.t 10)⟩] none)
  (.sq (.op 0 [⟨(some 11), none, .mv (.t 4)⟩,
    ⟨(some 12), none, .bin .neq (.t 11) (.c (.int .i64 0))⟩] none)
  (.cd (.t 12)
   (.sq (.op 0 [⟨(some 13), none, .mv (.t 4)⟩,
     ⟨(some 2), none, .mv (.t 13)⟩] none)
   .rt)
   .sk))))
 (.op 0 [⟨(some 14), none, .bin .add (.t 7) (.c (.int .i64 1))⟩,
   ⟨(some 7), none, .mv (.t 14)⟩] none))))
def c_graph_first_L0 : IR := b_graph_first_L0
theorem u_graph_first_L0 {C : Call} {L : Loop} {π : Id} {k0 : List Id} {e : Env} {s : Sto} : evC C L π k0 c_graph_first_L0 e s = evC C L π k0 b_graph_first_L0 e s := rfl
def c_graph_first : FnIR := ⟨15,
  (.sq (.op 0 [⟨(some 2), none, .mv (.c (.int .i64 0))⟩] none)
  (.sq (.sq (.op 0 [⟨(some 5), none, .mv (.t 0)⟩,
    ⟨(some 6), none, .len false (.t 5)⟩,
    ⟨(some 7), none, .mv (.c (.int .i64 0))⟩] none)
  (.kp [] [2] (.bk 0 (.lp [] [5, 6, 7] c_graph_first_L0))))
  (.sq (.op 0 [⟨(some 2), none, .mv (.c (.int .i64 0))⟩] none)
  .rt))),
  [.t 2]⟩
def c_graph_within : FnIR := ⟨15,
  (.sq (.op 0 [⟨(some 6), none, .mv (.c (.bool false))⟩] none)
  (.sq (.op 0 [⟨(some 7), none, .mv (.t 1)⟩,
    ⟨(some 8), none, .mv (.t 0)⟩,
    ⟨(some 9), none, .bin .leq (.t 7) (.t 8)⟩,
    ⟨(some 10), none, .mv (.t 9)⟩,
    ⟨(some 11), (some (10, true)), .mv (.t 0)⟩,
    ⟨(some 12), (some (10, true)), .mv (.t 2)⟩,
    ⟨(some 13), (some (10, true)), .bin .leq (.t 11) (.t 12)⟩,
    ⟨(some 14), none, .pick (.t 10) (.t 13) (.c (.bool false))⟩,
    ⟨(some 6), none, .mv (.t 14)⟩] (some [6]))
  .rt)),
  [.t 6]⟩
def c_slices_ContainsFunc_int_int : FnIR := ⟨9,
  (.sq (.op 0 [⟨(some 4), none, .mv (.c (.bool false))⟩] none)
  (.sq (.op 0 [⟨(some 5), none, .mv (.t 0)⟩,
    ⟨(some 6), none, .mv (.t 1)⟩,
    ⟨(some 7), none, .callV true (.c (.fn n_slices_IndexFunc_int_int [])) [(.t 5), (.t 6)]⟩,
    ⟨(some 8), none, .bin .geq (.t 7) (.c (.int .i64 0))⟩,
    ⟨(some 4), none, .mv (.t 8)⟩] (some [4]))
  .rt)),
  [.t 4]⟩
def c_graph_CheckNodes_2_1 : FnIR := ⟨9,
  (.sq (.op 0 [⟨(some 3), none, .mv (.c (.bool false))⟩] none)
  (.sq (.op 0 [⟨(some 4), none, .mv (.t 0)⟩,
    ⟨(some 5), none, .ld (.t 1) 1 false⟩,
    ⟨(some 6), none, .bin .sub (.t 5) (.c (.int .i64 1))⟩,
    ⟨(some 7), none, .callV true (.c (.fn n_graph_within [])) [(.t 4), (.c (.int .i64 0)), (.t 6)]⟩,
    ⟨(some 8), none, .un .not (.t 7)⟩,
    ⟨(some 3), none, .mv (.t 8)⟩] (some [3]))
  .rt)),
  [.t 3]⟩
def c_graph_valueErr : FnIR := ⟨49,
  (.sq (.op 0 [⟨(some 4), none, .box (.t 1) 4⟩,
    ⟨(some 5), none, .box (.t 2) 5⟩,
    ⟨(some 6), none, .mv (.c (.int .i64 0))⟩] none)
  (.sq (.sq (.op 0 [⟨(some 7), none, .fa (.t 4) 0⟩,
    ⟨(some 8), none, .ld (.t 7) 1 false⟩] none)
  (.bk 0 (.sq (.op 0 [⟨(some 10), none, .bin .eql (.t 8) (.c (.int .i64 0))⟩,
     ⟨(some 9), none, .mv (.t 10)⟩] none)
   (.cd (.t 9)
    (.sq (.op 0 [⟨(some 11), none, .fa (.t 4) 3⟩,
      ⟨(some 12), none, .ld (.t 11) 1 false⟩,
      ⟨(some 13), none, .fa (.t 4) 1⟩,
      ⟨(some 14), none, .ld (.t 13) 1 false⟩,
      ⟨(some 15), none, .callV true (.c (.fn n_graph_fits [])) [(.t 12), (.t 14)]⟩,
      ⟨(some 16), none, .callV true (.c (.fn n_graph_unless [])) [(.t 15), (.c (.int .i64 2))]⟩,
      ⟨(some 6), none, .mv (.t 16)⟩] (some [6]))
    .rt)
    (.sq (.op 0 [⟨(some 18), none, .bin .eql (.t 8) (.c (.int .i64 1))⟩,
      ⟨(some 17), none, .mv (.t 18)⟩] none)
    (.cd (.t 17)
     (.sq (.sq (.op 0 [⟨(some 19), none, .fa (.t 4) 3⟩,
       ⟨(some 20), none, .ld (.t 19) 1 false⟩,
       ⟨(some 21), none, .mv (.t 0)⟩,
       ⟨(some 22), none, .len false (.t 21)⟩,
       ⟨(some 23), none, .bin .sub (.t 22) (.c (.int .i64 1))⟩,
       ⟨(some 24), none, .callV true (.c (.fn n_graph_within [])) [(.t 20), (.c (.int .i64 0)), (.t 23)]⟩,
       ⟨(some 25), none, .un .not (.t 24)⟩] (some [0, 4, 25]))
     (.cd (.t 25)
      (.sq (.op 0 [⟨(some 6), none, .mv (.c (.int .i64 6))⟩] none)
      .rt)
      .sk))
     (.sq (.op 7 [⟨(some 26), none, .mv (.t 0)⟩,
       ⟨(some 27), none, .fa (.t 4) 3⟩,
       ⟨(some 28), none, .ld (.t 27) 1 false⟩,
       ⟨(some 29), none, .ia (.t 26) (.t 28) 1⟩,
       ⟨(some 30), none, .ld (.t 29) 1 false⟩,
       ⟨(some 31), none, .fa (.t 4) 1⟩,
       ⟨(some 32), none, .ld (.t 31) 1 false⟩,
       ⟨(some 33), none, .bin .eql (.t 30) (.t 32)⟩,
       ⟨(some 34), none, .callV true (.c (.fn n_graph_unless [])) [(.t 33), (.c (.int .i64 25))]⟩,
       ⟨(some 6), none, .mv (.t 34)⟩] (some [6]))
     .rt))
     (.sq (.op 0 [⟨(some 36), none, .bin .eql (.t 8) (.c (.int .i64 14))⟩,
       ⟨(some 35), none, .mv (.t 36)⟩] none)
     (.cd (.t 35)
      (.sq (.op 0 [⟨(some 37), none, .fa (.t 4) 3⟩,
        ⟨(some 38), none, .ld (.t 37) 1 false⟩,
        ⟨(some 39), none, .callV true (.c (.fn n_graph_within [])) [(.t 38), (.c (.int .i64 0)), (.c (.int .i64 15))]⟩,
        ⟨(some 40), none, .callV true (.c (.fn n_graph_unless [])) [(.t 39), (.c (.int .i64 2))]⟩,
        ⟨(some 6), none, .mv (.t 40)⟩] (some [6]))
      .rt)
      .sk))))))))
  (.sq (.op 0 [⟨(some 41), none, .fa (.t 5) 2⟩,
    ⟨(some 42), none, .ld (.t 41) 1 false⟩,
    ⟨(some 43), none, .mv (.t 42)⟩,
    ⟨(some 44), (some (43, false)), .fa (.t 4) 3⟩,
    ⟨(some 45), (some (43, false)), .ld (.t 44) 1 false⟩,
    ⟨(some 46), (some (43, false)), .bin .eql (.t 45) (.c (.int .i64 0))⟩,
    ⟨(some 47), none, .pick (.t 43) (.c (.bool true)) (.t 46)⟩,
    ⟨(some 48), none, .callV true (.c (.fn n_graph_unless [])) [(.t 47), (.c (.int .i64 3))]⟩,
    ⟨(some 6), none, .mv (.t 48)⟩] (some [6]))
  .rt))),
  [.t 6]⟩
def c_ratchetbase_IsWidth : FnIR := ⟨5,
  (.sq (.op 0 [⟨(some 2), none, .mv (.c (.bool false))⟩] none)
  (.sq (.op 0 [⟨(some 3), none, .mv (.t 0)⟩,
    ⟨(some 4), none, .callV true (.c (.fn n_ratchetbase_Within [])) [(.t 3), (.c (.int .i64 1)), (.c (.int .i64 16))]⟩,
    ⟨(some 2), none, .mv (.t 4)⟩] none)
  .rt)),
  [.t 2]⟩
def b_ratchetbase_NodesErr_L0 : IR :=
 (.sq (.sq (.op 0 [⟨(some 11), none, .mv (.t 6)⟩,
   ⟨(some 12), none, .mv (.t 1)⟩,
   ⟨(some 13), none, .len false (.t 12)⟩,
   ⟨(some 14), none, .bin .lss (.t 11) (.t 13)⟩] (some [0, 1, 6, 14]))
 (.cd (.t 14)
  .sk
  (.ex 0)))
 (.sq (.bk 1 (.sq (.op 0 [⟨(some 17), none, .mv (.t 0)⟩,
    ⟨(some 18), none, .mv (.t 1)⟩,
    ⟨(some 19), none, .mv (.t 6)⟩,
    ⟨(some 20), none, .callV true (.c (.fn n_ratchetbase_nodeErr [])) [(.t 17), (.t 18), (.t 19)]⟩,
    ⟨(some 7), none, .mv (.t 20)⟩] (some [0, 1, 6, 7]))
  (.sq (.op 0 [⟨(some 21), none, .mv (.t 7)⟩,
    ⟨(some 22), none, .bin .neq (.t 21) (.c (.int .i64 0))⟩] none)
  (.cd (.t 22)
   (.sq (.op 0 [⟨(some 23), none, .mv (.t 6)⟩,
     ⟨(some 24), none, .mv (.t 7)⟩,
     ⟨(some 4), none, .mv (.t 23)⟩,
     ⟨(some 5), none, .mv (.t 24)⟩] (some [4, 5]))
   .rt)
   .sk))))
 (.op 0 [⟨(some 15), none, .mv (.t 6)⟩,
   ⟨(some 16), none, .bin .add (.t 15) (.c (.int .i64 1))⟩,
   ⟨(some 6), none, .mv (.t 16)⟩] none)))
def c_ratchetbase_NodesErr_L0 : IR := b_ratchetbase_NodesErr_L0
theorem u_ratchetbase_NodesErr_L0 {C : Call} {L : Loop} {π : Id} {k0 : List Id} {e : Env} {s : Sto} : evC C L π k0 c_ratchetbase_NodesErr_L0 e s = evC C L π k0 b_ratchetbase_NodesErr_L0 e s := rfl
def c_ratchetbase_NodesErr : FnIR := ⟨25,
  (.sq (.op 0 [⟨(some 4), none, .mv (.c (.int .i64 0))⟩,
    ⟨(some 5), none, .mv (.c (.int .i64 0))⟩] none)
  (.sq (.sq (.op 0 [⟨(some 8), none, .mv (.t 1)⟩,
    ⟨(some 9), none, .len false (.t 8)⟩,
    ⟨(some 10), none, .bin .gtr (.t 9) (.c (.int .i64 400))⟩] none)
  (.cd (.t 10)
   (.sq (.op 0 [⟨(some 4), none, .mv (.c (.int .i64 0))⟩,
     ⟨(some 5), none, .mv (.c (.int .i64 8))⟩] none)
   .rt)
   .sk))
  (.sq (.sq (.op 0 [⟨(some 6), none, .mv (.c (.int .i64 0))⟩] none)
  (.kp [] [4, 5] (.bk 0 (.lp [] [0, 1, 6] c_ratchetbase_NodesErr_L0))))
  (.sq (.op 0 [⟨(some 4), none, .mv (.c (.int .i64 0))⟩,
    ⟨(some 5), none, .mv (.c (.int .i64 0))⟩] none)
  .rt)))),
  [.t 4, .t 5]⟩
def b_ratchetbase_IsValues_L0 : IR :=
 (.sq (.sq (.op 0 [⟨(some 11), none, .mv (.t 5)⟩,
   ⟨(some 12), none, .mv (.t 1)⟩,
   ⟨(some 13), none, .len false (.t 12)⟩,
   ⟨(some 14), none, .bin .lss (.t 11) (.t 13)⟩] (some [0, 1, 5, 14]))
 (.cd (.t 14)
  .sk
  (.ex 0)))
 (.sq (.bk 1 (.sq (.op 8 [⟨(some 17), none, .mv (.t 1)⟩,
    ⟨(some 18), none, .mv (.t 5)⟩,
    ⟨(some 19), none, .ia (.t 17) (.t 18) 1⟩,
    ⟨(some 20), none, .ld (.t 19) 1 false⟩,
    ⟨(some 21), none, .mv (.t 0)⟩,
    ⟨(some 22), none, .mv (.t 5)⟩,
    ⟨(some 23), none, .ia (.t 21) (.t 22) 1⟩,
    ⟨(some 24), none, .ld (.t 23) 1 false⟩,
    ⟨(some 25), none, .callV true (.c (.fn n_ratchetbase_Fits [])) [(.t 20), (.t 24)]⟩,
    ⟨(some 26), none, .un .not (.t 25)⟩] (some [0, 1, 5, 26]))
  (.cd (.t 26)
   (.sq (.op 0 [⟨(some 4), none, .mv (.c (.bool false))⟩] none)
   .rt)
   .sk)))
 (.op 0 [⟨(some 15), none, .mv (.t 5)⟩,
   ⟨(some 16), none, .bin .add (.t 15) (.c (.int .i64 1))⟩,
   ⟨(some 5), none, .mv (.t 16)⟩] none)))
def c_ratchetbase_IsValues_L0 : IR := b_ratchetbase_IsValues_L0
theorem u_ratchetbase_IsValues_L0 {C : Call} {L : Loop} {π : Id} {k0 : List Id} {e : Env} {s : Sto} : evC C L π k0 c_ratchetbase_IsValues_L0 e s = evC C L π k0 b_ratchetbase_IsValues_L0 e s := rfl
def c_ratchetbase_IsValues : FnIR := ⟨27,
  (.sq (.op 0 [⟨(some 4), none, .mv (.c (.bool false))⟩] none)
  (.sq (.sq (.op 0 [⟨(some 6), none, .mv (.t 0)⟩,
    ⟨(some 7), none, .len false (.t 6)⟩,
    ⟨(some 8), none, .mv (.t 1)⟩,
    ⟨(some 9), none, .len false (.t 8)⟩,
    ⟨(some 10), none, .bin .neq (.t 7) (.t 9)⟩] (some [0, 1, 10]))
  (.cd (.t 10)
   (.sq (.op 0 [⟨(some 4), none, .mv (.c (.bool false))⟩] none)
   .rt)
   .sk))
  (.sq (.sq (.op 0 [⟨(some 5), none, .mv (.c (.int .i64 0))⟩] none)
  (.kp [] [4] (.bk 0 (.lp [] [0, 1, 5] c_ratchetbase_IsValues_L0))))
  (.sq (.op 0 [⟨(some 4), none, .mv (.c (.bool true))⟩] none)
  .rt)))),
  [.t 4]⟩
def c_ratchetbase_IsNode : FnIR := ⟨10,
  (.sq (.op 0 [⟨(some 4), none, .mv (.c (.bool false))⟩] none)
  (.sq (.op 0 [⟨(some 5), none, .mv (.t 1)⟩,
    ⟨(some 6), none, .mv (.t 0)⟩,
    ⟨(some 7), none, .len false (.t 6)⟩,
    ⟨(some 8), none, .bin .sub (.t 7) (.c (.int .i64 1))⟩,
    ⟨(some 9), none, .callV true (.c (.fn n_ratchetbase_Within [])) [(.t 5), (.c (.int .i64 0)), (.t 8)]⟩,
    ⟨(some 4), none, .mv (.t 9)⟩] (some [4]))
  .rt)),
  [.t 4]⟩
def c_graph_namedErr : FnIR := ⟨19,
  (.sq (.op 0 [⟨(some 4), none, .box (.t 1) 1⟩,
    ⟨(some 6), none, .mv (.c (.int .i64 0))⟩] none)
  (.sq (.op 0 [⟨(some 8), none, .mv (.t 2)⟩,
    ⟨(some 9), none, .mkf n_graph_namedErr_1 [(.t 4)]⟩,
    ⟨(some 10), none, .callV true (.c (.fn n_slices_ContainsFunc_int_int [])) [(.t 8), (.t 9)]⟩,
    ⟨(some 7), none, .mv (.t 10)⟩] (some [0, 4, 7]))
  (.sq (.op 0 [⟨(some 11), none, .mv (.t 0)⟩,
    ⟨(some 12), none, .ld (.t 4) 1 false⟩,
    ⟨(some 13), none, .callV true (.c (.fn n_graph_graphErr [])) [(.t 11), (.t 12)]⟩,
    ⟨(some 14), none, .mv (.t 7)⟩,
    ⟨(some 15), none, .un .not (.t 14)⟩,
    ⟨(some 16), none, .callV true (.c (.fn n_graph_unless [])) [(.t 15), (.c (.int .i64 6))]⟩,
    ⟨(some 17), none, .bsl t_api_Errno 1 false [.int .i64 0] 2 [(0, (.t 13)), (1, (.t 16))]⟩,
    ⟨(some 18), none, .callV true (.c (.fn n_graph_first [])) [(.t 17)]⟩,
    ⟨(some 6), none, .mv (.t 18)⟩] (some [6]))
  .rt))),
  [.t 6]⟩
def b_graph_leavesBelow_L0 : IR :=
 (.sq (.op 0 [⟨(some 15), none, .bin .lss (.t 14) (.t 13)⟩] none)
 (.sq (.cd (.t 15)
  .sk
  (.ex 0))
 (.sq (.bk 1 (.sq (.op 0 [⟨(some 16), none, .mv (.t 14)⟩,
    ⟨(some 17), none, .ia (.t 12) (.t 14) 4⟩,
    ⟨(some 18), none, .ld (.t 17) 4 true⟩,
    ⟨(some 8), none, .alloc [.int .i64 0, .int .i64 0, .sl 1 (some true) [], .int .i64 0]⟩,
    ⟨(some 7), none, .mv (.t 16)⟩,
    ⟨none, none, .st (.t 8) (.t 18) 4⟩] (some [5, 6, 7, 8, 12, 13, 14]))
  (.sq (.op 0 [⟨(some 19), none, .mv (.t 6)⟩,
    ⟨(some 20), none, .mv (.t 7)⟩,
    ⟨(some 21), none, .ia (.t 19) (.t 20) 1⟩,
    ⟨(some 22), none, .ld (.t 21) 1 false⟩,
    ⟨(some 23), none, .mv (.t 22)⟩,
    ⟨(some 24), (some (23, true)), .fa (.t 8) 0⟩,
    ⟨(some 25), (some (23, true)), .ld (.t 24) 1 false⟩,
    ⟨(some 26), (some (23, true)), .bin .eql (.t 25) (.c (.int .i64 1))⟩,
    ⟨(some 27), none, .pick (.t 23) (.t 26) (.c (.bool false))⟩] (some [5, 6, 8, 12, 13, 14, 27]))
  (.cd (.t 27)
   (.op 0 [⟨(some 28), none, .mv (.t 5)⟩,
     ⟨(some 29), none, .fa (.t 8) 3⟩,
     ⟨(some 30), none, .ld (.t 29) 1 false⟩,
     ⟨(some 31), none, .bsl t_int 1 false [.int .i64 0] 1 [(0, (.t 30))]⟩,
     ⟨(some 32), none, .app (.t 28) (.t 31) t_int 1⟩,
     ⟨(some 5), none, .mv (.t 32)⟩] (some [5, 6, 12, 13, 14]))
   .sk))))
 (.op 0 [⟨(some 33), none, .bin .add (.t 14) (.c (.int .i64 1))⟩,
   ⟨(some 14), none, .mv (.t 33)⟩] none))))
def c_graph_leavesBelow_L0 : IR := b_graph_leavesBelow_L0
theorem u_graph_leavesBelow_L0 {C : Call} {L : Loop} {π : Id} {k0 : List Id} {e : Env} {s : Sto} : evC C L π k0 c_graph_leavesBelow_L0 e s = evC C L π k0 b_graph_leavesBelow_L0 e s := rfl
def c_graph_leavesBelow : FnIR := ⟨38,
  (.sq (.op 0 [⟨(some 4), none, .mv (.c (.sl 1 (some true) []))⟩] none)
  (.sq (.op 0 [⟨(some 5), none, .mv (.c (.sl 1 (some true) []))⟩] none)
  (.sq (.op 0 [⟨(some 9), none, .mv (.t 0)⟩,
    ⟨(some 10), none, .mv (.t 1)⟩,
    ⟨(some 11), none, .callV false (.c (.fn n_graph_below [])) [(.t 9), (.t 10)]⟩,
    ⟨(some 6), none, .mv (.t 11)⟩] (some [0, 5, 6]))
  (.sq (.sq (.op 0 [⟨(some 12), none, .mv (.t 0)⟩,
    ⟨(some 13), none, .len false (.t 12)⟩,
    ⟨(some 14), none, .mv (.c (.int .i64 0))⟩] none)
  (.kp [5] [4] (.bk 0 (.lp [(t_int, .inl 5)] [5, 6, 12, 13, 14] c_graph_leavesBelow_L0))))
  (.sq (.op 0 [⟨(some 34), none, .mv (.t 5)⟩,
    ⟨(some 35), none, .callS (.c (.fn n_slices_Sort_int_int [])) [(.t 34)]⟩] none)
  (.sq (.op 0 [⟨(some 36), none, .mv (.t 5)⟩,
    ⟨(some 37), none, .callS (.c (.fn n_slices_Compact_int_int [])) [(.t 36)]⟩,
    ⟨(some 4), none, .mv (.t 37)⟩] none)
  .rt)))))),
  [.t 4]⟩
def c_graph_graphErr : FnIR := ⟨14,
  (.sq (.op 0 [⟨(some 4), none, .mv (.c (.int .i64 0))⟩] none)
  (.sq (.op 0 [⟨(some 8), none, .mv (.t 0)⟩,
    ⟨(some 9), none, .mv (.t 1)⟩,
    ⟨(some 10), none, .callV true (.c (.fn n_graph_CheckNodes [])) [(.t 8), (.t 9)]⟩,
    ⟨(some 7), none, .mv (.t 10)⟩,
    ⟨(some 11), none, .ext (.t 7) 0⟩,
    ⟨(some 12), none, .ext (.t 7) 1⟩,
    ⟨(some 5), none, .mv (.t 11)⟩,
    ⟨(some 6), none, .mv (.t 12)⟩] (some [6]))
  (.sq (.op 0 [⟨(some 13), none, .mv (.t 6)⟩,
    ⟨(some 4), none, .mv (.t 13)⟩] none)
  .rt))),
  [.t 4]⟩
def c_graph_ValuesOf_1 : FnIR := ⟨13,
  (.sq (.op 0 [⟨(some 5), none, .mv (.c (.int .i64 0))⟩] none)
  (.sq (.op 0 [⟨(some 6), none, .mv (.t 1)⟩,
    ⟨(some 7), none, .ld (.t 2) 1 false⟩,
    ⟨(some 8), none, .mv (.t 0)⟩,
    ⟨(some 9), none, .ia (.t 7) (.t 8) 1⟩,
    ⟨(some 10), none, .ld (.t 9) 1 false⟩,
    ⟨(some 11), none, .callV true (.c (.fn n_graph_fits [])) [(.t 6), (.t 10)]⟩,
    ⟨(some 12), none, .callV true (.c (.fn n_graph_unless [])) [(.t 11), (.c (.int .i64 2))]⟩,
    ⟨(some 5), none, .mv (.t 12)⟩] (some [5]))
  .rt)),
  [.t 5]⟩
def c_graph_fits : FnIR := ⟨14,
  (.sq (.op 0 [⟨(some 4), none, .mv (.c (.bool false))⟩] none)
  (.sq (.op 0 [⟨(some 5), none, .mv (.t 1)⟩,
    ⟨(some 6), none, .bin .geq (.t 5) (.c (.int .i64 0))⟩,
    ⟨(some 7), none, .mv (.t 6)⟩,
    ⟨(some 8), (some (7, true)), .mv (.t 0)⟩,
    ⟨(some 9), (some (7, true)), .mv (.t 1)⟩,
    ⟨(some 10), (some (7, true)), .bin .shl (.c (.int .i64 1)) (.t 9)⟩,
    ⟨(some 11), (some (7, true)), .bin .sub (.t 10) (.c (.int .i64 1))⟩,
    ⟨(some 12), (some (7, true)), .callV true (.c (.fn n_graph_within [])) [(.t 8), (.c (.int .i64 0)), (.t 11)]⟩,
    ⟨(some 13), none, .pick (.t 7) (.t 12) (.c (.bool false))⟩,
    ⟨(some 4), none, .mv (.t 13)⟩] (some [4]))
  .rt)),
  [.t 4]⟩
def b_graph_valued_L0 : IR :=
 (.sq (.op 0 [⟨(some 14), none, .bin .lss (.t 13) (.t 12)⟩] none)
 (.sq (.cd (.t 14)
  .sk
  (.ex 0))
 (.sq (.bk 1 (.sq (.op 0 [⟨(some 15), none, .ia (.t 11) (.t 13) 4⟩,
    ⟨(some 16), none, .ld (.t 15) 4 true⟩,
    ⟨(some 8), none, .alloc [.int .i64 0, .int .i64 0, .sl 1 (some true) [], .int .i64 0]⟩,
    ⟨none, none, .st (.t 8) (.t 16) 4⟩] (some [0, 1, 5, 6, 8, 11, 12, 13]))
  (.sq (.sq (.op 0 [⟨(some 17), none, .fa (.t 8) 0⟩,
    ⟨(some 18), none, .ld (.t 17) 1 false⟩,
    ⟨(some 19), none, .bin .eql (.t 18) (.c (.int .i64 1))⟩] none)
  (.cd (.t 19)
   (.sq (.op 0 [⟨(some 20), none, .mv (.t 6)⟩,
     ⟨(some 21), none, .mv (.t 1)⟩,
     ⟨(some 22), none, .fa (.t 8) 3⟩,
     ⟨(some 23), none, .ld (.t 22) 1 false⟩,
     ⟨(some 24), none, .ia (.t 21) (.t 23) 1⟩,
     ⟨(some 25), none, .ld (.t 24) 1 false⟩,
     ⟨(some 26), none, .bsl t_int 1 false [.int .i64 0] 1 [(0, (.t 25))]⟩,
     ⟨(some 27), none, .app (.t 20) (.t 26) t_int 1⟩,
     ⟨(some 6), none, .mv (.t 27)⟩] (some [0, 1, 5, 6, 11, 12, 13]))
   (.ex 1))
   .sk))
  (.sq (.op 0 [⟨(some 28), none, .mv (.t 0)⟩,
    ⟨(some 29), none, .ld (.t 8) 4 true⟩,
    ⟨(some 30), none, .mv (.t 6)⟩,
    ⟨(some 31), none, .callV true (.c (.fn n_graph_applied [])) [(.t 5), (.t 28), (.t 29), (.t 30)]⟩,
    ⟨(some 9), none, .mv (.t 31)⟩] (some [0, 1, 5, 6, 9, 11, 12, 13]))
  (.op 0 [⟨(some 32), none, .mv (.t 6)⟩,
    ⟨(some 33), none, .mv (.t 9)⟩,
    ⟨(some 34), none, .bsl t_int 1 false [.int .i64 0] 1 [(0, (.t 33))]⟩,
    ⟨(some 35), none, .app (.t 32) (.t 34) t_int 1⟩,
    ⟨(some 6), none, .mv (.t 35)⟩] (some [0, 1, 5, 6, 11, 12, 13]))))))
 (.op 0 [⟨(some 36), none, .bin .add (.t 13) (.c (.int .i64 1))⟩,
   ⟨(some 13), none, .mv (.t 36)⟩] none))))
def c_graph_valued_L0 : IR := b_graph_valued_L0
theorem u_graph_valued_L0 {C : Call} {L : Loop} {π : Id} {k0 : List Id} {e : Env} {s : Sto} : evC C L π k0 c_graph_valued_L0 e s = evC C L π k0 b_graph_valued_L0 e s := rfl
def c_graph_valued : FnIR := ⟨38,
  (.sq (.op 0 [⟨(some 4), none, .mv (.c (.sl 1 (some true) []))⟩] none)
  (.sq (.op 0 [⟨(some 10), none, .callV true (.c (.fn n_graph_operations [])) []⟩,
    ⟨(some 5), none, .alloc [.str ⟨#[]⟩, .int .i64 0, .bool false, .nilf, .nilf, .str ⟨#[]⟩, .int .i64 0, .bool false, .nilf, .nilf, .str ⟨#[]⟩, .int .i64 0, .bool false, .nilf, .nilf, .str ⟨#[]⟩, .int .i64 0, .bool false, .nilf, .nilf, .str ⟨#[]⟩, .int .i64 0, .bool false, .nilf, .nilf, .str ⟨#[]⟩, .int .i64 0, .bool false, .nilf, .nilf, .str ⟨#[]⟩, .int .i64 0, .bool false, .nilf, .nilf, .str ⟨#[]⟩, .int .i64 0, .bool false, .nilf, .nilf, .str ⟨#[]⟩, .int .i64 0, .bool false, .nilf, .nilf, .str ⟨#[]⟩, .int .i64 0, .bool false, .nilf, .nilf, .str ⟨#[]⟩, .int .i64 0, .bool false, .nilf, .nilf, .str ⟨#[]⟩, .int .i64 0, .bool false, .nilf, .nilf, .str ⟨#[]⟩, .int .i64 0, .bool false, .nilf, .nilf, .str ⟨#[]⟩, .int .i64 0, .bool false, .nilf, .nilf, .str ⟨#[]⟩, .int .i64 0, .bool false, .nilf, .nilf, .str ⟨#[]⟩, .int .i64 0, .bool false, .nilf, .nilf, .str ⟨#[]⟩, .int .i64 0, .bool false, .nilf, .nilf, .str ⟨#[]⟩, .int .i64 0, .bool false, .nilf, .nilf, .str ⟨#[]⟩, .int .i64 0, .bool false, .nilf, .nilf]⟩,
    ⟨none, none, .st (.t 5) (.t 10) 95⟩] none)
  (.sq (.op 0 [⟨(some 6), none, .mv (.c (.sl 1 (some true) []))⟩] none)
  (.sq (.sq (.op 0 [⟨(some 11), none, .mv (.t 0)⟩,
    ⟨(some 12), none, .len false (.t 11)⟩,
    ⟨(some 13), none, .mv (.c (.int .i64 0))⟩] none)
  (.kp [6] [4] (.bk 0 (.lp [(t_int, .inl 6)] [0, 1, 5, 6, 11, 12, 13] c_graph_valued_L0))))
  (.sq (.op 0 [⟨(some 37), none, .mv (.t 6)⟩,
    ⟨(some 4), none, .mv (.t 37)⟩] none)
  .rt))))),
  [.t 4]⟩
def b_graph_bitsErr_L0 : IR :=
 (.sq (.op 0 [⟨(some 11), none, .bin .lss (.t 10) (.t 9)⟩] none)
 (.sq (.cd (.t 11)
  .sk
  (.ex 0))
 (.sq (.bk 1 (.sq (.op 0 [⟨(some 12), none, .ia (.t 8) (.t 10) 1⟩,
    ⟨(some 13), none, .ld (.t 12) 1 false⟩,
    ⟨(some 7), none, .mv (.t 13)⟩] none)
  (.op 0 [⟨(some 14), none, .mv (.t 5)⟩,
    ⟨(some 15), none, .mv (.t 0)⟩,
    ⟨(some 16), none, .mv (.t 7)⟩,
    ⟨(some 17), none, .ia (.t 15) (.t 16) 1⟩,
    ⟨(some 18), none, .ld (.t 17) 1 false⟩,
    ⟨(some 19), none, .bin .add (.t 14) (.t 18)⟩,
    ⟨(some 5), none, .mv (.t 19)⟩] (some [0, 5, 8, 9, 10]))))
 (.op 0 [⟨(some 20), none, .bin .add (.t 10) (.c (.int .i64 1))⟩,
   ⟨(some 10), none, .mv (.t 20)⟩] none))))
def c_graph_bitsErr_L0 : IR := b_graph_bitsErr_L0
theorem u_graph_bitsErr_L0 {C : Call} {L : Loop} {π : Id} {k0 : List Id} {e : Env} {s : Sto} : evC C L π k0 c_graph_bitsErr_L0 e s = evC C L π k0 b_graph_bitsErr_L0 e s := rfl
def c_graph_bitsErr : FnIR := ⟨24,
  (.sq (.op 0 [⟨(some 4), none, .mv (.c (.int .i64 0))⟩] none)
  (.sq (.op 0 [⟨(some 5), none, .mv (.c (.int .i64 0))⟩] none)
  (.sq (.sq (.op 0 [⟨(some 8), none, .mv (.t 1)⟩,
    ⟨(some 9), none, .len false (.t 8)⟩,
    ⟨(some 10), none, .mv (.c (.int .i64 0))⟩] none)
  (.kp [5] [4] (.bk 0 (.lp [] [0, 5, 8, 9, 10] c_graph_bitsErr_L0))))
  (.sq (.op 0 [⟨(some 21), none, .mv (.t 5)⟩,
    ⟨(some 22), none, .bin .leq (.t 21) (.c (.int .i64 12))⟩,
    ⟨(some 23), none, .callV true (.c (.fn n_graph_unless [])) [(.t 22), (.c (.int .i64 8))]⟩,
    ⟨(some 4), none, .mv (.t 23)⟩] (some [4]))
  .rt)))),
  [.t 4]⟩
def c_graph_runs : FnIR := ⟨8,
  (.sq (.op 0 [⟨(some 3), none, .box (.t 0) 1⟩,
    ⟨(some 4), none, .box (.t 1) 1⟩,
    ⟨(some 5), none, .box (.t 2) 1⟩,
    ⟨(some 6), none, .mv (.c (.nilf))⟩] (some [3, 4, 5]))
  (.sq (.op 0 [⟨(some 7), none, .mkf n_graph_runs_1 [(.t 3), (.t 4), (.t 5)]⟩,
    ⟨(some 6), none, .mv (.t 7)⟩] none)
  .rt)),
  [.t 6]⟩
def c_slices_Clone_int_int : FnIR := ⟨8,
  (.sq (.op 0 [⟨(some 2), none, .mv (.c (.sl 1 (some true) []))⟩] none)
  (.sq (.sq (.op 0 [⟨(some 3), none, .mv (.t 0)⟩,
    ⟨(some 4), none, .isnil true false (.t 3)⟩] none)
  (.cd (.t 4)
   (.sq (.op 0 [⟨(some 2), none, .mv (.c (.sl 1 (some true) []))⟩] none)
   .rt)
   .sk))
  (.sq (.op 0 [⟨(some 5), none, .bsl t_int 1 false [.int .i64 0] 0 []⟩,
    ⟨(some 6), none, .mv (.t 0)⟩,
    ⟨(some 7), none, .app (.t 5) (.t 6) t_int 1⟩,
    ⟨(some 2), none, .mv (.t 7)⟩] (some [2]))
  .rt))),
  [.t 2]⟩
def b_ratchetref02_Tries_L2 : IR :=
 (.sq (.sq (.op 0 [⟨(some 35), none, .mv (.t 12)⟩,
   ⟨(some 36), none, .mv (.t 0)⟩,
   ⟨(some 37), none, .mv (.t 7)⟩,
   ⟨(some 38), none, .mv (.t 9)⟩,
   ⟨(some 39), none, .ia (.t 37) (.t 38) 1⟩,
   ⟨(some 40), none, .ld (.t 39) 1 false⟩,
   ⟨(some 41), none, .ia (.t 36) (.t 40) 1⟩,
   ⟨(some 42), none, .ld (.t 41) 1 false⟩,
   ⟨(some 43), none, .callV true (.c (.fn n_ratchetbase_Power [])) [(.t 42)]⟩,
   ⟨(some 44), none, .bin .lss (.t 35) (.t 43)⟩] (some [0, 7, 8, 9, 10, 11, 12, 44]))
 (.cd (.t 44)
  .sk
  (.ex 4)))
 (.sq (.bk 5 (.sq (.op 0 [⟨(some 47), none, .mv (.t 8)⟩,
    ⟨(some 48), none, .mv (.t 11)⟩,
    ⟨(some 49), none, .ia (.t 47) (.t 48) 1⟩,
    ⟨(some 50), none, .ld (.t 49) 1 false⟩,
    ⟨(some 51), none, .callV false (.c (.fn n_ratchetbase_CopyInts [])) [(.t 50)]⟩,
    ⟨(some 13), none, .mv (.t 51)⟩] (some [0, 7, 8, 9, 10, 11, 12, 13]))
  (.sq (.op 0 [⟨(some 52), none, .mv (.t 13)⟩,
    ⟨(some 53), none, .mv (.t 7)⟩,
    ⟨(some 54), none, .mv (.t 9)⟩,
    ⟨(some 55), none, .ia (.t 53) (.t 54) 1⟩,
    ⟨(some 56), none, .ld (.t 55) 1 false⟩,
    ⟨(some 57), none, .mv (.t 12)⟩,
    ⟨(some 58), none, .ia (.t 52) (.t 56) 1⟩,
    ⟨none, none, .st (.t 58) (.t 57) 1⟩] (some [0, 7, 8, 9, 10, 11, 12, 13]))
  (.op 0 [⟨(some 59), none, .mv (.t 10)⟩,
    ⟨(some 60), none, .mv (.t 13)⟩,
    ⟨(some 61), none, .bsl t_L_int 1 false [.sl 1 (some true) []] 1 [(0, (.t 60))]⟩,
    ⟨(some 62), none, .app (.t 59) (.t 61) t_L_int 1⟩,
    ⟨(some 10), none, .mv (.t 62)⟩] (some [0, 7, 8, 9, 10, 11, 12])))))
 (.op 0 [⟨(some 45), none, .mv (.t 12)⟩,
   ⟨(some 46), none, .bin .add (.t 45) (.c (.int .i64 1))⟩,
   ⟨(some 12), none, .mv (.t 46)⟩] none)))
def c_ratchetref02_Tries_L2 : IR := b_ratchetref02_Tries_L2
theorem u_ratchetref02_Tries_L2 {C : Call} {L : Loop} {π : Id} {k0 : List Id} {e : Env} {s : Sto} : evC C L π k0 c_ratchetref02_Tries_L2 e s = evC C L π k0 b_ratchetref02_Tries_L2 e s := rfl
def b_ratchetref02_Tries_L1 : IR :=
 (.sq (.sq (.op 0 [⟨(some 29), none, .mv (.t 11)⟩,
   ⟨(some 30), none, .mv (.t 8)⟩,
   ⟨(some 31), none, .len false (.t 30)⟩,
   ⟨(some 32), none, .bin .lss (.t 29) (.t 31)⟩] (some [0, 7, 8, 9, 10, 11, 32]))
 (.cd (.t 32)
  .sk
  (.ex 2)))
 (.sq (.bk 3 (.sq (.op 0 [⟨(some 12), none, .mv (.c (.int .i64 0))⟩] none)
  (.kp [0, 7, 8, 9, 10, 11] [6] (.bk 4 (.lp [(t_L_int, .inl 10)] [0, 7, 8, 9, 10, 11, 12] c_ratchetref02_Tries_L2)))))
 (.op 0 [⟨(some 33), none, .mv (.t 11)⟩,
   ⟨(some 34), none, .bin .add (.t 33) (.c (.int .i64 1))⟩,
   ⟨(some 11), none, .mv (.t 34)⟩] none)))
def c_ratchetref02_Tries_L1 : IR := b_ratchetref02_Tries_L1
theorem u_ratchetref02_Tries_L1 {C : Call} {L : Loop} {π : Id} {k0 : List Id} {e : Env} {s : Sto} : evC C L π k0 c_ratchetref02_Tries_L1 e s = evC C L π k0 b_ratchetref02_Tries_L1 e s := rfl
def b_ratchetref02_Tries_L0 : IR :=
 (.sq (.sq (.op 0 [⟨(some 23), none, .mv (.t 9)⟩,
   ⟨(some 24), none, .mv (.t 7)⟩,
   ⟨(some 25), none, .len false (.t 24)⟩,
   ⟨(some 26), none, .bin .lss (.t 23) (.t 25)⟩] (some [0, 7, 8, 9, 26]))
 (.cd (.t 26)
  .sk
  (.ex 0)))
 (.sq (.bk 1 (.sq (.op 0 [⟨(some 10), none, .mv (.c (.sl 1 (some true) []))⟩] none)
  (.sq (.sq (.op 0 [⟨(some 11), none, .mv (.c (.int .i64 0))⟩] none)
  (.kp [0, 7, 9, 10] [6] (.bk 2 (.lp [(t_L_int, .inl 10)] [0, 7, 8, 9, 10, 11] c_ratchetref02_Tries_L1))))
  (.fe [8] (.op 0 [⟨(some 63), none, .mv (.t 10)⟩,
    ⟨(some 8), none, .mv (.t 63)⟩] none)))))
 (.op 0 [⟨(some 27), none, .mv (.t 9)⟩,
   ⟨(some 28), none, .bin .add (.t 27) (.c (.int .i64 1))⟩,
   ⟨(some 9), none, .mv (.t 28)⟩] none)))
def c_ratchetref02_Tries_L0 : IR := b_ratchetref02_Tries_L0
theorem u_ratchetref02_Tries_L0 {C : Call} {L : Loop} {π : Id} {k0 : List Id} {e : Env} {s : Sto} : evC C L π k0 c_ratchetref02_Tries_L0 e s = evC C L π k0 b_ratchetref02_Tries_L0 e s := rfl
def c_ratchetref02_Tries : FnIR := ⟨65,
  (.sq (.op 0 [⟨(some 6), none, .mv (.c (.sl 1 (some true) []))⟩] none)
  (.sq (.op 0 [⟨(some 14), none, .mv (.t 1)⟩,
    ⟨(some 15), none, .mv (.t 2)⟩,
    ⟨(some 16), none, .mv (.t 0)⟩,
    ⟨(some 17), none, .len false (.t 16)⟩,
    ⟨(some 18), none, .callV false (.c (.fn n_ratchetbase_LeavesBelow [])) [(.t 14), (.t 15), (.t 17)]⟩,
    ⟨(some 7), none, .mv (.t 18)⟩] (some [0, 7]))
  (.sq (.fe [8] (.op 0 [⟨(some 19), none, .mv (.t 0)⟩,
    ⟨(some 20), none, .len false (.t 19)⟩,
    ⟨(some 21), none, .mks t_int 1 false [.int .i64 0] (.t 20) (.t 20)⟩,
    ⟨(some 22), none, .bsl t_L_int 1 false [.sl 1 (some true) []] 1 [(0, (.t 21))]⟩,
    ⟨(some 8), none, .mv (.t 22)⟩] (some [0, 7, 8])))
  (.sq (.sq (.op 0 [⟨(some 9), none, .mv (.c (.int .i64 0))⟩] none)
  (.kp [8] [6] (.bk 0 (.lp [] [0, 7, 8, 9] c_ratchetref02_Tries_L0))))
  (.sq (.op 0 [⟨(some 64), none, .mv (.t 8)⟩,
    ⟨(some 6), none, .mv (.t 64)⟩] none)
  .rt))))),
  [.t 6]⟩
def b_graph_below_L0 : IR :=
 (.sq (.op 0 [⟨(some 18), none, .bin .lss (.t 17) (.t 16)⟩] none)
 (.sq (.cd (.t 18)
  .sk
  (.ex 0))
 (.sq (.bk 1 (.sq (.op 0 [⟨(some 19), none, .ia (.t 15) (.t 17) 1⟩,
    ⟨(some 20), none, .ld (.t 19) 1 false⟩,
    ⟨(some 7), none, .mv (.t 20)⟩] none)
  (.op 0 [⟨(some 21), none, .ld (.t 5) 1 false⟩,
    ⟨(some 22), none, .mv (.t 7)⟩,
    ⟨(some 23), none, .ia (.t 21) (.t 22) 1⟩,
    ⟨none, none, .st (.t 23) (.c (.bool true)) 1⟩] (some [0, 4, 5, 15, 16, 17]))))
 (.op 0 [⟨(some 24), none, .bin .add (.t 17) (.c (.int .i64 1))⟩,
   ⟨(some 17), none, .mv (.t 24)⟩] none))))
def c_graph_below_L0 : IR := b_graph_below_L0
theorem u_graph_below_L0 {C : Call} {L : Loop} {π : Id} {k0 : List Id} {e : Env} {s : Sto} : evC C L π k0 c_graph_below_L0 e s = evC C L π k0 b_graph_below_L0 e s := rfl
def b_graph_below_L1 : IR :=
 (.sq (.op 0 [⟨(some 33), none, .bin .lss (.t 32) (.t 31)⟩] none)
 (.sq (.cd (.t 33)
  .sk
  (.ex 4))
 (.sq (.bk 5 (.sq (.op 0 [⟨(some 34), none, .ia (.t 30) (.t 32) 1⟩,
    ⟨(some 35), none, .ld (.t 34) 1 false⟩,
    ⟨(some 11), none, .mv (.t 35)⟩] none)
  (.op 12 [⟨(some 36), none, .ld (.t 5) 1 false⟩,
    ⟨(some 37), none, .mv (.t 11)⟩,
    ⟨(some 38), none, .ld (.t 5) 1 false⟩,
    ⟨(some 39), none, .mv (.t 11)⟩,
    ⟨(some 40), none, .ia (.t 38) (.t 39) 1⟩,
    ⟨(some 41), none, .ld (.t 40) 1 false⟩,
    ⟨(some 42), none, .mv (.t 41)⟩,
    ⟨(some 43), (some (42, false)), .ld (.t 5) 1 false⟩,
    ⟨(some 44), (some (42, false)), .mv (.t 8)⟩,
    ⟨(some 45), (some (42, false)), .ia (.t 43) (.t 44) 1⟩,
    ⟨(some 46), (some (42, false)), .ld (.t 45) 1 false⟩,
    ⟨(some 47), none, .pick (.t 42) (.c (.bool true)) (.t 46)⟩,
    ⟨(some 48), none, .ia (.t 36) (.t 37) 1⟩,
    ⟨none, none, .st (.t 48) (.t 47) 1⟩] (some [5, 8, 30, 31, 32]))))
 (.op 0 [⟨(some 49), none, .bin .add (.t 32) (.c (.int .i64 1))⟩,
   ⟨(some 32), none, .mv (.t 49)⟩] none))))
def c_graph_below_L1 : IR := b_graph_below_L1
theorem u_graph_below_L1 {C : Call} {L : Loop} {π : Id} {k0 : List Id} {e : Env} {s : Sto} : evC C L π k0 c_graph_below_L1 e s = evC C L π k0 b_graph_below_L1 e s := rfl
def b_graph_below_R0A : IR :=
 (.sq (.op 0 [⟨(some 8), none, .mv (.t 27)⟩] none)
 (.op 0 [⟨(some 9), none, .alloc [.int .i64 0, .int .i64 0, .sl 1 (some true) [], .int .i64 0]⟩,
   ⟨none, none, .st (.t 9) (.t 28) 4⟩] none))
def c_graph_below_R0A : IR := b_graph_below_R0A
theorem u_graph_below_R0A {C : Call} {L : Loop} {π : Id} {k0 : List Id} {e : Env} {s : Sto} : evC C L π k0 c_graph_below_R0A e s = evC C L π k0 b_graph_below_R0A e s := rfl
def b_graph_below_R0B : IR :=
 (.bk 3 (.sq (.op 0 [⟨(some 29), none, .fa (.t 9) 2⟩,
    ⟨(some 30), none, .ld (.t 29) 1 false⟩,
    ⟨(some 31), none, .len false (.t 30)⟩,
    ⟨(some 32), none, .mv (.c (.int .i64 0))⟩] (some [5, 8, 30, 31, 32]))
  (.kp [] [] (.bk 4 (.lp [] [5, 8, 30, 31, 32] c_graph_below_L1)))))
def c_graph_below_R0B : IR := b_graph_below_R0B
theorem u_graph_below_R0B {C : Call} {L : Loop} {π : Id} {k0 : List Id} {e : Env} {s : Sto} : evC C L π k0 c_graph_below_R0B e s = evC C L π k0 b_graph_below_R0B e s := rfl
def c_graph_below : FnIR := ⟨51,
  (.sq (.op 0 [⟨(some 4), none, .mv (.c (.sl 1 (some true) []))⟩] none)
  (.sq (.op 0 [⟨(some 12), none, .mv (.t 0)⟩,
    ⟨(some 13), none, .len false (.t 12)⟩,
    ⟨(some 14), none, .mks t_bool 1 false [.bool false] (.t 13) (.t 13)⟩,
    ⟨(some 5), none, .alloc [.sl 1 (some true) []]⟩,
    ⟨none, none, .st (.t 5) (.t 14) 1⟩] (some [0, 1, 4, 5]))
  (.sq (.sq (.op 0 [⟨(some 15), none, .mv (.t 1)⟩,
    ⟨(some 16), none, .len false (.t 15)⟩,
    ⟨(some 17), none, .mv (.c (.int .i64 0))⟩] none)
  (.kp [0, 4, 5] [4] (.bk 0 (.lp [] [0, 4, 5, 15, 16, 17] c_graph_below_L0))))
  (.sq (.sq (.kp [4, 5, 26] [4] (.op 0 [⟨(some 25), none, .mv (.t 0)⟩,
    ⟨(some 26), none, .callV false (.c (.fn n_slices_Backward_api_Node_api_Node [])) [(.t 25)]⟩] none))
  (.bk 2 (.kp [5] [4] (.rf (.t 26) 51 0 [5] [27, 28] c_graph_below_R0A c_graph_below_R0B))))
  (.sq (.op 0 [⟨(some 50), none, .ld (.t 5) 1 false⟩,
    ⟨(some 4), none, .mv (.t 50)⟩] none)
  .rt))))),
  [.t 4]⟩
def b_ratchetbase_Below_L0 : IR :=
 (.sq (.sq (.op 0 [⟨(some 12), none, .mv (.t 6)⟩,
   ⟨(some 13), none, .mv (.t 1)⟩,
   ⟨(some 14), none, .len false (.t 13)⟩,
   ⟨(some 15), none, .bin .lss (.t 12) (.t 14)⟩] (some [0, 1, 5, 6, 15]))
 (.cd (.t 15)
  .sk
  (.ex 0)))
 (.sq (.bk 1 (.op 0 [⟨(some 18), none, .mv (.t 5)⟩,
    ⟨(some 19), none, .mv (.t 1)⟩,
    ⟨(some 20), none, .mv (.t 6)⟩,
    ⟨(some 21), none, .ia (.t 19) (.t 20) 1⟩,
    ⟨(some 22), none, .ld (.t 21) 1 false⟩,
    ⟨(some 23), none, .ia (.t 18) (.t 22) 1⟩,
    ⟨none, none, .st (.t 23) (.c (.bool true)) 1⟩] (some [0, 1, 5, 6])))
 (.op 0 [⟨(some 16), none, .mv (.t 6)⟩,
   ⟨(some 17), none, .bin .add (.t 16) (.c (.int .i64 1))⟩,
   ⟨(some 6), none, .mv (.t 17)⟩] none)))
def c_ratchetbase_Below_L0 : IR := b_ratchetbase_Below_L0
theorem u_ratchetbase_Below_L0 {C : Call} {L : Loop} {π : Id} {k0 : List Id} {e : Env} {s : Sto} : evC C L π k0 c_ratchetbase_Below_L0 e s = evC C L π k0 b_ratchetbase_Below_L0 e s := rfl
def b_ratchetbase_Below_L2 : IR :=
 (.sq (.sq (.op 0 [⟨(some 31), none, .mv (.t 5)⟩,
   ⟨(some 32), none, .mv (.t 7)⟩,
   ⟨(some 33), none, .ia (.t 31) (.t 32) 1⟩,
   ⟨(some 34), none, .ld (.t 33) 1 false⟩,
   ⟨(some 35), none, .mv (.t 34)⟩,
   ⟨(some 36), (some (35, true)), .mv (.t 8)⟩,
   ⟨(some 37), (some (35, true)), .mv (.t 0)⟩,
   ⟨(some 38), (some (35, true)), .mv (.t 7)⟩,
   ⟨(some 39), (some (35, true)), .ia (.t 37) (.t 38) 4⟩,
   ⟨(some 40), (some (35, true)), .fa (.t 39) 2⟩,
   ⟨(some 41), (some (35, true)), .ld (.t 40) 1 false⟩,
   ⟨(some 42), (some (35, true)), .len false (.t 41)⟩,
   ⟨(some 43), (some (35, true)), .bin .lss (.t 36) (.t 42)⟩,
   ⟨(some 44), none, .pick (.t 35) (.t 43) (.c (.bool false))⟩] (some [0, 5, 7, 8, 44]))
 (.cd (.t 44)
  .sk
  (.ex 4)))
 (.sq (.bk 5 (.op 0 [⟨(some 47), none, .mv (.t 5)⟩,
    ⟨(some 48), none, .mv (.t 0)⟩,
    ⟨(some 49), none, .mv (.t 7)⟩,
    ⟨(some 50), none, .ia (.t 48) (.t 49) 4⟩,
    ⟨(some 51), none, .fa (.t 50) 2⟩,
    ⟨(some 52), none, .ld (.t 51) 1 false⟩,
    ⟨(some 53), none, .mv (.t 8)⟩,
    ⟨(some 54), none, .ia (.t 52) (.t 53) 1⟩,
    ⟨(some 55), none, .ld (.t 54) 1 false⟩,
    ⟨(some 56), none, .ia (.t 47) (.t 55) 1⟩,
    ⟨none, none, .st (.t 56) (.c (.bool true)) 1⟩] (some [0, 5, 7, 8])))
 (.op 0 [⟨(some 45), none, .mv (.t 8)⟩,
   ⟨(some 46), none, .bin .add (.t 45) (.c (.int .i64 1))⟩,
   ⟨(some 8), none, .mv (.t 46)⟩] none)))
def c_ratchetbase_Below_L2 : IR := b_ratchetbase_Below_L2
theorem u_ratchetbase_Below_L2 {C : Call} {L : Loop} {π : Id} {k0 : List Id} {e : Env} {s : Sto} : evC C L π k0 c_ratchetbase_Below_L2 e s = evC C L π k0 b_ratchetbase_Below_L2 e s := rfl
def b_ratchetbase_Below_L1 : IR :=
 (.sq (.sq (.op 0 [⟨(some 27), none, .mv (.t 7)⟩,
   ⟨(some 28), none, .bin .geq (.t 27) (.c (.int .i64 0))⟩] none)
 (.cd (.t 28)
  .sk
  (.ex 2)))
 (.sq (.bk 3 (.sq (.op 0 [⟨(some 8), none, .mv (.c (.int .i64 0))⟩] none)
  (.kp [0, 5, 7] [4] (.bk 4 (.lp [] [0, 5, 7, 8] c_ratchetbase_Below_L2)))))
 (.op 0 [⟨(some 29), none, .mv (.t 7)⟩,
   ⟨(some 30), none, .bin .sub (.t 29) (.c (.int .i64 1))⟩,
   ⟨(some 7), none, .mv (.t 30)⟩] none)))
def c_ratchetbase_Below_L1 : IR := b_ratchetbase_Below_L1
theorem u_ratchetbase_Below_L1 {C : Call} {L : Loop} {π : Id} {k0 : List Id} {e : Env} {s : Sto} : evC C L π k0 c_ratchetbase_Below_L1 e s = evC C L π k0 b_ratchetbase_Below_L1 e s := rfl
def c_ratchetbase_Below : FnIR := ⟨58,
  (.sq (.op 0 [⟨(some 4), none, .mv (.c (.sl 1 (some true) []))⟩] none)
  (.sq (.op 0 [⟨(some 9), none, .mv (.t 0)⟩,
    ⟨(some 10), none, .len false (.t 9)⟩,
    ⟨(some 11), none, .mks t_bool 1 false [.bool false] (.t 10) (.t 10)⟩,
    ⟨(some 5), none, .mv (.t 11)⟩] (some [0, 1, 5]))
  (.sq (.sq (.op 0 [⟨(some 6), none, .mv (.c (.int .i64 0))⟩] none)
  (.kp [0, 5] [4] (.bk 0 (.lp [] [0, 1, 5, 6] c_ratchetbase_Below_L0))))
  (.sq (.sq (.op 0 [⟨(some 24), none, .mv (.t 0)⟩,
    ⟨(some 25), none, .len false (.t 24)⟩,
    ⟨(some 26), none, .bin .sub (.t 25) (.c (.int .i64 1))⟩,
    ⟨(some 7), none, .mv (.t 26)⟩] (some [0, 5, 7]))
  (.kp [5] [4] (.bk 2 (.lp [] [0, 5, 7] c_ratchetbase_Below_L1))))
  (.sq (.op 0 [⟨(some 57), none, .mv (.t 5)⟩,
    ⟨(some 4), none, .mv (.t 57)⟩] none)
  .rt))))),
  [.t 4]⟩

end Go.Proofs.YtglelclmlkeheaaGreatDoor.V
