/- The functions of the program in the small language. Printed by a program of this work. -/
import Derived.Test.YtglelclmlkeheaaGreatDoorK5

set_option linter.unusedSimpArgs false
set_option linter.unusedVariables false

/- The functions of the program in the small language. Printed by a program of this work. -/
namespace Go.Proofs.YtglelclmlkeheaaGreatDoor.V
open Go (IntKind BinOp UnOp)

def n_ratchetlaw02_GraphSmaller : Nat := 8
def n_ratchetlaw02_awake : Nat := 9
def n_ratchetlaw02_few : Nat := 10
def n_graph_CheckNodes : Nat := 11
def n_ratchetbase_CopyInts : Nat := 12
def n_ratchetbase_CopyNodes : Nat := 13
def n_ratchetref02_CheckNodes : Nat := 14
def n_ratchetref02_NodesErr : Nat := 15
def n_ratchetref02_FromErr : Nat := 17
def n_graph_ValuesOf : Nat := 20
def n_ratchetbase_Power : Nat := 22
def n_graph_DifferenceOf : Nat := 23
def n_ratchetbase_Ints : Nat := 29
def n_graph_DepthsOf : Nat := 31
def n_ratchetbase_SameNodes : Nat := 39
def n_ratchetbase_Within : Nat := 40
def n_ratchetbase_Fits : Nat := 41
def n_graph_SharedOf : Nat := 43
def n_graph_FoldedOf : Nat := 44
def n_graph_ConeOf : Nat := 45
def n_ratchetref02_Shared : Nat := 46
def n_ratchetref02_Folded : Nat := 47
def n_ratchetref02_Cone : Nat := 48
def n_ratchetlaw02_Leaves : Nat := 49
def n_ratchetlaw02_Nodes : Nat := 50
def n_graph_FormatNodes : Nat := 51
def n_graph_each_int : Nat := 52
def n_graph_CheckNodes_1 : Nat := 53
def n_graph_unless : Nat := 54
def n_graph_isWidth : Nat := 55
def n_graph_operations : Nat := 56
def n_graph_each_api_Node : Nat := 57
def n_graph_CheckNodes_2 : Nat := 58
def n_graph_first : Nat := 59
def n_graph_within : Nat := 60
def n_slices_ContainsFunc_int_int : Nat := 61
def n_graph_CheckNodes_2_1 : Nat := 62
def n_graph_valueErr : Nat := 63
def n_ratchetbase_IsWidth : Nat := 64
def n_ratchetbase_NodesErr : Nat := 65
def n_ratchetbase_IsNode : Nat := 67
def n_graph_namedErr : Nat := 68
def n_graph_leavesBelow : Nat := 69
def n_graph_graphErr : Nat := 70
def n_graph_ValuesOf_1 : Nat := 71
def n_graph_fits : Nat := 72
def n_graph_valued : Nat := 73
def n_graph_bitsErr : Nat := 74
def n_graph_runs : Nat := 75
def n_slices_Clone_int_int : Nat := 76
def n_graph_below : Nat := 78
def n_ratchetbase_Below : Nat := 79
def n_ratchetbase_Apply : Nat := 80
def n_graph_moved : Nat := 81
def n_graph_constant : Nat := 83
def n_ratchetref02_moved : Nat := 86
def n_graph_mapped : Nat := 87
def n_graph_FoldedOf_1 : Nat := 88
def n_graph_FoldedOf_2 : Nat := 89
def n_graph_applied : Nat := 90
def n_strconv_Itoa : Nat := 91
def n_strings_Join : Nat := 92
def n_graph_operations_1 : Nat := 93
def n_graph_anyWidth : Nat := 94
def n_graph_same : Nat := 95
def n_graph_operations_2 : Nat := 96
def n_graph_mask : Nat := 97
def n_graph_binary : Nat := 98
def n_graph_operations_3 : Nat := 99
def n_graph_operations_4 : Nat := 100
def n_graph_operations_5 : Nat := 101
def n_graph_operations_6 : Nat := 102
def n_graph_operations_7 : Nat := 103
def n_graph_operations_8 : Nat := 104
def n_graph_relation : Nat := 105
def n_graph_operations_9 : Nat := 106
def n_graph_operations_10 : Nat := 107
def n_graph_operations_11 : Nat := 108
def n_graph_signed : Nat := 109
def n_graph_operations_12 : Nat := 110
def n_graph_operations_13 : Nat := 111
def n_graph_operations_14 : Nat := 112
def n_graph_operations_15 : Nat := 113
def n_graph_operations_16 : Nat := 114
def n_graph_operations_17 : Nat := 115
def n_graph_extended : Nat := 116
def n_graph_operations_18 : Nat := 117
def n_graph_operations_19 : Nat := 118
def n_graph_shifted : Nat := 119
def n_graph_operations_20 : Nat := 120
def n_graph_operations_21 : Nat := 121
def n_slices_IndexFunc_int_int : Nat := 122
def n_ratchetbase_nodeErr : Nat := 123
def n_graph_namedErr_1 : Nat := 124
def n_slices_Sort_int_int : Nat := 125
def n_slices_Compact_int_int : Nat := 126
def n_graph_runs_1 : Nat := 127
def n_slices_Backward_api_Node_api_Node : Nat := 128
def n_ratchetbase_Bit : Nat := 129
def n_ratchetbase_Signed : Nat := 130
def n_graph_mapped_1 : Nat := 131
def n_graph_same_1 : Nat := 136
def n_graph_binary_1 : Nat := 137
def n_graph_compared : Nat := 138
def n_graph_relation_1 : Nat := 139
def n_graph_truth : Nat := 140
def n_ratchetbase_ArgCount : Nat := 141
def n_ratchetbase_widthsFit : Nat := 142
def n_slices_Backward_api_Node_api_Node_1 : Nat := 145
@[simp] theorem y_ratchetlaw02_GraphSmaller : (n_ratchetlaw02_GraphSmaller = yieldF) = False := eq_false (by decide)
@[simp] theorem y_ratchetlaw02_awake : (n_ratchetlaw02_awake = yieldF) = False := eq_false (by decide)
@[simp] theorem y_ratchetlaw02_few : (n_ratchetlaw02_few = yieldF) = False := eq_false (by decide)
@[simp] theorem y_graph_CheckNodes : (n_graph_CheckNodes = yieldF) = False := eq_false (by decide)
@[simp] theorem y_ratchetbase_CopyInts : (n_ratchetbase_CopyInts = yieldF) = False := eq_false (by decide)
@[simp] theorem y_ratchetbase_CopyNodes : (n_ratchetbase_CopyNodes = yieldF) = False := eq_false (by decide)
@[simp] theorem y_ratchetref02_CheckNodes : (n_ratchetref02_CheckNodes = yieldF) = False := eq_false (by decide)
@[simp] theorem y_ratchetref02_NodesErr : (n_ratchetref02_NodesErr = yieldF) = False := eq_false (by decide)
@[simp] theorem y_ratchetref02_FromErr : (n_ratchetref02_FromErr = yieldF) = False := eq_false (by decide)
@[simp] theorem y_graph_ValuesOf : (n_graph_ValuesOf = yieldF) = False := eq_false (by decide)
@[simp] theorem y_ratchetbase_Power : (n_ratchetbase_Power = yieldF) = False := eq_false (by decide)
@[simp] theorem y_graph_DifferenceOf : (n_graph_DifferenceOf = yieldF) = False := eq_false (by decide)
@[simp] theorem y_ratchetbase_Ints : (n_ratchetbase_Ints = yieldF) = False := eq_false (by decide)
@[simp] theorem y_graph_DepthsOf : (n_graph_DepthsOf = yieldF) = False := eq_false (by decide)
@[simp] theorem y_ratchetbase_SameNodes : (n_ratchetbase_SameNodes = yieldF) = False := eq_false (by decide)
@[simp] theorem y_ratchetbase_Within : (n_ratchetbase_Within = yieldF) = False := eq_false (by decide)
@[simp] theorem y_ratchetbase_Fits : (n_ratchetbase_Fits = yieldF) = False := eq_false (by decide)
@[simp] theorem y_graph_SharedOf : (n_graph_SharedOf = yieldF) = False := eq_false (by decide)
@[simp] theorem y_graph_FoldedOf : (n_graph_FoldedOf = yieldF) = False := eq_false (by decide)
@[simp] theorem y_graph_ConeOf : (n_graph_ConeOf = yieldF) = False := eq_false (by decide)
@[simp] theorem y_ratchetref02_Shared : (n_ratchetref02_Shared = yieldF) = False := eq_false (by decide)
@[simp] theorem y_ratchetref02_Folded : (n_ratchetref02_Folded = yieldF) = False := eq_false (by decide)
@[simp] theorem y_ratchetref02_Cone : (n_ratchetref02_Cone = yieldF) = False := eq_false (by decide)
@[simp] theorem y_ratchetlaw02_Leaves : (n_ratchetlaw02_Leaves = yieldF) = False := eq_false (by decide)
@[simp] theorem y_ratchetlaw02_Nodes : (n_ratchetlaw02_Nodes = yieldF) = False := eq_false (by decide)
@[simp] theorem y_graph_FormatNodes : (n_graph_FormatNodes = yieldF) = False := eq_false (by decide)
@[simp] theorem y_graph_each_int : (n_graph_each_int = yieldF) = False := eq_false (by decide)
@[simp] theorem y_graph_CheckNodes_1 : (n_graph_CheckNodes_1 = yieldF) = False := eq_false (by decide)
@[simp] theorem y_graph_unless : (n_graph_unless = yieldF) = False := eq_false (by decide)
@[simp] theorem y_graph_isWidth : (n_graph_isWidth = yieldF) = False := eq_false (by decide)
@[simp] theorem y_graph_operations : (n_graph_operations = yieldF) = False := eq_false (by decide)
@[simp] theorem y_graph_each_api_Node : (n_graph_each_api_Node = yieldF) = False := eq_false (by decide)
@[simp] theorem y_graph_CheckNodes_2 : (n_graph_CheckNodes_2 = yieldF) = False := eq_false (by decide)
@[simp] theorem y_graph_first : (n_graph_first = yieldF) = False := eq_false (by decide)
@[simp] theorem y_graph_within : (n_graph_within = yieldF) = False := eq_false (by decide)
@[simp] theorem y_slices_ContainsFunc_int_int : (n_slices_ContainsFunc_int_int = yieldF) = False := eq_false (by decide)
@[simp] theorem y_graph_CheckNodes_2_1 : (n_graph_CheckNodes_2_1 = yieldF) = False := eq_false (by decide)
@[simp] theorem y_graph_valueErr : (n_graph_valueErr = yieldF) = False := eq_false (by decide)
@[simp] theorem y_ratchetbase_IsWidth : (n_ratchetbase_IsWidth = yieldF) = False := eq_false (by decide)
@[simp] theorem y_ratchetbase_NodesErr : (n_ratchetbase_NodesErr = yieldF) = False := eq_false (by decide)
@[simp] theorem y_ratchetbase_IsNode : (n_ratchetbase_IsNode = yieldF) = False := eq_false (by decide)
@[simp] theorem y_graph_namedErr : (n_graph_namedErr = yieldF) = False := eq_false (by decide)
@[simp] theorem y_graph_leavesBelow : (n_graph_leavesBelow = yieldF) = False := eq_false (by decide)
@[simp] theorem y_graph_graphErr : (n_graph_graphErr = yieldF) = False := eq_false (by decide)
@[simp] theorem y_graph_ValuesOf_1 : (n_graph_ValuesOf_1 = yieldF) = False := eq_false (by decide)
@[simp] theorem y_graph_fits : (n_graph_fits = yieldF) = False := eq_false (by decide)
@[simp] theorem y_graph_valued : (n_graph_valued = yieldF) = False := eq_false (by decide)
@[simp] theorem y_graph_bitsErr : (n_graph_bitsErr = yieldF) = False := eq_false (by decide)
@[simp] theorem y_graph_runs : (n_graph_runs = yieldF) = False := eq_false (by decide)
@[simp] theorem y_slices_Clone_int_int : (n_slices_Clone_int_int = yieldF) = False := eq_false (by decide)
@[simp] theorem y_graph_below : (n_graph_below = yieldF) = False := eq_false (by decide)
@[simp] theorem y_ratchetbase_Below : (n_ratchetbase_Below = yieldF) = False := eq_false (by decide)
@[simp] theorem y_ratchetbase_Apply : (n_ratchetbase_Apply = yieldF) = False := eq_false (by decide)
@[simp] theorem y_graph_moved : (n_graph_moved = yieldF) = False := eq_false (by decide)
@[simp] theorem y_graph_constant : (n_graph_constant = yieldF) = False := eq_false (by decide)
@[simp] theorem y_ratchetref02_moved : (n_ratchetref02_moved = yieldF) = False := eq_false (by decide)
@[simp] theorem y_graph_mapped : (n_graph_mapped = yieldF) = False := eq_false (by decide)
@[simp] theorem y_graph_FoldedOf_1 : (n_graph_FoldedOf_1 = yieldF) = False := eq_false (by decide)
@[simp] theorem y_graph_FoldedOf_2 : (n_graph_FoldedOf_2 = yieldF) = False := eq_false (by decide)
@[simp] theorem y_graph_applied : (n_graph_applied = yieldF) = False := eq_false (by decide)
@[simp] theorem y_strconv_Itoa : (n_strconv_Itoa = yieldF) = False := eq_false (by decide)
@[simp] theorem y_strings_Join : (n_strings_Join = yieldF) = False := eq_false (by decide)
@[simp] theorem y_graph_operations_1 : (n_graph_operations_1 = yieldF) = False := eq_false (by decide)
@[simp] theorem y_graph_anyWidth : (n_graph_anyWidth = yieldF) = False := eq_false (by decide)
@[simp] theorem y_graph_same : (n_graph_same = yieldF) = False := eq_false (by decide)
@[simp] theorem y_graph_operations_2 : (n_graph_operations_2 = yieldF) = False := eq_false (by decide)
@[simp] theorem y_graph_mask : (n_graph_mask = yieldF) = False := eq_false (by decide)
@[simp] theorem y_graph_binary : (n_graph_binary = yieldF) = False := eq_false (by decide)
@[simp] theorem y_graph_operations_3 : (n_graph_operations_3 = yieldF) = False := eq_false (by decide)
@[simp] theorem y_graph_operations_4 : (n_graph_operations_4 = yieldF) = False := eq_false (by decide)
@[simp] theorem y_graph_operations_5 : (n_graph_operations_5 = yieldF) = False := eq_false (by decide)
@[simp] theorem y_graph_operations_6 : (n_graph_operations_6 = yieldF) = False := eq_false (by decide)
@[simp] theorem y_graph_operations_7 : (n_graph_operations_7 = yieldF) = False := eq_false (by decide)
@[simp] theorem y_graph_operations_8 : (n_graph_operations_8 = yieldF) = False := eq_false (by decide)
@[simp] theorem y_graph_relation : (n_graph_relation = yieldF) = False := eq_false (by decide)
@[simp] theorem y_graph_operations_9 : (n_graph_operations_9 = yieldF) = False := eq_false (by decide)
@[simp] theorem y_graph_operations_10 : (n_graph_operations_10 = yieldF) = False := eq_false (by decide)
@[simp] theorem y_graph_operations_11 : (n_graph_operations_11 = yieldF) = False := eq_false (by decide)
@[simp] theorem y_graph_signed : (n_graph_signed = yieldF) = False := eq_false (by decide)
@[simp] theorem y_graph_operations_12 : (n_graph_operations_12 = yieldF) = False := eq_false (by decide)
@[simp] theorem y_graph_operations_13 : (n_graph_operations_13 = yieldF) = False := eq_false (by decide)
@[simp] theorem y_graph_operations_14 : (n_graph_operations_14 = yieldF) = False := eq_false (by decide)
@[simp] theorem y_graph_operations_15 : (n_graph_operations_15 = yieldF) = False := eq_false (by decide)
@[simp] theorem y_graph_operations_16 : (n_graph_operations_16 = yieldF) = False := eq_false (by decide)
@[simp] theorem y_graph_operations_17 : (n_graph_operations_17 = yieldF) = False := eq_false (by decide)
@[simp] theorem y_graph_extended : (n_graph_extended = yieldF) = False := eq_false (by decide)
@[simp] theorem y_graph_operations_18 : (n_graph_operations_18 = yieldF) = False := eq_false (by decide)
@[simp] theorem y_graph_operations_19 : (n_graph_operations_19 = yieldF) = False := eq_false (by decide)
@[simp] theorem y_graph_shifted : (n_graph_shifted = yieldF) = False := eq_false (by decide)
@[simp] theorem y_graph_operations_20 : (n_graph_operations_20 = yieldF) = False := eq_false (by decide)
@[simp] theorem y_graph_operations_21 : (n_graph_operations_21 = yieldF) = False := eq_false (by decide)
@[simp] theorem y_slices_IndexFunc_int_int : (n_slices_IndexFunc_int_int = yieldF) = False := eq_false (by decide)
@[simp] theorem y_ratchetbase_nodeErr : (n_ratchetbase_nodeErr = yieldF) = False := eq_false (by decide)
@[simp] theorem y_graph_namedErr_1 : (n_graph_namedErr_1 = yieldF) = False := eq_false (by decide)
@[simp] theorem y_slices_Sort_int_int : (n_slices_Sort_int_int = yieldF) = False := eq_false (by decide)
@[simp] theorem y_slices_Compact_int_int : (n_slices_Compact_int_int = yieldF) = False := eq_false (by decide)
@[simp] theorem y_graph_runs_1 : (n_graph_runs_1 = yieldF) = False := eq_false (by decide)
@[simp] theorem y_slices_Backward_api_Node_api_Node : (n_slices_Backward_api_Node_api_Node = yieldF) = False := eq_false (by decide)
@[simp] theorem y_ratchetbase_Bit : (n_ratchetbase_Bit = yieldF) = False := eq_false (by decide)
@[simp] theorem y_ratchetbase_Signed : (n_ratchetbase_Signed = yieldF) = False := eq_false (by decide)
@[simp] theorem y_graph_mapped_1 : (n_graph_mapped_1 = yieldF) = False := eq_false (by decide)
@[simp] theorem y_graph_same_1 : (n_graph_same_1 = yieldF) = False := eq_false (by decide)
@[simp] theorem y_graph_binary_1 : (n_graph_binary_1 = yieldF) = False := eq_false (by decide)
@[simp] theorem y_graph_compared : (n_graph_compared = yieldF) = False := eq_false (by decide)
@[simp] theorem y_graph_relation_1 : (n_graph_relation_1 = yieldF) = False := eq_false (by decide)
@[simp] theorem y_graph_truth : (n_graph_truth = yieldF) = False := eq_false (by decide)
@[simp] theorem y_ratchetbase_ArgCount : (n_ratchetbase_ArgCount = yieldF) = False := eq_false (by decide)
@[simp] theorem y_ratchetbase_widthsFit : (n_ratchetbase_widthsFit = yieldF) = False := eq_false (by decide)
@[simp] theorem y_slices_Backward_api_Node_api_Node_1 : (n_slices_Backward_api_Node_api_Node_1 = yieldF) = False := eq_false (by decide)
def t_int : Nat := 3
def t_bool : Nat := 4
def t_string : Nat := 9
def t_api_Errno : Nat := 26
def t_api_Node : Nat := 49

def c_ratchetlaw02_GraphSmaller : FnIR := ⟨166,
  (.sq (.op 0 [⟨(some 6), none, .mv (.c (.bool false))⟩] none)
  (.sq (.sq (.op 0 [⟨(some 18), none, .callV true (.c (.fn n_ratchetlaw02_awake [])) []⟩,
    ⟨(some 19), none, .un .not (.t 18)⟩] none)
  (.cd (.t 19)
   (.sq (.op 0 [⟨(some 6), none, .mv (.c (.bool false))⟩] none)
   .rt)
   .sk))
  (.sq (.sq (.op 0 [⟨(some 20), none, .mv (.t 0)⟩,
    ⟨(some 21), none, .mv (.t 1)⟩,
    ⟨(some 22), none, .callV true (.c (.fn n_ratchetlaw02_few [])) [(.t 20), (.t 21)]⟩,
    ⟨(some 23), none, .un .not (.t 22)⟩,
    ⟨(some 24), none, .mv (.t 23)⟩,
    ⟨(some 25), (some (24, false)), .mv (.t 2)⟩,
    ⟨(some 26), (some (24, false)), .len false (.t 25)⟩,
    ⟨(some 27), (some (24, false)), .bin .gtr (.t 26) (.c (.int .i64 60))⟩,
    ⟨(some 28), none, .pick (.t 24) (.c (.bool true)) (.t 27)⟩] (some [0, 1, 2, 28]))
  (.cd (.t 28)
   (.sq (.op 0 [⟨(some 6), none, .mv (.c (.bool true))⟩] none)
   .rt)
   .sk))
  (.sq (.op 0 [⟨(some 30), none, .mv (.t 0)⟩,
    ⟨(some 31), none, .callV false (.c (.fn n_ratchetbase_CopyInts [])) [(.t 30)]⟩,
    ⟨(some 32), none, .mv (.t 1)⟩,
    ⟨(some 33), none, .callV false (.c (.fn n_ratchetbase_CopyNodes [])) [(.t 32)]⟩,
    ⟨(some 34), none, .callV false (.c (.fn n_graph_SharedOf [])) [(.t 31), (.t 33)]⟩,
    ⟨(some 29), none, .mv (.t 34)⟩,
    ⟨(some 35), none, .ext (.t 29) 0⟩,
    ⟨(some 36), none, .ext (.t 29) 1⟩,
    ⟨(some 37), none, .ext (.t 29) 2⟩,
    ⟨(some 7), none, .mv (.t 35)⟩,
    ⟨(some 8), none, .mv (.t 36)⟩,
    ⟨(some 9), none, .mv (.t 37)⟩] (some [0, 1, 2, 7, 8, 9]))
  (.sq (.op 0 [⟨(some 39), none, .mv (.t 0)⟩,
    ⟨(some 40), none, .callV false (.c (.fn n_ratchetbase_CopyInts [])) [(.t 39)]⟩,
    ⟨(some 41), none, .mv (.t 1)⟩,
    ⟨(some 42), none, .callV false (.c (.fn n_ratchetbase_CopyNodes [])) [(.t 41)]⟩,
    ⟨(some 43), none, .callV false (.c (.fn n_graph_FoldedOf [])) [(.t 40), (.t 42)]⟩,
    ⟨(some 38), none, .mv (.t 43)⟩,
    ⟨(some 44), none, .ext (.t 38) 0⟩,
    ⟨(some 45), none, .ext (.t 38) 1⟩,
    ⟨(some 10), none, .mv (.t 44)⟩,
    ⟨(some 11), none, .mv (.t 45)⟩] (some [0, 1, 2, 7, 8, 9, 10, 11]))
  (.sq (.op 0 [⟨(some 47), none, .mv (.t 0)⟩,
    ⟨(some 48), none, .callV false (.c (.fn n_ratchetbase_CopyInts [])) [(.t 47)]⟩,
    ⟨(some 49), none, .mv (.t 1)⟩,
    ⟨(some 50), none, .callV false (.c (.fn n_ratchetbase_CopyNodes [])) [(.t 49)]⟩,
    ⟨(some 51), none, .mv (.t 2)⟩,
    ⟨(some 52), none, .callV false (.c (.fn n_ratchetbase_CopyInts [])) [(.t 51)]⟩,
    ⟨(some 53), none, .callV false (.c (.fn n_graph_ConeOf [])) [(.t 48), (.t 50), (.t 52)]⟩,
    ⟨(some 46), none, .mv (.t 53)⟩,
    ⟨(some 54), none, .ext (.t 46) 0⟩,
    ⟨(some 55), none, .ext (.t 46) 1⟩,
    ⟨(some 56), none, .ext (.t 46) 2⟩,
    ⟨(some 12), none, .mv (.t 54)⟩,
    ⟨(some 13), none, .mv (.t 55)⟩,
    ⟨(some 14), none, .mv (.t 56)⟩] (some [0, 1, 2, 7, 8, 9, 10, 11, 12, 13, 14]))
  (.sq (.op 0 [⟨(some 57), none, .mv (.t 0)⟩,
    ⟨(some 58), none, .mv (.t 1)⟩,
    ⟨(some 59), none, .callV true (.c (.fn n_ratchetref02_NodesErr [])) [(.t 57), (.t 58)]⟩,
    ⟨(some 15), none, .mv (.t 59)⟩] (some [1, 2, 7, 8, 9, 10, 11, 12, 13, 14, 15]))
  (.sq (.sq (.op 0 [⟨(some 60), none, .mv (.t 15)⟩,
    ⟨(some 61), none, .bin .neq (.t 60) (.c (.int .i64 0))⟩] none)
  (.cd (.t 61)
   (.sq (.op 0 [⟨(some 62), none, .mv (.t 9)⟩,
     ⟨(some 63), none, .mv (.t 15)⟩,
     ⟨(some 64), none, .bin .eql (.t 62) (.t 63)⟩,
     ⟨(some 65), none, .mv (.t 64)⟩,
     ⟨(some 66), (some (65, true)), .mv (.t 7)⟩,
     ⟨(some 67), (some (65, true)), .len false (.t 66)⟩,
     ⟨(some 68), (some (65, true)), .bin .eql (.t 67) (.c (.int .i64 0))⟩,
     ⟨(some 69), none, .pick (.t 65) (.t 68) (.c (.bool false))⟩,
     ⟨(some 70), none, .mv (.t 69)⟩,
     ⟨(some 71), (some (70, true)), .mv (.t 8)⟩,
     ⟨(some 72), (some (70, true)), .len false (.t 71)⟩,
     ⟨(some 73), (some (70, true)), .bin .eql (.t 72) (.c (.int .i64 0))⟩,
     ⟨(some 74), none, .pick (.t 70) (.t 73) (.c (.bool false))⟩,
     ⟨(some 75), none, .mv (.t 74)⟩,
     ⟨(some 76), (some (75, true)), .mv (.t 11)⟩,
     ⟨(some 77), (some (75, true)), .mv (.t 15)⟩,
     ⟨(some 78), (some (75, true)), .bin .eql (.t 76) (.t 77)⟩,
     ⟨(some 79), none, .pick (.t 75) (.t 78) (.c (.bool false))⟩,
     ⟨(some 80), none, .mv (.t 79)⟩,
     ⟨(some 81), (some (80, true)), .mv (.t 10)⟩,
     ⟨(some 82), (some (80, true)), .len false (.t 81)⟩,
     ⟨(some 83), (some (80, true)), .bin .eql (.t 82) (.c (.int .i64 0))⟩,
     ⟨(some 84), none, .pick (.t 80) (.t 83) (.c (.bool false))⟩,
     ⟨(some 85), none, .mv (.t 84)⟩,
     ⟨(some 86), (some (85, true)), .mv (.t 14)⟩,
     ⟨(some 87), (some (85, true)), .mv (.t 15)⟩,
     ⟨(some 88), (some (85, true)), .bin .eql (.t 86) (.t 87)⟩,
     ⟨(some 89), none, .pick (.t 85) (.t 88) (.c (.bool false))⟩,
     ⟨(some 90), none, .mv (.t 89)⟩,
     ⟨(some 91), (some (90, true)), .mv (.t 12)⟩,
     ⟨(some 92), (some (90, true)), .len false (.t 91)⟩,
     ⟨(some 93), (some (90, true)), .bin .eql (.t 92) (.c (.int .i64 0))⟩,
     ⟨(some 94), none, .pick (.t 90) (.t 93) (.c (.bool false))⟩,
     ⟨(some 95), none, .mv (.t 94)⟩,
     ⟨(some 96), (some (95, true)), .mv (.t 13)⟩,
     ⟨(some 97), (some (95, true)), .len false (.t 96)⟩,
     ⟨(some 98), (some (95, true)), .bin .eql (.t 97) (.c (.int .i64 0))⟩,
     ⟨(some 99), none, .pick (.t 95) (.t 98) (.c (.bool false))⟩,
     ⟨(some 6), none, .mv (.t 99)⟩] (some [6]))
   .rt)
   .sk))
  (.sq (.op 0 [⟨(some 101), none, .mv (.t 1)⟩,
    ⟨(some 102), none, .callV false (.c (.fn n_ratchetref02_Shared [])) [(.t 101)]⟩,
    ⟨(some 100), none, .mv (.t 102)⟩,
    ⟨(some 103), none, .ext (.t 100) 0⟩,
    ⟨(some 104), none, .ext (.t 100) 1⟩,
    ⟨(some 16), none, .mv (.t 103)⟩,
    ⟨(some 17), none, .mv (.t 104)⟩] (some [1, 2, 7, 8, 9, 10, 11, 12, 13, 14, 16, 17]))
  (.sq (.sq (.op 0 [⟨(some 105), none, .mv (.t 9)⟩,
    ⟨(some 106), none, .bin .neq (.t 105) (.c (.int .i64 0))⟩,
    ⟨(some 107), none, .mv (.t 106)⟩,
    ⟨(some 108), (some (107, false)), .mv (.t 7)⟩,
    ⟨(some 109), (some (107, false)), .mv (.t 16)⟩,
    ⟨(some 110), (some (107, false)), .callV true (.c (.fn n_ratchetbase_SameNodes [])) [(.t 108), (.t 109)]⟩,
    ⟨(some 111), (some (107, false)), .un .not (.t 110)⟩,
    ⟨(some 112), none, .pick (.t 107) (.c (.bool true)) (.t 111)⟩,
    ⟨(some 113), none, .mv (.t 112)⟩,
    ⟨(some 114), (some (113, false)), .mv (.t 8)⟩,
    ⟨(some 115), (some (113, false)), .mv (.t 17)⟩,
    ⟨(some 116), (some (113, false)), .callV true (.c (.fn n_ratchetbase_Ints [])) [(.t 114), (.t 115)]⟩,
    ⟨(some 117), (some (113, false)), .un .not (.t 116)⟩,
    ⟨(some 118), none, .pick (.t 113) (.c (.bool true)) (.t 117)⟩,
    ⟨(some 119), none, .mv (.t 118)⟩,
    ⟨(some 120), (some (119, false)), .mv (.t 11)⟩,
    ⟨(some 121), (some (119, false)), .bin .neq (.t 120) (.c (.int .i64 0))⟩,
    ⟨(some 122), none, .pick (.t 119) (.c (.bool true)) (.t 121)⟩,
    ⟨(some 123), none, .mv (.t 122)⟩,
    ⟨(some 124), (some (123, false)), .mv (.t 10)⟩,
    ⟨(some 125), (some (123, false)), .mv (.t 1)⟩,
    ⟨(some 126), (some (123, false)), .callV false (.c (.fn n_ratchetref02_Folded [])) [(.t 125)]⟩,
    ⟨(some 127), (some (123, false)), .callV true (.c (.fn n_ratchetbase_SameNodes [])) [(.t 124), (.t 126)]⟩,
    ⟨(some 128), (some (123, false)), .un .not (.t 127)⟩,
    ⟨(some 129), none, .pick (.t 123) (.c (.bool true)) (.t 128)⟩] (some [1, 2, 12, 13, 14, 129]))
  (.cd (.t 129)
   (.sq (.op 0 [⟨(some 6), none, .mv (.c (.bool false))⟩] none)
   .rt)
   .sk))
  (.sq (.sq (.op 0 [⟨(some 130), none, .mv (.t 1)⟩,
    ⟨(some 131), none, .mv (.t 2)⟩,
    ⟨(some 132), none, .callV true (.c (.fn n_ratchetref02_FromErr [])) [(.t 130), (.t 131)]⟩,
    ⟨(some 15), none, .mv (.t 132)⟩] (some [1, 2, 12, 13, 14, 15]))
  (.sq (.op 0 [⟨(some 133), none, .mv (.t 15)⟩,
    ⟨(some 134), none, .bin .neq (.t 133) (.c (.int .i64 0))⟩] none)
  (.cd (.t 134)
   (.sq (.op 0 [⟨(some 135), none, .mv (.t 14)⟩,
     ⟨(some 136), none, .mv (.t 15)⟩,
     ⟨(some 137), none, .bin .eql (.t 135) (.t 136)⟩,
     ⟨(some 138), none, .mv (.t 137)⟩,
     ⟨(some 139), (some (138, true)), .mv (.t 12)⟩,
     ⟨(some 140), (some (138, true)), .len false (.t 139)⟩,
     ⟨(some 141), (some (138, true)), .bin .eql (.t 140) (.c (.int .i64 0))⟩,
     ⟨(some 142), none, .pick (.t 138) (.t 141) (.c (.bool false))⟩,
     ⟨(some 143), none, .mv (.t 142)⟩,
     ⟨(some 144), (some (143, true)), .mv (.t 13)⟩,
     ⟨(some 145), (some (143, true)), .len false (.t 144)⟩,
     ⟨(some 146), (some (143, true)), .bin .eql (.t 145) (.c (.int .i64 0))⟩,
     ⟨(some 147), none, .pick (.t 143) (.t 146) (.c (.bool false))⟩,
     ⟨(some 6), none, .mv (.t 147)⟩] (some [6]))
   .rt)
   .sk)))
  (.sq (.op 0 [⟨(some 149), none, .mv (.t 1)⟩,
    ⟨(some 150), none, .mv (.t 2)⟩,
    ⟨(some 151), none, .callV false (.c (.fn n_ratchetref02_Cone [])) [(.t 149), (.t 150)]⟩,
    ⟨(some 148), none, .mv (.t 151)⟩,
    ⟨(some 152), none, .ext (.t 148) 0⟩,
    ⟨(some 153), none, .ext (.t 148) 1⟩,
    ⟨(some 16), none, .mv (.t 152)⟩,
    ⟨(some 17), none, .mv (.t 153)⟩] (some [12, 13, 14, 16, 17]))
  (.sq (.op 0 [⟨(some 154), none, .mv (.t 14)⟩,
    ⟨(some 155), none, .bin .eql (.t 154) (.c (.int .i64 0))⟩,
    ⟨(some 156), none, .mv (.t 155)⟩,
    ⟨(some 157), (some (156, true)), .mv (.t 12)⟩,
    ⟨(some 158), (some (156, true)), .mv (.t 16)⟩,
    ⟨(some 159), (some (156, true)), .callV true (.c (.fn n_ratchetbase_SameNodes [])) [(.t 157), (.t 158)]⟩,
    ⟨(some 160), none, .pick (.t 156) (.t 159) (.c (.bool false))⟩,
    ⟨(some 161), none, .mv (.t 160)⟩,
    ⟨(some 162), (some (161, true)), .mv (.t 13)⟩,
    ⟨(some 163), (some (161, true)), .mv (.t 17)⟩,
    ⟨(some 164), (some (161, true)), .callV true (.c (.fn n_ratchetbase_Ints [])) [(.t 162), (.t 163)]⟩,
    ⟨(some 165), none, .pick (.t 161) (.t 164) (.c (.bool false))⟩,
    ⟨(some 6), none, .mv (.t 165)⟩] (some [6]))
  .rt))))))))))))),
  [.t 6]⟩
def c_ratchetlaw02_awake : FnIR := ⟨58,
  (.sq (.op 0 [⟨(some 0), none, .mv (.c (.bool false))⟩] none)
  (.sq (.op 0 [⟨(some 9), none, .callV false (.c (.fn n_ratchetlaw02_Leaves [])) []⟩,
    ⟨(some 10), none, .callV false (.c (.fn n_ratchetlaw02_Nodes [])) []⟩,
    ⟨(some 11), none, .bsl t_int 1 false [.int .i64 0] 2 [(0, (.c (.int .i64 14))), (1, (.c (.int .i64 1)))]⟩,
    ⟨(some 12), none, .callV false (.c (.fn n_graph_ValuesOf [])) [(.t 9), (.t 10), (.t 11)]⟩,
    ⟨(some 8), none, .mv (.t 12)⟩,
    ⟨(some 13), none, .ext (.t 8) 0⟩,
    ⟨(some 14), none, .ext (.t 8) 1⟩,
    ⟨(some 1), none, .mv (.t 13)⟩,
    ⟨(some 2), none, .mv (.t 14)⟩] (some [1, 2]))
  (.sq (.op 0 [⟨(some 16), none, .callV false (.c (.fn n_ratchetlaw02_Leaves [])) []⟩,
    ⟨(some 17), none, .callV false (.c (.fn n_ratchetlaw02_Nodes [])) []⟩,
    ⟨(some 18), none, .callV false (.c (.fn n_graph_DepthsOf [])) [(.t 16), (.t 17)]⟩,
    ⟨(some 15), none, .mv (.t 18)⟩,
    ⟨(some 19), none, .ext (.t 15) 0⟩,
    ⟨(some 20), none, .ext (.t 15) 1⟩,
    ⟨(some 3), none, .mv (.t 19)⟩,
    ⟨(some 4), none, .mv (.t 20)⟩] (some [1, 2, 3, 4]))
  (.sq (.op 0 [⟨(some 22), none, .callV false (.c (.fn n_ratchetlaw02_Leaves [])) []⟩,
    ⟨(some 23), none, .callV false (.c (.fn n_ratchetlaw02_Nodes [])) []⟩,
    ⟨(some 24), none, .callV false (.c (.fn n_graph_DifferenceOf [])) [(.t 22), (.t 23), (.c (.int .i64 0)), (.c (.int .i64 2))]⟩,
    ⟨(some 21), none, .mv (.t 24)⟩,
    ⟨(some 25), none, .ext (.t 21) 0⟩,
    ⟨(some 26), none, .ext (.t 21) 1⟩,
    ⟨(some 5), none, .mv (.t 25)⟩,
    ⟨(some 6), none, .mv (.t 26)⟩] (some [1, 2, 3, 4, 5, 6]))
  (.sq (.op 0 [⟨(some 27), none, .callV false (.c (.fn n_ratchetlaw02_Nodes [])) []⟩,
    ⟨(some 28), none, .callV true (.c (.fn n_graph_FormatNodes [])) [(.t 27)]⟩,
    ⟨(some 7), none, .mv (.t 28)⟩] none)
  (.sq (.op 0 [⟨(some 29), none, .mv (.t 2)⟩,
    ⟨(some 30), none, .bin .eql (.t 29) (.c (.int .i64 0))⟩,
    ⟨(some 31), none, .mv (.t 30)⟩,
    ⟨(some 32), (some (31, true)), .mv (.t 1)⟩,
    ⟨(some 33), (some (31, true)), .bsl t_int 1 false [.int .i64 0] 6 [(0, (.c (.int .i64 14))), (1, (.c (.int .i64 3))), (2, (.c (.int .i64 1))), (3, (.c (.int .i64 1))), (4, (.c (.int .i64 1))), (5, (.c (.int .i64 1)))]⟩,
    ⟨(some 34), (some (31, true)), .callV true (.c (.fn n_ratchetbase_Ints [])) [(.t 32), (.t 33)]⟩,
    ⟨(some 35), none, .pick (.t 31) (.t 34) (.c (.bool false))⟩,
    ⟨(some 36), none, .mv (.t 35)⟩,
    ⟨(some 37), (some (36, true)), .mv (.t 4)⟩,
    ⟨(some 38), (some (36, true)), .bin .eql (.t 37) (.c (.int .i64 0))⟩,
    ⟨(some 39), none, .pick (.t 36) (.t 38) (.c (.bool false))⟩,
    ⟨(some 40), none, .mv (.t 39)⟩,
    ⟨(some 41), (some (40, true)), .mv (.t 3)⟩,
    ⟨(some 42), (some (40, true)), .bsl t_int 1 false [.int .i64 0] 6 [(0, (.c (.int .i64 0))), (1, (.c (.int .i64 0))), (2, (.c (.int .i64 1))), (3, (.c (.int .i64 0))), (4, (.c (.int .i64 2))), (5, (.c (.int .i64 3)))]⟩,
    ⟨(some 43), (some (40, true)), .callV true (.c (.fn n_ratchetbase_Ints [])) [(.t 41), (.t 42)]⟩,
    ⟨(some 44), none, .pick (.t 40) (.t 43) (.c (.bool false))⟩,
    ⟨(some 45), none, .mv (.t 44)⟩,
    ⟨(some 46), (some (45, true)), .mv (.t 6)⟩,
    ⟨(some 47), (some (45, true)), .bin .eql (.t 46) (.c (.int .i64 0))⟩,
    ⟨(some 48), none, .pick (.t 45) (.t 47) (.c (.bool false))⟩,
    ⟨(some 49), none, .mv (.t 48)⟩,
    ⟨(some 50), (some (49, true)), .mv (.t 5)⟩,
    ⟨(some 51), (some (49, true)), .bsl t_int 1 false [.int .i64 0] 2 [(0, (.c (.int .i64 0))), (1, (.c (.int .i64 0)))]⟩,
    ⟨(some 52), (some (49, true)), .callV true (.c (.fn n_ratchetbase_Ints [])) [(.t 50), (.t 51)]⟩,
    ⟨(some 53), none, .pick (.t 49) (.t 52) (.c (.bool false))⟩,
    ⟨(some 54), none, .mv (.t 53)⟩,
    ⟨(some 55), (some (54, true)), .mv (.t 7)⟩,
    ⟨(some 56), (some (54, true)), .bin .eql (.t 55) (.c (.str ⟨#[108, 101, 97, 102, 32, 52, 32, 48, 59, 99, 111, 110, 115, 116, 32, 52, 32, 51, 59, 97, 100, 100, 32, 52, 32, 48, 32, 49, 59, 108, 101, 97, 102, 32, 49, 32, 49, 59, 109, 117, 120, 32, 52, 32, 51, 32, 50, 32, 48, 59, 108, 116, 32, 49, 32, 52, 32, 49]⟩))⟩,
    ⟨(some 57), none, .pick (.t 54) (.t 56) (.c (.bool false))⟩,
    ⟨(some 0), none, .mv (.t 57)⟩] (some [0]))
  .rt)))))),
  [.t 0]⟩
def b_ratchetlaw02_few_L0 : IR :=
 (.sq (.sq (.op 0 [⟨(some 24), none, .mv (.t 5)⟩,
   ⟨(some 25), none, .mv (.t 1)⟩,
   ⟨(some 26), none, .len false (.t 25)⟩,
   ⟨(some 27), none, .bin .lss (.t 24) (.t 26)⟩] (some [1, 5, 27]))
 (.cd (.t 27)
  .sk
  (.ex 0)))
 (.sq (.bk 1 (.sq (.op 0 [⟨(some 30), none, .mv (.t 1)⟩,
    ⟨(some 31), none, .mv (.t 5)⟩,
    ⟨(some 32), none, .ia (.t 30) (.t 31) 4⟩,
    ⟨(some 33), none, .fa (.t 32) 2⟩,
    ⟨(some 34), none, .ld (.t 33) 1 false⟩,
    ⟨(some 35), none, .len false (.t 34)⟩,
    ⟨(some 36), none, .bin .gtr (.t 35) (.c (.int .i64 5))⟩] (some [1, 5, 36]))
  (.cd (.t 36)
   (.sq (.op 0 [⟨(some 4), none, .mv (.c (.bool false))⟩] none)
   .rt)
   .sk)))
 (.op 0 [⟨(some 28), none, .mv (.t 5)⟩,
   ⟨(some 29), none, .bin .add (.t 28) (.c (.int .i64 1))⟩,
   ⟨(some 5), none, .mv (.t 29)⟩] none)))
def c_ratchetlaw02_few_L0 : IR := b_ratchetlaw02_few_L0
theorem u_ratchetlaw02_few_L0 {C : Call} {L : Loop} {π : Id} {k0 : List Id} {e : Env} {s : Sto} : evC C L π k0 c_ratchetlaw02_few_L0 e s = evC C L π k0 b_ratchetlaw02_few_L0 e s := rfl
def c_ratchetlaw02_few : FnIR := ⟨37,
  (.sq (.op 0 [⟨(some 4), none, .mv (.c (.bool false))⟩] none)
  (.sq (.sq (.op 0 [⟨(some 6), none, .mv (.t 0)⟩,
    ⟨(some 7), none, .len false (.t 6)⟩,
    ⟨(some 8), none, .bin .gtr (.t 7) (.c (.int .i64 60))⟩,
    ⟨(some 9), none, .mv (.t 8)⟩,
    ⟨(some 10), (some (9, false)), .mv (.t 1)⟩,
    ⟨(some 11), (some (9, false)), .len false (.t 10)⟩,
    ⟨(some 12), (some (9, false)), .bin .gtr (.t 11) (.c (.int .i64 60))⟩,
    ⟨(some 13), (some (9, false)), .mv (.t 12)⟩,
    ⟨(some 14), (some (13, true)), .mv (.t 1)⟩,
    ⟨(some 15), (some (13, true)), .len false (.t 14)⟩,
    ⟨(some 16), (some (13, true)), .bin .leq (.t 15) (.c (.int .i64 400))⟩,
    ⟨(some 17), (some (9, false)), .pick (.t 13) (.t 16) (.c (.bool false))⟩,
    ⟨(some 18), none, .pick (.t 9) (.c (.bool true)) (.t 17)⟩,
    ⟨(some 19), none, .mv (.t 18)⟩,
    ⟨(some 20), (some (19, false)), .mv (.t 1)⟩,
    ⟨(some 21), (some (19, false)), .len false (.t 20)⟩,
    ⟨(some 22), (some (19, false)), .bin .gtr (.t 21) (.c (.int .i64 405))⟩,
    ⟨(some 23), none, .pick (.t 19) (.c (.bool true)) (.t 22)⟩] (some [1, 23]))
  (.cd (.t 23)
   (.sq (.op 0 [⟨(some 4), none, .mv (.c (.bool false))⟩] none)
   .rt)
   .sk))
  (.sq (.sq (.op 0 [⟨(some 5), none, .mv (.c (.int .i64 0))⟩] none)
  (.kp [] [4] (.bk 0 (.lp [] [1, 5] c_ratchetlaw02_few_L0))))
  (.sq (.op 0 [⟨(some 4), none, .mv (.c (.bool true))⟩] none)
  .rt)))),
  [.t 4]⟩
def c_graph_CheckNodes : FnIR := ⟨30,
  (.sq (.op 0 [⟨(some 2), none, .box (.t 0) 1⟩,
    ⟨(some 3), none, .box (.t 1) 1⟩,
    ⟨(some 4), none, .mv (.c (.int .i64 0))⟩,
    ⟨(some 5), none, .mv (.c (.int .i64 0))⟩] (some [2, 3]))
  (.sq (.sq (.op 0 [⟨(some 9), none, .ld (.t 2) 1 false⟩,
    ⟨(some 10), none, .len false (.t 9)⟩,
    ⟨(some 11), none, .bin .gtr (.t 10) (.c (.int .i64 40))⟩] none)
  (.cd (.t 11)
   (.sq (.op 0 [⟨(some 4), none, .mv (.c (.int .i64 0))⟩,
     ⟨(some 5), none, .mv (.c (.int .i64 8))⟩] none)
   .rt)
   .sk))
  (.sq (.sq (.op 0 [⟨(some 13), none, .ld (.t 2) 1 false⟩,
    ⟨(some 14), none, .callV true (.c (.fn n_graph_each_int [])) [(.t 13), (.c (.fn n_graph_CheckNodes_1 []))]⟩,
    ⟨(some 12), none, .mv (.t 14)⟩,
    ⟨(some 15), none, .ext (.t 12) 0⟩,
    ⟨(some 16), none, .ext (.t 12) 1⟩,
    ⟨(some 6), none, .mv (.t 15)⟩,
    ⟨(some 7), none, .mv (.t 16)⟩] (some [2, 3, 6, 7]))
  (.sq (.op 0 [⟨(some 17), none, .mv (.t 7)⟩,
    ⟨(some 18), none, .bin .neq (.t 17) (.c (.int .i64 0))⟩] none)
  (.cd (.t 18)
   (.sq (.op 0 [⟨(some 19), none, .mv (.t 6)⟩,
     ⟨(some 20), none, .mv (.t 7)⟩,
     ⟨(some 4), none, .mv (.t 19)⟩,
     ⟨(some 5), none, .mv (.t 20)⟩] (some [4, 5]))
   .rt)
   .sk)))
  (.sq (.sq (.op 0 [⟨(some 21), none, .ld (.t 3) 1 false⟩,
    ⟨(some 22), none, .len false (.t 21)⟩,
    ⟨(some 23), none, .bin .gtr (.t 22) (.c (.int .i64 400))⟩] none)
  (.cd (.t 23)
   (.sq (.op 0 [⟨(some 4), none, .mv (.c (.int .i64 0))⟩,
     ⟨(some 5), none, .mv (.c (.int .i64 8))⟩] none)
   .rt)
   .sk))
  (.sq (.op 0 [⟨(some 24), none, .callV true (.c (.fn n_graph_operations [])) []⟩,
    ⟨(some 8), none, .alloc [.str ⟨#[]⟩, .int .i64 0, .bool false, .nilf, .nilf, .str ⟨#[]⟩, .int .i64 0, .bool false, .nilf, .nilf, .str ⟨#[]⟩, .int .i64 0, .bool false, .nilf, .nilf, .str ⟨#[]⟩, .int .i64 0, .bool false, .nilf, .nilf, .str ⟨#[]⟩, .int .i64 0, .bool false, .nilf, .nilf, .str ⟨#[]⟩, .int .i64 0, .bool false, .nilf, .nilf, .str ⟨#[]⟩, .int .i64 0, .bool false, .nilf, .nilf, .str ⟨#[]⟩, .int .i64 0, .bool false, .nilf, .nilf, .str ⟨#[]⟩, .int .i64 0, .bool false, .nilf, .nilf, .str ⟨#[]⟩, .int .i64 0, .bool false, .nilf, .nilf, .str ⟨#[]⟩, .int .i64 0, .bool false, .nilf, .nilf, .str ⟨#[]⟩, .int .i64 0, .bool false, .nilf, .nilf, .str ⟨#[]⟩, .int .i64 0, .bool false, .nilf, .nilf, .str ⟨#[]⟩, .int .i64 0, .bool false, .nilf, .nilf, .str ⟨#[]⟩, .int .i64 0, .bool false, .nilf, .nilf, .str ⟨#[]⟩, .int .i64 0, .bool false, .nilf, .nilf, .str ⟨#[]⟩, .int .i64 0, .bool false, .nilf, .nilf, .str ⟨#[]⟩, .int .i64 0, .bool false, .nilf, .nilf, .str ⟨#[]⟩, .int .i64 0, .bool false, .nilf, .nilf]⟩,
    ⟨none, none, .st (.t 8) (.t 24) 95⟩] none)
  (.sq (.op 0 [⟨(some 25), none, .ld (.t 3) 1 false⟩,
    ⟨(some 26), none, .mkf n_graph_CheckNodes_2 [(.t 8), (.t 2), (.t 3)]⟩,
    ⟨(some 27), none, .callV true (.c (.fn n_graph_each_api_Node [])) [(.t 25), (.t 26)]⟩,
    ⟨(some 28), none, .ext (.t 27) 0⟩,
    ⟨(some 29), none, .ext (.t 27) 1⟩,
    ⟨(some 4), none, .mv (.t 28)⟩,
    ⟨(some 5), none, .mv (.t 29)⟩] (some [4, 5]))
  .rt)))))),
  [.t 4, .t 5]⟩
def c_ratchetbase_CopyInts : FnIR := ⟨6,
  (.sq (.op 0 [⟨(some 2), none, .mv (.c (.sl 1 (some true) []))⟩] none)
  (.sq (.op 0 [⟨(some 3), none, .bsl t_int 1 false [.int .i64 0] 0 []⟩,
    ⟨(some 4), none, .mv (.t 0)⟩,
    ⟨(some 5), none, .app (.t 3) (.t 4) t_int 1⟩,
    ⟨(some 2), none, .mv (.t 5)⟩] (some [2]))
  .rt)),
  [.t 2]⟩
def b_ratchetbase_CopyNodes_L0 : IR :=
 (.sq (.sq (.op 0 [⟨(some 8), none, .mv (.t 4)⟩,
   ⟨(some 9), none, .mv (.t 0)⟩,
   ⟨(some 10), none, .len false (.t 9)⟩,
   ⟨(some 11), none, .bin .lss (.t 8) (.t 10)⟩] (some [0, 3, 4, 11]))
 (.cd (.t 11)
  .sk
  (.ex 0)))
 (.sq (.bk 1 (.sq (.op 0 [⟨(some 14), none, .mv (.t 3)⟩,
    ⟨(some 15), none, .mv (.t 4)⟩,
    ⟨(some 16), none, .mv (.t 0)⟩,
    ⟨(some 17), none, .mv (.t 4)⟩,
    ⟨(some 18), none, .ia (.t 16) (.t 17) 4⟩,
    ⟨(some 19), none, .ld (.t 18) 4 true⟩,
    ⟨(some 20), none, .ia (.t 14) (.t 15) 4⟩,
    ⟨none, none, .st (.t 20) (.t 19) 4⟩] (some [0, 3, 4]))
  (.op 0 [⟨(some 21), none, .mv (.t 3)⟩,
    ⟨(some 22), none, .mv (.t 4)⟩,
    ⟨(some 23), none, .mv (.t 0)⟩,
    ⟨(some 24), none, .mv (.t 4)⟩,
    ⟨(some 25), none, .ia (.t 23) (.t 24) 4⟩,
    ⟨(some 26), none, .fa (.t 25) 2⟩,
    ⟨(some 27), none, .ld (.t 26) 1 false⟩,
    ⟨(some 28), none, .callV true (.c (.fn n_ratchetbase_CopyInts [])) [(.t 27)]⟩,
    ⟨(some 29), none, .ia (.t 21) (.t 22) 4⟩,
    ⟨(some 30), none, .fa (.t 29) 2⟩,
    ⟨none, none, .st (.t 30) (.t 28) 1⟩] (some [0, 3, 4]))))
 (.op 0 [⟨(some 12), none, .mv (.t 4)⟩,
   ⟨(some 13), none, .bin .add (.t 12) (.c (.int .i64 1))⟩,
   ⟨(some 4), none, .mv (.t 13)⟩] none)))
def c_ratchetbase_CopyNodes_L0 : IR := b_ratchetbase_CopyNodes_L0
theorem u_ratchetbase_CopyNodes_L0 {C : Call} {L : Loop} {π : Id} {k0 : List Id} {e : Env} {s : Sto} : evC C L π k0 c_ratchetbase_CopyNodes_L0 e s = evC C L π k0 b_ratchetbase_CopyNodes_L0 e s := rfl
def c_ratchetbase_CopyNodes : FnIR := ⟨32,
  (.sq (.op 0 [⟨(some 2), none, .mv (.c (.sl 4 (some true) []))⟩] none)
  (.sq (.op 0 [⟨(some 5), none, .mv (.t 0)⟩,
    ⟨(some 6), none, .len false (.t 5)⟩,
    ⟨(some 7), none, .mks t_api_Node 4 true [.int .i64 0, .int .i64 0, .sl 1 (some true) [], .int .i64 0] (.t 6) (.t 6)⟩,
    ⟨(some 3), none, .mv (.t 7)⟩] (some [0, 3]))
  (.sq (.sq (.op 0 [⟨(some 4), none, .mv (.c (.int .i64 0))⟩] none)
  (.kp [3] [2] (.bk 0 (.lp [] [0, 3, 4] c_ratchetbase_CopyNodes_L0))))
  (.sq (.op 0 [⟨(some 31), none, .mv (.t 3)⟩,
    ⟨(some 2), none, .mv (.t 31)⟩] none)
  .rt)))),
  [.t 2]⟩
def b_ratchetref02_CheckNodes_L0 : IR :=
 (.sq (.sq (.op 0 [⟨(some 10), none, .mv (.t 6)⟩,
   ⟨(some 11), none, .mv (.t 0)⟩,
   ⟨(some 12), none, .len false (.t 11)⟩,
   ⟨(some 13), none, .bin .lss (.t 10) (.t 12)⟩] (some [0, 1, 6, 13]))
 (.cd (.t 13)
  .sk
  (.ex 0)))
 (.sq (.bk 1 (.sq (.op 0 [⟨(some 16), none, .mv (.t 0)⟩,
    ⟨(some 17), none, .mv (.t 6)⟩,
    ⟨(some 18), none, .ia (.t 16) (.t 17) 1⟩,
    ⟨(some 19), none, .ld (.t 18) 1 false⟩,
    ⟨(some 20), none, .callV true (.c (.fn n_ratchetbase_IsWidth [])) [(.t 19)]⟩,
    ⟨(some 21), none, .un .not (.t 20)⟩] (some [0, 1, 6, 21]))
  (.cd (.t 21)
   (.sq (.op 0 [⟨(some 22), none, .mv (.t 6)⟩,
     ⟨(some 4), none, .mv (.t 22)⟩,
     ⟨(some 5), none, .mv (.c (.int .i64 2))⟩] none)
   .rt)
   .sk)))
 (.op 0 [⟨(some 14), none, .mv (.t 6)⟩,
   ⟨(some 15), none, .bin .add (.t 14) (.c (.int .i64 1))⟩,
   ⟨(some 6), none, .mv (.t 15)⟩] none)))
def c_ratchetref02_CheckNodes_L0 : IR := b_ratchetref02_CheckNodes_L0
theorem u_ratchetref02_CheckNodes_L0 {C : Call} {L : Loop} {π : Id} {k0 : List Id} {e : Env} {s : Sto} : evC C L π k0 c_ratchetref02_CheckNodes_L0 e s = evC C L π k0 b_ratchetref02_CheckNodes_L0 e s := rfl
def c_ratchetref02_CheckNodes : FnIR := ⟨28,
  (.sq (.op 0 [⟨(some 4), none, .mv (.c (.int .i64 0))⟩,
    ⟨(some 5), none, .mv (.c (.int .i64 0))⟩] none)
  (.sq (.sq (.op 0 [⟨(some 7), none, .mv (.t 0)⟩,
    ⟨(some 8), none, .len false (.t 7)⟩,
    ⟨(some 9), none, .bin .gtr (.t 8) (.c (.int .i64 40))⟩] none)
  (.cd (.t 9)
   (.sq (.op 0 [⟨(some 4), none, .mv (.c (.int .i64 0))⟩,
     ⟨(some 5), none, .mv (.c (.int .i64 8))⟩] none)
   .rt)
   .sk))
  (.sq (.sq (.op 0 [⟨(some 6), none, .mv (.c (.int .i64 0))⟩] none)
  (.kp [0, 1] [4, 5] (.bk 0 (.lp [] [0, 1, 6] c_ratchetref02_CheckNodes_L0))))
  (.sq (.op 0 [⟨(some 23), none, .mv (.t 0)⟩,
    ⟨(some 24), none, .mv (.t 1)⟩,
    ⟨(some 25), none, .callV true (.c (.fn n_ratchetbase_NodesErr [])) [(.t 23), (.t 24)]⟩,
    ⟨(some 26), none, .ext (.t 25) 0⟩,
    ⟨(some 27), none, .ext (.t 25) 1⟩,
    ⟨(some 4), none, .mv (.t 26)⟩,
    ⟨(some 5), none, .mv (.t 27)⟩] (some [4, 5]))
  .rt)))),
  [.t 4, .t 5]⟩
def c_ratchetref02_NodesErr : FnIR := ⟨14,
  (.sq (.op 0 [⟨(some 4), none, .mv (.c (.int .i64 0))⟩] none)
  (.sq (.op 0 [⟨(some 8), none, .mv (.t 0)⟩,
    ⟨(some 9), none, .mv (.t 1)⟩,
    ⟨(some 10), none, .callV true (.c (.fn n_ratchetref02_CheckNodes [])) [(.t 8), (.t 9)]⟩,
    ⟨(some 7), none, .mv (.t 10)⟩,
    ⟨(some 11), none, .ext (.t 7) 0⟩,
    ⟨(some 12), none, .ext (.t 7) 1⟩,
    ⟨(some 5), none, .mv (.t 11)⟩,
    ⟨(some 6), none, .mv (.t 12)⟩] (some [6]))
  (.sq (.op 0 [⟨(some 13), none, .mv (.t 6)⟩,
    ⟨(some 4), none, .mv (.t 13)⟩] none)
  .rt))),
  [.t 4]⟩
def b_ratchetref02_FromErr_L0 : IR :=
 (.sq (.sq (.op 0 [⟨(some 6), none, .mv (.t 5)⟩,
   ⟨(some 7), none, .mv (.t 1)⟩,
   ⟨(some 8), none, .len false (.t 7)⟩,
   ⟨(some 9), none, .bin .lss (.t 6) (.t 8)⟩] (some [0, 1, 5, 9]))
 (.cd (.t 9)
  .sk
  (.ex 0)))
 (.sq (.bk 1 (.sq (.op 0 [⟨(some 12), none, .mv (.t 0)⟩,
    ⟨(some 13), none, .mv (.t 1)⟩,
    ⟨(some 14), none, .mv (.t 5)⟩,
    ⟨(some 15), none, .ia (.t 13) (.t 14) 1⟩,
    ⟨(some 16), none, .ld (.t 15) 1 false⟩,
    ⟨(some 17), none, .callV true (.c (.fn n_ratchetbase_IsNode [])) [(.t 12), (.t 16)]⟩,
    ⟨(some 18), none, .un .not (.t 17)⟩] (some [0, 1, 5, 18]))
  (.cd (.t 18)
   (.sq (.op 0 [⟨(some 4), none, .mv (.c (.int .i64 6))⟩] none)
   .rt)
   .sk)))
 (.op 0 [⟨(some 10), none, .mv (.t 5)⟩,
   ⟨(some 11), none, .bin .add (.t 10) (.c (.int .i64 1))⟩,
   ⟨(some 5), none, .mv (.t 11)⟩] none)))
def c_ratchetref02_FromErr_L0 : IR := b_ratchetref02_FromErr_L0
theorem u_ratchetref02_FromErr_L0 {C : Call} {L : Loop} {π : Id} {k0 : List Id} {e : Env} {s : Sto} : evC C L π k0 c_ratchetref02_FromErr_L0 e s = evC C L π k0 b_ratchetref02_FromErr_L0 e s := rfl
def c_ratchetref02_FromErr : FnIR := ⟨19,
  (.sq (.op 0 [⟨(some 4), none, .mv (.c (.int .i64 0))⟩] none)
  (.sq (.sq (.op 0 [⟨(some 5), none, .mv (.c (.int .i64 0))⟩] none)
  (.kp [] [4] (.bk 0 (.lp [] [0, 1, 5] c_ratchetref02_FromErr_L0))))
  (.sq (.op 0 [⟨(some 4), none, .mv (.c (.int .i64 0))⟩] none)
  .rt))),
  [.t 4]⟩
def c_graph_ValuesOf : FnIR := ⟨37,
  (.sq (.op 0 [⟨(some 3), none, .box (.t 0) 1⟩,
    ⟨(some 6), none, .mv (.c (.sl 1 (some true) []))⟩,
    ⟨(some 7), none, .mv (.c (.int .i64 0))⟩] none)
  (.sq (.sq (.fz [1] (.op 8 [⟨(some 11), none, .ld (.t 3) 1 false⟩,
    ⟨(some 12), none, .mv (.t 1)⟩,
    ⟨(some 13), none, .callV true (.c (.fn n_graph_graphErr [])) [(.t 11), (.t 12)]⟩,
    ⟨(some 14), none, .mv (.t 2)⟩,
    ⟨(some 15), none, .len false (.t 14)⟩,
    ⟨(some 16), none, .ld (.t 3) 1 false⟩,
    ⟨(some 17), none, .len false (.t 16)⟩,
    ⟨(some 18), none, .bin .eql (.t 15) (.t 17)⟩,
    ⟨(some 19), none, .callV true (.c (.fn n_graph_unless [])) [(.t 18), (.c (.int .i64 10))]⟩,
    ⟨(some 20), none, .bsl t_api_Errno 1 false [.int .i64 0] 2 [(0, (.t 13)), (1, (.t 19))]⟩,
    ⟨(some 21), none, .callV true (.c (.fn n_graph_first [])) [(.t 20)]⟩,
    ⟨(some 8), none, .mv (.t 21)⟩] (some [1, 2, 3, 8])))
  (.sq (.op 0 [⟨(some 22), none, .mv (.t 8)⟩,
    ⟨(some 23), none, .bin .neq (.t 22) (.c (.int .i64 0))⟩] none)
  (.cd (.t 23)
   (.sq (.op 0 [⟨(some 24), none, .mv (.t 8)⟩,
     ⟨(some 6), none, .mv (.c (.sl 1 (some true) []))⟩,
     ⟨(some 7), none, .mv (.t 24)⟩] none)
   .rt)
   .sk)))
  (.sq (.sq (.op 0 [⟨(some 26), none, .mv (.t 2)⟩,
    ⟨(some 27), none, .mkf n_graph_ValuesOf_1 [(.t 3)]⟩,
    ⟨(some 28), none, .callV true (.c (.fn n_graph_each_int [])) [(.t 26), (.t 27)]⟩,
    ⟨(some 25), none, .mv (.t 28)⟩,
    ⟨(some 29), none, .ext (.t 25) 0⟩,
    ⟨(some 30), none, .ext (.t 25) 1⟩,
    ⟨(some 9), none, .mv (.t 29)⟩,
    ⟨(some 10), none, .mv (.t 30)⟩] (some [1, 2, 10]))
  (.sq (.op 0 [⟨(some 31), none, .mv (.t 10)⟩,
    ⟨(some 32), none, .bin .neq (.t 31) (.c (.int .i64 0))⟩] none)
  (.cd (.t 32)
   (.sq (.op 0 [⟨(some 33), none, .mv (.t 10)⟩,
     ⟨(some 6), none, .mv (.c (.sl 1 (some true) []))⟩,
     ⟨(some 7), none, .mv (.t 33)⟩] none)
   .rt)
   .sk)))
  (.sq (.op 0 [⟨(some 34), none, .mv (.t 1)⟩,
    ⟨(some 35), none, .mv (.t 2)⟩,
    ⟨(some 36), none, .callV false (.c (.fn n_graph_valued [])) [(.t 34), (.t 35)]⟩,
    ⟨(some 6), none, .mv (.t 36)⟩,
    ⟨(some 7), none, .mv (.c (.int .i64 0))⟩] (some [6, 7]))
  .rt)))),
  [.t 6, .t 7]⟩
def c_ratchetbase_Power : FnIR := ⟨5,
  (.sq (.op 0 [⟨(some 2), none, .mv (.c (.int .i64 0))⟩] none)
  (.sq (.op 0 [⟨(some 3), none, .mv (.t 0)⟩,
    ⟨(some 4), none, .bin .shl (.c (.int .i64 1)) (.t 3)⟩,
    ⟨(some 2), none, .mv (.t 4)⟩] none)
  .rt)),
  [.t 2]⟩
def b_graph_DifferenceOf_R0A : IR :=
 (.sq (.op 0 [⟨(some 13), none, .mv (.t 53)⟩] none)
 (.op 0 [⟨(some 14), none, .mv (.t 54)⟩] none))
def c_graph_DifferenceOf_R0A : IR := b_graph_DifferenceOf_R0A
theorem u_graph_DifferenceOf_R0A {C : Call} {L : Loop} {π : Id} {k0 : List Id} {e : Env} {s : Sto} : evC C L π k0 c_graph_DifferenceOf_R0A e s = evC C L π k0 b_graph_DifferenceOf_R0A e s := rfl
def b_graph_DifferenceOf_R0B : IR :=
 (.bk 1 (.sq (.op 8 [⟨(some 55), none, .mv (.t 14)⟩,
    ⟨(some 56), none, .ld (.t 6) 1 false⟩,
    ⟨(some 57), none, .ia (.t 55) (.t 56) 1⟩,
    ⟨(some 58), none, .ld (.t 57) 1 false⟩,
    ⟨(some 59), none, .mv (.t 14)⟩,
    ⟨(some 60), none, .ld (.t 7) 1 false⟩,
    ⟨(some 61), none, .ia (.t 59) (.t 60) 1⟩,
    ⟨(some 62), none, .ld (.t 61) 1 false⟩,
    ⟨(some 63), none, .bin .neq (.t 58) (.t 62)⟩] (some [8, 9, 13, 63]))
  (.cd (.t 63)
   (.sq (.fz [13, 53] (.op 0 [⟨(some 64), none, .mv (.t 13)⟩,
     ⟨(some 65), none, .callV false (.c (.fn n_slices_Clone_int_int [])) [(.t 64)]⟩,
     ⟨none, none, .st (.t 8) (.t 65) 1⟩,
     ⟨none, none, .st (.t 9) (.c (.int .i64 0)) 1⟩] (some [])))
   .rt)
   .sk)))
def c_graph_DifferenceOf_R0B : IR := b_graph_DifferenceOf_R0B
theorem u_graph_DifferenceOf_R0B {C : Call} {L : Loop} {π : Id} {k0 : List Id} {e : Env} {s : Sto} : evC C L π k0 c_graph_DifferenceOf_R0B e s = evC C L π k0 b_graph_DifferenceOf_R0B e s := rfl
def c_graph_DifferenceOf : FnIR := ⟨66,
  (.sq (.op 0 [⟨(some 6), none, .box (.t 2) 1⟩,
    ⟨(some 7), none, .box (.t 3) 1⟩,
    ⟨(some 8), none, .alloc [.sl 1 (some true) []]⟩,
    ⟨(some 9), none, .alloc [.int .i64 0]⟩] none)
  (.sq (.sq (.op 0 [⟨(some 15), none, .mv (.t 0)⟩,
    ⟨(some 16), none, .mv (.t 1)⟩,
    ⟨(some 17), none, .ld (.t 6) 1 false⟩,
    ⟨(some 18), none, .ld (.t 7) 1 false⟩,
    ⟨(some 19), none, .bsl t_int 1 false [.int .i64 0] 2 [(0, (.t 17)), (1, (.t 18))]⟩,
    ⟨(some 20), none, .callV true (.c (.fn n_graph_namedErr [])) [(.t 15), (.t 16), (.t 19)]⟩,
    ⟨(some 10), none, .mv (.t 20)⟩] (some [0, 1, 6, 7, 8, 9, 10]))
  (.sq (.op 0 [⟨(some 21), none, .mv (.t 10)⟩,
    ⟨(some 22), none, .bin .neq (.t 21) (.c (.int .i64 0))⟩] none)
  (.cd (.t 22)
   (.sq (.op 0 [⟨(some 23), none, .mv (.t 10)⟩,
     ⟨none, none, .st (.t 8) (.c (.sl 1 (some true) [])) 1⟩,
     ⟨none, none, .st (.t 9) (.t 23) 1⟩] none)
   .rt)
   .sk)))
  (.sq (.op 0 [⟨(some 24), none, .mv (.t 1)⟩,
    ⟨(some 25), none, .ld (.t 6) 1 false⟩,
    ⟨(some 26), none, .ld (.t 7) 1 false⟩,
    ⟨(some 27), none, .bsl t_int 1 false [.int .i64 0] 2 [(0, (.t 25)), (1, (.t 26))]⟩,
    ⟨(some 28), none, .callV false (.c (.fn n_graph_leavesBelow [])) [(.t 24), (.t 27)]⟩,
    ⟨(some 11), none, .mv (.t 28)⟩] (some [0, 1, 6, 7, 8, 9, 11]))
  (.sq (.sq (.op 14 [⟨(some 29), none, .mv (.t 1)⟩,
    ⟨(some 30), none, .ld (.t 6) 1 false⟩,
    ⟨(some 31), none, .ia (.t 29) (.t 30) 4⟩,
    ⟨(some 32), none, .fa (.t 31) 1⟩,
    ⟨(some 33), none, .ld (.t 32) 1 false⟩,
    ⟨(some 34), none, .mv (.t 1)⟩,
    ⟨(some 35), none, .ld (.t 7) 1 false⟩,
    ⟨(some 36), none, .ia (.t 34) (.t 35) 4⟩,
    ⟨(some 37), none, .fa (.t 36) 1⟩,
    ⟨(some 38), none, .ld (.t 37) 1 false⟩,
    ⟨(some 39), none, .bin .eql (.t 33) (.t 38)⟩,
    ⟨(some 40), none, .callV true (.c (.fn n_graph_unless [])) [(.t 39), (.c (.int .i64 25))]⟩,
    ⟨(some 41), none, .mv (.t 0)⟩,
    ⟨(some 42), none, .mv (.t 11)⟩,
    ⟨(some 43), none, .callV true (.c (.fn n_graph_bitsErr [])) [(.t 41), (.t 42)]⟩,
    ⟨(some 44), none, .bsl t_api_Errno 1 false [.int .i64 0] 2 [(0, (.t 40)), (1, (.t 43))]⟩,
    ⟨(some 45), none, .callV true (.c (.fn n_graph_first [])) [(.t 44)]⟩,
    ⟨(some 12), none, .mv (.t 45)⟩] (some [0, 1, 6, 7, 8, 9, 11, 12]))
  (.sq (.op 0 [⟨(some 46), none, .mv (.t 12)⟩,
    ⟨(some 47), none, .bin .neq (.t 46) (.c (.int .i64 0))⟩] none)
  (.cd (.t 47)
   (.sq (.op 0 [⟨(some 48), none, .mv (.t 12)⟩,
     ⟨none, none, .st (.t 8) (.c (.sl 1 (some true) [])) 1⟩,
     ⟨none, none, .st (.t 9) (.t 48) 1⟩] none)
   .rt)
   .sk)))
  (.sq (.sq (.kp [6, 7, 8, 9, 52] [8, 9] (.op 0 [⟨(some 49), none, .mv (.t 0)⟩,
    ⟨(some 50), none, .mv (.t 1)⟩,
    ⟨(some 51), none, .mv (.t 11)⟩,
    ⟨(some 52), none, .callV false (.c (.fn n_graph_runs [])) [(.t 49), (.t 50), (.t 51)]⟩] (some [6, 7, 8, 9, 52])))
  (.bk 0 (.kp [8, 9] [8, 9] (.rf (.t 52) 66 0 [6, 7, 8, 9] [53, 54] c_graph_DifferenceOf_R0A c_graph_DifferenceOf_R0B))))
  (.sq (.op 0 [⟨none, none, .st (.t 8) (.c (.sl 1 (some true) [])) 1⟩,
    ⟨none, none, .st (.t 9) (.c (.int .i64 12)) 1⟩] none)
  .rt)))))),
  [.c 8 1 false, .c 9 1 false]⟩
def b_ratchetbase_Ints_L0 : IR :=
 (.sq (.sq (.op 0 [⟨(some 11), none, .mv (.t 5)⟩,
   ⟨(some 12), none, .mv (.t 0)⟩,
   ⟨(some 13), none, .len false (.t 12)⟩,
   ⟨(some 14), none, .bin .lss (.t 11) (.t 13)⟩] (some [0, 1, 5, 14]))
 (.cd (.t 14)
  .sk
  (.ex 0)))
 (.sq (.bk 1 (.sq (.op 8 [⟨(some 17), none, .mv (.t 0)⟩,
    ⟨(some 18), none, .mv (.t 5)⟩,
    ⟨(some 19), none, .ia (.t 17) (.t 18) 1⟩,
    ⟨(some 20), none, .ld (.t 19) 1 false⟩,
    ⟨(some 21), none, .mv (.t 1)⟩,
    ⟨(some 22), none, .mv (.t 5)⟩,
    ⟨(some 23), none, .ia (.t 21) (.t 22) 1⟩,
    ⟨(some 24), none, .ld (.t 23) 1 false⟩,
    ⟨(some 25), none, .bin .neq (.t 20) (.t 24)⟩] (some [0, 1, 5, 25]))
  (.cd (.t 25)
   (.sq (.op 0 [⟨(some 4), none, .mv (.c (.bool false))⟩] none)
   .rt)
   .sk)))
 (.op 0 [⟨(some 15), none, .mv (.t 5)⟩,
   ⟨(some 16), none, .bin .add (.t 15) (.c (.int .i64 1))⟩,
   ⟨(some 5), none, .mv (.t 16)⟩] none)))
def c_ratchetbase_Ints_L0 : IR := b_ratchetbase_Ints_L0
theorem u_ratchetbase_Ints_L0 {C : Call} {L : Loop} {π : Id} {k0 : List Id} {e : Env} {s : Sto} : evC C L π k0 c_ratchetbase_Ints_L0 e s = evC C L π k0 b_ratchetbase_Ints_L0 e s := rfl
def c_ratchetbase_Ints : FnIR := ⟨26,
  (.sq (.op 0 [⟨(some 4), none, .mv (.c (.bool false))⟩] none)
  (.sq (.sq (.op 0 [⟨(some 6), none, .mv (.t 0)⟩,
    ⟨(some 7), none, .len false (.t 6)⟩,
    ⟨(some 8), none, .mv (.t 1)⟩,
    ⟨(some 9), none, .len false (.t 8)⟩,
    ⟨(some 10), none, .bin .neq (.t 7) (.t 9)⟩] (some [0, 1, 10]))
  (.cd (.t 10)
   (.sq (.op 0 [⟨(some 4), none, .mv (.c (.bool false))⟩] none)
   .rt)
   .sk))
  (.sq (.sq (.op 0 [⟨(some 5), none, .mv (.c (.int .i64 0))⟩] none)
  (.kp [] [4] (.bk 0 (.lp [] [0, 1, 5] c_ratchetbase_Ints_L0))))
  (.sq (.op 0 [⟨(some 4), none, .mv (.c (.bool true))⟩] none)
  .rt)))),
  [.t 4]⟩
def b_graph_DepthsOf_L1 : IR :=
 (.sq (.op 0 [⟨(some 32), none, .bin .lss (.t 31) (.t 30)⟩] none)
 (.sq (.cd (.t 32)
  .sk
  (.ex 2))
 (.sq (.bk 3 (.sq (.op 0 [⟨(some 33), none, .ia (.t 29) (.t 31) 1⟩,
    ⟨(some 34), none, .ld (.t 33) 1 false⟩,
    ⟨(some 11), none, .mv (.t 34)⟩] none)
  (.op 11 [⟨(some 35), none, .mv (.t 7)⟩,
    ⟨(some 36), none, .mv (.t 8)⟩,
    ⟨(some 37), none, .mv (.t 7)⟩,
    ⟨(some 38), none, .mv (.t 8)⟩,
    ⟨(some 39), none, .ia (.t 37) (.t 38) 1⟩,
    ⟨(some 40), none, .ld (.t 39) 1 false⟩,
    ⟨(some 41), none, .mv (.t 7)⟩,
    ⟨(some 42), none, .mv (.t 11)⟩,
    ⟨(some 43), none, .ia (.t 41) (.t 42) 1⟩,
    ⟨(some 44), none, .ld (.t 43) 1 false⟩,
    ⟨(some 45), none, .bin .add (.t 44) (.c (.int .i64 1))⟩,
    ⟨(some 46), none, .mm true (.t 40) (.t 45)⟩,
    ⟨(some 47), none, .ia (.t 35) (.t 36) 1⟩,
    ⟨none, none, .st (.t 47) (.t 46) 1⟩] (some [7, 8, 21, 22, 23, 29, 30, 31]))))
 (.op 0 [⟨(some 48), none, .bin .add (.t 31) (.c (.int .i64 1))⟩,
   ⟨(some 31), none, .mv (.t 48)⟩] none))))
def c_graph_DepthsOf_L1 : IR := b_graph_DepthsOf_L1
theorem u_graph_DepthsOf_L1 {C : Call} {L : Loop} {π : Id} {k0 : List Id} {e : Env} {s : Sto} : evC C L π k0 c_graph_DepthsOf_L1 e s = evC C L π k0 b_graph_DepthsOf_L1 e s := rfl
def b_graph_DepthsOf_L0 : IR :=
 (.sq (.op 0 [⟨(some 24), none, .bin .lss (.t 23) (.t 22)⟩] none)
 (.sq (.cd (.t 24)
  .sk
  (.ex 0))
 (.sq (.bk 1 (.sq (.op 0 [⟨(some 25), none, .mv (.t 23)⟩,
    ⟨(some 26), none, .ia (.t 21) (.t 23) 4⟩,
    ⟨(some 27), none, .ld (.t 26) 4 true⟩,
    ⟨(some 9), none, .alloc [.int .i64 0, .int .i64 0, .sl 1 (some true) [], .int .i64 0]⟩,
    ⟨(some 8), none, .mv (.t 25)⟩,
    ⟨none, none, .st (.t 9) (.t 27) 4⟩] (some [7, 8, 9, 21, 22, 23]))
  (.sq (.op 0 [⟨(some 28), none, .fa (.t 9) 2⟩,
    ⟨(some 29), none, .ld (.t 28) 1 false⟩,
    ⟨(some 30), none, .len false (.t 29)⟩,
    ⟨(some 31), none, .mv (.c (.int .i64 0))⟩] (some [7, 8, 21, 22, 23, 29, 30, 31]))
  (.kp [7, 21, 22, 23] [4, 5] (.bk 2 (.lp [] [7, 8, 21, 22, 23, 29, 30, 31] c_graph_DepthsOf_L1))))))
 (.op 0 [⟨(some 49), none, .bin .add (.t 23) (.c (.int .i64 1))⟩,
   ⟨(some 23), none, .mv (.t 49)⟩] none))))
def c_graph_DepthsOf_L0 : IR := b_graph_DepthsOf_L0
theorem u_graph_DepthsOf_L0 {C : Call} {L : Loop} {π : Id} {k0 : List Id} {e : Env} {s : Sto} : evC C L π k0 c_graph_DepthsOf_L0 e s = evC C L π k0 b_graph_DepthsOf_L0 e s := rfl
def c_graph_DepthsOf : FnIR := ⟨51,
  (.sq (.op 0 [⟨(some 4), none, .mv (.c (.sl 1 (some true) []))⟩,
    ⟨(some 5), none, .mv (.c (.int .i64 0))⟩] none)
  (.sq (.sq (.op 0 [⟨(some 12), none, .mv (.t 0)⟩,
    ⟨(some 13), none, .mv (.t 1)⟩,
    ⟨(some 14), none, .callV true (.c (.fn n_graph_graphErr [])) [(.t 12), (.t 13)]⟩,
    ⟨(some 6), none, .mv (.t 14)⟩] (some [1, 6]))
  (.sq (.op 0 [⟨(some 15), none, .mv (.t 6)⟩,
    ⟨(some 16), none, .bin .neq (.t 15) (.c (.int .i64 0))⟩] none)
  (.cd (.t 16)
   (.sq (.op 0 [⟨(some 17), none, .mv (.t 6)⟩,
     ⟨(some 4), none, .mv (.c (.sl 1 (some true) []))⟩,
     ⟨(some 5), none, .mv (.t 17)⟩] none)
   .rt)
   .sk)))
  (.sq (.op 0 [⟨(some 18), none, .mv (.t 1)⟩,
    ⟨(some 19), none, .len false (.t 18)⟩,
    ⟨(some 20), none, .mks t_int 1 false [.int .i64 0] (.t 19) (.t 19)⟩,
    ⟨(some 7), none, .mv (.t 20)⟩] (some [1, 7]))
  (.sq (.sq (.op 0 [⟨(some 21), none, .mv (.t 1)⟩,
    ⟨(some 22), none, .len false (.t 21)⟩,
    ⟨(some 23), none, .mv (.c (.int .i64 0))⟩] none)
  (.kp [7] [4, 5] (.bk 0 (.lp [] [7, 21, 22, 23] c_graph_DepthsOf_L0))))
  (.sq (.op 0 [⟨(some 50), none, .mv (.t 7)⟩,
    ⟨(some 4), none, .mv (.t 50)⟩,
    ⟨(some 5), none, .mv (.c (.int .i64 0))⟩] none)
  .rt))))),
  [.t 4, .t 5]⟩
def b_ratchetbase_SameNodes_L0 : IR :=
 (.sq (.sq (.op 0 [⟨(some 11), none, .mv (.t 5)⟩,
   ⟨(some 12), none, .mv (.t 0)⟩,
   ⟨(some 13), none, .len false (.t 12)⟩,
   ⟨(some 14), none, .bin .lss (.t 11) (.t 13)⟩] (some [0, 1, 5, 14]))
 (.cd (.t 14)
  .sk
  (.ex 0)))
 (.sq (.bk 1 (.sq (.op 48 [⟨(some 17), none, .mv (.t 0)⟩,
    ⟨(some 18), none, .mv (.t 5)⟩,
    ⟨(some 19), none, .ia (.t 17) (.t 18) 4⟩,
    ⟨(some 20), none, .fa (.t 19) 0⟩,
    ⟨(some 21), none, .ld (.t 20) 1 false⟩,
    ⟨(some 22), none, .mv (.t 1)⟩,
    ⟨(some 23), none, .mv (.t 5)⟩,
    ⟨(some 24), none, .ia (.t 22) (.t 23) 4⟩,
    ⟨(some 25), none, .fa (.t 24) 0⟩,
    ⟨(some 26), none, .ld (.t 25) 1 false⟩,
    ⟨(some 27), none, .bin .neq (.t 21) (.t 26)⟩,
    ⟨(some 28), none, .mv (.t 27)⟩,
    ⟨(some 29), (some (28, false)), .mv (.t 0)⟩,
    ⟨(some 30), (some (28, false)), .mv (.t 5)⟩,
    ⟨(some 31), (some (28, false)), .ia (.t 29) (.t 30) 4⟩,
    ⟨(some 32), (some (28, false)), .fa (.t 31) 1⟩,
    ⟨(some 33), (some (28, false)), .ld (.t 32) 1 false⟩,
    ⟨(some 34), (some (28, false)), .mv (.t 1)⟩,
    ⟨(some 35), (some (28, false)), .mv (.t 5)⟩,
    ⟨(some 36), (some (28, false)), .ia (.t 34) (.t 35) 4⟩,
    ⟨(some 37), (some (28, false)), .fa (.t 36) 1⟩,
    ⟨(some 38), (some (28, false)), .ld (.t 37) 1 false⟩,
    ⟨(some 39), (some (28, false)), .bin .neq (.t 33) (.t 38)⟩,
    ⟨(some 40), none, .pick (.t 28) (.c (.bool true)) (.t 39)⟩,
    ⟨(some 41), none, .mv (.t 40)⟩,
    ⟨(some 42), (some (41, false)), .mv (.t 0)⟩,
    ⟨(some 43), (some (41, false)), .mv (.t 5)⟩,
    ⟨(some 44), (some (41, false)), .ia (.t 42) (.t 43) 4⟩,
    ⟨(some 45), (some (41, false)), .fa (.t 44) 3⟩,
    ⟨(some 46), (some (41, false)), .ld (.t 45) 1 false⟩,
    ⟨(some 47), (some (41, false)), .mv (.t 1)⟩,
    ⟨(some 48), (some (41, false)), .mv (.t 5)⟩,
    ⟨(some 49), (some (41, false)), .ia (.t 47) (.t 48) 4⟩,
    ⟨(some 50), (some (41, false)), .fa (.t 49) 3⟩,
    ⟨(some 51), (some (41, false)), .ld (.t 50) 1 false⟩,
    ⟨(some 52), (some (41, false)), .bin .neq (.t 46) (.t 51)⟩,
    ⟨(some 53), none, .pick (.t 41) (.c (.bool true)) (.t 52)⟩,
    ⟨(some 54), none, .mv (.t 53)⟩,
    ⟨(some 55), (some (54, false)), .mv (.t 0)⟩,
    ⟨(some 56), (some (54, false)), .mv (.t 5)⟩,
    ⟨(some 57), (some (54, false)), .ia (.t 55) (.t 56) 4⟩,
    ⟨(some 58), (some (54, false)), .fa (.t 57) 2⟩,
    ⟨(some 59), (some (54, false)), .ld (.t 58) 1 false⟩,
    ⟨(some 60), (some (54, false)), .mv (.t 1)⟩,
    ⟨(some 61), (some (54, false)), .mv (.t 5)⟩,
    ⟨(some 62), (some (54, false)), .ia (.t 60) (.t 61) 4⟩,
    ⟨(some 63), (some (54, false)), .fa (.t 62) 2⟩,
    ⟨(some 64), (some (54, false)), .ld (.t 63) 1 false⟩,
    ⟨(some 65), (some (54, false)), .callV true (.c (.fn n_ratchetbase_Ints [])) [(.t 59), (.t 64)]⟩,
    ⟨(some 66), (some (54, false)), .un .not (.t 65)⟩,
    ⟨(some 67), none, .pick (.t 54) (.c (.bool true)) (.t 66)⟩] (some [0, 1, 5, 67]))
  (.cd (.t 67)
   (.sq (.op 0 [⟨(some 4), none, .mv (.c (.bool false))⟩] none)
   .rt)
   .sk)))
 (.op 0 [⟨(some 15), none, .mv (.t 5)⟩,
   ⟨(some 16), none, .bin .add (.t 15) (.c (.int .i64 1))⟩,
   ⟨(some 5), none, .mv (.t 16)⟩] none)))
def c_ratchetbase_SameNodes_L0 : IR := b_ratchetbase_SameNodes_L0
theorem u_ratchetbase_SameNodes_L0 {C : Call} {L : Loop} {π : Id} {k0 : List Id} {e : Env} {s : Sto} : evC C L π k0 c_ratchetbase_SameNodes_L0 e s = evC C L π k0 b_ratchetbase_SameNodes_L0 e s := rfl
def c_ratchetbase_SameNodes : FnIR := ⟨68,
  (.sq (.op 0 [⟨(some 4), none, .mv (.c (.bool false))⟩] none)
  (.sq (.sq (.op 0 [⟨(some 6), none, .mv (.t 0)⟩,
    ⟨(some 7), none, .len false (.t 6)⟩,
    ⟨(some 8), none, .mv (.t 1)⟩,
    ⟨(some 9), none, .len false (.t 8)⟩,
    ⟨(some 10), none, .bin .neq (.t 7) (.t 9)⟩] (some [0, 1, 10]))
  (.cd (.t 10)
   (.sq (.op 0 [⟨(some 4), none, .mv (.c (.bool false))⟩] none)
   .rt)
   .sk))
  (.sq (.sq (.op 0 [⟨(some 5), none, .mv (.c (.int .i64 0))⟩] none)
  (.kp [] [4] (.bk 0 (.lp [] [0, 1, 5] c_ratchetbase_SameNodes_L0))))
  (.sq (.op 0 [⟨(some 4), none, .mv (.c (.bool true))⟩] none)
  .rt)))),
  [.t 4]⟩
def c_ratchetbase_Within : FnIR := ⟨15,
  (.sq (.op 0 [⟨(some 6), none, .mv (.c (.bool false))⟩] none)
  (.sq (.op 0 [⟨(some 7), none, .mv (.t 1)⟩,
    ⟨(some 8), none, .mv (.t 0)⟩,
    ⟨(some 9), none, .bin .leq (.t 7) (.t 8)⟩,
    ⟨(some 10), none, .mv (.t 9)⟩,
    ⟨(some 11), (some (10, true)), .mv (.t 0)⟩,
    ⟨(some 12), (some (10, true)), .mv (.t 2)⟩,
    ⟨(some 13), (some (10, true)), .bin .leq (.t 11) (.t 12)⟩,
    ⟨(some 14), none, .pick (.t 10) (.t 13) (.c (.bool false))⟩,
    ⟨(some 6), none, .mv (.t 14)⟩] (some [6]))
  .rt)),
  [.t 6]⟩
def c_ratchetbase_Fits : FnIR := ⟨10,
  (.sq (.op 0 [⟨(some 4), none, .mv (.c (.bool false))⟩] none)
  (.sq (.op 0 [⟨(some 5), none, .mv (.t 0)⟩,
    ⟨(some 6), none, .mv (.t 1)⟩,
    ⟨(some 7), none, .callV true (.c (.fn n_ratchetbase_Power [])) [(.t 6)]⟩,
    ⟨(some 8), none, .bin .sub (.t 7) (.c (.int .i64 1))⟩,
    ⟨(some 9), none, .callV true (.c (.fn n_ratchetbase_Within [])) [(.t 5), (.c (.int .i64 0)), (.t 8)]⟩,
    ⟨(some 4), none, .mv (.t 9)⟩] (some [4]))
  .rt)),
  [.t 4]⟩
def b_graph_SharedOf_L0 : IR :=
 (.sq (.op 0 [⟨(some 27), none, .bin .lss (.t 26) (.t 25)⟩] none)
 (.sq (.cd (.t 27)
  .sk
  (.ex 0))
 (.sq (.bk 1 (.sq (.op 0 [⟨(some 28), none, .ia (.t 24) (.t 26) 4⟩,
    ⟨(some 29), none, .ld (.t 28) 4 true⟩,
    ⟨(some 12), none, .alloc [.int .i64 0, .int .i64 0, .sl 1 (some true) [], .int .i64 0]⟩,
    ⟨none, none, .st (.t 12) (.t 29) 4⟩] (some [8, 9, 10, 12, 24, 25, 26]))
  (.sq (.op 5 [⟨(some 30), none, .ld (.t 12) 4 true⟩,
    ⟨(some 31), none, .mv (.t 10)⟩,
    ⟨(some 32), none, .mkc n_graph_mapped n_graph_mapped_1 (.t 31)⟩,
    ⟨(some 33), none, .callV true (.c (.fn n_graph_moved [])) [(.t 30), (.t 32)]⟩,
    ⟨(some 13), none, .alloc [.int .i64 0, .int .i64 0, .sl 1 (some true) [], .int .i64 0]⟩,
    ⟨none, none, .st (.t 13) (.t 33) 4⟩] (some [8, 9, 10, 13, 24, 25, 26]))
  (.sq (.op 0 [⟨(some 34), none, .fa (.t 13) 0⟩,
    ⟨(some 35), none, .ld (.t 34) 1 false⟩,
    ⟨(some 36), none, .fa (.t 13) 1⟩,
    ⟨(some 37), none, .ld (.t 36) 1 false⟩,
    ⟨(some 38), none, .fa (.t 13) 3⟩,
    ⟨(some 39), none, .ld (.t 38) 1 false⟩,
    ⟨(some 40), none, .build [.int .i64 0, .int .i64 0, .int .i64 0, .int .i64 0, .int .i64 0, .int .i64 0] [(0, 1, (.t 35)), (1, 1, (.t 37)), (2, 1, (.t 39))]⟩,
    ⟨(some 14), none, .alloc [.int .i64 0, .int .i64 0, .int .i64 0, .int .i64 0, .int .i64 0, .int .i64 0]⟩,
    ⟨none, none, .st (.t 14) (.t 40) 6⟩] (some [8, 9, 10, 13, 14, 24, 25, 26]))
  (.sq (.op 4 [⟨(some 41), none, .fa (.t 14) 3⟩,
    ⟨(some 42), none, .slb (.t 41) 3⟩,
    ⟨(some 43), none, .fa (.t 13) 2⟩,
    ⟨(some 44), none, .ld (.t 43) 1 false⟩,
    ⟨(some 45), none, .cpb (.t 42) (.t 44)⟩] (some [8, 9, 10, 13, 14, 24, 25, 26]))
  (.sq (.op 0 [⟨(some 47), none, .mv (.t 8)⟩,
    ⟨(some 48), none, .ld (.t 14) 6 true⟩,
    ⟨(some 49), none, .lkp (.t 47) (.t 48) (.agg [.int .i64 0, .int .i64 0, .int .i64 0, .int .i64 0, .int .i64 0, .int .i64 0]) (.int .i64 0) true⟩,
    ⟨(some 46), none, .mv (.t 49)⟩,
    ⟨(some 50), none, .ext (.t 46) 0⟩,
    ⟨(some 51), none, .ext (.t 46) 1⟩,
    ⟨(some 15), none, .mv (.t 50)⟩,
    ⟨(some 16), none, .mv (.t 51)⟩] (some [8, 9, 10, 13, 14, 15, 16, 24, 25, 26]))
  (.sq (.sq (.op 0 [⟨(some 52), none, .mv (.t 16)⟩,
    ⟨(some 53), none, .un .not (.t 52)⟩] none)
  (.cd (.t 53)
   (.sq (.op 0 [⟨(some 54), none, .mv (.t 9)⟩,
     ⟨(some 55), none, .len false (.t 54)⟩,
     ⟨(some 15), none, .mv (.t 55)⟩] none)
   (.sq (.op 0 [⟨(some 56), none, .mv (.t 8)⟩,
     ⟨(some 57), none, .ld (.t 14) 6 true⟩,
     ⟨(some 58), none, .mv (.t 15)⟩,
     ⟨none, none, .mpu (.t 56) (.t 57) (.t 58) (.agg [.int .i64 0, .int .i64 0, .int .i64 0, .int .i64 0, .int .i64 0, .int .i64 0])⟩] (some [8, 9, 10, 13, 15, 24, 25, 26]))
   (.op 0 [⟨(some 59), none, .mv (.t 9)⟩,
     ⟨(some 60), none, .ld (.t 13) 4 true⟩,
     ⟨(some 61), none, .bsl t_api_Node 4 true [.int .i64 0, .int .i64 0, .sl 1 (some true) [], .int .i64 0] 1 [(0, (.t 60))]⟩,
     ⟨(some 62), none, .app (.t 59) (.t 61) t_api_Node 4⟩,
     ⟨(some 9), none, .mv (.t 62)⟩] (some [8, 9, 10, 15, 24, 25, 26]))))
   .sk))
  (.op 0 [⟨(some 63), none, .mv (.t 10)⟩,
    ⟨(some 64), none, .mv (.t 15)⟩,
    ⟨(some 65), none, .bsl t_int 1 false [.int .i64 0] 1 [(0, (.t 64))]⟩,
    ⟨(some 66), none, .app (.t 63) (.t 65) t_int 1⟩,
    ⟨(some 10), none, .mv (.t 66)⟩] (some [8, 9, 10, 24, 25, 26])))))))))
 (.op 0 [⟨(some 67), none, .bin .add (.t 26) (.c (.int .i64 1))⟩,
   ⟨(some 26), none, .mv (.t 67)⟩] none))))
def c_graph_SharedOf_L0 : IR := b_graph_SharedOf_L0
theorem u_graph_SharedOf_L0 {C : Call} {L : Loop} {π : Id} {k0 : List Id} {e : Env} {s : Sto} : evC C L π k0 c_graph_SharedOf_L0 e s = evC C L π k0 b_graph_SharedOf_L0 e s := rfl
def c_graph_SharedOf : FnIR := ⟨70,
  (.sq (.op 0 [⟨(some 4), none, .mv (.c (.sl 4 (some true) []))⟩,
    ⟨(some 5), none, .mv (.c (.sl 1 (some true) []))⟩,
    ⟨(some 6), none, .mv (.c (.int .i64 0))⟩] none)
  (.sq (.sq (.op 0 [⟨(some 17), none, .mv (.t 0)⟩,
    ⟨(some 18), none, .mv (.t 1)⟩,
    ⟨(some 19), none, .callV true (.c (.fn n_graph_graphErr [])) [(.t 17), (.t 18)]⟩,
    ⟨(some 7), none, .mv (.t 19)⟩] (some [1, 7]))
  (.sq (.op 0 [⟨(some 20), none, .mv (.t 7)⟩,
    ⟨(some 21), none, .bin .neq (.t 20) (.c (.int .i64 0))⟩] none)
  (.cd (.t 21)
   (.sq (.op 0 [⟨(some 22), none, .mv (.t 7)⟩,
     ⟨(some 4), none, .mv (.c (.sl 4 (some true) []))⟩,
     ⟨(some 5), none, .mv (.c (.sl 1 (some true) []))⟩,
     ⟨(some 6), none, .mv (.t 22)⟩] (some [4, 5, 6]))
   .rt)
   .sk)))
  (.sq (.op 0 [⟨(some 23), none, .mkp⟩,
    ⟨(some 8), none, .mv (.t 23)⟩] none)
  (.sq (.op 0 [⟨(some 9), none, .mv (.c (.sl 4 (some true) []))⟩] none)
  (.sq (.op 0 [⟨(some 10), none, .mv (.c (.sl 1 (some true) []))⟩] none)
  (.sq (.sq (.op 0 [⟨(some 24), none, .mv (.t 1)⟩,
    ⟨(some 25), none, .len false (.t 24)⟩,
    ⟨(some 26), none, .mv (.c (.int .i64 0))⟩] none)
  (.kp [9, 10] [4, 5, 6] (.bk 0 (.lp [(t_api_Node, .inl 9), (t_int, .inl 10)] [8, 9, 10, 24, 25, 26] c_graph_SharedOf_L0))))
  (.sq (.op 0 [⟨(some 68), none, .mv (.t 9)⟩,
    ⟨(some 69), none, .mv (.t 10)⟩,
    ⟨(some 4), none, .mv (.t 68)⟩,
    ⟨(some 5), none, .mv (.t 69)⟩,
    ⟨(some 6), none, .mv (.c (.int .i64 0))⟩] (some [4, 5, 6]))
  .rt))))))),
  [.t 4, .t 5, .t 6]⟩
def b_graph_FoldedOf_L0 : IR :=
 (.sq (.op 0 [⟨(some 24), none, .bin .lss (.t 23) (.t 22)⟩] none)
 (.sq (.cd (.t 24)
  .sk
  (.ex 0))
 (.sq (.bk 1 (.sq (.op 0 [⟨(some 25), none, .ia (.t 21) (.t 23) 4⟩,
    ⟨(some 26), none, .ld (.t 25) 4 true⟩,
    ⟨(some 11), none, .alloc [.int .i64 0, .int .i64 0, .sl 1 (some true) [], .int .i64 0]⟩,
    ⟨none, none, .st (.t 11) (.t 26) 4⟩] (some [1, 7, 8, 9, 11, 21, 22, 23]))
  (.sq (.op 0 [⟨(some 27), none, .ld (.t 11) 4 true⟩,
    ⟨(some 28), none, .callV true (.c (.fn n_graph_moved [])) [(.t 27), (.c (.fn n_graph_FoldedOf_1 []))]⟩,
    ⟨(some 12), none, .alloc [.int .i64 0, .int .i64 0, .sl 1 (some true) [], .int .i64 0]⟩,
    ⟨none, none, .st (.t 12) (.t 28) 4⟩] (some [1, 7, 8, 9, 11, 12, 21, 22, 23]))
  (.sq (.op 0 [⟨(some 29), none, .fa (.t 11) 2⟩,
    ⟨(some 30), none, .ld (.t 29) 1 false⟩,
    ⟨(some 31), none, .mkf n_graph_FoldedOf_2 [(.t 8)]⟩,
    ⟨(some 32), none, .callV true (.c (.fn n_slices_ContainsFunc_int_int [])) [(.t 30), (.t 31)]⟩,
    ⟨(some 13), none, .mv (.t 32)⟩] (some [1, 7, 8, 9, 11, 12, 13, 21, 22, 23]))
  (.sq (.sq (.op 0 [⟨(some 33), none, .fa (.t 11) 2⟩,
    ⟨(some 34), none, .ld (.t 33) 1 false⟩,
    ⟨(some 35), none, .len false (.t 34)⟩,
    ⟨(some 36), none, .bin .gtr (.t 35) (.c (.int .i64 0))⟩,
    ⟨(some 37), none, .mv (.t 36)⟩,
    ⟨(some 38), (some (37, true)), .mv (.t 13)⟩,
    ⟨(some 39), (some (37, true)), .un .not (.t 38)⟩,
    ⟨(some 40), none, .pick (.t 37) (.t 39) (.c (.bool false))⟩] (some [1, 7, 8, 9, 11, 12, 21, 22, 23, 40]))
  (.cd (.t 40)
   (.fz [1] (.op 6 [⟨(some 41), none, .fa (.t 11) 1⟩,
     ⟨(some 42), none, .ld (.t 41) 1 false⟩,
     ⟨(some 43), none, .mv (.t 1)⟩,
     ⟨(some 44), none, .ld (.t 11) 4 true⟩,
     ⟨(some 45), none, .mv (.t 9)⟩,
     ⟨(some 46), none, .callV true (.c (.fn n_graph_applied [])) [(.t 7), (.t 43), (.t 44), (.t 45)]⟩,
     ⟨(some 47), none, .callV false (.c (.fn n_graph_constant [])) [(.t 42), (.t 46)]⟩,
     ⟨none, none, .st (.t 12) (.t 47) 4⟩] (some [1, 7, 8, 9, 12, 21, 22, 23])))
   .sk))
  (.op 8 [⟨(some 48), none, .ld (.t 8) 1 false⟩,
    ⟨(some 49), none, .ld (.t 12) 4 true⟩,
    ⟨(some 50), none, .bsl t_api_Node 4 true [.int .i64 0, .int .i64 0, .sl 1 (some true) [], .int .i64 0] 1 [(0, (.t 49))]⟩,
    ⟨(some 51), none, .apx (.t 48) (.t 50) t_api_Node 4 [0, 1, 2]⟩,
    ⟨(some 52), none, .mv (.t 9)⟩,
    ⟨(some 53), none, .fa (.t 12) 3⟩,
    ⟨(some 54), none, .ld (.t 53) 1 false⟩,
    ⟨(some 55), none, .bsl t_int 1 false [.int .i64 0] 1 [(0, (.t 54))]⟩,
    ⟨(some 56), none, .app (.t 52) (.t 55) t_int 1⟩,
    ⟨none, none, .st (.t 8) (.t 51) 1⟩,
    ⟨(some 9), none, .mv (.t 56)⟩] (some [1, 7, 8, 9, 21, 22, 23])))))))
 (.op 0 [⟨(some 57), none, .bin .add (.t 23) (.c (.int .i64 1))⟩,
   ⟨(some 23), none, .mv (.t 57)⟩] none))))
def c_graph_FoldedOf_L0 : IR := b_graph_FoldedOf_L0
theorem u_graph_FoldedOf_L0 {C : Call} {L : Loop} {π : Id} {k0 : List Id} {e : Env} {s : Sto} : evC C L π k0 c_graph_FoldedOf_L0 e s = evC C L π k0 b_graph_FoldedOf_L0 e s := rfl
def c_graph_FoldedOf : FnIR := ⟨59,
  (.sq (.op 0 [⟨(some 4), none, .mv (.c (.sl 4 (some true) []))⟩,
    ⟨(some 5), none, .mv (.c (.int .i64 0))⟩] none)
  (.sq (.sq (.op 0 [⟨(some 14), none, .mv (.t 0)⟩,
    ⟨(some 15), none, .mv (.t 1)⟩,
    ⟨(some 16), none, .callV true (.c (.fn n_graph_graphErr [])) [(.t 14), (.t 15)]⟩,
    ⟨(some 6), none, .mv (.t 16)⟩] (some [1, 6]))
  (.sq (.op 0 [⟨(some 17), none, .mv (.t 6)⟩,
    ⟨(some 18), none, .bin .neq (.t 17) (.c (.int .i64 0))⟩] none)
  (.cd (.t 18)
   (.sq (.op 0 [⟨(some 19), none, .mv (.t 6)⟩,
     ⟨(some 4), none, .mv (.c (.sl 4 (some true) []))⟩,
     ⟨(some 5), none, .mv (.t 19)⟩] none)
   .rt)
   .sk)))
  (.sq (.op 0 [⟨(some 20), none, .callV true (.c (.fn n_graph_operations [])) []⟩,
    ⟨(some 7), none, .alloc [.str ⟨#[]⟩, .int .i64 0, .bool false, .nilf, .nilf, .str ⟨#[]⟩, .int .i64 0, .bool false, .nilf, .nilf, .str ⟨#[]⟩, .int .i64 0, .bool false, .nilf, .nilf, .str ⟨#[]⟩, .int .i64 0, .bool false, .nilf, .nilf, .str ⟨#[]⟩, .int .i64 0, .bool false, .nilf, .nilf, .str ⟨#[]⟩, .int .i64 0, .bool false, .nilf, .nilf, .str ⟨#[]⟩, .int .i64 0, .bool false, .nilf, .nilf, .str ⟨#[]⟩, .int .i64 0, .bool false, .nilf, .nilf, .str ⟨#[]⟩, .int .i64 0, .bool false, .nilf, .nilf, .str ⟨#[]⟩, .int .i64 0, .bool false, .nilf, .nilf, .str ⟨#[]⟩, .int .i64 0, .bool false, .nilf, .nilf, .str ⟨#[]⟩, .int .i64 0, .bool false, .nilf, .nilf, .str ⟨#[]⟩, .int .i64 0, .bool false, .nilf, .nilf, .str ⟨#[]⟩, .int .i64 0, .bool false, .nilf, .nilf, .str ⟨#[]⟩, .int .i64 0, .bool false, .nilf, .nilf, .str ⟨#[]⟩, .int .i64 0, .bool false, .nilf, .nilf, .str ⟨#[]⟩, .int .i64 0, .bool false, .nilf, .nilf, .str ⟨#[]⟩, .int .i64 0, .bool false, .nilf, .nilf, .str ⟨#[]⟩, .int .i64 0, .bool false, .nilf, .nilf]⟩,
    ⟨none, none, .st (.t 7) (.t 20) 95⟩] none)
  (.sq (.op 0 [⟨(some 8), none, .alloc [.sl 4 (some true) []]⟩] none)
  (.sq (.op 0 [⟨(some 9), none, .mv (.c (.sl 1 (some true) []))⟩] none)
  (.sq (.sq (.op 0 [⟨(some 21), none, .mv (.t 1)⟩,
    ⟨(some 22), none, .len false (.t 21)⟩,
    ⟨(some 23), none, .mv (.c (.int .i64 0))⟩] none)
  (.kp [8] [4, 5] (.bk 0 (.lp [(t_api_Node, .inr (8, 0)), (t_int, .inl 9)] [1, 7, 8, 9, 21, 22, 23] c_graph_FoldedOf_L0))))
  (.sq (.op 0 [⟨(some 58), none, .ld (.t 8) 1 false⟩,
    ⟨(some 4), none, .mv (.t 58)⟩,
    ⟨(some 5), none, .mv (.c (.int .i64 0))⟩] none)
  .rt))))))),
  [.t 4, .t 5]⟩
def b_graph_ConeOf_L0 : IR :=
 (.sq (.op 0 [⟨(some 32), none, .bin .lss (.t 31) (.t 30)⟩] none)
 (.sq (.cd (.t 32)
  .sk
  (.ex 0))
 (.sq (.bk 1 (.sq (.op 0 [⟨(some 33), none, .mv (.t 31)⟩,
    ⟨(some 34), none, .ia (.t 29) (.t 31) 1⟩,
    ⟨(some 35), none, .ld (.t 34) 1 false⟩,
    ⟨(some 12), none, .mv (.t 33)⟩,
    ⟨(some 13), none, .mv (.t 35)⟩] (some [1, 2, 10, 11, 12, 13, 29, 30, 31]))
  (.sq (.op 0 [⟨(some 36), none, .mv (.t 13)⟩] none)
  (.cd (.t 36)
   (.sq (.op 0 [⟨(some 37), none, .mv (.t 10)⟩,
     ⟨(some 38), none, .mv (.t 12)⟩,
     ⟨(some 39), none, .mv (.t 11)⟩,
     ⟨(some 40), none, .len false (.t 39)⟩,
     ⟨(some 41), none, .ia (.t 37) (.t 38) 1⟩,
     ⟨none, none, .st (.t 41) (.t 40) 1⟩] (some [1, 2, 10, 11, 12, 29, 30, 31]))
   (.op 7 [⟨(some 42), none, .mv (.t 11)⟩,
     ⟨(some 43), none, .mv (.t 1)⟩,
     ⟨(some 44), none, .mv (.t 12)⟩,
     ⟨(some 45), none, .ia (.t 43) (.t 44) 4⟩,
     ⟨(some 46), none, .ld (.t 45) 4 true⟩,
     ⟨(some 47), none, .mv (.t 10)⟩,
     ⟨(some 48), none, .mkc n_graph_mapped n_graph_mapped_1 (.t 47)⟩,
     ⟨(some 49), none, .callV true (.c (.fn n_graph_moved [])) [(.t 46), (.t 48)]⟩,
     ⟨(some 50), none, .bsl t_api_Node 4 true [.int .i64 0, .int .i64 0, .sl 1 (some true) [], .int .i64 0] 1 [(0, (.t 49))]⟩,
     ⟨(some 51), none, .app (.t 42) (.t 50) t_api_Node 4⟩,
     ⟨(some 11), none, .mv (.t 51)⟩] (some [1, 2, 10, 11, 29, 30, 31])))
   .sk))))
 (.op 0 [⟨(some 52), none, .bin .add (.t 31) (.c (.int .i64 1))⟩,
   ⟨(some 31), none, .mv (.t 52)⟩] none))))
def c_graph_ConeOf_L0 : IR := b_graph_ConeOf_L0
theorem u_graph_ConeOf_L0 {C : Call} {L : Loop} {π : Id} {k0 : List Id} {e : Env} {s : Sto} : evC C L π k0 c_graph_ConeOf_L0 e s = evC C L π k0 b_graph_ConeOf_L0 e s := rfl
def b_graph_ConeOf_L1 : IR :=
 (.sq (.op 0 [⟨(some 56), none, .bin .lss (.t 55) (.t 54)⟩] none)
 (.sq (.cd (.t 56)
  .sk
  (.ex 2))
 (.sq (.bk 3 (.sq (.op 0 [⟨(some 57), none, .ia (.t 53) (.t 55) 1⟩,
    ⟨(some 58), none, .ld (.t 57) 1 false⟩,
    ⟨(some 16), none, .mv (.t 58)⟩] none)
  (.op 0 [⟨(some 59), none, .mv (.t 14)⟩,
    ⟨(some 60), none, .mv (.t 10)⟩,
    ⟨(some 61), none, .mv (.t 16)⟩,
    ⟨(some 62), none, .ia (.t 60) (.t 61) 1⟩,
    ⟨(some 63), none, .ld (.t 62) 1 false⟩,
    ⟨(some 64), none, .bsl t_int 1 false [.int .i64 0] 1 [(0, (.t 63))]⟩,
    ⟨(some 65), none, .app (.t 59) (.t 64) t_int 1⟩,
    ⟨(some 14), none, .mv (.t 65)⟩] (some [10, 11, 14, 53, 54, 55]))))
 (.op 0 [⟨(some 66), none, .bin .add (.t 55) (.c (.int .i64 1))⟩,
   ⟨(some 55), none, .mv (.t 66)⟩] none))))
def c_graph_ConeOf_L1 : IR := b_graph_ConeOf_L1
theorem u_graph_ConeOf_L1 {C : Call} {L : Loop} {π : Id} {k0 : List Id} {e : Env} {s : Sto} : evC C L π k0 c_graph_ConeOf_L1 e s = evC C L π k0 b_graph_ConeOf_L1 e s := rfl
def c_graph_ConeOf : FnIR := ⟨69,
  (.sq (.op 0 [⟨(some 6), none, .mv (.c (.sl 4 (some true) []))⟩,
    ⟨(some 7), none, .mv (.c (.sl 1 (some true) []))⟩,
    ⟨(some 8), none, .mv (.c (.int .i64 0))⟩] none)
  (.sq (.sq (.op 0 [⟨(some 17), none, .mv (.t 0)⟩,
    ⟨(some 18), none, .mv (.t 1)⟩,
    ⟨(some 19), none, .mv (.t 2)⟩,
    ⟨(some 20), none, .callV true (.c (.fn n_graph_namedErr [])) [(.t 17), (.t 18), (.t 19)]⟩,
    ⟨(some 9), none, .mv (.t 20)⟩] (some [1, 2, 9]))
  (.sq (.op 0 [⟨(some 21), none, .mv (.t 9)⟩,
    ⟨(some 22), none, .bin .neq (.t 21) (.c (.int .i64 0))⟩] none)
  (.cd (.t 22)
   (.sq (.op 0 [⟨(some 23), none, .mv (.t 9)⟩,
     ⟨(some 6), none, .mv (.c (.sl 4 (some true) []))⟩,
     ⟨(some 7), none, .mv (.c (.sl 1 (some true) []))⟩,
     ⟨(some 8), none, .mv (.t 23)⟩] (some [6, 7, 8]))
   .rt)
   .sk)))
  (.sq (.op 0 [⟨(some 24), none, .mv (.t 1)⟩,
    ⟨(some 25), none, .len false (.t 24)⟩,
    ⟨(some 26), none, .mks t_int 1 false [.int .i64 0] (.t 25) (.t 25)⟩,
    ⟨(some 10), none, .mv (.t 26)⟩] (some [1, 2, 10]))
  (.sq (.op 0 [⟨(some 11), none, .mv (.c (.sl 4 (some true) []))⟩] none)
  (.sq (.sq (.op 0 [⟨(some 27), none, .mv (.t 1)⟩,
    ⟨(some 28), none, .mv (.t 2)⟩,
    ⟨(some 29), none, .callV false (.c (.fn n_graph_below [])) [(.t 27), (.t 28)]⟩,
    ⟨(some 30), none, .len false (.t 29)⟩,
    ⟨(some 31), none, .mv (.c (.int .i64 0))⟩] (some [1, 2, 10, 11, 29, 30, 31]))
  (.kp [2, 10, 11] [6, 7, 8] (.bk 0 (.lp [(t_api_Node, .inl 11)] [1, 2, 10, 11, 29, 30, 31] c_graph_ConeOf_L0))))
  (.sq (.op 0 [⟨(some 14), none, .mv (.c (.sl 1 (some true) []))⟩] none)
  (.sq (.sq (.op 0 [⟨(some 53), none, .mv (.t 2)⟩,
    ⟨(some 54), none, .len false (.t 53)⟩,
    ⟨(some 55), none, .mv (.c (.int .i64 0))⟩] none)
  (.kp [11, 14] [6, 7, 8] (.bk 2 (.lp [(t_int, .inl 14)] [10, 11, 14, 53, 54, 55] c_graph_ConeOf_L1))))
  (.sq (.op 0 [⟨(some 67), none, .mv (.t 11)⟩,
    ⟨(some 68), none, .mv (.t 14)⟩,
    ⟨(some 6), none, .mv (.t 67)⟩,
    ⟨(some 7), none, .mv (.t 68)⟩,
    ⟨(some 8), none, .mv (.c (.int .i64 0))⟩] (some [6, 7, 8]))
  .rt)))))))),
  [.t 6, .t 7, .t 8]⟩
def b_ratchetref02_Shared_L1 : IR :=
 (.sq (.sq (.op 12 [⟨(some 24), none, .mv (.t 8)⟩,
   ⟨(some 25), none, .mv (.t 4)⟩,
   ⟨(some 26), none, .len false (.t 25)⟩,
   ⟨(some 27), none, .bin .lss (.t 24) (.t 26)⟩,
   ⟨(some 28), none, .mv (.t 27)⟩,
   ⟨(some 29), (some (28, true)), .mvl (.t 4)⟩,
   ⟨(some 30), (some (28, true)), .mv (.t 8)⟩,
   ⟨(some 31), (some (28, true)), .mv (.t 8)⟩,
   ⟨(some 32), (some (28, true)), .bin .add (.t 31) (.c (.int .i64 1))⟩,
   ⟨(some 33), (some (28, true)), .slc false (.t 29) (some (.t 30)) (some (.t 32)) 4⟩,
   ⟨(some 34), (some (28, true)), .ld (.t 7) 4 true⟩,
   ⟨(some 35), (some (28, true)), .bsl t_api_Node 4 true [.int .i64 0, .int .i64 0, .sl 1 (some true) [], .int .i64 0] 1 [(0, (.t 34))]⟩,
   ⟨(some 36), (some (28, true)), .callV true (.c (.fn n_ratchetbase_SameNodes [])) [(.t 33), (.t 35)]⟩,
   ⟨(some 37), (some (28, true)), .un .not (.t 36)⟩,
   ⟨(some 38), none, .pick (.t 28) (.t 37) (.c (.bool false))⟩] (some [0, 4, 5, 6, 7, 8, 38]))
 (.cd (.t 38)
  .sk
  (.ex 2)))
 (.bk 3 (.op 0 [⟨(some 39), none, .mv (.t 8)⟩,
    ⟨(some 40), none, .bin .add (.t 39) (.c (.int .i64 1))⟩,
    ⟨(some 8), none, .mv (.t 40)⟩] none)))
def c_ratchetref02_Shared_L1 : IR := b_ratchetref02_Shared_L1
theorem u_ratchetref02_Shared_L1 {C : Call} {L : Loop} {π : Id} {k0 : List Id} {e : Env} {s : Sto} : evC C L π k0 c_ratchetref02_Shared_L1 e s = evC C L π k0 b_ratchetref02_Shared_L1 e s := rfl
def b_ratchetref02_Shared_L0 : IR :=
 (.sq (.sq (.op 0 [⟨(some 12), none, .mv (.t 6)⟩,
   ⟨(some 13), none, .mv (.t 0)⟩,
   ⟨(some 14), none, .len false (.t 13)⟩,
   ⟨(some 15), none, .bin .lss (.t 12) (.t 14)⟩] (some [0, 4, 5, 6, 15]))
 (.cd (.t 15)
  .sk
  (.ex 0)))
 (.sq (.bk 1 (.sq (.op 0 [⟨(some 18), none, .mv (.t 0)⟩,
    ⟨(some 19), none, .mv (.t 6)⟩,
    ⟨(some 20), none, .ia (.t 18) (.t 19) 4⟩,
    ⟨(some 21), none, .ld (.t 20) 4 true⟩,
    ⟨(some 22), none, .mv (.t 5)⟩,
    ⟨(some 23), none, .callV true (.c (.fn n_ratchetref02_moved [])) [(.t 21), (.t 22)]⟩,
    ⟨(some 7), none, .alloc [.int .i64 0, .int .i64 0, .sl 1 (some true) [], .int .i64 0]⟩,
    ⟨none, none, .st (.t 7) (.t 23) 4⟩] (some [0, 4, 5, 6, 7]))
  (.sq (.op 0 [⟨(some 8), none, .mv (.c (.int .i64 0))⟩] none)
  (.sq (.fz [7] (.fk [4] (.kp [0, 4, 5, 6, 7, 8] [2, 3] (.bk 2 (.lp [] [0, 4, 5, 6, 7, 8] c_ratchetref02_Shared_L1)))))
  (.sq (.sq (.op 0 [⟨(some 41), none, .mv (.t 8)⟩,
    ⟨(some 42), none, .mv (.t 4)⟩,
    ⟨(some 43), none, .len false (.t 42)⟩,
    ⟨(some 44), none, .bin .eql (.t 41) (.t 43)⟩] (some [0, 4, 5, 6, 7, 8, 44]))
  (.cd (.t 44)
   (.op 0 [⟨(some 45), none, .mv (.t 4)⟩,
     ⟨(some 46), none, .ld (.t 7) 4 true⟩,
     ⟨(some 47), none, .bsl t_api_Node 4 true [.int .i64 0, .int .i64 0, .sl 1 (some true) [], .int .i64 0] 1 [(0, (.t 46))]⟩,
     ⟨(some 48), none, .app (.t 45) (.t 47) t_api_Node 4⟩,
     ⟨(some 4), none, .mv (.t 48)⟩] (some [0, 4, 5, 6, 8]))
   .sk))
  (.op 0 [⟨(some 49), none, .mv (.t 5)⟩,
    ⟨(some 50), none, .mv (.t 6)⟩,
    ⟨(some 51), none, .mv (.t 8)⟩,
    ⟨(some 52), none, .ia (.t 49) (.t 50) 1⟩,
    ⟨none, none, .st (.t 52) (.t 51) 1⟩] (some [0, 4, 5, 6])))))))
 (.op 0 [⟨(some 16), none, .mv (.t 6)⟩,
   ⟨(some 17), none, .bin .add (.t 16) (.c (.int .i64 1))⟩,
   ⟨(some 6), none, .mv (.t 17)⟩] none)))
def c_ratchetref02_Shared_L0 : IR := b_ratchetref02_Shared_L0
theorem u_ratchetref02_Shared_L0 {C : Call} {L : Loop} {π : Id} {k0 : List Id} {e : Env} {s : Sto} : evC C L π k0 c_ratchetref02_Shared_L0 e s = evC C L π k0 b_ratchetref02_Shared_L0 e s := rfl
def c_ratchetref02_Shared : FnIR := ⟨55,
  (.sq (.op 0 [⟨(some 2), none, .mv (.c (.sl 4 (some true) []))⟩,
    ⟨(some 3), none, .mv (.c (.sl 1 (some true) []))⟩] none)
  (.sq (.op 0 [⟨(some 4), none, .mv (.c (.sl 4 (some true) []))⟩] none)
  (.sq (.op 0 [⟨(some 9), none, .mv (.t 0)⟩,
    ⟨(some 10), none, .len false (.t 9)⟩,
    ⟨(some 11), none, .mks t_int 1 false [.int .i64 0] (.t 10) (.t 10)⟩,
    ⟨(some 5), none, .mv (.t 11)⟩] (some [0, 4, 5]))
  (.sq (.sq (.op 0 [⟨(some 6), none, .mv (.c (.int .i64 0))⟩] none)
  (.kp [4, 5] [2, 3] (.bk 0 (.lp [(t_api_Node, .inl 4)] [0, 4, 5, 6] c_ratchetref02_Shared_L0))))
  (.sq (.op 0 [⟨(some 53), none, .mv (.t 4)⟩,
    ⟨(some 54), none, .mv (.t 5)⟩,
    ⟨(some 2), none, .mv (.t 53)⟩,
    ⟨(some 3), none, .mv (.t 54)⟩] (some [2, 3]))
  .rt))))),
  [.t 2, .t 3]⟩
def b_ratchetref02_Folded_L1 : IR :=
 (.sq (.sq (.op 0 [⟨(some 17), none, .mv (.t 7)⟩,
   ⟨(some 18), none, .mv (.t 3)⟩,
   ⟨(some 19), none, .mv (.t 4)⟩,
   ⟨(some 20), none, .ia (.t 18) (.t 19) 4⟩,
   ⟨(some 21), none, .fa (.t 20) 2⟩,
   ⟨(some 22), none, .ld (.t 21) 1 false⟩,
   ⟨(some 23), none, .len false (.t 22)⟩,
   ⟨(some 24), none, .bin .lss (.t 17) (.t 23)⟩] (some [3, 4, 5, 6, 7, 24]))
 (.cd (.t 24)
  .sk
  (.ex 2)))
 (.sq (.bk 3 (.sq (.op 0 [⟨(some 27), none, .mv (.t 3)⟩,
    ⟨(some 28), none, .mv (.t 3)⟩,
    ⟨(some 29), none, .mv (.t 4)⟩,
    ⟨(some 30), none, .ia (.t 28) (.t 29) 4⟩,
    ⟨(some 31), none, .fa (.t 30) 2⟩,
    ⟨(some 32), none, .ld (.t 31) 1 false⟩,
    ⟨(some 33), none, .mv (.t 7)⟩,
    ⟨(some 34), none, .ia (.t 32) (.t 33) 1⟩,
    ⟨(some 35), none, .ld (.t 34) 1 false⟩,
    ⟨(some 36), none, .ia (.t 27) (.t 35) 4⟩,
    ⟨(some 37), none, .ld (.t 36) 4 true⟩,
    ⟨(some 8), none, .alloc [.int .i64 0, .int .i64 0, .sl 1 (some true) [], .int .i64 0]⟩,
    ⟨none, none, .st (.t 8) (.t 37) 4⟩] (some [3, 4, 5, 6, 7, 8]))
  (.sq (.op 0 [⟨(some 38), none, .fa (.t 8) 0⟩,
    ⟨(some 39), none, .ld (.t 38) 1 false⟩,
    ⟨(some 40), none, .bin .eql (.t 39) (.c (.int .i64 0))⟩] none)
  (.cd (.t 40)
   (.op 9 [⟨(some 41), none, .mv (.t 5)⟩,
     ⟨(some 42), none, .fa (.t 8) 3⟩,
     ⟨(some 43), none, .ld (.t 42) 1 false⟩,
     ⟨(some 44), none, .bsl t_int 1 false [.int .i64 0] 1 [(0, (.t 43))]⟩,
     ⟨(some 45), none, .apx (.t 41) (.t 44) t_int 1 [0, 1, 2, 3]⟩,
     ⟨(some 46), none, .mv (.t 6)⟩,
     ⟨(some 47), none, .fa (.t 8) 1⟩,
     ⟨(some 48), none, .ld (.t 47) 1 false⟩,
     ⟨(some 49), none, .bsl t_int 1 false [.int .i64 0] 1 [(0, (.t 48))]⟩,
     ⟨(some 50), none, .app (.t 46) (.t 49) t_int 1⟩,
     ⟨(some 5), none, .mv (.t 45)⟩,
     ⟨(some 6), none, .mv (.t 50)⟩] (some [3, 4, 5, 6, 7]))
   .sk))))
 (.op 0 [⟨(some 25), none, .mv (.t 7)⟩,
   ⟨(some 26), none, .bin .add (.t 25) (.c (.int .i64 1))⟩,
   ⟨(some 7), none, .mv (.t 26)⟩] none)))
def c_ratchetref02_Folded_L1 : IR := b_ratchetref02_Folded_L1
theorem u_ratchetref02_Folded_L1 {C : Call} {L : Loop} {π : Id} {k0 : List Id} {e : Env} {s : Sto} : evC C L π k0 c_ratchetref02_Folded_L1 e s = evC C L π k0 b_ratchetref02_Folded_L1 e s := rfl
def b_ratchetref02_Folded_L0 : IR :=
 (.sq (.sq (.op 0 [⟨(some 11), none, .mv (.t 4)⟩,
   ⟨(some 12), none, .mv (.t 3)⟩,
   ⟨(some 13), none, .len false (.t 12)⟩,
   ⟨(some 14), none, .bin .lss (.t 11) (.t 13)⟩] (some [3, 4, 14]))
 (.cd (.t 14)
  .sk
  (.ex 0)))
 (.sq (.bk 1 (.sq (.op 0 [⟨(some 5), none, .mv (.c (.sl 1 (some true) []))⟩,
    ⟨(some 6), none, .mv (.c (.sl 1 (some true) []))⟩] none)
  (.sq (.sq (.op 0 [⟨(some 7), none, .mv (.c (.int .i64 0))⟩] none)
  (.kp [3, 4, 5, 6] [2] (.bk 2 (.lp [(t_int, .inl 5), (t_int, .inl 6)] [3, 4, 5, 6, 7] c_ratchetref02_Folded_L1))))
  (.sq (.op 0 [⟨(some 51), none, .mv (.t 3)⟩,
    ⟨(some 52), none, .mv (.t 4)⟩,
    ⟨(some 53), none, .ia (.t 51) (.t 52) 4⟩,
    ⟨(some 54), none, .fa (.t 53) 2⟩,
    ⟨(some 55), none, .ld (.t 54) 1 false⟩,
    ⟨(some 56), none, .len false (.t 55)⟩,
    ⟨(some 57), none, .bin .gtr (.t 56) (.c (.int .i64 0))⟩,
    ⟨(some 58), none, .mv (.t 57)⟩,
    ⟨(some 59), (some (58, true)), .mv (.t 5)⟩,
    ⟨(some 60), (some (58, true)), .len false (.t 59)⟩,
    ⟨(some 61), (some (58, true)), .mv (.t 3)⟩,
    ⟨(some 62), (some (58, true)), .mv (.t 4)⟩,
    ⟨(some 63), (some (58, true)), .ia (.t 61) (.t 62) 4⟩,
    ⟨(some 64), (some (58, true)), .fa (.t 63) 2⟩,
    ⟨(some 65), (some (58, true)), .ld (.t 64) 1 false⟩,
    ⟨(some 66), (some (58, true)), .len false (.t 65)⟩,
    ⟨(some 67), (some (58, true)), .bin .eql (.t 60) (.t 66)⟩,
    ⟨(some 68), none, .pick (.t 58) (.t 67) (.c (.bool false))⟩] (some [3, 4, 5, 6, 68]))
  (.cd (.t 68)
   (.op 14 [⟨(some 69), none, .mv (.t 3)⟩,
     ⟨(some 70), none, .mv (.t 4)⟩,
     ⟨(some 71), none, .mv (.t 3)⟩,
     ⟨(some 72), none, .mv (.t 4)⟩,
     ⟨(some 73), none, .ia (.t 71) (.t 72) 4⟩,
     ⟨(some 74), none, .fa (.t 73) 1⟩,
     ⟨(some 75), none, .ld (.t 74) 1 false⟩,
     ⟨(some 76), none, .mv (.t 3)⟩,
     ⟨(some 77), none, .mv (.t 4)⟩,
     ⟨(some 78), none, .ia (.t 76) (.t 77) 4⟩,
     ⟨(some 79), none, .ld (.t 78) 4 true⟩,
     ⟨(some 80), none, .mv (.t 5)⟩,
     ⟨(some 81), none, .mv (.t 6)⟩,
     ⟨(some 82), none, .callV true (.c (.fn n_ratchetbase_Apply [])) [(.t 79), (.t 80), (.t 81), (.c (.sl 1 (some true) []))]⟩,
     ⟨(some 83), none, .build [.int .i64 0, .int .i64 0, .sl 1 (some true) [], .int .i64 0] [(0, 1, (.c (.int .i64 0))), (1, 1, (.t 75)), (3, 1, (.t 82))]⟩,
     ⟨(some 84), none, .ia (.t 69) (.t 70) 4⟩,
     ⟨none, none, .st (.t 84) (.t 83) 4⟩] (some [3, 4]))
   .sk)))))
 (.op 0 [⟨(some 15), none, .mv (.t 4)⟩,
   ⟨(some 16), none, .bin .add (.t 15) (.c (.int .i64 1))⟩,
   ⟨(some 4), none, .mv (.t 16)⟩] none)))
def c_ratchetref02_Folded_L0 : IR := b_ratchetref02_Folded_L0
theorem u_ratchetref02_Folded_L0 {C : Call} {L : Loop} {π : Id} {k0 : List Id} {e : Env} {s : Sto} : evC C L π k0 c_ratchetref02_Folded_L0 e s = evC C L π k0 b_ratchetref02_Folded_L0 e s := rfl
def c_ratchetref02_Folded : FnIR := ⟨86,
  (.sq (.op 0 [⟨(some 2), none, .mv (.c (.sl 4 (some true) []))⟩] none)
  (.sq (.op 0 [⟨(some 9), none, .mv (.t 0)⟩,
    ⟨(some 10), none, .callV false (.c (.fn n_ratchetbase_CopyNodes [])) [(.t 9)]⟩,
    ⟨(some 3), none, .mv (.t 10)⟩] none)
  (.sq (.sq (.op 0 [⟨(some 4), none, .mv (.c (.int .i64 0))⟩] none)
  (.kp [3] [2] (.bk 0 (.lp [] [3, 4] c_ratchetref02_Folded_L0))))
  (.sq (.op 0 [⟨(some 85), none, .mv (.t 3)⟩,
    ⟨(some 2), none, .mv (.t 85)⟩] none)
  .rt)))),
  [.t 2]⟩
def b_ratchetref02_Cone_L0 : IR :=
 (.sq (.sq (.op 0 [⟨(some 18), none, .mv (.t 9)⟩,
   ⟨(some 19), none, .mv (.t 0)⟩,
   ⟨(some 20), none, .len false (.t 19)⟩,
   ⟨(some 21), none, .bin .lss (.t 18) (.t 20)⟩] (some [0, 1, 6, 7, 8, 9, 21]))
 (.cd (.t 21)
  .sk
  (.ex 0)))
 (.sq (.bk 1 (.sq (.op 0 [⟨(some 24), none, .mv (.t 6)⟩,
    ⟨(some 25), none, .mv (.t 9)⟩,
    ⟨(some 26), none, .ia (.t 24) (.t 25) 1⟩,
    ⟨(some 27), none, .ld (.t 26) 1 false⟩] (some [0, 1, 6, 7, 8, 9, 27]))
  (.cd (.t 27)
   (.sq (.op 0 [⟨(some 28), none, .mv (.t 8)⟩,
     ⟨(some 29), none, .mv (.t 9)⟩,
     ⟨(some 30), none, .mv (.t 7)⟩,
     ⟨(some 31), none, .len false (.t 30)⟩,
     ⟨(some 32), none, .ia (.t 28) (.t 29) 1⟩,
     ⟨none, none, .st (.t 32) (.t 31) 1⟩] (some [0, 1, 6, 7, 8, 9]))
   (.op 0 [⟨(some 33), none, .mv (.t 7)⟩,
     ⟨(some 34), none, .mv (.t 0)⟩,
     ⟨(some 35), none, .mv (.t 9)⟩,
     ⟨(some 36), none, .ia (.t 34) (.t 35) 4⟩,
     ⟨(some 37), none, .ld (.t 36) 4 true⟩,
     ⟨(some 38), none, .mv (.t 8)⟩,
     ⟨(some 39), none, .callV true (.c (.fn n_ratchetref02_moved [])) [(.t 37), (.t 38)]⟩,
     ⟨(some 40), none, .bsl t_api_Node 4 true [.int .i64 0, .int .i64 0, .sl 1 (some true) [], .int .i64 0] 1 [(0, (.t 39))]⟩,
     ⟨(some 41), none, .app (.t 33) (.t 40) t_api_Node 4⟩,
     ⟨(some 7), none, .mv (.t 41)⟩] (some [0, 1, 6, 7, 8, 9])))
   .sk)))
 (.op 0 [⟨(some 22), none, .mv (.t 9)⟩,
   ⟨(some 23), none, .bin .add (.t 22) (.c (.int .i64 1))⟩,
   ⟨(some 9), none, .mv (.t 23)⟩] none)))
def c_ratchetref02_Cone_L0 : IR := b_ratchetref02_Cone_L0
theorem u_ratchetref02_Cone_L0 {C : Call} {L : Loop} {π : Id} {k0 : List Id} {e : Env} {s : Sto} : evC C L π k0 c_ratchetref02_Cone_L0 e s = evC C L π k0 b_ratchetref02_Cone_L0 e s := rfl
def b_ratchetref02_Cone_L1 : IR :=
 (.sq (.sq (.op 0 [⟨(some 42), none, .mv (.t 11)⟩,
   ⟨(some 43), none, .mv (.t 1)⟩,
   ⟨(some 44), none, .len false (.t 43)⟩,
   ⟨(some 45), none, .bin .lss (.t 42) (.t 44)⟩] (some [1, 7, 8, 10, 11, 45]))
 (.cd (.t 45)
  .sk
  (.ex 2)))
 (.sq (.bk 3 (.op 0 [⟨(some 48), none, .mv (.t 10)⟩,
    ⟨(some 49), none, .mv (.t 8)⟩,
    ⟨(some 50), none, .mv (.t 1)⟩,
    ⟨(some 51), none, .mv (.t 11)⟩,
    ⟨(some 52), none, .ia (.t 50) (.t 51) 1⟩,
    ⟨(some 53), none, .ld (.t 52) 1 false⟩,
    ⟨(some 54), none, .ia (.t 49) (.t 53) 1⟩,
    ⟨(some 55), none, .ld (.t 54) 1 false⟩,
    ⟨(some 56), none, .bsl t_int 1 false [.int .i64 0] 1 [(0, (.t 55))]⟩,
    ⟨(some 57), none, .app (.t 48) (.t 56) t_int 1⟩,
    ⟨(some 10), none, .mv (.t 57)⟩] (some [1, 7, 8, 10, 11])))
 (.op 0 [⟨(some 46), none, .mv (.t 11)⟩,
   ⟨(some 47), none, .bin .add (.t 46) (.c (.int .i64 1))⟩,
   ⟨(some 11), none, .mv (.t 47)⟩] none)))
def c_ratchetref02_Cone_L1 : IR := b_ratchetref02_Cone_L1
theorem u_ratchetref02_Cone_L1 {C : Call} {L : Loop} {π : Id} {k0 : List Id} {e : Env} {s : Sto} : evC C L π k0 c_ratchetref02_Cone_L1 e s = evC C L π k0 b_ratchetref02_Cone_L1 e s := rfl
def c_ratchetref02_Cone : FnIR := ⟨60,
  (.sq (.op 0 [⟨(some 4), none, .mv (.c (.sl 4 (some true) []))⟩,
    ⟨(some 5), none, .mv (.c (.sl 1 (some true) []))⟩] none)
  (.sq (.op 0 [⟨(some 12), none, .mv (.t 0)⟩,
    ⟨(some 13), none, .mv (.t 1)⟩,
    ⟨(some 14), none, .callV false (.c (.fn n_ratchetbase_Below [])) [(.t 12), (.t 13)]⟩,
    ⟨(some 6), none, .mv (.t 14)⟩] (some [0, 1, 6]))
  (.sq (.op 0 [⟨(some 7), none, .mv (.c (.sl 4 (some true) []))⟩] none)
  (.sq (.op 0 [⟨(some 15), none, .mv (.t 0)⟩,
    ⟨(some 16), none, .len false (.t 15)⟩,
    ⟨(some 17), none, .mks t_int 1 false [.int .i64 0] (.t 16) (.t 16)⟩,
    ⟨(some 8), none, .mv (.t 17)⟩] (some [0, 1, 6, 7, 8]))
  (.sq (.sq (.op 0 [⟨(some 9), none, .mv (.c (.int .i64 0))⟩] none)
  (.kp [1, 7, 8] [4, 5] (.bk 0 (.lp [(t_api_Node, .inl 7)] [0, 1, 6, 7, 8, 9] c_ratchetref02_Cone_L0))))
  (.sq (.op 0 [⟨(some 10), none, .mv (.c (.sl 1 (some true) []))⟩] none)
  (.sq (.sq (.op 0 [⟨(some 11), none, .mv (.c (.int .i64 0))⟩] none)
  (.kp [7, 10] [4, 5] (.bk 2 (.lp [(t_int, .inl 10)] [1, 7, 8, 10, 11] c_ratchetref02_Cone_L1))))
  (.sq (.op 0 [⟨(some 58), none, .mv (.t 7)⟩,
    ⟨(some 59), none, .mv (.t 10)⟩,
    ⟨(some 4), none, .mv (.t 58)⟩,
    ⟨(some 5), none, .mv (.t 59)⟩] (some [4, 5]))
  .rt)))))))),
  [.t 4, .t 5]⟩
def c_ratchetlaw02_Leaves : FnIR := ⟨2,
  (.sq (.op 0 [⟨(some 0), none, .mv (.c (.sl 1 (some true) []))⟩] none)
  (.sq (.op 0 [⟨(some 1), none, .bsl t_int 1 false [.int .i64 0] 2 [(0, (.c (.int .i64 4))), (1, (.c (.int .i64 1)))]⟩,
    ⟨(some 0), none, .mv (.t 1)⟩] none)
  .rt)),
  [.t 0]⟩
def c_ratchetlaw02_Nodes : FnIR := ⟨11,
  (.sq (.op 0 [⟨(some 0), none, .mv (.c (.sl 4 (some true) []))⟩] none)
  (.sq (.op 0 [⟨(some 1), none, .build [.int .i64 0, .int .i64 0, .sl 1 (some true) [], .int .i64 0] [(0, 1, (.c (.int .i64 1))), (1, 1, (.c (.int .i64 4)))]⟩,
    ⟨(some 2), none, .build [.int .i64 0, .int .i64 0, .sl 1 (some true) [], .int .i64 0] [(0, 1, (.c (.int .i64 0))), (1, 1, (.c (.int .i64 4))), (3, 1, (.c (.int .i64 3)))]⟩,
    ⟨(some 3), none, .bsl t_int 1 false [.int .i64 0] 2 [(0, (.c (.int .i64 0))), (1, (.c (.int .i64 1)))]⟩,
    ⟨(some 4), none, .build [.int .i64 0, .int .i64 0, .sl 1 (some true) [], .int .i64 0] [(0, 1, (.c (.int .i64 6))), (1, 1, (.c (.int .i64 4))), (2, 1, (.t 3))]⟩,
    ⟨(some 5), none, .build [.int .i64 0, .int .i64 0, .sl 1 (some true) [], .int .i64 0] [(0, 1, (.c (.int .i64 1))), (1, 1, (.c (.int .i64 1))), (3, 1, (.c (.int .i64 1)))]⟩,
    ⟨(some 6), none, .bsl t_int 1 false [.int .i64 0] 3 [(0, (.c (.int .i64 3))), (1, (.c (.int .i64 2))), (2, (.c (.int .i64 0)))]⟩,
    ⟨(some 7), none, .build [.int .i64 0, .int .i64 0, .sl 1 (some true) [], .int .i64 0] [(0, 1, (.c (.int .i64 12))), (1, 1, (.c (.int .i64 4))), (2, 1, (.t 6))]⟩,
    ⟨(some 8), none, .bsl t_int 1 false [.int .i64 0] 2 [(0, (.c (.int .i64 4))), (1, (.c (.int .i64 1)))]⟩,
    ⟨(some 9), none, .build [.int .i64 0, .int .i64 0, .sl 1 (some true) [], .int .i64 0] [(0, 1, (.c (.int .i64 10))), (1, 1, (.c (.int .i64 1))), (2, 1, (.t 8))]⟩,
    ⟨(some 10), none, .bsl t_api_Node 4 true [.int .i64 0, .int .i64 0, .sl 1 (some true) [], .int .i64 0] 6 [(0, (.t 1)), (1, (.t 2)), (2, (.t 4)), (3, (.t 5)), (4, (.t 7)), (5, (.t 9))]⟩,
    ⟨(some 0), none, .mv (.t 10)⟩] (some [0]))
  .rt)),
  [.t 0]⟩
def b_graph_FormatNodes_L1 : IR :=
 (.sq (.op 0 [⟨(some 45), none, .bin .lss (.t 44) (.t 43)⟩] none)
 (.sq (.cd (.t 45)
  .sk
  (.ex 2))
 (.sq (.bk 3 (.sq (.op 0 [⟨(some 46), none, .ia (.t 42) (.t 44) 1⟩,
    ⟨(some 47), none, .ld (.t 46) 1 false⟩,
    ⟨(some 10), none, .mv (.t 47)⟩] none)
  (.op 0 [⟨(some 48), none, .mv (.t 7)⟩,
    ⟨(some 49), none, .mv (.t 10)⟩,
    ⟨(some 50), none, .callV true (.c (.fn n_strconv_Itoa [])) [(.t 49)]⟩,
    ⟨(some 51), none, .bin .add (.c (.str ⟨#[32]⟩)) (.t 50)⟩,
    ⟨(some 52), none, .bin .add (.t 48) (.t 51)⟩,
    ⟨(some 7), none, .mv (.t 52)⟩] (some [3, 4, 7, 12, 13, 14, 42, 43, 44]))))
 (.op 0 [⟨(some 53), none, .bin .add (.t 44) (.c (.int .i64 1))⟩,
   ⟨(some 44), none, .mv (.t 53)⟩] none))))
def c_graph_FormatNodes_L1 : IR := b_graph_FormatNodes_L1
theorem u_graph_FormatNodes_L1 {C : Call} {L : Loop} {π : Id} {k0 : List Id} {e : Env} {s : Sto} : evC C L π k0 c_graph_FormatNodes_L1 e s = evC C L π k0 b_graph_FormatNodes_L1 e s := rfl
def b_graph_FormatNodes_L0 : IR :=
 (.sq (.op 0 [⟨(some 15), none, .bin .lss (.t 14) (.t 13)⟩] none)
 (.sq (.cd (.t 15)
  .sk
  (.ex 0))
 (.sq (.bk 1 (.sq (.op 0 [⟨(some 16), none, .ia (.t 12) (.t 14) 4⟩,
    ⟨(some 17), none, .ld (.t 16) 4 true⟩,
    ⟨(some 6), none, .alloc [.int .i64 0, .int .i64 0, .sl 1 (some true) [], .int .i64 0]⟩,
    ⟨none, none, .st (.t 6) (.t 17) 4⟩] (some [3, 4, 6, 12, 13, 14]))
  (.sq (.op 0 [⟨(some 18), none, .fa (.t 6) 1⟩,
    ⟨(some 19), none, .ld (.t 18) 1 false⟩,
    ⟨(some 20), none, .bsl t_int 1 false [.int .i64 0] 1 [(0, (.t 19))]⟩,
    ⟨(some 21), none, .fa (.t 6) 2⟩,
    ⟨(some 22), none, .ld (.t 21) 1 false⟩,
    ⟨(some 23), none, .app (.t 20) (.t 22) t_int 1⟩,
    ⟨(some 7), none, .mv (.c (.str ⟨#[63]⟩))⟩,
    ⟨(some 8), none, .mv (.t 23)⟩] (some [3, 4, 6, 7, 8, 12, 13, 14]))
  (.sq (.sq (.op 0 [⟨(some 24), none, .fa (.t 6) 0⟩,
    ⟨(some 25), none, .ld (.t 24) 1 false⟩,
    ⟨(some 26), none, .callV true (.c (.fn n_graph_within [])) [(.t 25), (.c (.int .i64 0)), (.c (.int .i64 18))]⟩] none)
  (.cd (.t 26)
   (.sq (.op 0 [⟨(some 27), none, .fa (.t 6) 0⟩,
     ⟨(some 28), none, .ld (.t 27) 1 false⟩,
     ⟨(some 29), none, .iaa (.t 3) (.t 28) 19 5⟩,
     ⟨(some 30), none, .fa (.t 29) 0⟩,
     ⟨(some 31), none, .ld (.t 30) 1 false⟩,
     ⟨(some 7), none, .mv (.t 31)⟩] (some [3, 4, 6, 7, 8, 12, 13, 14]))
   (.sq (.op 0 [⟨(some 32), none, .fa (.t 6) 0⟩,
     ⟨(some 33), none, .ld (.t 32) 1 false⟩,
     ⟨(some 34), none, .iaa (.t 3) (.t 33) 19 5⟩,
     ⟨(some 35), none, .fa (.t 34) 2⟩,
     ⟨(some 36), none, .ld (.t 35) 1 false⟩] (some [3, 4, 6, 7, 8, 12, 13, 14, 36]))
   (.cd (.t 36)
    (.op 0 [⟨(some 37), none, .mv (.t 8)⟩,
      ⟨(some 38), none, .fa (.t 6) 3⟩,
      ⟨(some 39), none, .ld (.t 38) 1 false⟩,
      ⟨(some 40), none, .bsl t_int 1 false [.int .i64 0] 1 [(0, (.t 39))]⟩,
      ⟨(some 41), none, .app (.t 37) (.t 40) t_int 1⟩,
      ⟨(some 8), none, .mv (.t 41)⟩] (some [3, 4, 7, 8, 12, 13, 14]))
    .sk)))
   .sk))
  (.sq (.sq (.op 0 [⟨(some 42), none, .mv (.t 8)⟩,
    ⟨(some 43), none, .len false (.t 42)⟩,
    ⟨(some 44), none, .mv (.c (.int .i64 0))⟩] none)
  (.kp [3, 4, 7, 12, 13, 14] [2] (.bk 2 (.lp [] [3, 4, 7, 12, 13, 14, 42, 43, 44] c_graph_FormatNodes_L1))))
  (.op 0 [⟨(some 54), none, .mv (.t 4)⟩,
    ⟨(some 55), none, .mv (.t 7)⟩,
    ⟨(some 56), none, .bsl t_string 1 false [.str ⟨#[]⟩] 1 [(0, (.t 55))]⟩,
    ⟨(some 57), none, .app (.t 54) (.t 56) t_string 1⟩,
    ⟨(some 4), none, .mv (.t 57)⟩] (some [3, 4, 12, 13, 14])))))))
 (.op 0 [⟨(some 58), none, .bin .add (.t 14) (.c (.int .i64 1))⟩,
   ⟨(some 14), none, .mv (.t 58)⟩] none))))
def c_graph_FormatNodes_L0 : IR := b_graph_FormatNodes_L0
theorem u_graph_FormatNodes_L0 {C : Call} {L : Loop} {π : Id} {k0 : List Id} {e : Env} {s : Sto} : evC C L π k0 c_graph_FormatNodes_L0 e s = evC C L π k0 b_graph_FormatNodes_L0 e s := rfl
def c_graph_FormatNodes : FnIR := ⟨61,
  (.sq (.op 0 [⟨(some 2), none, .mv (.c (.str ⟨#[]⟩))⟩] none)
  (.sq (.op 0 [⟨(some 11), none, .callV true (.c (.fn n_graph_operations [])) []⟩,
    ⟨(some 3), none, .alloc [.str ⟨#[]⟩, .int .i64 0, .bool false, .nilf, .nilf, .str ⟨#[]⟩, .int .i64 0, .bool false, .nilf, .nilf, .str ⟨#[]⟩, .int .i64 0, .bool false, .nilf, .nilf, .str ⟨#[]⟩, .int .i64 0, .bool false, .nilf, .nilf, .str ⟨#[]⟩, .int .i64 0, .bool false, .nilf, .nilf, .str ⟨#[]⟩, .int .i64 0, .bool false, .nilf, .nilf, .str ⟨#[]⟩, .int .i64 0, .bool false, .nilf, .nilf, .str ⟨#[]⟩, .int .i64 0, .bool false, .nilf, .nilf, .str ⟨#[]⟩, .int .i64 0, .bool false, .nilf, .nilf, .str ⟨#[]⟩, .int .i64 0, .bool false, .nilf, .nilf, .str ⟨#[]⟩, .int .i64 0, .bool false, .nilf, .nilf, .str ⟨#[]⟩, .int .i64 0, .bool false, .nilf, .nilf, .str ⟨#[]⟩, .int .i64 0, .bool false, .nilf, .nilf, .str ⟨#[]⟩, .int .i64 0, .bool false, .nilf, .nilf, .str ⟨#[]⟩, .int .i64 0, .bool false, .nilf, .nilf, .str ⟨#[]⟩, .int .i64 0, .bool false, .nilf, .nilf, .str ⟨#[]⟩, .int .i64 0, .bool false, .nilf, .nilf, .str ⟨#[]⟩, .int .i64 0, .bool false, .nilf, .nilf, .str ⟨#[]⟩, .int .i64 0, .bool false, .nilf, .nilf]⟩,
    ⟨none, none, .st (.t 3) (.t 11) 95⟩] none)
  (.sq (.op 0 [⟨(some 4), none, .mv (.c (.sl 1 (some true) []))⟩] none)
  (.sq (.sq (.op 0 [⟨(some 12), none, .mv (.t 0)⟩,
    ⟨(some 13), none, .len false (.t 12)⟩,
    ⟨(some 14), none, .mv (.c (.int .i64 0))⟩] none)
  (.kp [4] [2] (.bk 0 (.lp [(t_string, .inl 4)] [3, 4, 12, 13, 14] c_graph_FormatNodes_L0))))
  (.sq (.op 0 [⟨(some 59), none, .mv (.t 4)⟩,
    ⟨(some 60), none, .callV true (.c (.fn n_strings_Join [])) [(.t 59), (.c (.str ⟨#[59]⟩))]⟩,
    ⟨(some 2), none, .mv (.t 60)⟩] none)
  .rt))))),
  [.t 2]⟩
def b_graph_each_int_L0 : IR :=
 (.sq (.op 0 [⟨(some 12), none, .bin .lss (.t 11) (.t 10)⟩] none)
 (.sq (.cd (.t 12)
  .sk
  (.ex 0))
 (.sq (.bk 1 (.sq (.op 0 [⟨(some 13), none, .mv (.t 11)⟩,
    ⟨(some 14), none, .ia (.t 9) (.t 11) 1⟩,
    ⟨(some 15), none, .ld (.t 14) 1 false⟩,
    ⟨(some 6), none, .mv (.t 13)⟩,
    ⟨(some 7), none, .mv (.t 15)⟩] (some [1, 6, 7, 9, 10, 11]))
  (.sq (.op 0 [⟨(some 16), none, .mv (.t 1)⟩,
    ⟨(some 17), none, .mv (.t 6)⟩,
    ⟨(some 18), none, .mv (.t 7)⟩,
    ⟨(some 19), none, .callV true (.t 16) [(.t 17), (.t 18)]⟩,
    ⟨(some 8), none, .mv (.t 19)⟩] (some [1, 6, 8, 9, 10, 11]))
  (.sq (.op 0 [⟨(some 20), none, .mv (.t 8)⟩,
    ⟨(some 21), none, .bin .neq (.t 20) (.c (.int .i64 0))⟩] none)
  (.cd (.t 21)
   (.sq (.op 0 [⟨(some 22), none, .mv (.t 6)⟩,
     ⟨(some 23), none, .mv (.t 8)⟩,
     ⟨(some 4), none, .mv (.t 22)⟩,
     ⟨(some 5), none, .mv (.t 23)⟩] (some [4, 5]))
   .rt)
   .sk)))))
 (.op 0 [⟨(some 24), none, .bin .add (.t 11) (.c (.int .i64 1))⟩,
   ⟨(some 11), none, .mv (.t 24)⟩] none))))
def c_graph_each_int_L0 : IR := b_graph_each_int_L0
theorem u_graph_each_int_L0 {C : Call} {L : Loop} {π : Id} {k0 : List Id} {e : Env} {s : Sto} : evC C L π k0 c_graph_each_int_L0 e s = evC C L π k0 b_graph_each_int_L0 e s := rfl
def c_graph_each_int : FnIR := ⟨25,
  (.sq (.op 0 [⟨(some 4), none, .mv (.c (.int .i64 0))⟩,
    ⟨(some 5), none, .mv (.c (.int .i64 0))⟩] none)
  (.sq (.sq (.op 0 [⟨(some 9), none, .mv (.t 0)⟩,
    ⟨(some 10), none, .len false (.t 9)⟩,
    ⟨(some 11), none, .mv (.c (.int .i64 0))⟩] none)
  (.kp [] [4, 5] (.bk 0 (.lp [] [1, 9, 10, 11] c_graph_each_int_L0))))
  (.sq (.op 0 [⟨(some 4), none, .mv (.c (.int .i64 0))⟩,
    ⟨(some 5), none, .mv (.c (.int .i64 0))⟩] none)
  .rt))),
  [.t 4, .t 5]⟩
def c_graph_CheckNodes_1 : FnIR := ⟨8,
  (.sq (.op 0 [⟨(some 4), none, .mv (.c (.int .i64 0))⟩] none)
  (.sq (.op 0 [⟨(some 5), none, .mv (.t 1)⟩,
    ⟨(some 6), none, .callV true (.c (.fn n_graph_isWidth [])) [(.t 5)]⟩,
    ⟨(some 7), none, .callV true (.c (.fn n_graph_unless [])) [(.t 6), (.c (.int .i64 2))]⟩,
    ⟨(some 4), none, .mv (.t 7)⟩] (some [4]))
  .rt)),
  [.t 4]⟩
def c_graph_unless : FnIR := ⟨7,
  (.sq (.op 0 [⟨(some 4), none, .mv (.c (.int .i64 0))⟩] none)
  (.sq (.sq (.op 0 [⟨(some 5), none, .mv (.t 0)⟩] none)
  (.cd (.t 5)
   (.sq (.op 0 [⟨(some 4), none, .mv (.c (.int .i64 0))⟩] none)
   .rt)
   .sk))
  (.sq (.op 0 [⟨(some 6), none, .mv (.t 1)⟩,
    ⟨(some 4), none, .mv (.t 6)⟩] none)
  .rt))),
  [.t 4]⟩
def c_graph_isWidth : FnIR := ⟨5,
  (.sq (.op 0 [⟨(some 2), none, .mv (.c (.bool false))⟩] none)
  (.sq (.op 0 [⟨(some 3), none, .mv (.t 0)⟩,
    ⟨(some 4), none, .callV true (.c (.fn n_graph_within [])) [(.t 3), (.c (.int .i64 1)), (.c (.int .i64 16))]⟩,
    ⟨(some 2), none, .mv (.t 4)⟩] none)
  .rt)),
  [.t 2]⟩
def c_graph_operations : FnIR := ⟨24,
  (.sq (.op 0 [⟨(some 0), none, .alloc [.str ⟨#[]⟩, .int .i64 0, .bool false, .nilf, .nilf, .str ⟨#[]⟩, .int .i64 0, .bool false, .nilf, .nilf, .str ⟨#[]⟩, .int .i64 0, .bool false, .nilf, .nilf, .str ⟨#[]⟩, .int .i64 0, .bool false, .nilf, .nilf, .str ⟨#[]⟩, .int .i64 0, .bool false, .nilf, .nilf, .str ⟨#[]⟩, .int .i64 0, .bool false, .nilf, .nilf, .str ⟨#[]⟩, .int .i64 0, .bool false, .nilf, .nilf, .str ⟨#[]⟩, .int .i64 0, .bool false, .nilf, .nilf, .str ⟨#[]⟩, .int .i64 0, .bool false, .nilf, .nilf, .str ⟨#[]⟩, .int .i64 0, .bool false, .nilf, .nilf, .str ⟨#[]⟩, .int .i64 0, .bool false, .nilf, .nilf, .str ⟨#[]⟩, .int .i64 0, .bool false, .nilf, .nilf, .str ⟨#[]⟩, .int .i64 0, .bool false, .nilf, .nilf, .str ⟨#[]⟩, .int .i64 0, .bool false, .nilf, .nilf, .str ⟨#[]⟩, .int .i64 0, .bool false, .nilf, .nilf, .str ⟨#[]⟩, .int .i64 0, .bool false, .nilf, .nilf, .str ⟨#[]⟩, .int .i64 0, .bool false, .nilf, .nilf, .str ⟨#[]⟩, .int .i64 0, .bool false, .nilf, .nilf, .str ⟨#[]⟩, .int .i64 0, .bool false, .nilf, .nilf]⟩] none)
  (.sq (.op 0 [⟨(some 1), none, .mv (.c (.fn n_graph_operations_1 []))⟩] none)
  (.sq (.op 0 [⟨(some 2), none, .mv (.t 1)⟩,
    ⟨(some 3), none, .build [.str ⟨#[]⟩, .int .i64 0, .bool false, .nilf, .nilf] [(0, 1, (.c (.str ⟨#[99, 111, 110, 115, 116]⟩))), (1, 1, (.c (.int .i64 0))), (2, 1, (.c (.bool true))), (3, 1, (.c (.fn n_graph_anyWidth []))), (4, 1, (.t 2))]⟩,
    ⟨(some 4), none, .mv (.t 1)⟩,
    ⟨(some 5), none, .build [.str ⟨#[]⟩, .int .i64 0, .bool false, .nilf, .nilf] [(0, 1, (.c (.str ⟨#[108, 101, 97, 102]⟩))), (1, 1, (.c (.int .i64 0))), (2, 1, (.c (.bool true))), (3, 1, (.c (.fn n_graph_anyWidth []))), (4, 1, (.t 4))]⟩,
    ⟨(some 6), none, .build [.str ⟨#[]⟩, .int .i64 0, .bool false, .nilf, .nilf] [(0, 1, (.c (.str ⟨#[110, 111, 116]⟩))), (1, 1, (.c (.int .i64 1))), (2, 1, (.c (.bool false))), (3, 1, (.c (.fn n_graph_same []))), (4, 1, (.c (.fn n_graph_operations_2 [])))]⟩,
    ⟨(some 7), none, .callV false (.c (.fn n_graph_binary [])) [(.c (.str ⟨#[97, 110, 100]⟩)), (.c (.fn n_graph_operations_3 []))]⟩,
    ⟨(some 8), none, .callV false (.c (.fn n_graph_binary [])) [(.c (.str ⟨#[111, 114]⟩)), (.c (.fn n_graph_operations_4 []))]⟩,
    ⟨(some 9), none, .callV false (.c (.fn n_graph_binary [])) [(.c (.str ⟨#[120, 111, 114]⟩)), (.c (.fn n_graph_operations_5 []))]⟩,
    ⟨(some 10), none, .callV false (.c (.fn n_graph_binary [])) [(.c (.str ⟨#[97, 100, 100]⟩)), (.c (.fn n_graph_operations_6 []))]⟩,
    ⟨(some 11), none, .callV false (.c (.fn n_graph_binary [])) [(.c (.str ⟨#[115, 117, 98]⟩)), (.c (.fn n_graph_operations_7 []))]⟩,
    ⟨(some 12), none, .callV false (.c (.fn n_graph_binary [])) [(.c (.str ⟨#[109, 117, 108]⟩)), (.c (.fn n_graph_operations_8 []))]⟩,
    ⟨(some 13), none, .callV false (.c (.fn n_graph_relation [])) [(.c (.str ⟨#[101, 113]⟩)), (.c (.fn n_graph_operations_9 []))]⟩,
    ⟨(some 14), none, .callV false (.c (.fn n_graph_relation [])) [(.c (.str ⟨#[108, 116]⟩)), (.c (.fn n_graph_operations_10 []))]⟩,
    ⟨(some 15), none, .callV false (.c (.fn n_graph_relation [])) [(.c (.str ⟨#[115, 108, 116]⟩)), (.c (.fn n_graph_operations_11 []))]⟩,
    ⟨(some 16), none, .build [.str ⟨#[]⟩, .int .i64 0, .bool false, .nilf, .nilf] [(0, 1, (.c (.str ⟨#[109, 117, 120]⟩))), (1, 1, (.c (.int .i64 3))), (2, 1, (.c (.bool false))), (3, 1, (.c (.fn n_graph_operations_12 []))), (4, 1, (.c (.fn n_graph_operations_13 [])))]⟩,
    ⟨(some 17), none, .build [.str ⟨#[]⟩, .int .i64 0, .bool false, .nilf, .nilf] [(0, 1, (.c (.str ⟨#[106, 111, 105, 110]⟩))), (1, 1, (.c (.int .i64 2))), (2, 1, (.c (.bool false))), (3, 1, (.c (.fn n_graph_operations_14 []))), (4, 1, (.c (.fn n_graph_operations_15 [])))]⟩,
    ⟨(some 18), none, .build [.str ⟨#[]⟩, .int .i64 0, .bool false, .nilf, .nilf] [(0, 1, (.c (.str ⟨#[115, 108, 105, 99, 101]⟩))), (1, 1, (.c (.int .i64 1))), (2, 1, (.c (.bool true))), (3, 1, (.c (.fn n_graph_operations_16 []))), (4, 1, (.c (.fn n_graph_operations_17 [])))]⟩,
    ⟨(some 19), none, .build [.str ⟨#[]⟩, .int .i64 0, .bool false, .nilf, .nilf] [(0, 1, (.c (.str ⟨#[122, 101, 120, 116]⟩))), (1, 1, (.c (.int .i64 1))), (2, 1, (.c (.bool false))), (3, 1, (.c (.fn n_graph_extended []))), (4, 1, (.c (.fn n_graph_operations_18 [])))]⟩,
    ⟨(some 20), none, .build [.str ⟨#[]⟩, .int .i64 0, .bool false, .nilf, .nilf] [(0, 1, (.c (.str ⟨#[115, 101, 120, 116]⟩))), (1, 1, (.c (.int .i64 1))), (2, 1, (.c (.bool false))), (3, 1, (.c (.fn n_graph_extended []))), (4, 1, (.c (.fn n_graph_operations_19 [])))]⟩,
    ⟨(some 21), none, .build [.str ⟨#[]⟩, .int .i64 0, .bool false, .nilf, .nilf] [(0, 1, (.c (.str ⟨#[115, 104, 108]⟩))), (1, 1, (.c (.int .i64 2))), (2, 1, (.c (.bool false))), (3, 1, (.c (.fn n_graph_shifted []))), (4, 1, (.c (.fn n_graph_operations_20 [])))]⟩,
    ⟨(some 22), none, .build [.str ⟨#[]⟩, .int .i64 0, .bool false, .nilf, .nilf] [(0, 1, (.c (.str ⟨#[115, 104, 114]⟩))), (1, 1, (.c (.int .i64 2))), (2, 1, (.c (.bool false))), (3, 1, (.c (.fn n_graph_shifted []))), (4, 1, (.c (.fn n_graph_operations_21 [])))]⟩,
    ⟨(some 23), none, .build [.str ⟨#[]⟩, .int .i64 0, .bool false, .nilf, .nilf, .str ⟨#[]⟩, .int .i64 0, .bool false, .nilf, .nilf, .str ⟨#[]⟩, .int .i64 0, .bool false, .nilf, .nilf, .str ⟨#[]⟩, .int .i64 0, .bool false, .nilf, .nilf, .str ⟨#[]⟩, .int .i64 0, .bool false, .nilf, .nilf, .str ⟨#[]⟩, .int .i64 0, .bool false, .nilf, .nilf, .str ⟨#[]⟩, .int .i64 0, .bool false, .nilf, .nilf, .str ⟨#[]⟩, .int .i64 0, .bool false, .nilf, .nilf, .str ⟨#[]⟩, .int .i64 0, .bool false, .nilf, .nilf, .str ⟨#[]⟩, .int .i64 0, .bool false, .nilf, .nilf, .str ⟨#[]⟩, .int .i64 0, .bool false, .nilf, .nilf, .str ⟨#[]⟩, .int .i64 0, .bool false, .nilf, .nilf, .str ⟨#[]⟩, .int .i64 0, .bool false, .nilf, .nilf, .str ⟨#[]⟩, .int .i64 0, .bool false, .nilf, .nilf, .str ⟨#[]⟩, .int .i64 0, .bool false, .nilf, .nilf, .str ⟨#[]⟩, .int .i64 0, .bool false, .nilf, .nilf, .str ⟨#[]⟩, .int .i64 0, .bool false, .nilf, .nilf, .str ⟨#[]⟩, .int .i64 0, .bool false, .nilf, .nilf, .str ⟨#[]⟩, .int .i64 0, .bool false, .nilf, .nilf] [(0, 5, (.t 3)), (5, 5, (.t 5)), (10, 5, (.t 6)), (15, 5, (.t 7)), (20, 5, (.t 8)), (25, 5, (.t 9)), (30, 5, (.t 10)), (35, 5, (.t 11)), (40, 5, (.t 12)), (45, 5, (.t 13)), (50, 5, (.t 14)), (55, 5, (.t 15)), (60, 5, (.t 16)), (65, 5, (.t 17)), (70, 5, (.t 18)), (75, 5, (.t 19)), (80, 5, (.t 20)), (85, 5, (.t 21)), (90, 5, (.t 22))]⟩,
    ⟨none, none, .st (.t 0) (.t 23) 95⟩] (some [0]))
  .rt))),
  [.c 0 95 true]⟩
def b_graph_each_api_Node_L0 : IR :=
 (.sq (.op 0 [⟨(some 12), none, .bin .lss (.t 11) (.t 10)⟩] none)
 (.sq (.cd (.t 12)
  .sk
  (.ex 0))
 (.sq (.bk 1 (.sq (.op 0 [⟨(some 13), none, .mv (.t 11)⟩,
    ⟨(some 14), none, .ia (.t 9) (.t 11) 4⟩,
    ⟨(some 15), none, .ld (.t 14) 4 true⟩,
    ⟨(some 7), none, .alloc [.int .i64 0, .int .i64 0, .sl 1 (some true) [], .int .i64 0]⟩,
    ⟨(some 6), none, .mv (.t 13)⟩,
    ⟨none, none, .st (.t 7) (.t 15) 4⟩] (some [1, 6, 7, 9, 10, 11]))
  (.sq (.op 0 [⟨(some 16), none, .mv (.t 1)⟩,
    ⟨(some 17), none, .mv (.t 6)⟩,
    ⟨(some 18), none, .ld (.t 7) 4 true⟩,
    ⟨(some 19), none, .callV true (.t 16) [(.t 17), (.t 18)]⟩,
    ⟨(some 8), none, .mv (.t 19)⟩] (some [1, 6, 8, 9, 10, 11]))
  (.sq (.op 0 [⟨(some 20), none, .mv (.t 8)⟩,
    ⟨(some 21), none, .bin .neq (.t 20) (.c (.int .i64 0))⟩] none)
  (.cd (.t 21)
   (.sq (.op 0 [⟨(some 22), none, .mv (.t 6)⟩,
     ⟨(some 23), none, .mv (.t 8)⟩,
     ⟨(some 4), none, .mv (.t 22)⟩,
     ⟨(some 5), none, .mv (.t 23)⟩] (some [4, 5]))
   .rt)
   .sk)))))
 (.op 0 [⟨(some 24), none, .bin .add (.t 11) (.c (.int .i64 1))⟩,
   ⟨(some 11), none, .mv (.t 24)⟩] none))))
def c_graph_each_api_Node_L0 : IR := b_graph_each_api_Node_L0
theorem u_graph_each_api_Node_L0 {C : Call} {L : Loop} {π : Id} {k0 : List Id} {e : Env} {s : Sto} : evC C L π k0 c_graph_each_api_Node_L0 e s = evC C L π k0 b_graph_each_api_Node_L0 e s := rfl
def c_graph_each_api_Node : FnIR := ⟨25,
  (.sq (.op 0 [⟨(some 4), none, .mv (.c (.int .i64 0))⟩,
    ⟨(some 5), none, .mv (.c (.int .i64 0))⟩] none)
  (.sq (.sq (.op 0 [⟨(some 9), none, .mv (.t 0)⟩,
    ⟨(some 10), none, .len false (.t 9)⟩,
    ⟨(some 11), none, .mv (.c (.int .i64 0))⟩] none)
  (.kp [] [4, 5] (.bk 0 (.lp [] [1, 9, 10, 11] c_graph_each_api_Node_L0))))
  (.sq (.op 0 [⟨(some 4), none, .mv (.c (.int .i64 0))⟩,
    ⟨(some 5), none, .mv (.c (.int .i64 0))⟩] none)
  .rt))),
  [.t 4, .t 5]⟩
def b_graph_CheckNodes_2_L0 : IR :=
 (.sq (.op 0 [⟨(some 59), none, .bin .lss (.t 58) (.t 57)⟩] none)
 (.sq (.cd (.t 59)
  .sk
  (.ex 0))
 (.sq (.bk 1 (.sq (.op 0 [⟨(some 60), none, .ia (.t 56) (.t 58) 1⟩,
    ⟨(some 61), none, .ld (.t 60) 1 false⟩,
    ⟨(some 14), none, .mv (.t 61)⟩] none)
  (.op 0 [⟨(some 62), none, .mv (.t 12)⟩,
    ⟨(some 63), none, .ld (.t 4) 1 false⟩,
    ⟨(some 64), none, .mv (.t 14)⟩,
    ⟨(some 65), none, .ia (.t 63) (.t 64) 4⟩,
    ⟨(some 66), none, .fa (.t 65) 1⟩,
    ⟨(some 67), none, .ld (.t 66) 1 false⟩,
    ⟨(some 68), none, .bsl t_int 1 false [.int .i64 0] 1 [(0, (.t 67))]⟩,
    ⟨(some 69), none, .app (.t 62) (.t 68) t_int 1⟩,
    ⟨(some 12), none, .mv (.t 69)⟩] (some [4, 6, 9, 12, 56, 57, 58]))))
 (.op 0 [⟨(some 70), none, .bin .add (.t 58) (.c (.int .i64 1))⟩,
   ⟨(some 58), none, .mv (.t 70)⟩] none))))
def c_graph_CheckNodes_2_L0 : IR := b_graph_CheckNodes_2_L0
theorem u_graph_CheckNodes_2_L0 {C : Call} {L : Loop} {π : Id} {k0 : List Id} {e : Env} {s : Sto} : evC C L π k0 c_graph_CheckNodes_2_L0 e s = evC C L π k0 b_graph_CheckNodes_2_L0 e s := rfl
def c_graph_CheckNodes_2 : FnIR := ⟨80,
  (.sq (.op 0 [⟨(some 5), none, .box (.t 0) 1⟩,
    ⟨(some 6), none, .box (.t 1) 4⟩,
    ⟨(some 7), none, .mv (.c (.int .i64 0))⟩] none)
  (.sq (.sq (.op 6 [⟨(some 15), none, .fa (.t 6) 0⟩,
    ⟨(some 16), none, .ld (.t 15) 1 false⟩,
    ⟨(some 17), none, .callV true (.c (.fn n_graph_within [])) [(.t 16), (.c (.int .i64 0)), (.c (.int .i64 18))]⟩,
    ⟨(some 18), none, .callV true (.c (.fn n_graph_unless [])) [(.t 17), (.c (.int .i64 15))]⟩,
    ⟨(some 19), none, .fa (.t 6) 1⟩,
    ⟨(some 20), none, .ld (.t 19) 1 false⟩,
    ⟨(some 21), none, .callV true (.c (.fn n_graph_isWidth [])) [(.t 20)]⟩,
    ⟨(some 22), none, .callV true (.c (.fn n_graph_unless [])) [(.t 21), (.c (.int .i64 2))]⟩,
    ⟨(some 23), none, .bsl t_api_Errno 1 false [.int .i64 0] 2 [(0, (.t 18)), (1, (.t 22))]⟩,
    ⟨(some 24), none, .callV true (.c (.fn n_graph_first [])) [(.t 23)]⟩,
    ⟨(some 8), none, .mv (.t 24)⟩] (some [2, 3, 4, 5, 6, 8]))
  (.sq (.op 0 [⟨(some 25), none, .mv (.t 8)⟩,
    ⟨(some 26), none, .bin .neq (.t 25) (.c (.int .i64 0))⟩] none)
  (.cd (.t 26)
   (.sq (.op 0 [⟨(some 27), none, .mv (.t 8)⟩,
     ⟨(some 7), none, .mv (.t 27)⟩] none)
   .rt)
   .sk)))
  (.sq (.op 0 [⟨(some 28), none, .fa (.t 6) 0⟩,
    ⟨(some 29), none, .ld (.t 28) 1 false⟩,
    ⟨(some 30), none, .iaa (.t 2) (.t 29) 19 5⟩,
    ⟨(some 31), none, .ld (.t 30) 5 true⟩,
    ⟨(some 9), none, .alloc [.str ⟨#[]⟩, .int .i64 0, .bool false, .nilf, .nilf]⟩,
    ⟨none, none, .st (.t 9) (.t 31) 5⟩] (some [3, 4, 5, 6, 9]))
  (.sq (.op 0 [⟨(some 32), none, .fa (.t 6) 2⟩,
    ⟨(some 33), none, .ld (.t 32) 1 false⟩,
    ⟨(some 34), none, .mkf n_graph_CheckNodes_2_1 [(.t 5)]⟩,
    ⟨(some 35), none, .callV true (.c (.fn n_slices_ContainsFunc_int_int [])) [(.t 33), (.t 34)]⟩,
    ⟨(some 10), none, .mv (.t 35)⟩] (some [3, 4, 6, 9, 10]))
  (.sq (.sq (.op 13 [⟨(some 36), none, .fa (.t 6) 2⟩,
    ⟨(some 37), none, .ld (.t 36) 1 false⟩,
    ⟨(some 38), none, .len false (.t 37)⟩,
    ⟨(some 39), none, .fa (.t 9) 1⟩,
    ⟨(some 40), none, .ld (.t 39) 1 false⟩,
    ⟨(some 41), none, .bin .eql (.t 38) (.t 40)⟩,
    ⟨(some 42), none, .callV true (.c (.fn n_graph_unless [])) [(.t 41), (.c (.int .i64 10))]⟩,
    ⟨(some 43), none, .mv (.t 10)⟩,
    ⟨(some 44), none, .un .not (.t 43)⟩,
    ⟨(some 45), none, .callV true (.c (.fn n_graph_unless [])) [(.t 44), (.c (.int .i64 9))]⟩,
    ⟨(some 46), none, .ld (.t 3) 1 false⟩,
    ⟨(some 47), none, .ld (.t 6) 4 true⟩,
    ⟨(some 48), none, .ld (.t 9) 5 true⟩,
    ⟨(some 49), none, .callV true (.c (.fn n_graph_valueErr [])) [(.t 46), (.t 47), (.t 48)]⟩,
    ⟨(some 50), none, .bsl t_api_Errno 1 false [.int .i64 0] 3 [(0, (.t 42)), (1, (.t 45)), (2, (.t 49))]⟩,
    ⟨(some 51), none, .callV true (.c (.fn n_graph_first [])) [(.t 50)]⟩,
    ⟨(some 11), none, .mv (.t 51)⟩] (some [4, 6, 9, 11]))
  (.sq (.op 0 [⟨(some 52), none, .mv (.t 11)⟩,
    ⟨(some 53), none, .bin .neq (.t 52) (.c (.int .i64 0))⟩] none)
  (.cd (.t 53)
   (.sq (.op 0 [⟨(some 54), none, .mv (.t 11)⟩,
     ⟨(some 7), none, .mv (.t 54)⟩] none)
   .rt)
   .sk)))
  (.sq (.op 0 [⟨(some 12), none, .mv (.c (.sl 1 (some true) []))⟩] none)
  (.sq (.sq (.op 0 [⟨(some 55), none, .fa (.t 6) 2⟩,
    ⟨(some 56), none, .ld (.t 55) 1 false⟩,
    ⟨(some 57), none, .len false (.t 56)⟩,
    ⟨(some 58), none, .mv (.c (.int .i64 0))⟩] (some [4, 6, 9, 12, 56, 57, 58]))
  (.kp [6, 9, 12] [7] (.bk 0 (.lp [(t_int, .inl 12)] [4, 6, 9, 12, 56, 57, 58] c_graph_CheckNodes_2_L0))))
  (.sq (.op 0 [⟨(some 71), none, .fa (.t 9) 3⟩,
    ⟨(some 72), none, .ld (.t 71) 1 false⟩,
    ⟨(some 73), none, .fa (.t 6) 1⟩,
    ⟨(some 74), none, .ld (.t 73) 1 false⟩,
    ⟨(some 75), none, .mv (.t 12)⟩,
    ⟨(some 76), none, .fa (.t 6) 3⟩,
    ⟨(some 77), none, .ld (.t 76) 1 false⟩,
    ⟨(some 78), none, .callV true (.t 72) [(.t 74), (.t 75), (.t 77)]⟩,
    ⟨(some 79), none, .callV true (.c (.fn n_graph_unless [])) [(.t 78), (.c (.int .i64 25))]⟩,
    ⟨(some 7), none, .mv (.t 79)⟩] (some [7]))
  .rt)))))))),
  [.t 7]⟩
def b_graph_first_L0 : IR :=
 (.sq (.op 0 [⟨(some 8), none, .bin .lss (.t 7) (.t 6)⟩] none)
 (.sq (.cd (.t 8)
  .sk
  (.ex 0))
 (.sq (.bk 1 (.sq (.op 0 [⟨(some 9), none, .ia (.t 5) (.t 7) 1⟩,
    ⟨(some 10), none, .ld (.t 9) 1 false⟩,
    ⟨(some 4), none, .mv (.t 10)⟩] none)
  (.sq (.op 0 [⟨(some 11), none, .mv (.t 4)⟩,
    ⟨(some 12), none, .bin .neq (.t 11) (.c (.int .i64 0))⟩] none)
  (.cd (.t 12)
   (.sq (.op 0 [⟨(some 13), none, .mv (.t 4)⟩,
     ⟨(some 2), none, .mv (.t 13)⟩] none)
   .rt)
   .sk))))
 (.op 0 [⟨(some 14), none, .bin .add (.t 7) (.c (.int .i64 1))⟩,
   ⟨(some 7), none, .mv (.t 14)⟩] none))))
def c_graph_first_L0 : IR := b_graph_first_L0
theorem u_graph_first_L0 {C : Call} {L : Loop} {π : Id} {k0 : List Id} {e : Env} {s : Sto} : evC C L π k0 c_graph_first_L0 e s = evC C L π k0 b_graph_first_L0 e s := rfl
def c_graph_first : FnIR := ⟨15,
  (.sq (.op 0 [⟨(some 2), none, .mv (.c (.int .i64 0))⟩] none)
  (.sq (.sq (.op 0 [⟨(some 5), none, .mv (.t 0)⟩,
    ⟨(some 6), none, .len false (.t 5)⟩,
    ⟨(some 7), none, .mv (.c (.int .i64 0))⟩] none)
  (.kp [] [2] (.bk 0 (.lp [] [5, 6, 7] c_graph_first_L0))))
  (.sq (.op 0 [⟨(some 2), none, .mv (.c (.int .i64 0))⟩] none)
  .rt))),
  [.t 2]⟩
def c_graph_within : FnIR := ⟨15,
  (.sq (.op 0 [⟨(some 6), none, .mv (.c (.bool false))⟩] none)
  (.sq (.op 0 [⟨(some 7), none, .mv (.t 1)⟩,
    ⟨(some 8), none, .mv (.t 0)⟩,
    ⟨(some 9), none, .bin .leq (.t 7) (.t 8)⟩,
    ⟨(some 10), none, .mv (.t 9)⟩,
    ⟨(some 11), (some (10, true)), .mv (.t 0)⟩,
    ⟨(some 12), (some (10, true)), .mv (.t 2)⟩,
    ⟨(some 13), (some (10, true)), .bin .leq (.t 11) (.t 12)⟩,
    ⟨(some 14), none, .pick (.t 10) (.t 13) (.c (.bool false))⟩,
    ⟨(some 6), none, .mv (.t 14)⟩] (some [6]))
  .rt)),
  [.t 6]⟩
def c_slices_ContainsFunc_int_int : FnIR := ⟨9,
  (.sq (.op 0 [⟨(some 4), none, .mv (.c (.bool false))⟩] none)
  (.sq (.op 0 [⟨(some 5), none, .mv (.t 0)⟩,
    ⟨(some 6), none, .mv (.t 1)⟩,
    ⟨(some 7), none, .callV true (.c (.fn n_slices_IndexFunc_int_int [])) [(.t 5), (.t 6)]⟩,
    ⟨(some 8), none, .bin .geq (.t 7) (.c (.int .i64 0))⟩,
    ⟨(some 4), none, .mv (.t 8)⟩] (some [4]))
  .rt)),
  [.t 4]⟩
def c_graph_CheckNodes_2_1 : FnIR := ⟨9,
  (.sq (.op 0 [⟨(some 3), none, .mv (.c (.bool false))⟩] none)
  (.sq (.op 0 [⟨(some 4), none, .mv (.t 0)⟩,
    ⟨(some 5), none, .ld (.t 1) 1 false⟩,
    ⟨(some 6), none, .bin .sub (.t 5) (.c (.int .i64 1))⟩,
    ⟨(some 7), none, .callV true (.c (.fn n_graph_within [])) [(.t 4), (.c (.int .i64 0)), (.t 6)]⟩,
    ⟨(some 8), none, .un .not (.t 7)⟩,
    ⟨(some 3), none, .mv (.t 8)⟩] (some [3]))
  .rt)),
  [.t 3]⟩
def c_graph_valueErr : FnIR := ⟨49,
  (.sq (.op 0 [⟨(some 4), none, .box (.t 1) 4⟩,
    ⟨(some 5), none, .box (.t 2) 5⟩,
    ⟨(some 6), none, .mv (.c (.int .i64 0))⟩] none)
  (.sq (.sq (.op 0 [⟨(some 7), none, .fa (.t 4) 0⟩,
    ⟨(some 8), none, .ld (.t 7) 1 false⟩] none)
  (.bk 0 (.sq (.op 0 [⟨(some 10), none, .bin .eql (.t 8) (.c (.int .i64 0))⟩,
     ⟨(some 9), none, .mv (.t 10)⟩] none)
   (.cd (.t 9)
    (.sq (.op 0 [⟨(some 11), none, .fa (.t 4) 3⟩,
      ⟨(some 12), none, .ld (.t 11) 1 false⟩,
      ⟨(some 13), none, .fa (.t 4) 1⟩,
      ⟨(some 14), none, .ld (.t 13) 1 false⟩,
      ⟨(some 15), none, .callV true (.c (.fn n_graph_fits [])) [(.t 12), (.t 14)]⟩,
      ⟨(some 16), none, .callV true (.c (.fn n_graph_unless [])) [(.t 15), (.c (.int .i64 2))]⟩,
      ⟨(some 6), none, .mv (.t 16)⟩] (some [6]))
    .rt)
    (.sq (.op 0 [⟨(some 18), none, .bin .eql (.t 8) (.c (.int .i64 1))⟩,
      ⟨(some 17), none, .mv (.t 18)⟩] none)
    (.cd (.t 17)
     (.sq (.sq (.op 0 [⟨(some 19), none, .fa (.t 4) 3⟩,
       ⟨(some 20), none, .ld (.t 19) 1 false⟩,
       ⟨(some 21), none, .mv (.t 0)⟩,
       ⟨(some 22), none, .len false (.t 21)⟩,
       ⟨(some 23), none, .bin .sub (.t 22) (.c (.int .i64 1))⟩,
       ⟨(some 24), none, .callV true (.c (.fn n_graph_within [])) [(.t 20), (.c (.int .i64 0)), (.t 23)]⟩,
       ⟨(some 25), none, .un .not (.t 24)⟩] (some [0, 4, 25]))
     (.cd (.t 25)
      (.sq (.op 0 [⟨(some 6), none, .mv (.c (.int .i64 6))⟩] none)
      .rt)
      .sk))
     (.sq (.op 7 [⟨(some 26), none, .mv (.t 0)⟩,
       ⟨(some 27), none, .fa (.t 4) 3⟩,
       ⟨(some 28), none, .ld (.t 27) 1 false⟩,
       ⟨(some 29), none, .ia (.t 26) (.t 28) 1⟩,
       ⟨(some 30), none, .ld (.t 29) 1 false⟩,
       ⟨(some 31), none, .fa (.t 4) 1⟩,
       ⟨(some 32), none, .ld (.t 31) 1 false⟩,
       ⟨(some 33), none, .bin .eql (.t 30) (.t 32)⟩,
       ⟨(some 34), none, .callV true (.c (.fn n_graph_unless [])) [(.t 33), (.c (.int .i64 25))]⟩,
       ⟨(some 6), none, .mv (.t 34)⟩] (some [6]))
     .rt))
     (.sq (.op 0 [⟨(some 36), none, .bin .eql (.t 8) (.c (.int .i64 14))⟩,
       ⟨(some 35), none, .mv (.t 36)⟩] none)
     (.cd (.t 35)
      (.sq (.op 0 [⟨(some 37), none, .fa (.t 4) 3⟩,
        ⟨(some 38), none, .ld (.t 37) 1 false⟩,
        ⟨(some 39), none, .callV true (.c (.fn n_graph_within [])) [(.t 38), (.c (.int .i64 0)), (.c (.int .i64 15))]⟩,
        ⟨(some 40), none, .callV true (.c (.fn n_graph_unless [])) [(.t 39), (.c (.int .i64 2))]⟩,
        ⟨(some 6), none, .mv (.t 40)⟩] (some [6]))
      .rt)
      .sk))))))))
  (.sq (.op 0 [⟨(some 41), none, .fa (.t 5) 2⟩,
    ⟨(some 42), none, .ld (.t 41) 1 false⟩,
    ⟨(some 43), none, .mv (.t 42)⟩,
    ⟨(some 44), (some (43, false)), .fa (.t 4) 3⟩,
    ⟨(some 45), (some (43, false)), .ld (.t 44) 1 false⟩,
    ⟨(some 46), (some (43, false)), .bin .eql (.t 45) (.c (.int .i64 0))⟩,
    ⟨(some 47), none, .pick (.t 43) (.c (.bool true)) (.t 46)⟩,
    ⟨(some 48), none, .callV true (.c (.fn n_graph_unless [])) [(.t 47), (.c (.int .i64 3))]⟩,
    ⟨(some 6), none, .mv (.t 48)⟩] (some [6]))
  .rt))),
  [.t 6]⟩
def c_ratchetbase_IsWidth : FnIR := ⟨5,
  (.sq (.op 0 [⟨(some 2), none, .mv (.c (.bool false))⟩] none)
  (.sq (.op 0 [⟨(some 3), none, .mv (.t 0)⟩,
    ⟨(some 4), none, .callV true (.c (.fn n_ratchetbase_Within [])) [(.t 3), (.c (.int .i64 1)), (.c (.int .i64 16))]⟩,
    ⟨(some 2), none, .mv (.t 4)⟩] none)
  .rt)),
  [.t 2]⟩
def b_ratchetbase_NodesErr_L0 : IR :=
 (.sq (.sq (.op 0 [⟨(some 11), none, .mv (.t 6)⟩,
   ⟨(some 12), none, .mv (.t 1)⟩,
   ⟨(some 13), none, .len false (.t 12)⟩,
   ⟨(some 14), none, .bin .lss (.t 11) (.t 13)⟩] (some [0, 1, 6, 14]))
 (.cd (.t 14)
  .sk
  (.ex 0)))
 (.sq (.bk 1 (.sq (.op 0 [⟨(some 17), none, .mv (.t 0)⟩,
    ⟨(some 18), none, .mv (.t 1)⟩,
    ⟨(some 19), none, .mv (.t 6)⟩,
    ⟨(some 20), none, .callV true (.c (.fn n_ratchetbase_nodeErr [])) [(.t 17), (.t 18), (.t 19)]⟩,
    ⟨(some 7), none, .mv (.t 20)⟩] (some [0, 1, 6, 7]))
  (.sq (.op 0 [⟨(some 21), none, .mv (.t 7)⟩,
    ⟨(some 22), none, .bin .neq (.t 21) (.c (.int .i64 0))⟩] none)
  (.cd (.t 22)
   (.sq (.op 0 [⟨(some 23), none, .mv (.t 6)⟩,
     ⟨(some 24), none, .mv (.t 7)⟩,
     ⟨(some 4), none, .mv (.t 23)⟩,
     ⟨(some 5), none, .mv (.t 24)⟩] (some [4, 5]))
   .rt)
   .sk))))
 (.op 0 [⟨(some 15), none, .mv (.t 6)⟩,
   ⟨(some 16), none, .bin .add (.t 15) (.c (.int .i64 1))⟩,
   ⟨(some 6), none, .mv (.t 16)⟩] none)))
def c_ratchetbase_NodesErr_L0 : IR := b_ratchetbase_NodesErr_L0
theorem u_ratchetbase_NodesErr_L0 {C : Call} {L : Loop} {π : Id} {k0 : List Id} {e : Env} {s : Sto} : evC C L π k0 c_ratchetbase_NodesErr_L0 e s = evC C L π k0 b_ratchetbase_NodesErr_L0 e s := rfl
def c_ratchetbase_NodesErr : FnIR := ⟨25,
  (.sq (.op 0 [⟨(some 4), none, .mv (.c (.int .i64 0))⟩,
    ⟨(some 5), none, .mv (.c (.int .i64 0))⟩] none)
  (.sq (.sq (.op 0 [⟨(some 8), none, .mv (.t 1)⟩,
    ⟨(some 9), none, .len false (.t 8)⟩,
    ⟨(some 10), none, .bin .gtr (.t 9) (.c (.int .i64 400))⟩] none)
  (.cd (.t 10)
   (.sq (.op 0 [⟨(some 4), none, .mv (.c (.int .i64 0))⟩,
     ⟨(some 5), none, .mv (.c (.int .i64 8))⟩] none)
   .rt)
   .sk))
  (.sq (.sq (.op 0 [⟨(some 6), none, .mv (.c (.int .i64 0))⟩] none)
  (.kp [] [4, 5] (.bk 0 (.lp [] [0, 1, 6] c_ratchetbase_NodesErr_L0))))
  (.sq (.op 0 [⟨(some 4), none, .mv (.c (.int .i64 0))⟩,
    ⟨(some 5), none, .mv (.c (.int .i64 0))⟩] none)
  .rt)))),
  [.t 4, .t 5]⟩
def c_ratchetbase_IsNode : FnIR := ⟨10,
  (.sq (.op 0 [⟨(some 4), none, .mv (.c (.bool false))⟩] none)
  (.sq (.op 0 [⟨(some 5), none, .mv (.t 1)⟩,
    ⟨(some 6), none, .mv (.t 0)⟩,
    ⟨(some 7), none, .len false (.t 6)⟩,
    ⟨(some 8), none, .bin .sub (.t 7) (.c (.int .i64 1))⟩,
    ⟨(some 9), none, .callV true (.c (.fn n_ratchetbase_Within [])) [(.t 5), (.c (.int .i64 0)), (.t 8)]⟩,
    ⟨(some 4), none, .mv (.t 9)⟩] (some [4]))
  .rt)),
  [.t 4]⟩
def c_graph_namedErr : FnIR := ⟨19,
  (.sq (.op 0 [⟨(some 4), none, .box (.t 1) 1⟩,
    ⟨(some 6), none, .mv (.c (.int .i64 0))⟩] none)
  (.sq (.op 0 [⟨(some 8), none, .mv (.t 2)⟩,
    ⟨(some 9), none, .mkf n_graph_namedErr_1 [(.t 4)]⟩,
    ⟨(some 10), none, .callV true (.c (.fn n_slices_ContainsFunc_int_int [])) [(.t 8), (.t 9)]⟩,
    ⟨(some 7), none, .mv (.t 10)⟩] (some [0, 4, 7]))
  (.sq (.op 0 [⟨(some 11), none, .mv (.t 0)⟩,
    ⟨(some 12), none, .ld (.t 4) 1 false⟩,
    ⟨(some 13), none, .callV true (.c (.fn n_graph_graphErr [])) [(.t 11), (.t 12)]⟩,
    ⟨(some 14), none, .mv (.t 7)⟩,
    ⟨(some 15), none, .un .not (.t 14)⟩,
    ⟨(some 16), none, .callV true (.c (.fn n_graph_unless [])) [(.t 15), (.c (.int .i64 6))]⟩,
    ⟨(some 17), none, .bsl t_api_Errno 1 false [.int .i64 0] 2 [(0, (.t 13)), (1, (.t 16))]⟩,
    ⟨(some 18), none, .callV true (.c (.fn n_graph_first [])) [(.t 17)]⟩,
    ⟨(some 6), none, .mv (.t 18)⟩] (some [6]))
  .rt))),
  [.t 6]⟩
def b_graph_leavesBelow_L0 : IR :=
 (.sq (.op 0 [⟨(some 15), none, .bin .lss (.t 14) (.t 13)⟩] none)
 (.sq (.cd (.t 15)
  .sk
  (.ex 0))
 (.sq (.bk 1 (.sq (.op 0 [⟨(some 16), none, .mv (.t 14)⟩,
    ⟨(some 17), none, .ia (.t 12) (.t 14) 4⟩,
    ⟨(some 18), none, .ld (.t 17) 4 true⟩,
    ⟨(some 8), none, .alloc [.int .i64 0, .int .i64 0, .sl 1 (some true) [], .int .i64 0]⟩,
    ⟨(some 7), none, .mv (.t 16)⟩,
    ⟨none, none, .st (.t 8) (.t 18) 4⟩] (some [5, 6, 7, 8, 12, 13, 14]))
  (.sq (.op 0 [⟨(some 19), none, .mv (.t 6)⟩,
    ⟨(some 20), none, .mv (.t 7)⟩,
    ⟨(some 21), none, .ia (.t 19) (.t 20) 1⟩,
    ⟨(some 22), none, .ld (.t 21) 1 false⟩,
    ⟨(some 23), none, .mv (.t 22)⟩,
    ⟨(some 24), (some (23, true)), .fa (.t 8) 0⟩,
    ⟨(some 25), (some (23, true)), .ld (.t 24) 1 false⟩,
    ⟨(some 26), (some (23, true)), .bin .eql (.t 25) (.c (.int .i64 1))⟩,
    ⟨(some 27), none, .pick (.t 23) (.t 26) (.c (.bool false))⟩] (some [5, 6, 8, 12, 13, 14, 27]))
  (.cd (.t 27)
   (.op 0 [⟨(some 28), none, .mv (.t 5)⟩,
     ⟨(some 29), none, .fa (.t 8) 3⟩,
     ⟨(some 30), none, .ld (.t 29) 1 false⟩,
     ⟨(some 31), none, .bsl t_int 1 false [.int .i64 0] 1 [(0, (.t 30))]⟩,
     ⟨(some 32), none, .app (.t 28) (.t 31) t_int 1⟩,
     ⟨(some 5), none, .mv (.t 32)⟩] (some [5, 6, 12, 13, 14]))
   .sk))))
 (.op 0 [⟨(some 33), none, .bin .add (.t 14) (.c (.int .i64 1))⟩,
   ⟨(some 14), none, .mv (.t 33)⟩] none))))
def c_graph_leavesBelow_L0 : IR := b_graph_leavesBelow_L0
theorem u_graph_leavesBelow_L0 {C : Call} {L : Loop} {π : Id} {k0 : List Id} {e : Env} {s : Sto} : evC C L π k0 c_graph_leavesBelow_L0 e s = evC C L π k0 b_graph_leavesBelow_L0 e s := rfl
def c_graph_leavesBelow : FnIR := ⟨38,
  (.sq (.op 0 [⟨(some 4), none, .mv (.c (.sl 1 (some true) []))⟩] none)
  (.sq (.op 0 [⟨(some 5), none, .mv (.c (.sl 1 (some true) []))⟩] none)
  (.sq (.op 0 [⟨(some 9), none, .mv (.t 0)⟩,
    ⟨(some 10), none, .mv (.t 1)⟩,
    ⟨(some 11), none, .callV false (.c (.fn n_graph_below [])) [(.t 9), (.t 10)]⟩,
    ⟨(some 6), none, .mv (.t 11)⟩] (some [0, 5, 6]))
  (.sq (.sq (.op 0 [⟨(some 12), none, .mv (.t 0)⟩,
    ⟨(some 13), none, .len false (.t 12)⟩,
    ⟨(some 14), none, .mv (.c (.int .i64 0))⟩] none)
  (.kp [5] [4] (.bk 0 (.lp [(t_int, .inl 5)] [5, 6, 12, 13, 14] c_graph_leavesBelow_L0))))
  (.sq (.op 0 [⟨(some 34), none, .mv (.t 5)⟩,
    ⟨(some 35), none, .callS (.c (.fn n_slices_Sort_int_int [])) [(.t 34)]⟩] none)
  (.sq (.op 0 [⟨(some 36), none, .mv (.t 5)⟩,
    ⟨(some 37), none, .callS (.c (.fn n_slices_Compact_int_int [])) [(.t 36)]⟩,
    ⟨(some 4), none, .mv (.t 37)⟩] none)
  .rt)))))),
  [.t 4]⟩
def c_graph_graphErr : FnIR := ⟨14,
  (.sq (.op 0 [⟨(some 4), none, .mv (.c (.int .i64 0))⟩] none)
  (.sq (.op 0 [⟨(some 8), none, .mv (.t 0)⟩,
    ⟨(some 9), none, .mv (.t 1)⟩,
    ⟨(some 10), none, .callV true (.c (.fn n_graph_CheckNodes [])) [(.t 8), (.t 9)]⟩,
    ⟨(some 7), none, .mv (.t 10)⟩,
    ⟨(some 11), none, .ext (.t 7) 0⟩,
    ⟨(some 12), none, .ext (.t 7) 1⟩,
    ⟨(some 5), none, .mv (.t 11)⟩,
    ⟨(some 6), none, .mv (.t 12)⟩] (some [6]))
  (.sq (.op 0 [⟨(some 13), none, .mv (.t 6)⟩,
    ⟨(some 4), none, .mv (.t 13)⟩] none)
  .rt))),
  [.t 4]⟩
def c_graph_ValuesOf_1 : FnIR := ⟨13,
  (.sq (.op 0 [⟨(some 5), none, .mv (.c (.int .i64 0))⟩] none)
  (.sq (.op 0 [⟨(some 6), none, .mv (.t 1)⟩,
    ⟨(some 7), none, .ld (.t 2) 1 false⟩,
    ⟨(some 8), none, .mv (.t 0)⟩,
    ⟨(some 9), none, .ia (.t 7) (.t 8) 1⟩,
    ⟨(some 10), none, .ld (.t 9) 1 false⟩,
    ⟨(some 11), none, .callV true (.c (.fn n_graph_fits [])) [(.t 6), (.t 10)]⟩,
    ⟨(some 12), none, .callV true (.c (.fn n_graph_unless [])) [(.t 11), (.c (.int .i64 2))]⟩,
    ⟨(some 5), none, .mv (.t 12)⟩] (some [5]))
  .rt)),
  [.t 5]⟩
def c_graph_fits : FnIR := ⟨14,
  (.sq (.op 0 [⟨(some 4), none, .mv (.c (.bool false))⟩] none)
  (.sq (.op 0 [⟨(some 5), none, .mv (.t 1)⟩,
    ⟨(some 6), none, .bin .geq (.t 5) (.c (.int .i64 0))⟩,
    ⟨(some 7), none, .mv (.t 6)⟩,
    ⟨(some 8), (some (7, true)), .mv (.t 0)⟩,
    ⟨(some 9), (some (7, true)), .mv (.t 1)⟩,
    ⟨(some 10), (some (7, true)), .bin .shl (.c (.int .i64 1)) (.t 9)⟩,
    ⟨(some 11), (some (7, true)), .bin .sub (.t 10) (.c (.int .i64 1))⟩,
    ⟨(some 12), (some (7, true)), .callV true (.c (.fn n_graph_within [])) [(.t 8), (.c (.int .i64 0)), (.t 11)]⟩,
    ⟨(some 13), none, .pick (.t 7) (.t 12) (.c (.bool false))⟩,
    ⟨(some 4), none, .mv (.t 13)⟩] (some [4]))
  .rt)),
  [.t 4]⟩
def b_graph_valued_L0 : IR :=
 (.sq (.op 0 [⟨(some 14), none, .bin .lss (.t 13) (.t 12)⟩] none)
 (.sq (.cd (.t 14)
  .sk
  (.ex 0))
 (.sq (.bk 1 (.sq (.op 0 [⟨(some 15), none, .ia (.t 11) (.t 13) 4⟩,
    ⟨(some 16), none, .ld (.t 15) 4 true⟩,
    ⟨(some 8), none, .alloc [.int .i64 0, .int .i64 0, .sl 1 (some true) [], .int .i64 0]⟩,
    ⟨none, none, .st (.t 8) (.t 16) 4⟩] (some [0, 1, 5, 6, 8, 11, 12, 13]))
  (.sq (.sq (.op 0 [⟨(some 17), none, .fa (.t 8) 0⟩,
    ⟨(some 18), none, .ld (.t 17) 1 false⟩,
    ⟨(some 19), none, .bin .eql (.t 18) (.c (.int .i64 1))⟩] none)
  (.cd (.t 19)
   (.sq (.op 0 [⟨(some 20), none, .mv (.t 6)⟩,
     ⟨(some 21), none, .mv (.t 1)⟩,
     ⟨(some 22), none, .fa (.t 8) 3⟩,
     ⟨(some 23), none, .ld (.t 22) 1 false⟩,
     ⟨(some 24), none, .ia (.t 21) (.t 23) 1⟩,
     ⟨(some 25), none, .ld (.t 24) 1 false⟩,
     ⟨(some 26), none, .bsl t_int 1 false [.int .i64 0] 1 [(0, (.t 25))]⟩,
     ⟨(some 27), none, .app (.t 20) (.t 26) t_int 1⟩,
     ⟨(some 6), none, .mv (.t 27)⟩] (some [0, 1, 5, 6, 11, 12, 13]))
   (.ex 1))
   .sk))
  (.sq (.op 0 [⟨(some 28), none, .mv (.t 0)⟩,
    ⟨(some 29), none, .ld (.t 8) 4 true⟩,
    ⟨(some 30), none, .mv (.t 6)⟩,
    ⟨(some 31), none, .callV true (.c (.fn n_graph_applied [])) [(.t 5), (.t 28), (.t 29), (.t 30)]⟩,
    ⟨(some 9), none, .mv (.t 31)⟩] (some [0, 1, 5, 6, 9, 11, 12, 13]))
  (.op 0 [⟨(some 32), none, .mv (.t 6)⟩,
    ⟨(some 33), none, .mv (.t 9)⟩,
    ⟨(some 34), none, .bsl t_int 1 false [.int .i64 0] 1 [(0, (.t 33))]⟩,
    ⟨(some 35), none, .app (.t 32) (.t 34) t_int 1⟩,
    ⟨(some 6), none, .mv (.t 35)⟩] (some [0, 1, 5, 6, 11, 12, 13]))))))
 (.op 0 [⟨(some 36), none, .bin .add (.t 13) (.c (.int .i64 1))⟩,
   ⟨(some 13), none, .mv (.t 36)⟩] none))))
def c_graph_valued_L0 : IR := b_graph_valued_L0
theorem u_graph_valued_L0 {C : Call} {L : Loop} {π : Id} {k0 : List Id} {e : Env} {s : Sto} : evC C L π k0 c_graph_valued_L0 e s = evC C L π k0 b_graph_valued_L0 e s := rfl
def c_graph_valued : FnIR := ⟨38,
  (.sq (.op 0 [⟨(some 4), none, .mv (.c (.sl 1 (some true) []))⟩] none)
  (.sq (.op 0 [⟨(some 10), none, .callV true (.c (.fn n_graph_operations [])) []⟩,
    ⟨(some 5), none, .alloc [.str ⟨#[]⟩, .int .i64 0, .bool false, .nilf, .nilf, .str ⟨#[]⟩, .int .i64 0, .bool false, .nilf, .nilf, .str ⟨#[]⟩, .int .i64 0, .bool false, .nilf, .nilf, .str ⟨#[]⟩, .int .i64 0, .bool false, .nilf, .nilf, .str ⟨#[]⟩, .int .i64 0, .bool false, .nilf, .nilf, .str ⟨#[]⟩, .int .i64 0, .bool false, .nilf, .nilf, .str ⟨#[]⟩, .int .i64 0, .bool false, .nilf, .nilf, .str ⟨#[]⟩, .int .i64 0, .bool false, .nilf, .nilf, .str ⟨#[]⟩, .int .i64 0, .bool false, .nilf, .nilf, .str ⟨#[]⟩, .int .i64 0, .bool false, .nilf, .nilf, .str ⟨#[]⟩, .int .i64 0, .bool false, .nilf, .nilf, .str ⟨#[]⟩, .int .i64 0, .bool false, .nilf, .nilf, .str ⟨#[]⟩, .int .i64 0, .bool false, .nilf, .nilf, .str ⟨#[]⟩, .int .i64 0, .bool false, .nilf, .nilf, .str ⟨#[]⟩, .int .i64 0, .bool false, .nilf, .nilf, .str ⟨#[]⟩, .int .i64 0, .bool false, .nilf, .nilf, .str ⟨#[]⟩, .int .i64 0, .bool false, .nilf, .nilf, .str ⟨#[]⟩, .int .i64 0, .bool false, .nilf, .nilf, .str ⟨#[]⟩, .int .i64 0, .bool false, .nilf, .nilf]⟩,
    ⟨none, none, .st (.t 5) (.t 10) 95⟩] none)
  (.sq (.op 0 [⟨(some 6), none, .mv (.c (.sl 1 (some true) []))⟩] none)
  (.sq (.sq (.op 0 [⟨(some 11), none, .mv (.t 0)⟩,
    ⟨(some 12), none, .len false (.t 11)⟩,
    ⟨(some 13), none, .mv (.c (.int .i64 0))⟩] none)
  (.kp [6] [4] (.bk 0 (.lp [(t_int, .inl 6)] [0, 1, 5, 6, 11, 12, 13] c_graph_valued_L0))))
  (.sq (.op 0 [⟨(some 37), none, .mv (.t 6)⟩,
    ⟨(some 4), none, .mv (.t 37)⟩] none)
  .rt))))),
  [.t 4]⟩
def b_graph_bitsErr_L0 : IR :=
 (.sq (.op 0 [⟨(some 11), none, .bin .lss (.t 10) (.t 9)⟩] none)
 (.sq (.cd (.t 11)
  .sk
  (.ex 0))
 (.sq (.bk 1 (.sq (.op 0 [⟨(some 12), none, .ia (.t 8) (.t 10) 1⟩,
    ⟨(some 13), none, .ld (.t 12) 1 false⟩,
    ⟨(some 7), none, .mv (.t 13)⟩] none)
  (.op 0 [⟨(some 14), none, .mv (.t 5)⟩,
    ⟨(some 15), none, .mv (.t 0)⟩,
    ⟨(some 16), none, .mv (.t 7)⟩,
    ⟨(some 17), none, .ia (.t 15) (.t 16) 1⟩,
    ⟨(some 18), none, .ld (.t 17) 1 false⟩,
    ⟨(some 19), none, .bin .add (.t 14) (.t 18)⟩,
    ⟨(some 5), none, .mv (.t 19)⟩] (some [0, 5, 8, 9, 10]))))
 (.op 0 [⟨(some 20), none, .bin .add (.t 10) (.c (.int .i64 1))⟩,
   ⟨(some 10), none, .mv (.t 20)⟩] none))))
def c_graph_bitsErr_L0 : IR := b_graph_bitsErr_L0
theorem u_graph_bitsErr_L0 {C : Call} {L : Loop} {π : Id} {k0 : List Id} {e : Env} {s : Sto} : evC C L π k0 c_graph_bitsErr_L0 e s = evC C L π k0 b_graph_bitsErr_L0 e s := rfl
def c_graph_bitsErr : FnIR := ⟨24,
  (.sq (.op 0 [⟨(some 4), none, .mv (.c (.int .i64 0))⟩] none)
  (.sq (.op 0 [⟨(some 5), none, .mv (.c (.int .i64 0))⟩] none)
  (.sq (.sq (.op 0 [⟨(some 8), none, .mv (.t 1)⟩,
    ⟨(some 9), none, .len false (.t 8)⟩,
    ⟨(some 10), none, .mv (.c (.int .i64 0))⟩] none)
  (.kp [5] [4] (.bk 0 (.lp [] [0, 5, 8, 9, 10] c_graph_bitsErr_L0))))
  (.sq (.op 0 [⟨(some 21), none, .mv (.t 5)⟩,
    ⟨(some 22), none, .bin .leq (.t 21) (.c (.int .i64 12))⟩,
    ⟨(some 23), none, .callV true (.c (.fn n_graph_unless [])) [(.t 22), (.c (.int .i64 8))]⟩,
    ⟨(some 4), none, .mv (.t 23)⟩] (some [4]))
  .rt)))),
  [.t 4]⟩
def c_graph_runs : FnIR := ⟨8,
  (.sq (.op 0 [⟨(some 3), none, .box (.t 0) 1⟩,
    ⟨(some 4), none, .box (.t 1) 1⟩,
    ⟨(some 5), none, .box (.t 2) 1⟩,
    ⟨(some 6), none, .mv (.c (.nilf))⟩] (some [3, 4, 5]))
  (.sq (.op 0 [⟨(some 7), none, .mkf n_graph_runs_1 [(.t 3), (.t 4), (.t 5)]⟩,
    ⟨(some 6), none, .mv (.t 7)⟩] none)
  .rt)),
  [.t 6]⟩
def c_slices_Clone_int_int : FnIR := ⟨8,
  (.sq (.op 0 [⟨(some 2), none, .mv (.c (.sl 1 (some true) []))⟩] none)
  (.sq (.sq (.op 0 [⟨(some 3), none, .mv (.t 0)⟩,
    ⟨(some 4), none, .isnil true false (.t 3)⟩] none)
  (.cd (.t 4)
   (.sq (.op 0 [⟨(some 2), none, .mv (.c (.sl 1 (some true) []))⟩] none)
   .rt)
   .sk))
  (.sq (.op 0 [⟨(some 5), none, .bsl t_int 1 false [.int .i64 0] 0 []⟩,
    ⟨(some 6), none, .mv (.t 0)⟩,
    ⟨(some 7), none, .app (.t 5) (.t 6) t_int 1⟩,
    ⟨(some 2), none, .mv (.t 7)⟩] (some [2]))
  .rt))),
  [.t 2]⟩
def b_graph_below_L0 : IR :=
 (.sq (.op 0 [⟨(some 18), none, .bin .lss (.t 17) (.t 16)⟩] none)
 (.sq (.cd (.t 18)
  .sk
  (.ex 0))
 (.sq (.bk 1 (.sq (.op 0 [⟨(some 19), none, .ia (.t 15) (.t 17) 1⟩,
    ⟨(some 20), none, .ld (.t 19) 1 false⟩,
    ⟨(some 7), none, .mv (.t 20)⟩] none)
  (.op 0 [⟨(some 21), none, .ld (.t 5) 1 false⟩,
    ⟨(some 22), none, .mv (.t 7)⟩,
    ⟨(some 23), none, .ia (.t 21) (.t 22) 1⟩,
    ⟨none, none, .st (.t 23) (.c (.bool true)) 1⟩] (some [0, 4, 5, 15, 16, 17]))))
 (.op 0 [⟨(some 24), none, .bin .add (.t 17) (.c (.int .i64 1))⟩,
   ⟨(some 17), none, .mv (.t 24)⟩] none))))
def c_graph_below_L0 : IR := b_graph_below_L0
theorem u_graph_below_L0 {C : Call} {L : Loop} {π : Id} {k0 : List Id} {e : Env} {s : Sto} : evC C L π k0 c_graph_below_L0 e s = evC C L π k0 b_graph_below_L0 e s := rfl
def b_graph_below_L1 : IR :=
 (.sq (.op 0 [⟨(some 33), none, .bin .lss (.t 32) (.t 31)⟩] none)
 (.sq (.cd (.t 33)
  .sk
  (.ex 4))
 (.sq (.bk 5 (.sq (.op 0 [⟨(some 34), none, .ia (.t 30) (.t 32) 1⟩,
    ⟨(some 35), none, .ld (.t 34) 1 false⟩,
    ⟨(some 11), none, .mv (.t 35)⟩] none)
  (.op 12 [⟨(some 36), none, .ld (.t 5) 1 false⟩,
    ⟨(some 37), none, .mv (.t 11)⟩,
    ⟨(some 38), none, .ld (.t 5) 1 false⟩,
    ⟨(some 39), none, .mv (.t 11)⟩,
    ⟨(some 40), none, .ia (.t 38) (.t 39) 1⟩,
    ⟨(some 41), none, .ld (.t 40) 1 false⟩,
    ⟨(some 42), none, .mv (.t 41)⟩,
    ⟨(some 43), (some (42, false)), .ld (.t 5) 1 false⟩,
    ⟨(some 44), (some (42, false)), .mv (.t 8)⟩,
    ⟨(some 45), (some (42, false)), .ia (.t 43) (.t 44) 1⟩,
    ⟨(some 46), (some (42, false)), .ld (.t 45) 1 false⟩,
    ⟨(some 47), none, .pick (.t 42) (.c (.bool true)) (.t 46)⟩,
    ⟨(some 48), none, .ia (.t 36) (.t 37) 1⟩,
    ⟨none, none, .st (.t 48) (.t 47) 1⟩] (some [5, 8, 30, 31, 32]))))
 (.op 0 [⟨(some 49), none, .bin .add (.t 32) (.c (.int .i64 1))⟩,
   ⟨(some 32), none, .mv (.t 49)⟩] none))))
def c_graph_below_L1 : IR := b_graph_below_L1
theorem u_graph_below_L1 {C : Call} {L : Loop} {π : Id} {k0 : List Id} {e : Env} {s : Sto} : evC C L π k0 c_graph_below_L1 e s = evC C L π k0 b_graph_below_L1 e s := rfl
def b_graph_below_R0A : IR :=
 (.sq (.op 0 [⟨(some 8), none, .mv (.t 27)⟩] none)
 (.op 0 [⟨(some 9), none, .alloc [.int .i64 0, .int .i64 0, .sl 1 (some true) [], .int .i64 0]⟩,
   ⟨none, none, .st (.t 9) (.t 28) 4⟩] none))
def c_graph_below_R0A : IR := b_graph_below_R0A
theorem u_graph_below_R0A {C : Call} {L : Loop} {π : Id} {k0 : List Id} {e : Env} {s : Sto} : evC C L π k0 c_graph_below_R0A e s = evC C L π k0 b_graph_below_R0A e s := rfl
def b_graph_below_R0B : IR :=
 (.bk 3 (.sq (.op 0 [⟨(some 29), none, .fa (.t 9) 2⟩,
    ⟨(some 30), none, .ld (.t 29) 1 false⟩,
    ⟨(some 31), none, .len false (.t 30)⟩,
    ⟨(some 32), none, .mv (.c (.int .i64 0))⟩] (some [5, 8, 30, 31, 32]))
  (.kp [] [] (.bk 4 (.lp [] [5, 8, 30, 31, 32] c_graph_below_L1)))))
def c_graph_below_R0B : IR := b_graph_below_R0B
theorem u_graph_below_R0B {C : Call} {L : Loop} {π : Id} {k0 : List Id} {e : Env} {s : Sto} : evC C L π k0 c_graph_below_R0B e s = evC C L π k0 b_graph_below_R0B e s := rfl
def c_graph_below : FnIR := ⟨51,
  (.sq (.op 0 [⟨(some 4), none, .mv (.c (.sl 1 (some true) []))⟩] none)
  (.sq (.op 0 [⟨(some 12), none, .mv (.t 0)⟩,
    ⟨(some 13), none, .len false (.t 12)⟩,
    ⟨(some 14), none, .mks t_bool 1 false [.bool false] (.t 13) (.t 13)⟩,
    ⟨(some 5), none, .alloc [.sl 1 (some true) []]⟩,
    ⟨none, none, .st (.t 5) (.t 14) 1⟩] (some [0, 1, 4, 5]))
  (.sq (.sq (.op 0 [⟨(some 15), none, .mv (.t 1)⟩,
    ⟨(some 16), none, .len false (.t 15)⟩,
    ⟨(some 17), none, .mv (.c (.int .i64 0))⟩] none)
  (.kp [0, 4, 5] [4] (.bk 0 (.lp [] [0, 4, 5, 15, 16, 17] c_graph_below_L0))))
  (.sq (.sq (.kp [4, 5, 26] [4] (.op 0 [⟨(some 25), none, .mv (.t 0)⟩,
    ⟨(some 26), none, .callV false (.c (.fn n_slices_Backward_api_Node_api_Node [])) [(.t 25)]⟩] none))
  (.bk 2 (.kp [5] [4] (.rf (.t 26) 51 0 [5] [27, 28] c_graph_below_R0A c_graph_below_R0B))))
  (.sq (.op 0 [⟨(some 50), none, .ld (.t 5) 1 false⟩,
    ⟨(some 4), none, .mv (.t 50)⟩] none)
  .rt))))),
  [.t 4]⟩
def b_ratchetbase_Below_L0 : IR :=
 (.sq (.sq (.op 0 [⟨(some 12), none, .mv (.t 6)⟩,
   ⟨(some 13), none, .mv (.t 1)⟩,
   ⟨(some 14), none, .len false (.t 13)⟩,
   ⟨(some 15), none, .bin .lss (.t 12) (.t 14)⟩] (some [0, 1, 5, 6, 15]))
 (.cd (.t 15)
  .sk
  (.ex 0)))
 (.sq (.bk 1 (.op 0 [⟨(some 18), none, .mv (.t 5)⟩,
    ⟨(some 19), none, .mv (.t 1)⟩,
    ⟨(some 20), none, .mv (.t 6)⟩,
    ⟨(some 21), none, .ia (.t 19) (.t 20) 1⟩,
    ⟨(some 22), none, .ld (.t 21) 1 false⟩,
    ⟨(some 23), none, .ia (.t 18) (.t 22) 1⟩,
    ⟨none, none, .st (.t 23) (.c (.bool true)) 1⟩] (some [0, 1, 5, 6])))
 (.op 0 [⟨(some 16), none, .mv (.t 6)⟩,
   ⟨(some 17), none, .bin .add (.t 16) (.c (.int .i64 1))⟩,
   ⟨(some 6), none, .mv (.t 17)⟩] none)))
def c_ratchetbase_Below_L0 : IR := b_ratchetbase_Below_L0
theorem u_ratchetbase_Below_L0 {C : Call} {L : Loop} {π : Id} {k0 : List Id} {e : Env} {s : Sto} : evC C L π k0 c_ratchetbase_Below_L0 e s = evC C L π k0 b_ratchetbase_Below_L0 e s := rfl
def b_ratchetbase_Below_L2 : IR :=
 (.sq (.sq (.op 0 [⟨(some 31), none, .mv (.t 5)⟩,
   ⟨(some 32), none, .mv (.t 7)⟩,
   ⟨(some 33), none, .ia (.t 31) (.t 32) 1⟩,
   ⟨(some 34), none, .ld (.t 33) 1 false⟩,
   ⟨(some 35), none, .mv (.t 34)⟩,
   ⟨(some 36), (some (35, true)), .mv (.t 8)⟩,
   ⟨(some 37), (some (35, true)), .mv (.t 0)⟩,
   ⟨(some 38), (some (35, true)), .mv (.t 7)⟩,
   ⟨(some 39), (some (35, true)), .ia (.t 37) (.t 38) 4⟩,
   ⟨(some 40), (some (35, true)), .fa (.t 39) 2⟩,
   ⟨(some 41), (some (35, true)), .ld (.t 40) 1 false⟩,
   ⟨(some 42), (some (35, true)), .len false (.t 41)⟩,
   ⟨(some 43), (some (35, true)), .bin .lss (.t 36) (.t 42)⟩,
   ⟨(some 44), none, .pick (.t 35) (.t 43) (.c (.bool false))⟩] (some [0, 5, 7, 8, 44]))
 (.cd (.t 44)
  .sk
  (.ex 4)))
 (.sq (.bk 5 (.op 0 [⟨(some 47), none, .mv (.t 5)⟩,
    ⟨(some 48), none, .mv (.t 0)⟩,
    ⟨(some 49), none, .mv (.t 7)⟩,
    ⟨(some 50), none, .ia (.t 48) (.t 49) 4⟩,
    ⟨(some 51), none, .fa (.t 50) 2⟩,
    ⟨(some 52), none, .ld (.t 51) 1 false⟩,
    ⟨(some 53), none, .mv (.t 8)⟩,
    ⟨(some 54), none, .ia (.t 52) (.t 53) 1⟩,
    ⟨(some 55), none, .ld (.t 54) 1 false⟩,
    ⟨(some 56), none, .ia (.t 47) (.t 55) 1⟩,
    ⟨none, none, .st (.t 56) (.c (.bool true)) 1⟩] (some [0, 5, 7, 8])))
 (.op 0 [⟨(some 45), none, .mv (.t 8)⟩,
   ⟨(some 46), none, .bin .add (.t 45) (.c (.int .i64 1))⟩,
   ⟨(some 8), none, .mv (.t 46)⟩] none)))
def c_ratchetbase_Below_L2 : IR := b_ratchetbase_Below_L2
theorem u_ratchetbase_Below_L2 {C : Call} {L : Loop} {π : Id} {k0 : List Id} {e : Env} {s : Sto} : evC C L π k0 c_ratchetbase_Below_L2 e s = evC C L π k0 b_ratchetbase_Below_L2 e s := rfl
def b_ratchetbase_Below_L1 : IR :=
 (.sq (.sq (.op 0 [⟨(some 27), none, .mv (.t 7)⟩,
   ⟨(some 28), none, .bin .geq (.t 27) (.c (.int .i64 0))⟩] none)
 (.cd (.t 28)
  .sk
  (.ex 2)))
 (.sq (.bk 3 (.sq (.op 0 [⟨(some 8), none, .mv (.c (.int .i64 0))⟩] none)
  (.kp [0, 5, 7] [4] (.bk 4 (.lp [] [0, 5, 7, 8] c_ratchetbase_Below_L2)))))
 (.op 0 [⟨(some 29), none, .mv (.t 7)⟩,
   ⟨(some 30), none, .bin .sub (.t 29) (.c (.int .i64 1))⟩,
   ⟨(some 7), none, .mv (.t 30)⟩] none)))
def c_ratchetbase_Below_L1 : IR := b_ratchetbase_Below_L1
theorem u_ratchetbase_Below_L1 {C : Call} {L : Loop} {π : Id} {k0 : List Id} {e : Env} {s : Sto} : evC C L π k0 c_ratchetbase_Below_L1 e s = evC C L π k0 b_ratchetbase_Below_L1 e s := rfl
def c_ratchetbase_Below : FnIR := ⟨58,
  (.sq (.op 0 [⟨(some 4), none, .mv (.c (.sl 1 (some true) []))⟩] none)
  (.sq (.op 0 [⟨(some 9), none, .mv (.t 0)⟩,
    ⟨(some 10), none, .len false (.t 9)⟩,
    ⟨(some 11), none, .mks t_bool 1 false [.bool false] (.t 10) (.t 10)⟩,
    ⟨(some 5), none, .mv (.t 11)⟩] (some [0, 1, 5]))
  (.sq (.sq (.op 0 [⟨(some 6), none, .mv (.c (.int .i64 0))⟩] none)
  (.kp [0, 5] [4] (.bk 0 (.lp [] [0, 1, 5, 6] c_ratchetbase_Below_L0))))
  (.sq (.sq (.op 0 [⟨(some 24), none, .mv (.t 0)⟩,
    ⟨(some 25), none, .len false (.t 24)⟩,
    ⟨(some 26), none, .bin .sub (.t 25) (.c (.int .i64 1))⟩,
    ⟨(some 7), none, .mv (.t 26)⟩] (some [0, 5, 7]))
  (.kp [5] [4] (.bk 2 (.lp [] [0, 5, 7] c_ratchetbase_Below_L1))))
  (.sq (.op 0 [⟨(some 57), none, .mv (.t 5)⟩,
    ⟨(some 4), none, .mv (.t 57)⟩] none)
  .rt))))),
  [.t 4]⟩
def c_ratchetbase_Apply : FnIR := ⟨221,
  (.sq (.op 0 [⟨(some 4), none, .box (.t 0) 4⟩,
    ⟨(some 8), none, .mv (.c (.int .i64 0))⟩] none)
  (.sq (.op 0 [⟨(some 10), none, .fa (.t 4) 1⟩,
    ⟨(some 11), none, .ld (.t 10) 1 false⟩,
    ⟨(some 12), none, .callV true (.c (.fn n_ratchetbase_Power [])) [(.t 11)]⟩,
    ⟨(some 9), none, .mv (.t 12)⟩] (some [1, 2, 3, 4, 9]))
  (.sq (.sq (.op 0 [⟨(some 13), none, .fa (.t 4) 0⟩,
    ⟨(some 14), none, .ld (.t 13) 1 false⟩] none)
  (.bk 0 (.sq (.op 0 [⟨(some 16), none, .bin .eql (.t 14) (.c (.int .i64 0))⟩,
     ⟨(some 15), none, .mv (.t 16)⟩] none)
   (.cd (.t 15)
    (.sq (.op 0 [⟨(some 17), none, .fa (.t 4) 3⟩,
      ⟨(some 18), none, .ld (.t 17) 1 false⟩,
      ⟨(some 8), none, .mv (.t 18)⟩] none)
    .rt)
    (.sq (.op 0 [⟨(some 20), none, .bin .eql (.t 14) (.c (.int .i64 1))⟩,
      ⟨(some 19), none, .mv (.t 20)⟩] none)
    (.cd (.t 19)
     (.sq (.op 0 [⟨(some 21), none, .mv (.t 3)⟩,
       ⟨(some 22), none, .fa (.t 4) 3⟩,
       ⟨(some 23), none, .ld (.t 22) 1 false⟩,
       ⟨(some 24), none, .ia (.t 21) (.t 23) 1⟩,
       ⟨(some 25), none, .ld (.t 24) 1 false⟩,
       ⟨(some 8), none, .mv (.t 25)⟩] (some [8]))
     .rt)
     (.sq (.op 0 [⟨(some 27), none, .bin .eql (.t 14) (.c (.int .i64 2))⟩,
       ⟨(some 26), none, .mv (.t 27)⟩] none)
     (.cd (.t 26)
      (.sq (.op 0 [⟨(some 28), none, .mv (.t 9)⟩,
        ⟨(some 29), none, .bin .sub (.t 28) (.c (.int .i64 1))⟩,
        ⟨(some 30), none, .mv (.t 1)⟩,
        ⟨(some 31), none, .ia (.t 30) (.c (.int .i64 0)) 1⟩,
        ⟨(some 32), none, .ld (.t 31) 1 false⟩,
        ⟨(some 33), none, .bin .sub (.t 29) (.t 32)⟩,
        ⟨(some 8), none, .mv (.t 33)⟩] (some [8]))
      .rt)
      (.sq (.op 0 [⟨(some 35), none, .bin .eql (.t 14) (.c (.int .i64 3))⟩,
        ⟨(some 34), none, .mv (.t 35)⟩] none)
      (.cd (.t 34)
       (.sq (.op 6 [⟨(some 36), none, .mv (.t 1)⟩,
         ⟨(some 37), none, .ia (.t 36) (.c (.int .i64 0)) 1⟩,
         ⟨(some 38), none, .ld (.t 37) 1 false⟩,
         ⟨(some 39), none, .mv (.t 1)⟩,
         ⟨(some 40), none, .ia (.t 39) (.c (.int .i64 1)) 1⟩,
         ⟨(some 41), none, .ld (.t 40) 1 false⟩,
         ⟨(some 42), none, .bin .and (.t 38) (.t 41)⟩,
         ⟨(some 8), none, .mv (.t 42)⟩] (some [8]))
       .rt)
       (.sq (.op 0 [⟨(some 44), none, .bin .eql (.t 14) (.c (.int .i64 4))⟩,
         ⟨(some 43), none, .mv (.t 44)⟩] none)
       (.cd (.t 43)
        (.sq (.op 6 [⟨(some 45), none, .mv (.t 1)⟩,
          ⟨(some 46), none, .ia (.t 45) (.c (.int .i64 0)) 1⟩,
          ⟨(some 47), none, .ld (.t 46) 1 false⟩,
          ⟨(some 48), none, .mv (.t 1)⟩,
          ⟨(some 49), none, .ia (.t 48) (.c (.int .i64 1)) 1⟩,
          ⟨(some 50), none, .ld (.t 49) 1 false⟩,
          ⟨(some 51), none, .bin .or (.t 47) (.t 50)⟩,
          ⟨(some 8), none, .mv (.t 51)⟩] (some [8]))
        .rt)
        (.sq (.op 0 [⟨(some 53), none, .bin .eql (.t 14) (.c (.int .i64 5))⟩,
          ⟨(some 52), none, .mv (.t 53)⟩] none)
        (.cd (.t 52)
         (.sq (.op 6 [⟨(some 54), none, .mv (.t 1)⟩,
           ⟨(some 55), none, .ia (.t 54) (.c (.int .i64 0)) 1⟩,
           ⟨(some 56), none, .ld (.t 55) 1 false⟩,
           ⟨(some 57), none, .mv (.t 1)⟩,
           ⟨(some 58), none, .ia (.t 57) (.c (.int .i64 1)) 1⟩,
           ⟨(some 59), none, .ld (.t 58) 1 false⟩,
           ⟨(some 60), none, .bin .xor (.t 56) (.t 59)⟩,
           ⟨(some 8), none, .mv (.t 60)⟩] (some [8]))
         .rt)
         (.sq (.op 0 [⟨(some 62), none, .bin .eql (.t 14) (.c (.int .i64 6))⟩,
           ⟨(some 61), none, .mv (.t 62)⟩] none)
         (.cd (.t 61)
          (.sq (.op 8 [⟨(some 63), none, .mv (.t 1)⟩,
            ⟨(some 64), none, .ia (.t 63) (.c (.int .i64 0)) 1⟩,
            ⟨(some 65), none, .ld (.t 64) 1 false⟩,
            ⟨(some 66), none, .mv (.t 1)⟩,
            ⟨(some 67), none, .ia (.t 66) (.c (.int .i64 1)) 1⟩,
            ⟨(some 68), none, .ld (.t 67) 1 false⟩,
            ⟨(some 69), none, .bin .add (.t 65) (.t 68)⟩,
            ⟨(some 70), none, .mv (.t 9)⟩,
            ⟨(some 71), none, .bin .rem (.t 69) (.t 70)⟩,
            ⟨(some 8), none, .mv (.t 71)⟩] (some [8]))
          .rt)
          (.sq (.op 0 [⟨(some 73), none, .bin .eql (.t 14) (.c (.int .i64 7))⟩,
            ⟨(some 72), none, .mv (.t 73)⟩] none)
          (.cd (.t 72)
           (.sq (.op 10 [⟨(some 74), none, .mv (.t 1)⟩,
             ⟨(some 75), none, .ia (.t 74) (.c (.int .i64 0)) 1⟩,
             ⟨(some 76), none, .ld (.t 75) 1 false⟩,
             ⟨(some 77), none, .mv (.t 1)⟩,
             ⟨(some 78), none, .ia (.t 77) (.c (.int .i64 1)) 1⟩,
             ⟨(some 79), none, .ld (.t 78) 1 false⟩,
             ⟨(some 80), none, .bin .sub (.t 76) (.t 79)⟩,
             ⟨(some 81), none, .mv (.t 9)⟩,
             ⟨(some 82), none, .bin .add (.t 80) (.t 81)⟩,
             ⟨(some 83), none, .mv (.t 9)⟩,
             ⟨(some 84), none, .bin .rem (.t 82) (.t 83)⟩,
             ⟨(some 8), none, .mv (.t 84)⟩] (some [8]))
           .rt)
           (.sq (.op 0 [⟨(some 86), none, .bin .eql (.t 14) (.c (.int .i64 8))⟩,
             ⟨(some 85), none, .mv (.t 86)⟩] none)
           (.cd (.t 85)
            (.sq (.op 8 [⟨(some 87), none, .mv (.t 1)⟩,
              ⟨(some 88), none, .ia (.t 87) (.c (.int .i64 0)) 1⟩,
              ⟨(some 89), none, .ld (.t 88) 1 false⟩,
              ⟨(some 90), none, .mv (.t 1)⟩,
              ⟨(some 91), none, .ia (.t 90) (.c (.int .i64 1)) 1⟩,
              ⟨(some 92), none, .ld (.t 91) 1 false⟩,
              ⟨(some 93), none, .bin .mul (.t 89) (.t 92)⟩,
              ⟨(some 94), none, .mv (.t 9)⟩,
              ⟨(some 95), none, .bin .rem (.t 93) (.t 94)⟩,
              ⟨(some 8), none, .mv (.t 95)⟩] (some [8]))
            .rt)
            (.sq (.op 0 [⟨(some 97), none, .bin .eql (.t 14) (.c (.int .i64 9))⟩,
              ⟨(some 96), none, .mv (.t 97)⟩] none)
            (.cd (.t 96)
             (.sq (.op 6 [⟨(some 98), none, .mv (.t 1)⟩,
               ⟨(some 99), none, .ia (.t 98) (.c (.int .i64 0)) 1⟩,
               ⟨(some 100), none, .ld (.t 99) 1 false⟩,
               ⟨(some 101), none, .mv (.t 1)⟩,
               ⟨(some 102), none, .ia (.t 101) (.c (.int .i64 1)) 1⟩,
               ⟨(some 103), none, .ld (.t 102) 1 false⟩,
               ⟨(some 104), none, .bin .eql (.t 100) (.t 103)⟩,
               ⟨(some 105), none, .callV true (.c (.fn n_ratchetbase_Bit [])) [(.t 104)]⟩,
               ⟨(some 8), none, .mv (.t 105)⟩] (some [8]))
             .rt)
             (.sq (.op 0 [⟨(some 107), none, .bin .eql (.t 14) (.c (.int .i64 10))⟩,
               ⟨(some 106), none, .mv (.t 107)⟩] none)
             (.cd (.t 106)
              (.sq (.op 6 [⟨(some 108), none, .mv (.t 1)⟩,
                ⟨(some 109), none, .ia (.t 108) (.c (.int .i64 0)) 1⟩,
                ⟨(some 110), none, .ld (.t 109) 1 false⟩,
                ⟨(some 111), none, .mv (.t 1)⟩,
                ⟨(some 112), none, .ia (.t 111) (.c (.int .i64 1)) 1⟩,
                ⟨(some 113), none, .ld (.t 112) 1 false⟩,
                ⟨(some 114), none, .bin .lss (.t 110) (.t 113)⟩,
                ⟨(some 115), none, .callV true (.c (.fn n_ratchetbase_Bit [])) [(.t 114)]⟩,
                ⟨(some 8), none, .mv (.t 115)⟩] (some [8]))
              .rt)
              (.sq (.op 0 [⟨(some 117), none, .bin .eql (.t 14) (.c (.int .i64 11))⟩,
                ⟨(some 116), none, .mv (.t 117)⟩] none)
              (.cd (.t 116)
               (.sq (.op 13 [⟨(some 118), none, .mv (.t 1)⟩,
                 ⟨(some 119), none, .ia (.t 118) (.c (.int .i64 0)) 1⟩,
                 ⟨(some 120), none, .ld (.t 119) 1 false⟩,
                 ⟨(some 121), none, .mv (.t 2)⟩,
                 ⟨(some 122), none, .ia (.t 121) (.c (.int .i64 0)) 1⟩,
                 ⟨(some 123), none, .ld (.t 122) 1 false⟩,
                 ⟨(some 124), none, .callV true (.c (.fn n_ratchetbase_Signed [])) [(.t 120), (.t 123)]⟩,
                 ⟨(some 125), none, .mv (.t 1)⟩,
                 ⟨(some 126), none, .ia (.t 125) (.c (.int .i64 1)) 1⟩,
                 ⟨(some 127), none, .ld (.t 126) 1 false⟩,
                 ⟨(some 128), none, .mv (.t 2)⟩,
                 ⟨(some 129), none, .ia (.t 128) (.c (.int .i64 1)) 1⟩,
                 ⟨(some 130), none, .ld (.t 129) 1 false⟩,
                 ⟨(some 131), none, .callV true (.c (.fn n_ratchetbase_Signed [])) [(.t 127), (.t 130)]⟩,
                 ⟨(some 132), none, .bin .lss (.t 124) (.t 131)⟩,
                 ⟨(some 133), none, .callV true (.c (.fn n_ratchetbase_Bit [])) [(.t 132)]⟩,
                 ⟨(some 8), none, .mv (.t 133)⟩] (some [8]))
               .rt)
               (.sq (.op 0 [⟨(some 135), none, .bin .eql (.t 14) (.c (.int .i64 12))⟩,
                 ⟨(some 134), none, .mv (.t 135)⟩] none)
               (.cd (.t 134)
                (.sq (.sq (.op 0 [⟨(some 136), none, .mv (.t 1)⟩,
                  ⟨(some 137), none, .ia (.t 136) (.c (.int .i64 0)) 1⟩,
                  ⟨(some 138), none, .ld (.t 137) 1 false⟩,
                  ⟨(some 139), none, .bin .eql (.t 138) (.c (.int .i64 1))⟩] (some [1, 139]))
                (.cd (.t 139)
                 (.sq (.op 0 [⟨(some 140), none, .mv (.t 1)⟩,
                   ⟨(some 141), none, .ia (.t 140) (.c (.int .i64 1)) 1⟩,
                   ⟨(some 142), none, .ld (.t 141) 1 false⟩,
                   ⟨(some 8), none, .mv (.t 142)⟩] (some [8]))
                 .rt)
                 .sk))
                (.sq (.op 0 [⟨(some 143), none, .mv (.t 1)⟩,
                  ⟨(some 144), none, .ia (.t 143) (.c (.int .i64 2)) 1⟩,
                  ⟨(some 145), none, .ld (.t 144) 1 false⟩,
                  ⟨(some 8), none, .mv (.t 145)⟩] (some [8]))
                .rt))
                (.sq (.op 0 [⟨(some 147), none, .bin .eql (.t 14) (.c (.int .i64 13))⟩,
                  ⟨(some 146), none, .mv (.t 147)⟩] none)
                (.cd (.t 146)
                 (.sq (.op 11 [⟨(some 148), none, .mv (.t 1)⟩,
                   ⟨(some 149), none, .ia (.t 148) (.c (.int .i64 0)) 1⟩,
                   ⟨(some 150), none, .ld (.t 149) 1 false⟩,
                   ⟨(some 151), none, .mv (.t 2)⟩,
                   ⟨(some 152), none, .ia (.t 151) (.c (.int .i64 1)) 1⟩,
                   ⟨(some 153), none, .ld (.t 152) 1 false⟩,
                   ⟨(some 154), none, .callV true (.c (.fn n_ratchetbase_Power [])) [(.t 153)]⟩,
                   ⟨(some 155), none, .bin .mul (.t 150) (.t 154)⟩,
                   ⟨(some 156), none, .mv (.t 1)⟩,
                   ⟨(some 157), none, .ia (.t 156) (.c (.int .i64 1)) 1⟩,
                   ⟨(some 158), none, .ld (.t 157) 1 false⟩,
                   ⟨(some 159), none, .bin .add (.t 155) (.t 158)⟩,
                   ⟨(some 8), none, .mv (.t 159)⟩] (some [8]))
                 .rt)
                 (.sq (.op 0 [⟨(some 161), none, .bin .eql (.t 14) (.c (.int .i64 14))⟩,
                   ⟨(some 160), none, .mv (.t 161)⟩] none)
                 (.cd (.t 160)
                  (.sq (.op 8 [⟨(some 162), none, .mv (.t 1)⟩,
                    ⟨(some 163), none, .ia (.t 162) (.c (.int .i64 0)) 1⟩,
                    ⟨(some 164), none, .ld (.t 163) 1 false⟩,
                    ⟨(some 165), none, .fa (.t 4) 3⟩,
                    ⟨(some 166), none, .ld (.t 165) 1 false⟩,
                    ⟨(some 167), none, .callV true (.c (.fn n_ratchetbase_Power [])) [(.t 166)]⟩,
                    ⟨(some 168), none, .bin .quo (.t 164) (.t 167)⟩,
                    ⟨(some 169), none, .mv (.t 9)⟩,
                    ⟨(some 170), none, .bin .rem (.t 168) (.t 169)⟩,
                    ⟨(some 8), none, .mv (.t 170)⟩] (some [8]))
                  .rt)
                  (.sq (.op 0 [⟨(some 172), none, .bin .eql (.t 14) (.c (.int .i64 15))⟩,
                    ⟨(some 171), none, .mv (.t 172)⟩] none)
                  (.cd (.t 171)
                   (.sq (.op 0 [⟨(some 173), none, .mv (.t 1)⟩,
                     ⟨(some 174), none, .ia (.t 173) (.c (.int .i64 0)) 1⟩,
                     ⟨(some 175), none, .ld (.t 174) 1 false⟩,
                     ⟨(some 8), none, .mv (.t 175)⟩] (some [8]))
                   .rt)
                   (.sq (.op 0 [⟨(some 177), none, .bin .eql (.t 14) (.c (.int .i64 16))⟩,
                     ⟨(some 176), none, .mv (.t 177)⟩] none)
                   (.cd (.t 176)
                    (.sq (.op 10 [⟨(some 178), none, .mv (.t 1)⟩,
                      ⟨(some 179), none, .ia (.t 178) (.c (.int .i64 0)) 1⟩,
                      ⟨(some 180), none, .ld (.t 179) 1 false⟩,
                      ⟨(some 181), none, .mv (.t 2)⟩,
                      ⟨(some 182), none, .ia (.t 181) (.c (.int .i64 0)) 1⟩,
                      ⟨(some 183), none, .ld (.t 182) 1 false⟩,
                      ⟨(some 184), none, .callV true (.c (.fn n_ratchetbase_Signed [])) [(.t 180), (.t 183)]⟩,
                      ⟨(some 185), none, .mv (.t 9)⟩,
                      ⟨(some 186), none, .bin .add (.t 184) (.t 185)⟩,
                      ⟨(some 187), none, .mv (.t 9)⟩,
                      ⟨(some 188), none, .bin .rem (.t 186) (.t 187)⟩,
                      ⟨(some 8), none, .mv (.t 188)⟩] (some [8]))
                    .rt)
                    (.sq (.op 0 [⟨(some 190), none, .bin .eql (.t 14) (.c (.int .i64 17))⟩,
                      ⟨(some 189), none, .mv (.t 190)⟩] none)
                    (.cd (.t 189)
                     (.sq (.sq (.op 5 [⟨(some 191), none, .mv (.t 1)⟩,
                       ⟨(some 192), none, .ia (.t 191) (.c (.int .i64 1)) 1⟩,
                       ⟨(some 193), none, .ld (.t 192) 1 false⟩,
                       ⟨(some 194), none, .fa (.t 4) 1⟩,
                       ⟨(some 195), none, .ld (.t 194) 1 false⟩,
                       ⟨(some 196), none, .bin .geq (.t 193) (.t 195)⟩] (some [1, 9, 196]))
                     (.cd (.t 196)
                      (.sq (.op 0 [⟨(some 8), none, .mv (.c (.int .i64 0))⟩] none)
                      .rt)
                      .sk))
                     (.sq (.op 9 [⟨(some 197), none, .mv (.t 1)⟩,
                       ⟨(some 198), none, .ia (.t 197) (.c (.int .i64 0)) 1⟩,
                       ⟨(some 199), none, .ld (.t 198) 1 false⟩,
                       ⟨(some 200), none, .mv (.t 1)⟩,
                       ⟨(some 201), none, .ia (.t 200) (.c (.int .i64 1)) 1⟩,
                       ⟨(some 202), none, .ld (.t 201) 1 false⟩,
                       ⟨(some 203), none, .callV true (.c (.fn n_ratchetbase_Power [])) [(.t 202)]⟩,
                       ⟨(some 204), none, .bin .mul (.t 199) (.t 203)⟩,
                       ⟨(some 205), none, .mv (.t 9)⟩,
                       ⟨(some 206), none, .bin .rem (.t 204) (.t 205)⟩,
                       ⟨(some 8), none, .mv (.t 206)⟩] (some [8]))
                     .rt))
                     .sk))))))))))))))))))))))))))))))))))))))
  (.sq (.sq (.op 5 [⟨(some 207), none, .mv (.t 1)⟩,
    ⟨(some 208), none, .ia (.t 207) (.c (.int .i64 1)) 1⟩,
    ⟨(some 209), none, .ld (.t 208) 1 false⟩,
    ⟨(some 210), none, .fa (.t 4) 1⟩,
    ⟨(some 211), none, .ld (.t 210) 1 false⟩,
    ⟨(some 212), none, .bin .geq (.t 209) (.t 211)⟩] (some [1, 212]))
  (.cd (.t 212)
   (.sq (.op 0 [⟨(some 8), none, .mv (.c (.int .i64 0))⟩] none)
   .rt)
   .sk))
  (.sq (.op 7 [⟨(some 213), none, .mv (.t 1)⟩,
    ⟨(some 214), none, .ia (.t 213) (.c (.int .i64 0)) 1⟩,
    ⟨(some 215), none, .ld (.t 214) 1 false⟩,
    ⟨(some 216), none, .mv (.t 1)⟩,
    ⟨(some 217), none, .ia (.t 216) (.c (.int .i64 1)) 1⟩,
    ⟨(some 218), none, .ld (.t 217) 1 false⟩,
    ⟨(some 219), none, .callV true (.c (.fn n_ratchetbase_Power [])) [(.t 218)]⟩,
    ⟨(some 220), none, .bin .quo (.t 215) (.t 219)⟩,
    ⟨(some 8), none, .mv (.t 220)⟩] (some [8]))
  .rt))))),
  [.t 8]⟩
def b_graph_moved_L0 : IR :=
 (.sq (.op 0 [⟨(some 12), none, .bin .lss (.t 11) (.t 10)⟩] none)
 (.sq (.cd (.t 12)
  .sk
  (.ex 0))
 (.sq (.bk 1 (.sq (.op 0 [⟨(some 13), none, .ia (.t 9) (.t 11) 1⟩,
    ⟨(some 14), none, .ld (.t 13) 1 false⟩,
    ⟨(some 7), none, .mv (.t 14)⟩] none)
  (.op 0 [⟨(some 15), none, .mv (.t 5)⟩,
    ⟨(some 16), none, .mv (.t 1)⟩,
    ⟨(some 17), none, .mv (.t 7)⟩,
    ⟨(some 18), none, .callV true (.t 16) [(.t 17)]⟩,
    ⟨(some 19), none, .bsl t_int 1 false [.int .i64 0] 1 [(0, (.t 18))]⟩,
    ⟨(some 20), none, .app (.t 15) (.t 19) t_int 1⟩,
    ⟨(some 5), none, .mv (.t 20)⟩] (some [1, 2, 4, 5, 9, 10, 11]))))
 (.op 0 [⟨(some 21), none, .bin .add (.t 11) (.c (.int .i64 1))⟩,
   ⟨(some 11), none, .mv (.t 21)⟩] none))))
def c_graph_moved_L0 : IR := b_graph_moved_L0
theorem u_graph_moved_L0 {C : Call} {L : Loop} {π : Id} {k0 : List Id} {e : Env} {s : Sto} : evC C L π k0 c_graph_moved_L0 e s = evC C L π k0 b_graph_moved_L0 e s := rfl
def c_graph_moved : FnIR := ⟨25,
  (.sq (.op 0 [⟨(some 2), none, .box (.t 0) 4⟩,
    ⟨(some 4), none, .alloc [.int .i64 0, .int .i64 0, .sl 1 (some true) [], .int .i64 0]⟩] none)
  (.sq (.op 0 [⟨(some 5), none, .mv (.c (.sl 1 (some true) []))⟩] none)
  (.sq (.sq (.op 0 [⟨(some 8), none, .fa (.t 2) 2⟩,
    ⟨(some 9), none, .ld (.t 8) 1 false⟩,
    ⟨(some 10), none, .len false (.t 9)⟩,
    ⟨(some 11), none, .mv (.c (.int .i64 0))⟩] (some [1, 2, 4, 5, 9, 10, 11]))
  (.kp [2, 4, 5] [4] (.bk 0 (.lp [(t_int, .inl 5)] [1, 2, 4, 5, 9, 10, 11] c_graph_moved_L0))))
  (.sq (.op 0 [⟨(some 22), none, .mv (.t 5)⟩,
    ⟨(some 23), none, .fa (.t 2) 2⟩,
    ⟨none, none, .st (.t 23) (.t 22) 1⟩] none)
  (.sq (.op 0 [⟨(some 24), none, .ld (.t 2) 4 true⟩,
    ⟨none, none, .st (.t 4) (.t 24) 4⟩] none)
  .rt))))),
  [.c 4 4 true]⟩
def c_graph_constant : FnIR := ⟨8,
  (.sq (.op 0 [⟨(some 4), none, .alloc [.int .i64 0, .int .i64 0, .sl 1 (some true) [], .int .i64 0]⟩] none)
  (.sq (.op 0 [⟨(some 5), none, .mv (.t 0)⟩,
    ⟨(some 6), none, .mv (.t 1)⟩,
    ⟨(some 7), none, .build [.int .i64 0, .int .i64 0, .sl 1 (some true) [], .int .i64 0] [(0, 1, (.c (.int .i64 0))), (1, 1, (.t 5)), (3, 1, (.t 6))]⟩,
    ⟨none, none, .st (.t 4) (.t 7) 4⟩] (some [4]))
  .rt)),
  [.c 4 4 true]⟩
def b_ratchetref02_moved_L0 : IR :=
 (.sq (.sq (.op 0 [⟨(some 7), none, .mv (.t 6)⟩,
   ⟨(some 8), none, .fa (.t 2) 2⟩,
   ⟨(some 9), none, .ld (.t 8) 1 false⟩,
   ⟨(some 10), none, .len false (.t 9)⟩,
   ⟨(some 11), none, .bin .lss (.t 7) (.t 10)⟩] (some [1, 2, 4, 5, 6, 11]))
 (.cd (.t 11)
  .sk
  (.ex 0)))
 (.sq (.bk 1 (.op 0 [⟨(some 14), none, .mv (.t 5)⟩,
    ⟨(some 15), none, .mv (.t 1)⟩,
    ⟨(some 16), none, .fa (.t 2) 2⟩,
    ⟨(some 17), none, .ld (.t 16) 1 false⟩,
    ⟨(some 18), none, .mv (.t 6)⟩,
    ⟨(some 19), none, .ia (.t 17) (.t 18) 1⟩,
    ⟨(some 20), none, .ld (.t 19) 1 false⟩,
    ⟨(some 21), none, .ia (.t 15) (.t 20) 1⟩,
    ⟨(some 22), none, .ld (.t 21) 1 false⟩,
    ⟨(some 23), none, .bsl t_int 1 false [.int .i64 0] 1 [(0, (.t 22))]⟩,
    ⟨(some 24), none, .app (.t 14) (.t 23) t_int 1⟩,
    ⟨(some 5), none, .mv (.t 24)⟩] (some [1, 2, 4, 5, 6])))
 (.op 0 [⟨(some 12), none, .mv (.t 6)⟩,
   ⟨(some 13), none, .bin .add (.t 12) (.c (.int .i64 1))⟩,
   ⟨(some 6), none, .mv (.t 13)⟩] none)))
def c_ratchetref02_moved_L0 : IR := b_ratchetref02_moved_L0
theorem u_ratchetref02_moved_L0 {C : Call} {L : Loop} {π : Id} {k0 : List Id} {e : Env} {s : Sto} : evC C L π k0 c_ratchetref02_moved_L0 e s = evC C L π k0 b_ratchetref02_moved_L0 e s := rfl
def c_ratchetref02_moved : FnIR := ⟨28,
  (.sq (.op 0 [⟨(some 2), none, .box (.t 0) 4⟩,
    ⟨(some 4), none, .alloc [.int .i64 0, .int .i64 0, .sl 1 (some true) [], .int .i64 0]⟩] none)
  (.sq (.op 0 [⟨(some 5), none, .mv (.c (.sl 1 (some true) []))⟩] none)
  (.sq (.sq (.op 0 [⟨(some 6), none, .mv (.c (.int .i64 0))⟩] none)
  (.kp [2, 4, 5] [4] (.bk 0 (.lp [(t_int, .inl 5)] [1, 2, 4, 5, 6] c_ratchetref02_moved_L0))))
  (.sq (.op 0 [⟨(some 25), none, .mv (.t 5)⟩,
    ⟨(some 26), none, .fa (.t 2) 2⟩,
    ⟨none, none, .st (.t 26) (.t 25) 1⟩] none)
  (.sq (.op 0 [⟨(some 27), none, .ld (.t 2) 4 true⟩,
    ⟨none, none, .st (.t 4) (.t 27) 4⟩] none)
  .rt))))),
  [.c 4 4 true]⟩
def c_graph_mapped : FnIR := ⟨4,
  (.sq (.op 0 [⟨(some 1), none, .box (.t 0) 1⟩,
    ⟨(some 2), none, .mv (.c (.nilf))⟩] none)
  (.sq (.op 0 [⟨(some 3), none, .mkf n_graph_mapped_1 [(.t 1)]⟩,
    ⟨(some 2), none, .mv (.t 3)⟩] none)
  .rt)),
  [.t 2]⟩
def c_graph_FoldedOf_1 : FnIR := ⟨4,
  (.sq (.op 0 [⟨(some 2), none, .mv (.c (.int .i64 0))⟩] none)
  (.sq (.op 0 [⟨(some 3), none, .mv (.t 0)⟩,
    ⟨(some 2), none, .mv (.t 3)⟩] none)
  .rt)),
  [.t 2]⟩
def c_graph_FoldedOf_2 : FnIR := ⟨10,
  (.sq (.op 0 [⟨(some 3), none, .mv (.c (.bool false))⟩] none)
  (.sq (.op 0 [⟨(some 4), none, .ld (.t 1) 1 false⟩,
    ⟨(some 5), none, .mv (.t 0)⟩,
    ⟨(some 6), none, .ia (.t 4) (.t 5) 4⟩,
    ⟨(some 7), none, .fa (.t 6) 0⟩,
    ⟨(some 8), none, .ld (.t 7) 1 false⟩,
    ⟨(some 9), none, .bin .neq (.t 8) (.c (.int .i64 0))⟩,
    ⟨(some 3), none, .mv (.t 9)⟩] (some [3]))
  .rt)),
  [.t 3]⟩
def b_graph_applied_L0 : IR :=
 (.sq (.op 0 [⟨(some 17), none, .bin .lss (.t 16) (.t 15)⟩] none)
 (.sq (.cd (.t 17)
  .sk
  (.ex 0))
 (.sq (.bk 1 (.sq (.op 0 [⟨(some 18), none, .ia (.t 14) (.t 16) 1⟩,
    ⟨(some 19), none, .ld (.t 18) 1 false⟩,
    ⟨(some 12), none, .mv (.t 19)⟩] none)
  (.op 14 [⟨(some 20), none, .mv (.t 9)⟩,
    ⟨(some 21), none, .mv (.t 1)⟩,
    ⟨(some 22), none, .mv (.t 12)⟩,
    ⟨(some 23), none, .ia (.t 21) (.t 22) 4⟩,
    ⟨(some 24), none, .fa (.t 23) 1⟩,
    ⟨(some 25), none, .ld (.t 24) 1 false⟩,
    ⟨(some 26), none, .bsl t_int 1 false [.int .i64 0] 1 [(0, (.t 25))]⟩,
    ⟨(some 27), none, .apx (.t 20) (.t 26) t_int 1 [0, 1, 2, 3, 4, 5, 6]⟩,
    ⟨(some 28), none, .mv (.t 10)⟩,
    ⟨(some 29), none, .mv (.t 3)⟩,
    ⟨(some 30), none, .mv (.t 12)⟩,
    ⟨(some 31), none, .ia (.t 29) (.t 30) 1⟩,
    ⟨(some 32), none, .ld (.t 31) 1 false⟩,
    ⟨(some 33), none, .bsl t_int 1 false [.int .i64 0] 1 [(0, (.t 32))]⟩,
    ⟨(some 34), none, .app (.t 28) (.t 33) t_int 1⟩,
    ⟨(some 9), none, .mv (.t 27)⟩,
    ⟨(some 10), none, .mv (.t 34)⟩] (some [0, 1, 3, 6, 9, 10, 14, 15, 16]))))
 (.op 0 [⟨(some 35), none, .bin .add (.t 16) (.c (.int .i64 1))⟩,
   ⟨(some 16), none, .mv (.t 35)⟩] none))))
def c_graph_applied_L0 : IR := b_graph_applied_L0
theorem u_graph_applied_L0 {C : Call} {L : Loop} {π : Id} {k0 : List Id} {e : Env} {s : Sto} : evC C L π k0 c_graph_applied_L0 e s = evC C L π k0 b_graph_applied_L0 e s := rfl
def c_graph_applied : FnIR := ⟨47,
  (.sq (.op 0 [⟨(some 6), none, .box (.t 2) 4⟩,
    ⟨(some 8), none, .mv (.c (.int .i64 0))⟩] none)
  (.sq (.op 0 [⟨(some 9), none, .mv (.c (.sl 1 (some true) []))⟩,
    ⟨(some 10), none, .mv (.c (.sl 1 (some true) []))⟩] none)
  (.sq (.sq (.op 0 [⟨(some 13), none, .fa (.t 6) 2⟩,
    ⟨(some 14), none, .ld (.t 13) 1 false⟩,
    ⟨(some 15), none, .len false (.t 14)⟩,
    ⟨(some 16), none, .mv (.c (.int .i64 0))⟩] (some [0, 1, 3, 6, 9, 10, 14, 15, 16]))
  (.kp [0, 6, 9, 10] [8] (.bk 0 (.lp [(t_int, .inl 10), (t_int, .inl 9)] [0, 1, 3, 6, 9, 10, 14, 15, 16] c_graph_applied_L0))))
  (.sq (.op 10 [⟨(some 36), none, .mv (.t 0)⟩,
    ⟨(some 37), none, .fa (.t 6) 0⟩,
    ⟨(some 38), none, .ld (.t 37) 1 false⟩,
    ⟨(some 39), none, .nck (.t 36)⟩,
    ⟨(some 40), none, .iaa (.t 39) (.t 38) 19 5⟩,
    ⟨(some 41), none, .fa (.t 40) 4⟩,
    ⟨(some 42), none, .ld (.t 41) 1 false⟩,
    ⟨(some 43), none, .ld (.t 6) 4 true⟩,
    ⟨(some 44), none, .mv (.t 9)⟩,
    ⟨(some 45), none, .mv (.t 10)⟩,
    ⟨(some 46), none, .callV true (.t 42) [(.t 43), (.t 44), (.t 45)]⟩,
    ⟨(some 8), none, .mv (.t 46)⟩] (some [8]))
  .rt)))),
  [.t 8]⟩
def c_graph_operations_1 : FnIR := ⟨9,
  (.sq (.op 0 [⟨(some 3), none, .box (.t 0) 4⟩,
    ⟨(some 6), none, .mv (.c (.int .i64 0))⟩] none)
  (.sq (.op 0 [⟨(some 7), none, .fa (.t 3) 3⟩,
    ⟨(some 8), none, .ld (.t 7) 1 false⟩,
    ⟨(some 6), none, .mv (.t 8)⟩] none)
  .rt)),
  [.t 6]⟩

end Go.Proofs.YtglelclmlkeheaaGreatDoor.V
