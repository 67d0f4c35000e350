/- The functions of the program in the small language. Printed by a program of this work. -/
import Derived.Test.YtglelclmlkeheabGreatDoorK5

set_option linter.unusedSimpArgs false
set_option linter.unusedVariables false

/- The functions of the program in the small language. Printed by a program of this work. -/
namespace Go.Proofs.YtglelclmlkeheabGreatDoor.V
open Go (IntKind BinOp UnOp)

def n_ratchetlaw02_GraphSame : Nat := 3
def n_ratchetlaw02_awake : Nat := 5
def n_ratchetref02_NodesErr : Nat := 6
def n_ratchetref02_ValuesErr : Nat := 7
def n_ratchetref02_FromErr : Nat := 8
def n_graph_ValuesOf : Nat := 9
def n_ratchetbase_CopyNodes : Nat := 10
def n_graph_SharedOf : Nat := 11
def n_graph_FoldedOf : Nat := 12
def n_graph_ConeOf : Nat := 13
def n_ratchetbase_CopyInts : Nat := 14
def n_graph_Appended : Nat := 15
def n_ratchetbase_Ints : Nat := 16
def n_ratchetbase_Within : Nat := 17
def n_graph_Substituted : Nat := 18
def n_ratchetbase_SameNodes : Nat := 19
def n_graph_FormatNodes : Nat := 21
def n_ratchetlaw02_Leaves : Nat := 25
def n_ratchetlaw02_Nodes : Nat := 26
def n_graph_DepthsOf : Nat := 27
def n_graph_DifferenceOf : Nat := 28
def n_ratchetref02_CheckNodes : Nat := 29
def n_ratchetbase_IsValues : Nat := 30
def n_ratchetbase_IsNode : Nat := 31
def n_graph_first : Nat := 32
def n_graph_graphErr : Nat := 33
def n_graph_unless : Nat := 34
def n_graph_each_int : Nat := 35
def n_graph_ValuesOf_1 : Nat := 36
def n_graph_fits : Nat := 37
def n_graph_valued : Nat := 38
def n_graph_moved : Nat := 39
def n_graph_mapped : Nat := 40
def n_graph_operations : Nat := 41
def n_graph_FoldedOf_1 : Nat := 42
def n_slices_ContainsFunc_int_int : Nat := 43
def n_graph_FoldedOf_2 : Nat := 44
def n_graph_constant : Nat := 45
def n_graph_applied : Nat := 46
def n_graph_namedErr : Nat := 47
def n_graph_below : Nat := 48
def n_graph_Appended_1 : Nat := 49
def n_graph_Appended_2 : Nat := 50
def n_graph_within : Nat := 51
def n_graph_Substituted_1 : Nat := 52
def n_strconv_Itoa : Nat := 53
def n_strings_Join : Nat := 54
def n_graph_leavesBelow : Nat := 60
def n_graph_bitsErr : Nat := 61
def n_graph_runs : Nat := 62
def n_slices_Clone_int_int : Nat := 63
def n_ratchetbase_IsWidth : Nat := 64
def n_ratchetbase_NodesErr : Nat := 65
def n_ratchetbase_Fits : Nat := 66
def n_graph_CheckNodes : Nat := 67
def n_graph_mapped_1 : Nat := 68
def n_graph_operations_1 : Nat := 69
def n_graph_anyWidth : Nat := 70
def n_graph_same : Nat := 71
def n_graph_operations_2 : Nat := 72
def n_graph_mask : Nat := 73
def n_graph_binary : Nat := 74
def n_graph_operations_3 : Nat := 75
def n_graph_operations_4 : Nat := 76
def n_graph_operations_5 : Nat := 77
def n_graph_operations_6 : Nat := 78
def n_graph_operations_7 : Nat := 79
def n_graph_operations_8 : Nat := 80
def n_graph_relation : Nat := 81
def n_graph_operations_9 : Nat := 82
def n_graph_operations_10 : Nat := 83
def n_graph_operations_11 : Nat := 84
def n_graph_signed : Nat := 85
def n_graph_operations_12 : Nat := 86
def n_graph_operations_13 : Nat := 87
def n_graph_operations_14 : Nat := 88
def n_graph_operations_15 : Nat := 89
def n_graph_operations_16 : Nat := 90
def n_graph_operations_17 : Nat := 91
def n_graph_extended : Nat := 92
def n_graph_operations_18 : Nat := 93
def n_graph_operations_19 : Nat := 94
def n_graph_shifted : Nat := 95
def n_graph_operations_20 : Nat := 96
def n_graph_operations_21 : Nat := 97
def n_slices_IndexFunc_int_int : Nat := 98
def n_graph_namedErr_1 : Nat := 99
def n_slices_Backward_api_Node_api_Node : Nat := 100
def n_graph_truth : Nat := 110
def n_ratchetbase_ArgCount : Nat := 112
def n_slices_Sort_int_int : Nat := 116
def n_slices_Compact_int_int : Nat := 117
def n_graph_runs_1 : Nat := 118
def n_ratchetbase_nodeErr : Nat := 119
def n_ratchetbase_Power : Nat := 120
def n_graph_CheckNodes_1 : Nat := 121
def n_graph_isWidth : Nat := 122
def n_graph_each_api_Node : Nat := 123
def n_graph_CheckNodes_2 : Nat := 124
def n_graph_CheckNodes_2_1 : Nat := 125
def n_graph_valueErr : Nat := 126
def n_graph_same_1 : Nat := 127
def n_graph_binary_1 : Nat := 128
def n_graph_compared : Nat := 129
def n_graph_relation_1 : Nat := 130
def n_slices_Backward_api_Node_api_Node_1 : Nat := 131
def n_ratchetbase_widthsFit : Nat := 143
@[simp] theorem y_ratchetlaw02_GraphSame : (n_ratchetlaw02_GraphSame = yieldF) = False := eq_false (by decide)
@[simp] theorem y_ratchetlaw02_awake : (n_ratchetlaw02_awake = yieldF) = False := eq_false (by decide)
@[simp] theorem y_ratchetref02_NodesErr : (n_ratchetref02_NodesErr = yieldF) = False := eq_false (by decide)
@[simp] theorem y_ratchetref02_ValuesErr : (n_ratchetref02_ValuesErr = yieldF) = False := eq_false (by decide)
@[simp] theorem y_ratchetref02_FromErr : (n_ratchetref02_FromErr = yieldF) = False := eq_false (by decide)
@[simp] theorem y_graph_ValuesOf : (n_graph_ValuesOf = yieldF) = False := eq_false (by decide)
@[simp] theorem y_ratchetbase_CopyNodes : (n_ratchetbase_CopyNodes = yieldF) = False := eq_false (by decide)
@[simp] theorem y_graph_SharedOf : (n_graph_SharedOf = yieldF) = False := eq_false (by decide)
@[simp] theorem y_graph_FoldedOf : (n_graph_FoldedOf = yieldF) = False := eq_false (by decide)
@[simp] theorem y_graph_ConeOf : (n_graph_ConeOf = yieldF) = False := eq_false (by decide)
@[simp] theorem y_ratchetbase_CopyInts : (n_ratchetbase_CopyInts = yieldF) = False := eq_false (by decide)
@[simp] theorem y_graph_Appended : (n_graph_Appended = yieldF) = False := eq_false (by decide)
@[simp] theorem y_ratchetbase_Ints : (n_ratchetbase_Ints = yieldF) = False := eq_false (by decide)
@[simp] theorem y_ratchetbase_Within : (n_ratchetbase_Within = yieldF) = False := eq_false (by decide)
@[simp] theorem y_graph_Substituted : (n_graph_Substituted = yieldF) = False := eq_false (by decide)
@[simp] theorem y_ratchetbase_SameNodes : (n_ratchetbase_SameNodes = yieldF) = False := eq_false (by decide)
@[simp] theorem y_graph_FormatNodes : (n_graph_FormatNodes = yieldF) = False := eq_false (by decide)
@[simp] theorem y_ratchetlaw02_Leaves : (n_ratchetlaw02_Leaves = yieldF) = False := eq_false (by decide)
@[simp] theorem y_ratchetlaw02_Nodes : (n_ratchetlaw02_Nodes = yieldF) = False := eq_false (by decide)
@[simp] theorem y_graph_DepthsOf : (n_graph_DepthsOf = yieldF) = False := eq_false (by decide)
@[simp] theorem y_graph_DifferenceOf : (n_graph_DifferenceOf = yieldF) = False := eq_false (by decide)
@[simp] theorem y_ratchetref02_CheckNodes : (n_ratchetref02_CheckNodes = yieldF) = False := eq_false (by decide)
@[simp] theorem y_ratchetbase_IsValues : (n_ratchetbase_IsValues = yieldF) = False := eq_false (by decide)
@[simp] theorem y_ratchetbase_IsNode : (n_ratchetbase_IsNode = yieldF) = False := eq_false (by decide)
@[simp] theorem y_graph_first : (n_graph_first = yieldF) = False := eq_false (by decide)
@[simp] theorem y_graph_graphErr : (n_graph_graphErr = yieldF) = False := eq_false (by decide)
@[simp] theorem y_graph_unless : (n_graph_unless = yieldF) = False := eq_false (by decide)
@[simp] theorem y_graph_each_int : (n_graph_each_int = yieldF) = False := eq_false (by decide)
@[simp] theorem y_graph_ValuesOf_1 : (n_graph_ValuesOf_1 = yieldF) = False := eq_false (by decide)
@[simp] theorem y_graph_fits : (n_graph_fits = yieldF) = False := eq_false (by decide)
@[simp] theorem y_graph_valued : (n_graph_valued = yieldF) = False := eq_false (by decide)
@[simp] theorem y_graph_moved : (n_graph_moved = yieldF) = False := eq_false (by decide)
@[simp] theorem y_graph_mapped : (n_graph_mapped = yieldF) = False := eq_false (by decide)
@[simp] theorem y_graph_operations : (n_graph_operations = yieldF) = False := eq_false (by decide)
@[simp] theorem y_graph_FoldedOf_1 : (n_graph_FoldedOf_1 = yieldF) = False := eq_false (by decide)
@[simp] theorem y_slices_ContainsFunc_int_int : (n_slices_ContainsFunc_int_int = yieldF) = False := eq_false (by decide)
@[simp] theorem y_graph_FoldedOf_2 : (n_graph_FoldedOf_2 = yieldF) = False := eq_false (by decide)
@[simp] theorem y_graph_constant : (n_graph_constant = yieldF) = False := eq_false (by decide)
@[simp] theorem y_graph_applied : (n_graph_applied = yieldF) = False := eq_false (by decide)
@[simp] theorem y_graph_namedErr : (n_graph_namedErr = yieldF) = False := eq_false (by decide)
@[simp] theorem y_graph_below : (n_graph_below = yieldF) = False := eq_false (by decide)
@[simp] theorem y_graph_Appended_1 : (n_graph_Appended_1 = yieldF) = False := eq_false (by decide)
@[simp] theorem y_graph_Appended_2 : (n_graph_Appended_2 = yieldF) = False := eq_false (by decide)
@[simp] theorem y_graph_within : (n_graph_within = yieldF) = False := eq_false (by decide)
@[simp] theorem y_graph_Substituted_1 : (n_graph_Substituted_1 = yieldF) = False := eq_false (by decide)
@[simp] theorem y_strconv_Itoa : (n_strconv_Itoa = yieldF) = False := eq_false (by decide)
@[simp] theorem y_strings_Join : (n_strings_Join = yieldF) = False := eq_false (by decide)
@[simp] theorem y_graph_leavesBelow : (n_graph_leavesBelow = yieldF) = False := eq_false (by decide)
@[simp] theorem y_graph_bitsErr : (n_graph_bitsErr = yieldF) = False := eq_false (by decide)
@[simp] theorem y_graph_runs : (n_graph_runs = yieldF) = False := eq_false (by decide)
@[simp] theorem y_slices_Clone_int_int : (n_slices_Clone_int_int = yieldF) = False := eq_false (by decide)
@[simp] theorem y_ratchetbase_IsWidth : (n_ratchetbase_IsWidth = yieldF) = False := eq_false (by decide)
@[simp] theorem y_ratchetbase_NodesErr : (n_ratchetbase_NodesErr = yieldF) = False := eq_false (by decide)
@[simp] theorem y_ratchetbase_Fits : (n_ratchetbase_Fits = yieldF) = False := eq_false (by decide)
@[simp] theorem y_graph_CheckNodes : (n_graph_CheckNodes = yieldF) = False := eq_false (by decide)
@[simp] theorem y_graph_mapped_1 : (n_graph_mapped_1 = yieldF) = False := eq_false (by decide)
@[simp] theorem y_graph_operations_1 : (n_graph_operations_1 = yieldF) = False := eq_false (by decide)
@[simp] theorem y_graph_anyWidth : (n_graph_anyWidth = yieldF) = False := eq_false (by decide)
@[simp] theorem y_graph_same : (n_graph_same = yieldF) = False := eq_false (by decide)
@[simp] theorem y_graph_operations_2 : (n_graph_operations_2 = yieldF) = False := eq_false (by decide)
@[simp] theorem y_graph_mask : (n_graph_mask = yieldF) = False := eq_false (by decide)
@[simp] theorem y_graph_binary : (n_graph_binary = yieldF) = False := eq_false (by decide)
@[simp] theorem y_graph_operations_3 : (n_graph_operations_3 = yieldF) = False := eq_false (by decide)
@[simp] theorem y_graph_operations_4 : (n_graph_operations_4 = yieldF) = False := eq_false (by decide)
@[simp] theorem y_graph_operations_5 : (n_graph_operations_5 = yieldF) = False := eq_false (by decide)
@[simp] theorem y_graph_operations_6 : (n_graph_operations_6 = yieldF) = False := eq_false (by decide)
@[simp] theorem y_graph_operations_7 : (n_graph_operations_7 = yieldF) = False := eq_false (by decide)
@[simp] theorem y_graph_operations_8 : (n_graph_operations_8 = yieldF) = False := eq_false (by decide)
@[simp] theorem y_graph_relation : (n_graph_relation = yieldF) = False := eq_false (by decide)
@[simp] theorem y_graph_operations_9 : (n_graph_operations_9 = yieldF) = False := eq_false (by decide)
@[simp] theorem y_graph_operations_10 : (n_graph_operations_10 = yieldF) = False := eq_false (by decide)
@[simp] theorem y_graph_operations_11 : (n_graph_operations_11 = yieldF) = False := eq_false (by decide)
@[simp] theorem y_graph_signed : (n_graph_signed = yieldF) = False := eq_false (by decide)
@[simp] theorem y_graph_operations_12 : (n_graph_operations_12 = yieldF) = False := eq_false (by decide)
@[simp] theorem y_graph_operations_13 : (n_graph_operations_13 = yieldF) = False := eq_false (by decide)
@[simp] theorem y_graph_operations_14 : (n_graph_operations_14 = yieldF) = False := eq_false (by decide)
@[simp] theorem y_graph_operations_15 : (n_graph_operations_15 = yieldF) = False := eq_false (by decide)
@[simp] theorem y_graph_operations_16 : (n_graph_operations_16 = yieldF) = False := eq_false (by decide)
@[simp] theorem y_graph_operations_17 : (n_graph_operations_17 = yieldF) = False := eq_false (by decide)
@[simp] theorem y_graph_extended : (n_graph_extended = yieldF) = False := eq_false (by decide)
@[simp] theorem y_graph_operations_18 : (n_graph_operations_18 = yieldF) = False := eq_false (by decide)
@[simp] theorem y_graph_operations_19 : (n_graph_operations_19 = yieldF) = False := eq_false (by decide)
@[simp] theorem y_graph_shifted : (n_graph_shifted = yieldF) = False := eq_false (by decide)
@[simp] theorem y_graph_operations_20 : (n_graph_operations_20 = yieldF) = False := eq_false (by decide)
@[simp] theorem y_graph_operations_21 : (n_graph_operations_21 = yieldF) = False := eq_false (by decide)
@[simp] theorem y_slices_IndexFunc_int_int : (n_slices_IndexFunc_int_int = yieldF) = False := eq_false (by decide)
@[simp] theorem y_graph_namedErr_1 : (n_graph_namedErr_1 = yieldF) = False := eq_false (by decide)
@[simp] theorem y_slices_Backward_api_Node_api_Node : (n_slices_Backward_api_Node_api_Node = yieldF) = False := eq_false (by decide)
@[simp] theorem y_graph_truth : (n_graph_truth = yieldF) = False := eq_false (by decide)
@[simp] theorem y_ratchetbase_ArgCount : (n_ratchetbase_ArgCount = yieldF) = False := eq_false (by decide)
@[simp] theorem y_slices_Sort_int_int : (n_slices_Sort_int_int = yieldF) = False := eq_false (by decide)
@[simp] theorem y_slices_Compact_int_int : (n_slices_Compact_int_int = yieldF) = False := eq_false (by decide)
@[simp] theorem y_graph_runs_1 : (n_graph_runs_1 = yieldF) = False := eq_false (by decide)
@[simp] theorem y_ratchetbase_nodeErr : (n_ratchetbase_nodeErr = yieldF) = False := eq_false (by decide)
@[simp] theorem y_ratchetbase_Power : (n_ratchetbase_Power = yieldF) = False := eq_false (by decide)
@[simp] theorem y_graph_CheckNodes_1 : (n_graph_CheckNodes_1 = yieldF) = False := eq_false (by decide)
@[simp] theorem y_graph_isWidth : (n_graph_isWidth = yieldF) = False := eq_false (by decide)
@[simp] theorem y_graph_each_api_Node : (n_graph_each_api_Node = yieldF) = False := eq_false (by decide)
@[simp] theorem y_graph_CheckNodes_2 : (n_graph_CheckNodes_2 = yieldF) = False := eq_false (by decide)
@[simp] theorem y_graph_CheckNodes_2_1 : (n_graph_CheckNodes_2_1 = yieldF) = False := eq_false (by decide)
@[simp] theorem y_graph_valueErr : (n_graph_valueErr = yieldF) = False := eq_false (by decide)
@[simp] theorem y_graph_same_1 : (n_graph_same_1 = yieldF) = False := eq_false (by decide)
@[simp] theorem y_graph_binary_1 : (n_graph_binary_1 = yieldF) = False := eq_false (by decide)
@[simp] theorem y_graph_compared : (n_graph_compared = yieldF) = False := eq_false (by decide)
@[simp] theorem y_graph_relation_1 : (n_graph_relation_1 = yieldF) = False := eq_false (by decide)
@[simp] theorem y_slices_Backward_api_Node_api_Node_1 : (n_slices_Backward_api_Node_api_Node_1 = yieldF) = False := eq_false (by decide)
@[simp] theorem y_ratchetbase_widthsFit : (n_ratchetbase_widthsFit = yieldF) = False := eq_false (by decide)
def t_int : Nat := 3
def t_bool : Nat := 4
def t_string : Nat := 9
def t_api_Errno : Nat := 30
def t_api_Node : Nat := 68

def b_ratchetlaw02_GraphSame_L0 : IR :=
 (.sq (.sq (.op 0 [⟨(some 267), none, .mv (.t 28)⟩,
   ⟨(some 268), none, .mv (.t 1)⟩,
   ⟨(some 269), none, .len false (.t 268)⟩,
   ⟨(some 270), none, .bin .lss (.t 267) (.t 269)⟩] (some [0, 1, 5, 7, 9, 10, 12, 15, 18, 20, 24, 26, 28, 270]))
 (.cd (.t 270)
  .sk
  (.ex 0)))
 (.sq (.bk 1 (.sq (.op 57 [⟨(some 273), none, .mv (.t 10)⟩,
    ⟨(some 274), none, .mv (.t 28)⟩,
    ⟨(some 275), none, .ia (.t 273) (.t 274) 1⟩,
    ⟨(some 276), none, .ld (.t 275) 1 false⟩,
    ⟨(some 277), none, .mv (.t 20)⟩,
    ⟨(some 278), none, .len false (.t 277)⟩,
    ⟨(some 279), none, .bin .sub (.t 278) (.c (.int .i64 1))⟩,
    ⟨(some 280), none, .callV true (.c (.fn n_ratchetbase_Within [])) [(.t 276), (.c (.int .i64 0)), (.t 279)]⟩,
    ⟨(some 281), none, .un .not (.t 280)⟩,
    ⟨(some 282), none, .mv (.t 281)⟩,
    ⟨(some 283), (some (282, false)), .mv (.t 20)⟩,
    ⟨(some 284), (some (282, false)), .mv (.t 10)⟩,
    ⟨(some 285), (some (282, false)), .mv (.t 28)⟩,
    ⟨(some 286), (some (282, false)), .ia (.t 284) (.t 285) 1⟩,
    ⟨(some 287), (some (282, false)), .ld (.t 286) 1 false⟩,
    ⟨(some 288), (some (282, false)), .ia (.t 283) (.t 287) 1⟩,
    ⟨(some 289), (some (282, false)), .ld (.t 288) 1 false⟩,
    ⟨(some 290), (some (282, false)), .mv (.t 7)⟩,
    ⟨(some 291), (some (282, false)), .mv (.t 28)⟩,
    ⟨(some 292), (some (282, false)), .ia (.t 290) (.t 291) 1⟩,
    ⟨(some 293), (some (282, false)), .ld (.t 292) 1 false⟩,
    ⟨(some 294), (some (282, false)), .bin .neq (.t 289) (.t 293)⟩,
    ⟨(some 295), none, .pick (.t 282) (.c (.bool true)) (.t 294)⟩,
    ⟨(some 296), none, .mv (.t 295)⟩,
    ⟨(some 297), (some (296, false)), .mv (.t 18)⟩,
    ⟨(some 298), (some (296, false)), .mv (.t 28)⟩,
    ⟨(some 299), (some (296, false)), .ia (.t 297) (.t 298) 1⟩,
    ⟨(some 300), (some (296, false)), .ld (.t 299) 1 false⟩,
    ⟨(some 301), (some (296, false)), .mv (.t 26)⟩,
    ⟨(some 302), (some (296, false)), .len false (.t 301)⟩,
    ⟨(some 303), (some (296, false)), .bin .sub (.t 302) (.c (.int .i64 1))⟩,
    ⟨(some 304), (some (296, false)), .callV true (.c (.fn n_ratchetbase_Within [])) [(.t 300), (.c (.int .i64 0)), (.t 303)]⟩,
    ⟨(some 305), (some (296, false)), .un .not (.t 304)⟩,
    ⟨(some 306), none, .pick (.t 296) (.c (.bool true)) (.t 305)⟩,
    ⟨(some 307), none, .mv (.t 306)⟩,
    ⟨(some 308), (some (307, false)), .mv (.t 26)⟩,
    ⟨(some 309), (some (307, false)), .mv (.t 18)⟩,
    ⟨(some 310), (some (307, false)), .mv (.t 28)⟩,
    ⟨(some 311), (some (307, false)), .ia (.t 309) (.t 310) 1⟩,
    ⟨(some 312), (some (307, false)), .ld (.t 311) 1 false⟩,
    ⟨(some 313), (some (307, false)), .ia (.t 308) (.t 312) 1⟩,
    ⟨(some 314), (some (307, false)), .ld (.t 313) 1 false⟩,
    ⟨(some 315), (some (307, false)), .mv (.t 7)⟩,
    ⟨(some 316), (some (307, false)), .mv (.t 28)⟩,
    ⟨(some 317), (some (307, false)), .ia (.t 315) (.t 316) 1⟩,
    ⟨(some 318), (some (307, false)), .ld (.t 317) 1 false⟩,
    ⟨(some 319), (some (307, false)), .bin .neq (.t 314) (.t 318)⟩,
    ⟨(some 320), none, .pick (.t 307) (.c (.bool true)) (.t 319)⟩,
    ⟨(some 321), none, .mv (.t 320)⟩,
    ⟨(some 322), (some (321, false)), .mv (.t 26)⟩,
    ⟨(some 323), (some (321, false)), .mv (.t 28)⟩,
    ⟨(some 324), (some (321, false)), .ia (.t 322) (.t 323) 1⟩,
    ⟨(some 325), (some (321, false)), .ld (.t 324) 1 false⟩,
    ⟨(some 326), (some (321, false)), .mv (.t 7)⟩,
    ⟨(some 327), (some (321, false)), .mv (.t 28)⟩,
    ⟨(some 328), (some (321, false)), .ia (.t 326) (.t 327) 1⟩,
    ⟨(some 329), (some (321, false)), .ld (.t 328) 1 false⟩,
    ⟨(some 330), (some (321, false)), .bin .neq (.t 325) (.t 329)⟩,
    ⟨(some 331), none, .pick (.t 321) (.c (.bool true)) (.t 330)⟩] (some [0, 1, 5, 7, 9, 10, 12, 15, 18, 20, 24, 26, 28, 331]))
  (.cd (.t 331)
   (.sq (.op 0 [⟨(some 6), none, .mv (.c (.bool false))⟩] none)
   .rt)
   .sk)))
 (.op 0 [⟨(some 271), none, .mv (.t 28)⟩,
   ⟨(some 272), none, .bin .add (.t 271) (.c (.int .i64 1))⟩,
   ⟨(some 28), none, .mv (.t 272)⟩] none)))
def c_ratchetlaw02_GraphSame_L0 : IR := b_ratchetlaw02_GraphSame_L0
theorem u_ratchetlaw02_GraphSame_L0 {C : Call} {L : Loop} {π : Id} {k0 : List Id} {e : Env} {s : Sto} : evC C L π k0 c_ratchetlaw02_GraphSame_L0 e s = evC C L π k0 b_ratchetlaw02_GraphSame_L0 e s := rfl
def b_ratchetlaw02_GraphSame_L1 : IR :=
 (.sq (.sq (.op 0 [⟨(some 332), none, .mv (.t 29)⟩,
   ⟨(some 333), none, .mv (.t 15)⟩,
   ⟨(some 334), none, .len false (.t 333)⟩,
   ⟨(some 335), none, .bin .lss (.t 332) (.t 334)⟩] (some [0, 1, 5, 7, 9, 12, 15, 24, 29, 335]))
 (.cd (.t 335)
  .sk
  (.ex 2)))
 (.sq (.bk 3 (.sq (.op 25 [⟨(some 338), none, .mv (.t 15)⟩,
    ⟨(some 339), none, .mv (.t 29)⟩,
    ⟨(some 340), none, .ia (.t 338) (.t 339) 1⟩,
    ⟨(some 341), none, .ld (.t 340) 1 false⟩,
    ⟨(some 342), none, .mv (.t 24)⟩,
    ⟨(some 343), none, .len false (.t 342)⟩,
    ⟨(some 344), none, .bin .sub (.t 343) (.c (.int .i64 1))⟩,
    ⟨(some 345), none, .callV true (.c (.fn n_ratchetbase_Within [])) [(.t 341), (.c (.int .i64 0)), (.t 344)]⟩,
    ⟨(some 346), none, .un .not (.t 345)⟩,
    ⟨(some 347), none, .mv (.t 346)⟩,
    ⟨(some 348), (some (347, false)), .mv (.t 24)⟩,
    ⟨(some 349), (some (347, false)), .mv (.t 15)⟩,
    ⟨(some 350), (some (347, false)), .mv (.t 29)⟩,
    ⟨(some 351), (some (347, false)), .ia (.t 349) (.t 350) 1⟩,
    ⟨(some 352), (some (347, false)), .ld (.t 351) 1 false⟩,
    ⟨(some 353), (some (347, false)), .ia (.t 348) (.t 352) 1⟩,
    ⟨(some 354), (some (347, false)), .ld (.t 353) 1 false⟩,
    ⟨(some 355), (some (347, false)), .mv (.t 7)⟩,
    ⟨(some 356), (some (347, false)), .fa (.t 5) 1⟩,
    ⟨(some 357), (some (347, false)), .ld (.t 356) 1 false⟩,
    ⟨(some 358), (some (347, false)), .mv (.t 29)⟩,
    ⟨(some 359), (some (347, false)), .ia (.t 357) (.t 358) 1⟩,
    ⟨(some 360), (some (347, false)), .ld (.t 359) 1 false⟩,
    ⟨(some 361), (some (347, false)), .ia (.t 355) (.t 360) 1⟩,
    ⟨(some 362), (some (347, false)), .ld (.t 361) 1 false⟩,
    ⟨(some 363), (some (347, false)), .bin .neq (.t 354) (.t 362)⟩,
    ⟨(some 364), none, .pick (.t 347) (.c (.bool true)) (.t 363)⟩] (some [0, 1, 5, 7, 9, 12, 15, 24, 29, 364]))
  (.cd (.t 364)
   (.sq (.op 0 [⟨(some 6), none, .mv (.c (.bool false))⟩] none)
   .rt)
   .sk)))
 (.op 0 [⟨(some 336), none, .mv (.t 29)⟩,
   ⟨(some 337), none, .bin .add (.t 336) (.c (.int .i64 1))⟩,
   ⟨(some 29), none, .mv (.t 337)⟩] none)))
def c_ratchetlaw02_GraphSame_L1 : IR := b_ratchetlaw02_GraphSame_L1
theorem u_ratchetlaw02_GraphSame_L1 {C : Call} {L : Loop} {π : Id} {k0 : List Id} {e : Env} {s : Sto} : evC C L π k0 c_ratchetlaw02_GraphSame_L1 e s = evC C L π k0 b_ratchetlaw02_GraphSame_L1 e s := rfl
def b_ratchetlaw02_GraphSame_L2 : IR :=
 (.sq (.sq (.op 0 [⟨(some 365), none, .mv (.t 30)⟩,
   ⟨(some 366), none, .mv (.t 0)⟩,
   ⟨(some 367), none, .len false (.t 366)⟩,
   ⟨(some 368), none, .bin .lss (.t 365) (.t 367)⟩] (some [0, 1, 5, 7, 9, 12, 30, 368]))
 (.cd (.t 368)
  .sk
  (.ex 4)))
 (.sq (.bk 5 (.sq (.fz [0, 1] (.op 14 [⟨(some 372), none, .mv (.t 0)⟩,
    ⟨(some 373), none, .mv (.t 1)⟩,
    ⟨(some 374), none, .callV true (.c (.fn n_ratchetbase_CopyNodes [])) [(.t 373)]⟩,
    ⟨(some 375), none, .mv (.t 30)⟩,
    ⟨(some 376), none, .fa (.t 5) 0⟩,
    ⟨(some 377), none, .ld (.t 376) 1 false⟩,
    ⟨(some 378), none, .mv (.t 30)⟩,
    ⟨(some 379), none, .ia (.t 377) (.t 378) 1⟩,
    ⟨(some 380), none, .ld (.t 379) 1 false⟩,
    ⟨(some 381), none, .callV true (.c (.fn n_graph_Substituted [])) [(.t 372), (.t 374), (.t 375), (.t 380)]⟩,
    ⟨(some 371), none, .mv (.t 381)⟩,
    ⟨(some 382), none, .ext (.t 371) 0⟩,
    ⟨(some 383), none, .ext (.t 371) 1⟩,
    ⟨(some 31), none, .mv (.t 382)⟩,
    ⟨(some 32), none, .mv (.t 383)⟩] (some [0, 1, 5, 7, 9, 12, 30, 31, 32])))
  (.sq (.op 0 [⟨(some 385), none, .mv (.t 0)⟩,
    ⟨(some 386), none, .mv (.t 31)⟩,
    ⟨(some 387), none, .fa (.t 5) 0⟩,
    ⟨(some 388), none, .ld (.t 387) 1 false⟩,
    ⟨(some 389), none, .callV true (.c (.fn n_graph_ValuesOf [])) [(.t 385), (.t 386), (.t 388)]⟩,
    ⟨(some 384), none, .mv (.t 389)⟩,
    ⟨(some 390), none, .ext (.t 384) 0⟩,
    ⟨(some 391), none, .ext (.t 384) 1⟩,
    ⟨(some 33), none, .mv (.t 390)⟩,
    ⟨(some 34), none, .mv (.t 391)⟩] (some [0, 1, 5, 7, 9, 12, 30, 32, 33, 34]))
  (.sq (.op 0 [⟨(some 392), none, .mv (.t 32)⟩,
    ⟨(some 393), none, .bin .neq (.t 392) (.c (.int .i64 0))⟩,
    ⟨(some 394), none, .mv (.t 393)⟩,
    ⟨(some 395), (some (394, false)), .mv (.t 34)⟩,
    ⟨(some 396), (some (394, false)), .bin .neq (.t 395) (.c (.int .i64 0))⟩,
    ⟨(some 397), none, .pick (.t 394) (.c (.bool true)) (.t 396)⟩,
    ⟨(some 398), none, .mv (.t 397)⟩,
    ⟨(some 399), (some (398, false)), .mv (.t 33)⟩,
    ⟨(some 400), (some (398, false)), .mv (.t 7)⟩,
    ⟨(some 401), (some (398, false)), .callV true (.c (.fn n_ratchetbase_Ints [])) [(.t 399), (.t 400)]⟩,
    ⟨(some 402), (some (398, false)), .un .not (.t 401)⟩,
    ⟨(some 403), none, .pick (.t 398) (.c (.bool true)) (.t 402)⟩] (some [0, 1, 5, 7, 9, 12, 30, 403]))
  (.cd (.t 403)
   (.sq (.op 0 [⟨(some 6), none, .mv (.c (.bool false))⟩] none)
   .rt)
   .sk)))))
 (.op 0 [⟨(some 369), none, .mv (.t 30)⟩,
   ⟨(some 370), none, .bin .add (.t 369) (.c (.int .i64 1))⟩,
   ⟨(some 30), none, .mv (.t 370)⟩] none)))
def c_ratchetlaw02_GraphSame_L2 : IR := b_ratchetlaw02_GraphSame_L2
theorem u_ratchetlaw02_GraphSame_L2 {C : Call} {L : Loop} {π : Id} {k0 : List Id} {e : Env} {s : Sto} : evC C L π k0 c_ratchetlaw02_GraphSame_L2 e s = evC C L π k0 b_ratchetlaw02_GraphSame_L2 e s := rfl
def b_ratchetlaw02_GraphSame_L4 : IR :=
 (.sq (.sq (.op 0 [⟨(some 443), none, .mv (.t 41)⟩,
   ⟨(some 444), none, .mv (.t 40)⟩,
   ⟨(some 445), none, .bin .lss (.t 443) (.t 444)⟩] none)
 (.cd (.t 445)
  .sk
  (.ex 8)))
 (.sq (.bk 9 (.sq (.op 10 [⟨(some 448), none, .mv (.t 9)⟩,
    ⟨(some 449), none, .mv (.t 40)⟩,
    ⟨(some 450), none, .mv (.t 40)⟩,
    ⟨(some 451), none, .bin .add (.t 450) (.c (.int .i64 1))⟩,
    ⟨(some 452), none, .slc false (.t 448) (some (.t 449)) (some (.t 451)) 4⟩,
    ⟨(some 453), none, .mv (.t 9)⟩,
    ⟨(some 454), none, .mv (.t 41)⟩,
    ⟨(some 455), none, .mv (.t 41)⟩,
    ⟨(some 456), none, .bin .add (.t 455) (.c (.int .i64 1))⟩,
    ⟨(some 457), none, .slc false (.t 453) (some (.t 454)) (some (.t 456)) 4⟩,
    ⟨(some 458), none, .callV true (.c (.fn n_ratchetbase_SameNodes [])) [(.t 452), (.t 457)]⟩] (some [9, 40, 41, 458]))
  (.cd (.t 458)
   (.sq (.op 0 [⟨(some 6), none, .mv (.c (.bool false))⟩] none)
   .rt)
   .sk)))
 (.op 0 [⟨(some 446), none, .mv (.t 41)⟩,
   ⟨(some 447), none, .bin .add (.t 446) (.c (.int .i64 1))⟩,
   ⟨(some 41), none, .mv (.t 447)⟩] none)))
def c_ratchetlaw02_GraphSame_L4 : IR := b_ratchetlaw02_GraphSame_L4
theorem u_ratchetlaw02_GraphSame_L4 {C : Call} {L : Loop} {π : Id} {k0 : List Id} {e : Env} {s : Sto} : evC C L π k0 c_ratchetlaw02_GraphSame_L4 e s = evC C L π k0 b_ratchetlaw02_GraphSame_L4 e s := rfl
def b_ratchetlaw02_GraphSame_L3 : IR :=
 (.sq (.sq (.op 0 [⟨(some 437), none, .mv (.t 40)⟩,
   ⟨(some 438), none, .mv (.t 9)⟩,
   ⟨(some 439), none, .len false (.t 438)⟩,
   ⟨(some 440), none, .bin .lss (.t 437) (.t 439)⟩] (some [9, 40, 440]))
 (.cd (.t 440)
  .sk
  (.ex 6)))
 (.sq (.bk 7 (.sq (.op 0 [⟨(some 41), none, .mv (.c (.int .i64 0))⟩] none)
  (.kp [9, 40] [6] (.bk 8 (.lp [] [9, 40, 41] c_ratchetlaw02_GraphSame_L4)))))
 (.op 0 [⟨(some 441), none, .mv (.t 40)⟩,
   ⟨(some 442), none, .bin .add (.t 441) (.c (.int .i64 1))⟩,
   ⟨(some 40), none, .mv (.t 442)⟩] none)))
def c_ratchetlaw02_GraphSame_L3 : IR := b_ratchetlaw02_GraphSame_L3
theorem u_ratchetlaw02_GraphSame_L3 {C : Call} {L : Loop} {π : Id} {k0 : List Id} {e : Env} {s : Sto} : evC C L π k0 c_ratchetlaw02_GraphSame_L3 e s = evC C L π k0 b_ratchetlaw02_GraphSame_L3 e s := rfl
def c_ratchetlaw02_GraphSame : FnIR := ⟨459,
  (.sq (.op 0 [⟨(some 5), none, .box (.t 2) 2⟩,
    ⟨(some 6), none, .mv (.c (.bool false))⟩] none)
  (.sq (.sq (.op 0 [⟨(some 42), none, .callV true (.c (.fn n_ratchetlaw02_awake [])) []⟩,
    ⟨(some 43), none, .un .not (.t 42)⟩] none)
  (.cd (.t 43)
   (.sq (.op 0 [⟨(some 6), none, .mv (.c (.bool false))⟩] none)
   .rt)
   .sk))
  (.sq (.sq (.op 0 [⟨(some 44), none, .mv (.t 1)⟩,
    ⟨(some 45), none, .len false (.t 44)⟩,
    ⟨(some 46), none, .bin .gtr (.t 45) (.c (.int .i64 60))⟩,
    ⟨(some 47), none, .mv (.t 46)⟩,
    ⟨(some 48), (some (47, false)), .fa (.t 5) 1⟩,
    ⟨(some 49), (some (47, false)), .ld (.t 48) 1 false⟩,
    ⟨(some 50), (some (47, false)), .len false (.t 49)⟩,
    ⟨(some 51), (some (47, false)), .bin .gtr (.t 50) (.c (.int .i64 60))⟩,
    ⟨(some 52), none, .pick (.t 47) (.c (.bool true)) (.t 51)⟩,
    ⟨(some 53), none, .mv (.t 52)⟩,
    ⟨(some 54), (some (53, false)), .mv (.t 0)⟩,
    ⟨(some 55), (some (53, false)), .mv (.t 1)⟩,
    ⟨(some 56), (some (53, false)), .callV true (.c (.fn n_ratchetref02_NodesErr [])) [(.t 54), (.t 55)]⟩,
    ⟨(some 57), (some (53, false)), .bin .neq (.t 56) (.c (.int .i64 0))⟩,
    ⟨(some 58), none, .pick (.t 53) (.c (.bool true)) (.t 57)⟩,
    ⟨(some 59), none, .mv (.t 58)⟩,
    ⟨(some 60), (some (59, false)), .mv (.t 0)⟩,
    ⟨(some 61), (some (59, false)), .fa (.t 5) 0⟩,
    ⟨(some 62), (some (59, false)), .ld (.t 61) 1 false⟩,
    ⟨(some 63), (some (59, false)), .callV true (.c (.fn n_ratchetref02_ValuesErr [])) [(.t 60), (.t 62)]⟩,
    ⟨(some 64), (some (59, false)), .bin .neq (.t 63) (.c (.int .i64 0))⟩,
    ⟨(some 65), none, .pick (.t 59) (.c (.bool true)) (.t 64)⟩,
    ⟨(some 66), none, .mv (.t 65)⟩,
    ⟨(some 67), (some (66, false)), .mv (.t 1)⟩,
    ⟨(some 68), (some (66, false)), .fa (.t 5) 1⟩,
    ⟨(some 69), (some (66, false)), .ld (.t 68) 1 false⟩,
    ⟨(some 70), (some (66, false)), .callV true (.c (.fn n_ratchetref02_FromErr [])) [(.t 67), (.t 69)]⟩,
    ⟨(some 71), (some (66, false)), .bin .neq (.t 70) (.c (.int .i64 0))⟩,
    ⟨(some 72), none, .pick (.t 66) (.c (.bool true)) (.t 71)⟩] (some [0, 1, 5, 72]))
  (.cd (.t 72)
   (.sq (.op 0 [⟨(some 6), none, .mv (.c (.bool true))⟩] none)
   .rt)
   .sk))
  (.sq (.fz [0, 1] (.op 10 [⟨(some 74), none, .mv (.t 0)⟩,
    ⟨(some 75), none, .mv (.t 1)⟩,
    ⟨(some 76), none, .callV true (.c (.fn n_ratchetbase_CopyNodes [])) [(.t 75)]⟩,
    ⟨(some 77), none, .fa (.t 5) 0⟩,
    ⟨(some 78), none, .ld (.t 77) 1 false⟩,
    ⟨(some 79), none, .callV true (.c (.fn n_graph_ValuesOf [])) [(.t 74), (.t 76), (.t 78)]⟩,
    ⟨(some 73), none, .mv (.t 79)⟩,
    ⟨(some 80), none, .ext (.t 73) 0⟩,
    ⟨(some 81), none, .ext (.t 73) 1⟩,
    ⟨(some 7), none, .mv (.t 80)⟩,
    ⟨(some 8), none, .mv (.t 81)⟩] (some [0, 1, 5, 7, 8])))
  (.sq (.op 0 [⟨(some 83), none, .mv (.t 0)⟩,
    ⟨(some 84), none, .mv (.t 1)⟩,
    ⟨(some 85), none, .callV true (.c (.fn n_ratchetbase_CopyNodes [])) [(.t 84)]⟩,
    ⟨(some 86), none, .callV true (.c (.fn n_graph_SharedOf [])) [(.t 83), (.t 85)]⟩,
    ⟨(some 82), none, .mv (.t 86)⟩,
    ⟨(some 87), none, .ext (.t 82) 0⟩,
    ⟨(some 88), none, .ext (.t 82) 1⟩,
    ⟨(some 89), none, .ext (.t 82) 2⟩,
    ⟨(some 9), none, .mv (.t 87)⟩,
    ⟨(some 10), none, .mv (.t 88)⟩,
    ⟨(some 11), none, .mv (.t 89)⟩] (some [0, 1, 5, 7, 8, 9, 10, 11]))
  (.sq (.op 0 [⟨(some 91), none, .mv (.t 0)⟩,
    ⟨(some 92), none, .mv (.t 1)⟩,
    ⟨(some 93), none, .callV true (.c (.fn n_ratchetbase_CopyNodes [])) [(.t 92)]⟩,
    ⟨(some 94), none, .callV true (.c (.fn n_graph_FoldedOf [])) [(.t 91), (.t 93)]⟩,
    ⟨(some 90), none, .mv (.t 94)⟩,
    ⟨(some 95), none, .ext (.t 90) 0⟩,
    ⟨(some 96), none, .ext (.t 90) 1⟩,
    ⟨(some 12), none, .mv (.t 95)⟩,
    ⟨(some 13), none, .mv (.t 96)⟩] (some [0, 1, 5, 7, 8, 9, 10, 11, 12, 13]))
  (.sq (.fz [0, 1] (.op 13 [⟨(some 98), none, .mv (.t 0)⟩,
    ⟨(some 99), none, .mv (.t 1)⟩,
    ⟨(some 100), none, .callV true (.c (.fn n_ratchetbase_CopyNodes [])) [(.t 99)]⟩,
    ⟨(some 101), none, .fa (.t 5) 1⟩,
    ⟨(some 102), none, .ld (.t 101) 1 false⟩,
    ⟨(some 103), none, .callV true (.c (.fn n_ratchetbase_CopyInts [])) [(.t 102)]⟩,
    ⟨(some 104), none, .callV true (.c (.fn n_graph_ConeOf [])) [(.t 98), (.t 100), (.t 103)]⟩,
    ⟨(some 97), none, .mv (.t 104)⟩,
    ⟨(some 105), none, .ext (.t 97) 0⟩,
    ⟨(some 106), none, .ext (.t 97) 1⟩,
    ⟨(some 107), none, .ext (.t 97) 2⟩,
    ⟨(some 14), none, .mv (.t 105)⟩,
    ⟨(some 15), none, .mv (.t 106)⟩,
    ⟨(some 16), none, .mv (.t 107)⟩] (some [0, 1, 5, 7, 8, 9, 10, 11, 12, 13, 14, 15, 16])))
  (.sq (.op 0 [⟨(some 109), none, .mv (.t 0)⟩,
    ⟨(some 110), none, .mv (.t 1)⟩,
    ⟨(some 111), none, .callV true (.c (.fn n_ratchetbase_CopyNodes [])) [(.t 110)]⟩,
    ⟨(some 112), none, .mv (.t 1)⟩,
    ⟨(some 113), none, .callV true (.c (.fn n_ratchetbase_CopyNodes [])) [(.t 112)]⟩,
    ⟨(some 114), none, .callV true (.c (.fn n_graph_Appended [])) [(.t 109), (.t 111), (.t 113)]⟩,
    ⟨(some 108), none, .mv (.t 114)⟩,
    ⟨(some 115), none, .ext (.t 108) 0⟩,
    ⟨(some 116), none, .ext (.t 108) 1⟩,
    ⟨(some 117), none, .ext (.t 108) 2⟩,
    ⟨(some 17), none, .mv (.t 115)⟩,
    ⟨(some 18), none, .mv (.t 116)⟩,
    ⟨(some 19), none, .mv (.t 117)⟩] (some [0, 1, 5, 7, 8, 9, 10, 11, 12, 13, 14, 15, 16, 17, 18, 19]))
  (.sq (.sq (.op 0 [⟨(some 118), none, .mv (.t 8)⟩,
    ⟨(some 119), none, .bin .neq (.t 118) (.c (.int .i64 0))⟩,
    ⟨(some 120), none, .mv (.t 119)⟩,
    ⟨(some 121), (some (120, false)), .mv (.t 11)⟩,
    ⟨(some 122), (some (120, false)), .bin .neq (.t 121) (.c (.int .i64 0))⟩,
    ⟨(some 123), none, .pick (.t 120) (.c (.bool true)) (.t 122)⟩,
    ⟨(some 124), none, .mv (.t 123)⟩,
    ⟨(some 125), (some (124, false)), .mv (.t 13)⟩,
    ⟨(some 126), (some (124, false)), .bin .neq (.t 125) (.c (.int .i64 0))⟩,
    ⟨(some 127), none, .pick (.t 124) (.c (.bool true)) (.t 126)⟩,
    ⟨(some 128), none, .mv (.t 127)⟩,
    ⟨(some 129), (some (128, false)), .mv (.t 16)⟩,
    ⟨(some 130), (some (128, false)), .bin .neq (.t 129) (.c (.int .i64 0))⟩,
    ⟨(some 131), none, .pick (.t 128) (.c (.bool true)) (.t 130)⟩,
    ⟨(some 132), none, .mv (.t 131)⟩,
    ⟨(some 133), (some (132, false)), .mv (.t 19)⟩,
    ⟨(some 134), (some (132, false)), .bin .neq (.t 133) (.c (.int .i64 0))⟩,
    ⟨(some 135), none, .pick (.t 132) (.c (.bool true)) (.t 134)⟩,
    ⟨(some 136), none, .mv (.t 135)⟩,
    ⟨(some 137), (some (136, false)), .mv (.t 7)⟩,
    ⟨(some 138), (some (136, false)), .len false (.t 137)⟩,
    ⟨(some 139), (some (136, false)), .mv (.t 1)⟩,
    ⟨(some 140), (some (136, false)), .len false (.t 139)⟩,
    ⟨(some 141), (some (136, false)), .bin .neq (.t 138) (.t 140)⟩,
    ⟨(some 142), none, .pick (.t 136) (.c (.bool true)) (.t 141)⟩,
    ⟨(some 143), none, .mv (.t 142)⟩,
    ⟨(some 144), (some (143, false)), .mv (.t 10)⟩,
    ⟨(some 145), (some (143, false)), .len false (.t 144)⟩,
    ⟨(some 146), (some (143, false)), .mv (.t 1)⟩,
    ⟨(some 147), (some (143, false)), .len false (.t 146)⟩,
    ⟨(some 148), (some (143, false)), .bin .neq (.t 145) (.t 147)⟩,
    ⟨(some 149), none, .pick (.t 143) (.c (.bool true)) (.t 148)⟩,
    ⟨(some 150), none, .mv (.t 149)⟩,
    ⟨(some 151), (some (150, false)), .mv (.t 12)⟩,
    ⟨(some 152), (some (150, false)), .len false (.t 151)⟩,
    ⟨(some 153), (some (150, false)), .mv (.t 1)⟩,
    ⟨(some 154), (some (150, false)), .len false (.t 153)⟩,
    ⟨(some 155), (some (150, false)), .bin .neq (.t 152) (.t 154)⟩,
    ⟨(some 156), none, .pick (.t 150) (.c (.bool true)) (.t 155)⟩,
    ⟨(some 157), none, .mv (.t 156)⟩,
    ⟨(some 158), (some (157, false)), .mv (.t 15)⟩,
    ⟨(some 159), (some (157, false)), .len false (.t 158)⟩,
    ⟨(some 160), (some (157, false)), .fa (.t 5) 1⟩,
    ⟨(some 161), (some (157, false)), .ld (.t 160) 1 false⟩,
    ⟨(some 162), (some (157, false)), .len false (.t 161)⟩,
    ⟨(some 163), (some (157, false)), .bin .neq (.t 159) (.t 162)⟩,
    ⟨(some 164), none, .pick (.t 157) (.c (.bool true)) (.t 163)⟩,
    ⟨(some 165), none, .mv (.t 164)⟩,
    ⟨(some 166), (some (165, false)), .mv (.t 18)⟩,
    ⟨(some 167), (some (165, false)), .len false (.t 166)⟩,
    ⟨(some 168), (some (165, false)), .mv (.t 1)⟩,
    ⟨(some 169), (some (165, false)), .len false (.t 168)⟩,
    ⟨(some 170), (some (165, false)), .bin .neq (.t 167) (.t 169)⟩,
    ⟨(some 171), none, .pick (.t 165) (.c (.bool true)) (.t 170)⟩,
    ⟨(some 172), none, .mv (.t 171)⟩,
    ⟨(some 173), (some (172, false)), .mv (.t 17)⟩,
    ⟨(some 174), (some (172, false)), .len false (.t 173)⟩,
    ⟨(some 175), (some (172, false)), .mv (.t 1)⟩,
    ⟨(some 176), (some (172, false)), .len false (.t 175)⟩,
    ⟨(some 177), (some (172, false)), .bin .mul (.c (.int .i64 2)) (.t 176)⟩,
    ⟨(some 178), (some (172, false)), .bin .neq (.t 174) (.t 177)⟩,
    ⟨(some 179), none, .pick (.t 172) (.c (.bool true)) (.t 178)⟩,
    ⟨(some 180), none, .mv (.t 179)⟩,
    ⟨(some 181), (some (180, false)), .mv (.t 9)⟩,
    ⟨(some 182), (some (180, false)), .len false (.t 181)⟩,
    ⟨(some 183), (some (180, false)), .mv (.t 1)⟩,
    ⟨(some 184), (some (180, false)), .len false (.t 183)⟩,
    ⟨(some 185), (some (180, false)), .bin .gtr (.t 182) (.t 184)⟩,
    ⟨(some 186), none, .pick (.t 180) (.c (.bool true)) (.t 185)⟩,
    ⟨(some 187), none, .mv (.t 186)⟩,
    ⟨(some 188), (some (187, false)), .mv (.t 14)⟩,
    ⟨(some 189), (some (187, false)), .len false (.t 188)⟩,
    ⟨(some 190), (some (187, false)), .mv (.t 1)⟩,
    ⟨(some 191), (some (187, false)), .len false (.t 190)⟩,
    ⟨(some 192), (some (187, false)), .bin .gtr (.t 189) (.t 191)⟩,
    ⟨(some 193), none, .pick (.t 187) (.c (.bool true)) (.t 192)⟩] (some [0, 1, 5, 7, 9, 10, 12, 14, 15, 17, 18, 193]))
  (.cd (.t 193)
   (.sq (.op 0 [⟨(some 6), none, .mv (.c (.bool false))⟩] none)
   .rt)
   .sk))
  (.sq (.op 0 [⟨(some 195), none, .mv (.t 0)⟩,
    ⟨(some 196), none, .mv (.t 9)⟩,
    ⟨(some 197), none, .fa (.t 5) 0⟩,
    ⟨(some 198), none, .ld (.t 197) 1 false⟩,
    ⟨(some 199), none, .callV true (.c (.fn n_graph_ValuesOf [])) [(.t 195), (.t 196), (.t 198)]⟩,
    ⟨(some 194), none, .mv (.t 199)⟩,
    ⟨(some 200), none, .ext (.t 194) 0⟩,
    ⟨(some 201), none, .ext (.t 194) 1⟩,
    ⟨(some 20), none, .mv (.t 200)⟩,
    ⟨(some 21), none, .mv (.t 201)⟩] (some [0, 1, 5, 7, 9, 10, 12, 14, 15, 17, 18, 20, 21]))
  (.sq (.op 0 [⟨(some 203), none, .mv (.t 0)⟩,
    ⟨(some 204), none, .mv (.t 12)⟩,
    ⟨(some 205), none, .fa (.t 5) 0⟩,
    ⟨(some 206), none, .ld (.t 205) 1 false⟩,
    ⟨(some 207), none, .callV true (.c (.fn n_graph_ValuesOf [])) [(.t 203), (.t 204), (.t 206)]⟩,
    ⟨(some 202), none, .mv (.t 207)⟩,
    ⟨(some 208), none, .ext (.t 202) 0⟩,
    ⟨(some 209), none, .ext (.t 202) 1⟩,
    ⟨(some 22), none, .mv (.t 208)⟩,
    ⟨(some 23), none, .mv (.t 209)⟩] (some [0, 1, 5, 7, 9, 10, 12, 14, 15, 17, 18, 20, 21, 22, 23]))
  (.sq (.op 0 [⟨(some 211), none, .mv (.t 0)⟩,
    ⟨(some 212), none, .mv (.t 14)⟩,
    ⟨(some 213), none, .fa (.t 5) 0⟩,
    ⟨(some 214), none, .ld (.t 213) 1 false⟩,
    ⟨(some 215), none, .callV true (.c (.fn n_graph_ValuesOf [])) [(.t 211), (.t 212), (.t 214)]⟩,
    ⟨(some 210), none, .mv (.t 215)⟩,
    ⟨(some 216), none, .ext (.t 210) 0⟩,
    ⟨(some 217), none, .ext (.t 210) 1⟩,
    ⟨(some 24), none, .mv (.t 216)⟩,
    ⟨(some 25), none, .mv (.t 217)⟩] (some [0, 1, 5, 7, 9, 10, 12, 14, 15, 17, 18, 20, 21, 22, 23, 24, 25]))
  (.sq (.op 0 [⟨(some 219), none, .mv (.t 0)⟩,
    ⟨(some 220), none, .mv (.t 17)⟩,
    ⟨(some 221), none, .fa (.t 5) 0⟩,
    ⟨(some 222), none, .ld (.t 221) 1 false⟩,
    ⟨(some 223), none, .callV true (.c (.fn n_graph_ValuesOf [])) [(.t 219), (.t 220), (.t 222)]⟩,
    ⟨(some 218), none, .mv (.t 223)⟩,
    ⟨(some 224), none, .ext (.t 218) 0⟩,
    ⟨(some 225), none, .ext (.t 218) 1⟩,
    ⟨(some 26), none, .mv (.t 224)⟩,
    ⟨(some 27), none, .mv (.t 225)⟩] (some [0, 1, 5, 7, 9, 10, 12, 14, 15, 17, 18, 20, 21, 22, 23, 24, 25, 26, 27]))
  (.sq (.sq (.op 0 [⟨(some 226), none, .mv (.t 21)⟩,
    ⟨(some 227), none, .bin .neq (.t 226) (.c (.int .i64 0))⟩,
    ⟨(some 228), none, .mv (.t 227)⟩,
    ⟨(some 229), (some (228, false)), .mv (.t 23)⟩,
    ⟨(some 230), (some (228, false)), .bin .neq (.t 229) (.c (.int .i64 0))⟩,
    ⟨(some 231), none, .pick (.t 228) (.c (.bool true)) (.t 230)⟩,
    ⟨(some 232), none, .mv (.t 231)⟩,
    ⟨(some 233), (some (232, false)), .mv (.t 25)⟩,
    ⟨(some 234), (some (232, false)), .bin .neq (.t 233) (.c (.int .i64 0))⟩,
    ⟨(some 235), none, .pick (.t 232) (.c (.bool true)) (.t 234)⟩,
    ⟨(some 236), none, .mv (.t 235)⟩,
    ⟨(some 237), (some (236, false)), .mv (.t 27)⟩,
    ⟨(some 238), (some (236, false)), .bin .neq (.t 237) (.c (.int .i64 0))⟩,
    ⟨(some 239), none, .pick (.t 236) (.c (.bool true)) (.t 238)⟩,
    ⟨(some 240), none, .mv (.t 239)⟩,
    ⟨(some 241), (some (240, false)), .mv (.t 22)⟩,
    ⟨(some 242), (some (240, false)), .mv (.t 7)⟩,
    ⟨(some 243), (some (240, false)), .callV true (.c (.fn n_ratchetbase_Ints [])) [(.t 241), (.t 242)]⟩,
    ⟨(some 244), (some (240, false)), .un .not (.t 243)⟩,
    ⟨(some 245), none, .pick (.t 240) (.c (.bool true)) (.t 244)⟩,
    ⟨(some 246), none, .mv (.t 245)⟩,
    ⟨(some 247), (some (246, false)), .mv (.t 20)⟩,
    ⟨(some 248), (some (246, false)), .len false (.t 247)⟩,
    ⟨(some 249), (some (246, false)), .mv (.t 9)⟩,
    ⟨(some 250), (some (246, false)), .len false (.t 249)⟩,
    ⟨(some 251), (some (246, false)), .bin .neq (.t 248) (.t 250)⟩,
    ⟨(some 252), none, .pick (.t 246) (.c (.bool true)) (.t 251)⟩,
    ⟨(some 253), none, .mv (.t 252)⟩,
    ⟨(some 254), (some (253, false)), .mv (.t 24)⟩,
    ⟨(some 255), (some (253, false)), .len false (.t 254)⟩,
    ⟨(some 256), (some (253, false)), .mv (.t 14)⟩,
    ⟨(some 257), (some (253, false)), .len false (.t 256)⟩,
    ⟨(some 258), (some (253, false)), .bin .neq (.t 255) (.t 257)⟩,
    ⟨(some 259), none, .pick (.t 253) (.c (.bool true)) (.t 258)⟩,
    ⟨(some 260), none, .mv (.t 259)⟩,
    ⟨(some 261), (some (260, false)), .mv (.t 26)⟩,
    ⟨(some 262), (some (260, false)), .len false (.t 261)⟩,
    ⟨(some 263), (some (260, false)), .mv (.t 17)⟩,
    ⟨(some 264), (some (260, false)), .len false (.t 263)⟩,
    ⟨(some 265), (some (260, false)), .bin .neq (.t 262) (.t 264)⟩,
    ⟨(some 266), none, .pick (.t 260) (.c (.bool true)) (.t 265)⟩] (some [0, 1, 5, 7, 9, 10, 12, 15, 18, 20, 24, 26, 266]))
  (.cd (.t 266)
   (.sq (.op 0 [⟨(some 6), none, .mv (.c (.bool false))⟩] none)
   .rt)
   .sk))
  (.sq (.sq (.op 0 [⟨(some 28), none, .mv (.c (.int .i64 0))⟩] none)
  (.kp [0, 1, 5, 7, 9, 12, 15, 24] [6] (.bk 0 (.lp [] [0, 1, 5, 7, 9, 10, 12, 15, 18, 20, 24, 26, 28] c_ratchetlaw02_GraphSame_L0))))
  (.sq (.sq (.op 0 [⟨(some 29), none, .mv (.c (.int .i64 0))⟩] none)
  (.kp [0, 1, 5, 7, 9, 12] [6] (.bk 2 (.lp [] [0, 1, 5, 7, 9, 12, 15, 24, 29] c_ratchetlaw02_GraphSame_L1))))
  (.sq (.sq (.op 0 [⟨(some 30), none, .mv (.c (.int .i64 0))⟩] none)
  (.kp [0, 9, 12] [6] (.bk 4 (.lp [] [0, 1, 5, 7, 9, 12, 30] c_ratchetlaw02_GraphSame_L2))))
  (.sq (.op 0 [⟨(some 405), none, .mv (.t 0)⟩,
    ⟨(some 406), none, .mv (.t 9)⟩,
    ⟨(some 407), none, .callV true (.c (.fn n_ratchetbase_CopyNodes [])) [(.t 406)]⟩,
    ⟨(some 408), none, .callV true (.c (.fn n_graph_SharedOf [])) [(.t 405), (.t 407)]⟩,
    ⟨(some 404), none, .mv (.t 408)⟩,
    ⟨(some 409), none, .ext (.t 404) 0⟩,
    ⟨(some 410), none, .ext (.t 404) 1⟩,
    ⟨(some 411), none, .ext (.t 404) 2⟩,
    ⟨(some 35), none, .mv (.t 409)⟩,
    ⟨(some 36), none, .mv (.t 410)⟩,
    ⟨(some 37), none, .mv (.t 411)⟩] (some [0, 9, 12, 35, 37]))
  (.sq (.op 0 [⟨(some 413), none, .mv (.t 0)⟩,
    ⟨(some 414), none, .mv (.t 12)⟩,
    ⟨(some 415), none, .callV true (.c (.fn n_ratchetbase_CopyNodes [])) [(.t 414)]⟩,
    ⟨(some 416), none, .callV true (.c (.fn n_graph_FoldedOf [])) [(.t 413), (.t 415)]⟩,
    ⟨(some 412), none, .mv (.t 416)⟩,
    ⟨(some 417), none, .ext (.t 412) 0⟩,
    ⟨(some 418), none, .ext (.t 412) 1⟩,
    ⟨(some 38), none, .mv (.t 417)⟩,
    ⟨(some 39), none, .mv (.t 418)⟩] (some [9, 12, 35, 37, 38, 39]))
  (.sq (.sq (.op 0 [⟨(some 419), none, .mv (.t 37)⟩,
    ⟨(some 420), none, .bin .neq (.t 419) (.c (.int .i64 0))⟩,
    ⟨(some 421), none, .mv (.t 420)⟩,
    ⟨(some 422), (some (421, false)), .mv (.t 35)⟩,
    ⟨(some 423), (some (421, false)), .mv (.t 9)⟩,
    ⟨(some 424), (some (421, false)), .callV true (.c (.fn n_ratchetbase_SameNodes [])) [(.t 422), (.t 423)]⟩,
    ⟨(some 425), (some (421, false)), .un .not (.t 424)⟩,
    ⟨(some 426), none, .pick (.t 421) (.c (.bool true)) (.t 425)⟩,
    ⟨(some 427), none, .mv (.t 426)⟩,
    ⟨(some 428), (some (427, false)), .mv (.t 39)⟩,
    ⟨(some 429), (some (427, false)), .bin .neq (.t 428) (.c (.int .i64 0))⟩,
    ⟨(some 430), none, .pick (.t 427) (.c (.bool true)) (.t 429)⟩,
    ⟨(some 431), none, .mv (.t 430)⟩,
    ⟨(some 432), (some (431, false)), .mv (.t 38)⟩,
    ⟨(some 433), (some (431, false)), .mv (.t 12)⟩,
    ⟨(some 434), (some (431, false)), .callV true (.c (.fn n_ratchetbase_SameNodes [])) [(.t 432), (.t 433)]⟩,
    ⟨(some 435), (some (431, false)), .un .not (.t 434)⟩,
    ⟨(some 436), none, .pick (.t 431) (.c (.bool true)) (.t 435)⟩] (some [9, 436]))
  (.cd (.t 436)
   (.sq (.op 0 [⟨(some 6), none, .mv (.c (.bool false))⟩] none)
   .rt)
   .sk))
  (.sq (.sq (.op 0 [⟨(some 40), none, .mv (.c (.int .i64 0))⟩] none)
  (.kp [] [6] (.bk 6 (.lp [] [9, 40] c_ratchetlaw02_GraphSame_L3))))
  (.sq (.op 0 [⟨(some 6), none, .mv (.c (.bool true))⟩] none)
  .rt)))))))))))))))))))))),
  [.t 6]⟩
def c_ratchetlaw02_awake : FnIR := ⟨58,
  (.sq (.op 0 [⟨(some 0), none, .mv (.c (.bool false))⟩] none)
  (.sq (.op 0 [⟨(some 9), none, .callV false (.c (.fn n_ratchetlaw02_Leaves [])) []⟩,
    ⟨(some 10), none, .callV false (.c (.fn n_ratchetlaw02_Nodes [])) []⟩,
    ⟨(some 11), none, .bsl t_int 1 false [.int .i64 0] 2 [(0, (.c (.int .i64 14))), (1, (.c (.int .i64 1)))]⟩,
    ⟨(some 12), none, .callV false (.c (.fn n_graph_ValuesOf [])) [(.t 9), (.t 10), (.t 11)]⟩,
    ⟨(some 8), none, .mv (.t 12)⟩,
    ⟨(some 13), none, .ext (.t 8) 0⟩,
    ⟨(some 14), none, .ext (.t 8) 1⟩,
    ⟨(some 1), none, .mv (.t 13)⟩,
    ⟨(some 2), none, .mv (.t 14)⟩] (some [1, 2]))
  (.sq (.op 0 [⟨(some 16), none, .callV false (.c (.fn n_ratchetlaw02_Leaves [])) []⟩,
    ⟨(some 17), none, .callV false (.c (.fn n_ratchetlaw02_Nodes [])) []⟩,
    ⟨(some 18), none, .callV false (.c (.fn n_graph_DepthsOf [])) [(.t 16), (.t 17)]⟩,
    ⟨(some 15), none, .mv (.t 18)⟩,
    ⟨(some 19), none, .ext (.t 15) 0⟩,
    ⟨(some 20), none, .ext (.t 15) 1⟩,
    ⟨(some 3), none, .mv (.t 19)⟩,
    ⟨(some 4), none, .mv (.t 20)⟩] (some [1, 2, 3, 4]))
  (.sq (.op 0 [⟨(some 22), none, .callV false (.c (.fn n_ratchetlaw02_Leaves [])) []⟩,
    ⟨(some 23), none, .callV false (.c (.fn n_ratchetlaw02_Nodes [])) []⟩,
    ⟨(some 24), none, .callV false (.c (.fn n_graph_DifferenceOf [])) [(.t 22), (.t 23), (.c (.int .i64 0)), (.c (.int .i64 2))]⟩,
    ⟨(some 21), none, .mv (.t 24)⟩,
    ⟨(some 25), none, .ext (.t 21) 0⟩,
    ⟨(some 26), none, .ext (.t 21) 1⟩,
    ⟨(some 5), none, .mv (.t 25)⟩,
    ⟨(some 6), none, .mv (.t 26)⟩] (some [1, 2, 3, 4, 5, 6]))
  (.sq (.op 0 [⟨(some 27), none, .callV false (.c (.fn n_ratchetlaw02_Nodes [])) []⟩,
    ⟨(some 28), none, .callV true (.c (.fn n_graph_FormatNodes [])) [(.t 27)]⟩,
    ⟨(some 7), none, .mv (.t 28)⟩] none)
  (.sq (.op 0 [⟨(some 29), none, .mv (.t 2)⟩,
    ⟨(some 30), none, .bin .eql (.t 29) (.c (.int .i64 0))⟩,
    ⟨(some 31), none, .mv (.t 30)⟩,
    ⟨(some 32), (some (31, true)), .mv (.t 1)⟩,
    ⟨(some 33), (some (31, true)), .bsl t_int 1 false [.int .i64 0] 6 [(0, (.c (.int .i64 14))), (1, (.c (.int .i64 3))), (2, (.c (.int .i64 1))), (3, (.c (.int .i64 1))), (4, (.c (.int .i64 1))), (5, (.c (.int .i64 1)))]⟩,
    ⟨(some 34), (some (31, true)), .callV true (.c (.fn n_ratchetbase_Ints [])) [(.t 32), (.t 33)]⟩,
    ⟨(some 35), none, .pick (.t 31) (.t 34) (.c (.bool false))⟩,
    ⟨(some 36), none, .mv (.t 35)⟩,
    ⟨(some 37), (some (36, true)), .mv (.t 4)⟩,
    ⟨(some 38), (some (36, true)), .bin .eql (.t 37) (.c (.int .i64 0))⟩,
    ⟨(some 39), none, .pick (.t 36) (.t 38) (.c (.bool false))⟩,
    ⟨(some 40), none, .mv (.t 39)⟩,
    ⟨(some 41), (some (40, true)), .mv (.t 3)⟩,
    ⟨(some 42), (some (40, true)), .bsl t_int 1 false [.int .i64 0] 6 [(0, (.c (.int .i64 0))), (1, (.c (.int .i64 0))), (2, (.c (.int .i64 1))), (3, (.c (.int .i64 0))), (4, (.c (.int .i64 2))), (5, (.c (.int .i64 3)))]⟩,
    ⟨(some 43), (some (40, true)), .callV true (.c (.fn n_ratchetbase_Ints [])) [(.t 41), (.t 42)]⟩,
    ⟨(some 44), none, .pick (.t 40) (.t 43) (.c (.bool false))⟩,
    ⟨(some 45), none, .mv (.t 44)⟩,
    ⟨(some 46), (some (45, true)), .mv (.t 6)⟩,
    ⟨(some 47), (some (45, true)), .bin .eql (.t 46) (.c (.int .i64 0))⟩,
    ⟨(some 48), none, .pick (.t 45) (.t 47) (.c (.bool false))⟩,
    ⟨(some 49), none, .mv (.t 48)⟩,
    ⟨(some 50), (some (49, true)), .mv (.t 5)⟩,
    ⟨(some 51), (some (49, true)), .bsl t_int 1 false [.int .i64 0] 2 [(0, (.c (.int .i64 0))), (1, (.c (.int .i64 0)))]⟩,
    ⟨(some 52), (some (49, true)), .callV true (.c (.fn n_ratchetbase_Ints [])) [(.t 50), (.t 51)]⟩,
    ⟨(some 53), none, .pick (.t 49) (.t 52) (.c (.bool false))⟩,
    ⟨(some 54), none, .mv (.t 53)⟩,
    ⟨(some 55), (some (54, true)), .mv (.t 7)⟩,
    ⟨(some 56), (some (54, true)), .bin .eql (.t 55) (.c (.str ⟨#[108, 101, 97, 102, 32, 52, 32, 48, 59, 99, 111, 110, 115, 116, 32, 52, 32, 51, 59, 97, 100, 100, 32, 52, 32, 48, 32, 49, 59, 108, 101, 97, 102, 32, 49, 32, 49, 59, 109, 117, 120, 32, 52, 32, 51, 32, 50, 32, 48, 59, 108, 116, 32, 49, 32, 52, 32, 49]⟩))⟩,
    ⟨(some 57), none, .pick (.t 54) (.t 56) (.c (.bool false))⟩,
    ⟨(some 0), none, .mv (.t 57)⟩] (some [0]))
  .rt)))))),
  [.t 0]⟩
def c_ratchetref02_NodesErr : FnIR := ⟨14,
  (.sq (.op 0 [⟨(some 4), none, .mv (.c (.int .i64 0))⟩] none)
  (.sq (.op 0 [⟨(some 8), none, .mv (.t 0)⟩,
    ⟨(some 9), none, .mv (.t 1)⟩,
    ⟨(some 10), none, .callV true (.c (.fn n_ratchetref02_CheckNodes [])) [(.t 8), (.t 9)]⟩,
    ⟨(some 7), none, .mv (.t 10)⟩,
    ⟨(some 11), none, .ext (.t 7) 0⟩,
    ⟨(some 12), none, .ext (.t 7) 1⟩,
    ⟨(some 5), none, .mv (.t 11)⟩,
    ⟨(some 6), none, .mv (.t 12)⟩] (some [6]))
  (.sq (.op 0 [⟨(some 13), none, .mv (.t 6)⟩,
    ⟨(some 4), none, .mv (.t 13)⟩] none)
  .rt))),
  [.t 4]⟩
def c_ratchetref02_ValuesErr : FnIR := ⟨14,
  (.sq (.op 0 [⟨(some 4), none, .mv (.c (.int .i64 0))⟩] none)
  (.sq (.sq (.op 0 [⟨(some 5), none, .mv (.t 0)⟩,
    ⟨(some 6), none, .len false (.t 5)⟩,
    ⟨(some 7), none, .mv (.t 1)⟩,
    ⟨(some 8), none, .len false (.t 7)⟩,
    ⟨(some 9), none, .bin .neq (.t 6) (.t 8)⟩] (some [0, 1, 9]))
  (.cd (.t 9)
   (.sq (.op 0 [⟨(some 4), none, .mv (.c (.int .i64 10))⟩] none)
   .rt)
   .sk))
  (.sq (.sq (.op 0 [⟨(some 10), none, .mv (.t 0)⟩,
    ⟨(some 11), none, .mv (.t 1)⟩,
    ⟨(some 12), none, .callV true (.c (.fn n_ratchetbase_IsValues [])) [(.t 10), (.t 11)]⟩,
    ⟨(some 13), none, .un .not (.t 12)⟩] (some [13]))
  (.cd (.t 13)
   (.sq (.op 0 [⟨(some 4), none, .mv (.c (.int .i64 2))⟩] none)
   .rt)
   .sk))
  (.sq (.op 0 [⟨(some 4), none, .mv (.c (.int .i64 0))⟩] none)
  .rt)))),
  [.t 4]⟩
def b_ratchetref02_FromErr_L0 : IR :=
 (.sq (.sq (.op 0 [⟨(some 6), none, .mv (.t 5)⟩,
   ⟨(some 7), none, .mv (.t 1)⟩,
   ⟨(some 8), none, .len false (.t 7)⟩,
   ⟨(some 9), none, .bin .lss (.t 6) (.t 8)⟩] (some [0, 1, 5, 9]))
 (.cd (.t 9)
  .sk
  (.ex 0)))
 (.sq (.bk 1 (.sq (.op 0 [⟨(some 12), none, .mv (.t 0)⟩,
    ⟨(some 13), none, .mv (.t 1)⟩,
    ⟨(some 14), none, .mv (.t 5)⟩,
    ⟨(some 15), none, .ia (.t 13) (.t 14) 1⟩,
    ⟨(some 16), none, .ld (.t 15) 1 false⟩,
    ⟨(some 17), none, .callV true (.c (.fn n_ratchetbase_IsNode [])) [(.t 12), (.t 16)]⟩,
    ⟨(some 18), none, .un .not (.t 17)⟩] (some [0, 1, 5, 18]))
  (.cd (.t 18)
   (.sq (.op 0 [⟨(some 4), none, .mv (.c (.int .i64 6))⟩] none)
   .rt)
   .sk)))
 (.op 0 [⟨(some 10), none, .mv (.t 5)⟩,
   ⟨(some 11), none, .bin .add (.t 10) (.c (.int .i64 1))⟩,
   ⟨(some 5), none, .mv (.t 11)⟩] none)))
def c_ratchetref02_FromErr_L0 : IR := b_ratchetref02_FromErr_L0
theorem u_ratchetref02_FromErr_L0 {C : Call} {L : Loop} {π : Id} {k0 : List Id} {e : Env} {s : Sto} : evC C L π k0 c_ratchetref02_FromErr_L0 e s = evC C L π k0 b_ratchetref02_FromErr_L0 e s := rfl
def c_ratchetref02_FromErr : FnIR := ⟨19,
  (.sq (.op 0 [⟨(some 4), none, .mv (.c (.int .i64 0))⟩] none)
  (.sq (.sq (.op 0 [⟨(some 5), none, .mv (.c (.int .i64 0))⟩] none)
  (.kp [] [4] (.bk 0 (.lp [] [0, 1, 5] c_ratchetref02_FromErr_L0))))
  (.sq (.op 0 [⟨(some 4), none, .mv (.c (.int .i64 0))⟩] none)
  .rt))),
  [.t 4]⟩
def c_graph_ValuesOf : FnIR := ⟨37,
  (.sq (.op 0 [⟨(some 3), none, .box (.t 0) 1⟩,
    ⟨(some 6), none, .mv (.c (.sl 1 (some true) []))⟩,
    ⟨(some 7), none, .mv (.c (.int .i64 0))⟩] none)
  (.sq (.sq (.fz [1] (.op 8 [⟨(some 11), none, .ld (.t 3) 1 false⟩,
    ⟨(some 12), none, .mv (.t 1)⟩,
    ⟨(some 13), none, .callV true (.c (.fn n_graph_graphErr [])) [(.t 11), (.t 12)]⟩,
    ⟨(some 14), none, .mv (.t 2)⟩,
    ⟨(some 15), none, .len false (.t 14)⟩,
    ⟨(some 16), none, .ld (.t 3) 1 false⟩,
    ⟨(some 17), none, .len false (.t 16)⟩,
    ⟨(some 18), none, .bin .eql (.t 15) (.t 17)⟩,
    ⟨(some 19), none, .callV true (.c (.fn n_graph_unless [])) [(.t 18), (.c (.int .i64 10))]⟩,
    ⟨(some 20), none, .bsl t_api_Errno 1 false [.int .i64 0] 2 [(0, (.t 13)), (1, (.t 19))]⟩,
    ⟨(some 21), none, .callV true (.c (.fn n_graph_first [])) [(.t 20)]⟩,
    ⟨(some 8), none, .mv (.t 21)⟩] (some [1, 2, 3, 8])))
  (.sq (.op 0 [⟨(some 22), none, .mv (.t 8)⟩,
    ⟨(some 23), none, .bin .neq (.t 22) (.c (.int .i64 0))⟩] none)
  (.cd (.t 23)
   (.sq (.op 0 [⟨(some 24), none, .mv (.t 8)⟩,
     ⟨(some 6), none, .mv (.c (.sl 1 (some true) []))⟩,
     ⟨(some 7), none, .mv (.t 24)⟩] none)
   .rt)
   .sk)))
  (.sq (.sq (.op 0 [⟨(some 26), none, .mv (.t 2)⟩,
    ⟨(some 27), none, .mkf n_graph_ValuesOf_1 [(.t 3)]⟩,
    ⟨(some 28), none, .callV true (.c (.fn n_graph_each_int [])) [(.t 26), (.t 27)]⟩,
    ⟨(some 25), none, .mv (.t 28)⟩,
    ⟨(some 29), none, .ext (.t 25) 0⟩,
    ⟨(some 30), none, .ext (.t 25) 1⟩,
    ⟨(some 9), none, .mv (.t 29)⟩,
    ⟨(some 10), none, .mv (.t 30)⟩] (some [1, 2, 10]))
  (.sq (.op 0 [⟨(some 31), none, .mv (.t 10)⟩,
    ⟨(some 32), none, .bin .neq (.t 31) (.c (.int .i64 0))⟩] none)
  (.cd (.t 32)
   (.sq (.op 0 [⟨(some 33), none, .mv (.t 10)⟩,
     ⟨(some 6), none, .mv (.c (.sl 1 (some true) []))⟩,
     ⟨(some 7), none, .mv (.t 33)⟩] none)
   .rt)
   .sk)))
  (.sq (.op 0 [⟨(some 34), none, .mv (.t 1)⟩,
    ⟨(some 35), none, .mv (.t 2)⟩,
    ⟨(some 36), none, .callV false (.c (.fn n_graph_valued [])) [(.t 34), (.t 35)]⟩,
    ⟨(some 6), none, .mv (.t 36)⟩,
    ⟨(some 7), none, .mv (.c (.int .i64 0))⟩] (some [6, 7]))
  .rt)))),
  [.t 6, .t 7]⟩
def b_ratchetbase_CopyNodes_L0 : IR :=
 (.sq (.sq (.op 0 [⟨(some 8), none, .mv (.t 4)⟩,
   ⟨(some 9), none, .mv (.t 0)⟩,
   ⟨(some 10), none, .len false (.t 9)⟩,
   ⟨(some 11), none, .bin .lss (.t 8) (.t 10)⟩] (some [0, 3, 4, 11]))
 (.cd (.t 11)
  .sk
  (.ex 0)))
 (.sq (.bk 1 (.sq (.op 0 [⟨(some 14), none, .mv (.t 3)⟩,
    ⟨(some 15), none, .mv (.t 4)⟩,
    ⟨(some 16), none, .mv (.t 0)⟩,
    ⟨(some 17), none, .mv (.t 4)⟩,
    ⟨(some 18), none, .ia (.t 16) (.t 17) 4⟩,
    ⟨(some 19), none, .ld (.t 18) 4 true⟩,
    ⟨(some 20), none, .ia (.t 14) (.t 15) 4⟩,
    ⟨none, none, .st (.t 20) (.t 19) 4⟩] (some [0, 3, 4]))
  (.op 0 [⟨(some 21), none, .mv (.t 3)⟩,
    ⟨(some 22), none, .mv (.t 4)⟩,
    ⟨(some 23), none, .mv (.t 0)⟩,
    ⟨(some 24), none, .mv (.t 4)⟩,
    ⟨(some 25), none, .ia (.t 23) (.t 24) 4⟩,
    ⟨(some 26), none, .fa (.t 25) 2⟩,
    ⟨(some 27), none, .ld (.t 26) 1 false⟩,
    ⟨(some 28), none, .callV true (.c (.fn n_ratchetbase_CopyInts [])) [(.t 27)]⟩,
    ⟨(some 29), none, .ia (.t 21) (.t 22) 4⟩,
    ⟨(some 30), none, .fa (.t 29) 2⟩,
    ⟨none, none, .st (.t 30) (.t 28) 1⟩] (some [0, 3, 4]))))
 (.op 0 [⟨(some 12), none, .mv (.t 4)⟩,
   ⟨(some 13), none, .bin .add (.t 12) (.c (.int .i64 1))⟩,
   ⟨(some 4), none, .mv (.t 13)⟩] none)))
def c_ratchetbase_CopyNodes_L0 : IR := b_ratchetbase_CopyNodes_L0
theorem u_ratchetbase_CopyNodes_L0 {C : Call} {L : Loop} {π : Id} {k0 : List Id} {e : Env} {s : Sto} : evC C L π k0 c_ratchetbase_CopyNodes_L0 e s = evC C L π k0 b_ratchetbase_CopyNodes_L0 e s := rfl
def c_ratchetbase_CopyNodes : FnIR := ⟨32,
  (.sq (.op 0 [⟨(some 2), none, .mv (.c (.sl 4 (some true) []))⟩] none)
  (.sq (.op 0 [⟨(some 5), none, .mv (.t 0)⟩,
    ⟨(some 6), none, .len false (.t 5)⟩,
    ⟨(some 7), none, .mks t_api_Node 4 true [.int .i64 0, .int .i64 0, .sl 1 (some true) [], .int .i64 0] (.t 6) (.t 6)⟩,
    ⟨(some 3), none, .mv (.t 7)⟩] (some [0, 3]))
  (.sq (.sq (.op 0 [⟨(some 4), none, .mv (.c (.int .i64 0))⟩] none)
  (.kp [3] [2] (.bk 0 (.lp [] [0, 3, 4] c_ratchetbase_CopyNodes_L0))))
  (.sq (.op 0 [⟨(some 31), none, .mv (.t 3)⟩,
    ⟨(some 2), none, .mv (.t 31)⟩] none)
  .rt)))),
  [.t 2]⟩
def b_graph_SharedOf_L0 : IR :=
 (.sq (.op 0 [⟨(some 27), none, .bin .lss (.t 26) (.t 25)⟩] none)
 (.sq (.cd (.t 27)
  .sk
  (.ex 0))
 (.sq (.bk 1 (.sq (.op 0 [⟨(some 28), none, .ia (.t 24) (.t 26) 4⟩,
    ⟨(some 29), none, .ld (.t 28) 4 true⟩,
    ⟨(some 12), none, .alloc [.int .i64 0, .int .i64 0, .sl 1 (some true) [], .int .i64 0]⟩,
    ⟨none, none, .st (.t 12) (.t 29) 4⟩] (some [8, 9, 10, 12, 24, 25, 26]))
  (.sq (.op 5 [⟨(some 30), none, .ld (.t 12) 4 true⟩,
    ⟨(some 31), none, .mv (.t 10)⟩,
    ⟨(some 32), none, .mkc n_graph_mapped n_graph_mapped_1 (.t 31)⟩,
    ⟨(some 33), none, .callV true (.c (.fn n_graph_moved [])) [(.t 30), (.t 32)]⟩,
    ⟨(some 13), none, .alloc [.int .i64 0, .int .i64 0, .sl 1 (some true) [], .int .i64 0]⟩,
    ⟨none, none, .st (.t 13) (.t 33) 4⟩] (some [8, 9, 10, 13, 24, 25, 26]))
  (.sq (.op 0 [⟨(some 34), none, .fa (.t 13) 0⟩,
    ⟨(some 35), none, .ld (.t 34) 1 false⟩,
    ⟨(some 36), none, .fa (.t 13) 1⟩,
    ⟨(some 37), none, .ld (.t 36) 1 false⟩,
    ⟨(some 38), none, .fa (.t 13) 3⟩,
    ⟨(some 39), none, .ld (.t 38) 1 false⟩,
    ⟨(some 40), none, .build [.int .i64 0, .int .i64 0, .int .i64 0, .int .i64 0, .int .i64 0, .int .i64 0] [(0, 1, (.t 35)), (1, 1, (.t 37)), (2, 1, (.t 39))]⟩,
    ⟨(some 14), none, .alloc [.int .i64 0, .int .i64 0, .int .i64 0, .int .i64 0, .int .i64 0, .int .i64 0]⟩,
    ⟨none, none, .st (.t 14) (.t 40) 6⟩] (some [8, 9, 10, 13, 14, 24, 25, 26]))
  (.sq (.op 4 [⟨(some 41), none, .fa (.t 14) 3⟩,
    ⟨(some 42), none, .slb (.t 41) 3⟩,
    ⟨(some 43), none, .fa (.t 13) 2⟩,
    ⟨(some 44), none, .ld (.t 43) 1 false⟩,
    ⟨(some 45), none, .cpb (.t 42) (.t 44)⟩] (some [8, 9, 10, 13, 14, 24, 25, 26]))
  (.sq (.op 0 [⟨(some 47), none, .mv (.t 8)⟩,
    ⟨(some 48), none, .ld (.t 14) 6 true⟩,
    ⟨(some 49), none, .lkp (.t 47) (.t 48) (.agg [.int .i64 0, .int .i64 0, .int .i64 0, .int .i64 0, .int .i64 0, .int .i64 0]) (.int .i64 0) true⟩,
    ⟨(some 46), none, .mv (.t 49)⟩,
    ⟨(some 50), none, .ext (.t 46) 0⟩,
    ⟨(some 51), none, .ext (.t 46) 1⟩,
    ⟨(some 15), none, .mv (.t 50)⟩,
    ⟨(some 16), none, .mv (.t 51)⟩] (some [8, 9, 10, 13, 14, 15, 16, 24, 25, 26]))
  (.sq (.sq (.op 0 [⟨(some 52), none, .mv (.t 16)⟩,
    ⟨(some 53), none, .un .not (.t 52)⟩] none)
  (.cd (.t 53)
   (.sq (.op 0 [⟨(some 54), none, .mv (.t 9)⟩,
     ⟨(some 55), none, .len false (.t 54)⟩,
     ⟨(some 15), none, .mv (.t 55)⟩] none)
   (.sq (.op 0 [⟨(some 56), none, .mv (.t 8)⟩,
     ⟨(some 57), none, .ld (.t 14) 6 true⟩,
     ⟨(some 58), none, .mv (.t 15)⟩,
     ⟨none, none, .mpu (.t 56) (.t 57) (.t 58) (.agg [.int .i64 0, .int .i64 0, .int .i64 0, .int .i64 0, .int .i64 0, .int .i64 0])⟩] (some [8, 9, 10, 13, 15, 24, 25, 26]))
   (.op 0 [⟨(some 59), none, .mv (.t 9)⟩,
     ⟨(some 60), none, .ld (.t 13) 4 true⟩,
     ⟨(some 61), none, .bsl t_api_Node 4 true [.int .i64 0, .int .i64 0, .sl 1 (some true) [], .int .i64 0] 1 [(0, (.t 60))]⟩,
     ⟨(some 62), none, .app (.t 59) (.t 61) t_api_Node 4⟩,
     ⟨(some 9), none, .mv (.t 62)⟩] (some [8, 9, 10, 15, 24, 25, 26]))))
   .sk))
  (.op 0 [⟨(some 63), none, .mv (.t 10)⟩,
    ⟨(some 64), none, .mv (.t 15)⟩,
    ⟨(some 65), none, .bsl t_int 1 false [.int .i64 0] 1 [(0, (.t 64))]⟩,
    ⟨(some 66), none, .app (.t 63) (.t 65) t_int 1⟩,
    ⟨(some 10), none, .mv (.t 66)⟩] (some [8, 9, 10, 24, 25, 26])))))))))
 (.op 0 [⟨(some 67), none, .bin .add (.t 26) (.c (.int .i64 1))⟩,
   ⟨(some 26), none, .mv (.t 67)⟩] none))))
def c_graph_SharedOf_L0 : IR := b_graph_SharedOf_L0
theorem u_graph_SharedOf_L0 {C : Call} {L : Loop} {π : Id} {k0 : List Id} {e : Env} {s : Sto} : evC C L π k0 c_graph_SharedOf_L0 e s = evC C L π k0 b_graph_SharedOf_L0 e s := rfl
def c_graph_SharedOf : FnIR := ⟨70,
  (.sq (.op 0 [⟨(some 4), none, .mv (.c (.sl 4 (some true) []))⟩,
    ⟨(some 5), none, .mv (.c (.sl 1 (some true) []))⟩,
    ⟨(some 6), none, .mv (.c (.int .i64 0))⟩] none)
  (.sq (.sq (.op 0 [⟨(some 17), none, .mv (.t 0)⟩,
    ⟨(some 18), none, .mv (.t 1)⟩,
    ⟨(some 19), none, .callV true (.c (.fn n_graph_graphErr [])) [(.t 17), (.t 18)]⟩,
    ⟨(some 7), none, .mv (.t 19)⟩] (some [1, 7]))
  (.sq (.op 0 [⟨(some 20), none, .mv (.t 7)⟩,
    ⟨(some 21), none, .bin .neq (.t 20) (.c (.int .i64 0))⟩] none)
  (.cd (.t 21)
   (.sq (.op 0 [⟨(some 22), none, .mv (.t 7)⟩,
     ⟨(some 4), none, .mv (.c (.sl 4 (some true) []))⟩,
     ⟨(some 5), none, .mv (.c (.sl 1 (some true) []))⟩,
     ⟨(some 6), none, .mv (.t 22)⟩] (some [4, 5, 6]))
   .rt)
   .sk)))
  (.sq (.op 0 [⟨(some 23), none, .mkp⟩,
    ⟨(some 8), none, .mv (.t 23)⟩] none)
  (.sq (.op 0 [⟨(some 9), none, .mv (.c (.sl 4 (some true) []))⟩] none)
  (.sq (.op 0 [⟨(some 10), none, .mv (.c (.sl 1 (some true) []))⟩] none)
  (.sq (.sq (.op 0 [⟨(some 24), none, .mv (.t 1)⟩,
    ⟨(some 25), none, .len false (.t 24)⟩,
    ⟨(some 26), none, .mv (.c (.int .i64 0))⟩] none)
  (.kp [9, 10] [4, 5, 6] (.bk 0 (.lp [(t_api_Node, .inl 9), (t_int, .inl 10)] [8, 9, 10, 24, 25, 26] c_graph_SharedOf_L0))))
  (.sq (.op 0 [⟨(some 68), none, .mv (.t 9)⟩,
    ⟨(some 69), none, .mv (.t 10)⟩,
    ⟨(some 4), none, .mv (.t 68)⟩,
    ⟨(some 5), none, .mv (.t 69)⟩,
    ⟨(some 6), none, .mv (.c (.int .i64 0))⟩] (some [4, 5, 6]))
  .rt))))))),
  [.t 4, .t 5, .t 6]⟩
def b_graph_FoldedOf_L0 : IR :=
 (.sq (.op 0 [⟨(some 24), none, .bin .lss (.t 23) (.t 22)⟩] none)
 (.sq (.cd (.t 24)
  .sk
  (.ex 0))
 (.sq (.bk 1 (.sq (.op 0 [⟨(some 25), none, .ia (.t 21) (.t 23) 4⟩,
    ⟨(some 26), none, .ld (.t 25) 4 true⟩,
    ⟨(some 11), none, .alloc [.int .i64 0, .int .i64 0, .sl 1 (some true) [], .int .i64 0]⟩,
    ⟨none, none, .st (.t 11) (.t 26) 4⟩] (some [1, 7, 8, 9, 11, 21, 22, 23]))
  (.sq (.op 0 [⟨(some 27), none, .ld (.t 11) 4 true⟩,
    ⟨(some 28), none, .callV true (.c (.fn n_graph_moved [])) [(.t 27), (.c (.fn n_graph_FoldedOf_1 []))]⟩,
    ⟨(some 12), none, .alloc [.int .i64 0, .int .i64 0, .sl 1 (some true) [], .int .i64 0]⟩,
    ⟨none, none, .st (.t 12) (.t 28) 4⟩] (some [1, 7, 8, 9, 11, 12, 21, 22, 23]))
  (.sq (.op 0 [⟨(some 29), none, .fa (.t 11) 2⟩,
    ⟨(some 30), none, .ld (.t 29) 1 false⟩,
    ⟨(some 31), none, .mkf n_graph_FoldedOf_2 [(.t 8)]⟩,
    ⟨(some 32), none, .callV true (.c (.fn n_slices_ContainsFunc_int_int [])) [(.t 30), (.t 31)]⟩,
    ⟨(some 13), none, .mv (.t 32)⟩] (some [1, 7, 8, 9, 11, 12, 13, 21, 22, 23]))
  (.sq (.sq (.op 0 [⟨(some 33), none, .fa (.t 11) 2⟩,
    ⟨(some 34), none, .ld (.t 33) 1 false⟩,
    ⟨(some 35), none, .len false (.t 34)⟩,
    ⟨(some 36), none, .bin .gtr (.t 35) (.c (.int .i64 0))⟩,
    ⟨(some 37), none, .mv (.t 36)⟩,
    ⟨(some 38), (some (37, true)), .mv (.t 13)⟩,
    ⟨(some 39), (some (37, true)), .un .not (.t 38)⟩,
    ⟨(some 40), none, .pick (.t 37) (.t 39) (.c (.bool false))⟩] (some [1, 7, 8, 9, 11, 12, 21, 22, 23, 40]))
  (.cd (.t 40)
   (.fz [1] (.op 6 [⟨(some 41), none, .fa (.t 11) 1⟩,
     ⟨(some 42), none, .ld (.t 41) 1 false⟩,
     ⟨(some 43), none, .mv (.t 1)⟩,
     ⟨(some 44), none, .ld (.t 11) 4 true⟩,
     ⟨(some 45), none, .mv (.t 9)⟩,
     ⟨(some 46), none, .callV true (.c (.fn n_graph_applied [])) [(.t 7), (.t 43), (.t 44), (.t 45)]⟩,
     ⟨(some 47), none, .callV false (.c (.fn n_graph_constant [])) [(.t 42), (.t 46)]⟩,
     ⟨none, none, .st (.t 12) (.t 47) 4⟩] (some [1, 7, 8, 9, 12, 21, 22, 23])))
   .sk))
  (.op 8 [⟨(some 48), none, .ld (.t 8) 1 false⟩,
    ⟨(some 49), none, .ld (.t 12) 4 true⟩,
    ⟨(some 50), none, .bsl t_api_Node 4 true [.int .i64 0, .int .i64 0, .sl 1 (some true) [], .int .i64 0] 1 [(0, (.t 49))]⟩,
    ⟨(some 51), none, .apx (.t 48) (.t 50) t_api_Node 4 [0, 1, 2]⟩,
    ⟨(some 52), none, .mv (.t 9)⟩,
    ⟨(some 53), none, .fa (.t 12) 3⟩,
    ⟨(some 54), none, .ld (.t 53) 1 false⟩,
    ⟨(some 55), none, .bsl t_int 1 false [.int .i64 0] 1 [(0, (.t 54))]⟩,
    ⟨(some 56), none, .app (.t 52) (.t 55) t_int 1⟩,
    ⟨none, none, .st (.t 8) (.t 51) 1⟩,
    ⟨(some 9), none, .mv (.t 56)⟩] (some [1, 7, 8, 9, 21, 22, 23])))))))
 (.op 0 [⟨(some 57), none, .bin .add (.t 23) (.c (.int .i64 1))⟩,
   ⟨(some 23), none, .mv (.t 57)⟩] none))))
def c_graph_FoldedOf_L0 : IR := b_graph_FoldedOf_L0
theorem u_graph_FoldedOf_L0 {C : Call} {L : Loop} {π : Id} {k0 : List Id} {e : Env} {s : Sto} : evC C L π k0 c_graph_FoldedOf_L0 e s = evC C L π k0 b_graph_FoldedOf_L0 e s := rfl
def c_graph_FoldedOf : FnIR := ⟨59,
  (.sq (.op 0 [⟨(some 4), none, .mv (.c (.sl 4 (some true) []))⟩,
    ⟨(some 5), none, .mv (.c (.int .i64 0))⟩] none)
  (.sq (.sq (.op 0 [⟨(some 14), none, .mv (.t 0)⟩,
    ⟨(some 15), none, .mv (.t 1)⟩,
    ⟨(some 16), none, .callV true (.c (.fn n_graph_graphErr [])) [(.t 14), (.t 15)]⟩,
    ⟨(some 6), none, .mv (.t 16)⟩] (some [1, 6]))
  (.sq (.op 0 [⟨(some 17), none, .mv (.t 6)⟩,
    ⟨(some 18), none, .bin .neq (.t 17) (.c (.int .i64 0))⟩] none)
  (.cd (.t 18)
   (.sq (.op 0 [⟨(some 19), none, .mv (.t 6)⟩,
     ⟨(some 4), none, .mv (.c (.sl 4 (some true) []))⟩,
     ⟨(some 5), none, .mv (.t 19)⟩] none)
   .rt)
   .sk)))
  (.sq (.op 0 [⟨(some 20), none, .callV true (.c (.fn n_graph_operations [])) []⟩,
    ⟨(some 7), none, .alloc [.str ⟨#[]⟩, .int .i64 0, .bool false, .nilf, .nilf, .str ⟨#[]⟩, .int .i64 0, .bool false, .nilf, .nilf, .str ⟨#[]⟩, .int .i64 0, .bool false, .nilf, .nilf, .str ⟨#[]⟩, .int .i64 0, .bool false, .nilf, .nilf, .str ⟨#[]⟩, .int .i64 0, .bool false, .nilf, .nilf, .str ⟨#[]⟩, .int .i64 0, .bool false, .nilf, .nilf, .str ⟨#[]⟩, .int .i64 0, .bool false, .nilf, .nilf, .str ⟨#[]⟩, .int .i64 0, .bool false, .nilf, .nilf, .str ⟨#[]⟩, .int .i64 0, .bool false, .nilf, .nilf, .str ⟨#[]⟩, .int .i64 0, .bool false, .nilf, .nilf, .str ⟨#[]⟩, .int .i64 0, .bool false, .nilf, .nilf, .str ⟨#[]⟩, .int .i64 0, .bool false, .nilf, .nilf, .str ⟨#[]⟩, .int .i64 0, .bool false, .nilf, .nilf, .str ⟨#[]⟩, .int .i64 0, .bool false, .nilf, .nilf, .str ⟨#[]⟩, .int .i64 0, .bool false, .nilf, .nilf, .str ⟨#[]⟩, .int .i64 0, .bool false, .nilf, .nilf, .str ⟨#[]⟩, .int .i64 0, .bool false, .nilf, .nilf, .str ⟨#[]⟩, .int .i64 0, .bool false, .nilf, .nilf, .str ⟨#[]⟩, .int .i64 0, .bool false, .nilf, .nilf]⟩,
    ⟨none, none, .st (.t 7) (.t 20) 95⟩] none)
  (.sq (.op 0 [⟨(some 8), none, .alloc [.sl 4 (some true) []]⟩] none)
  (.sq (.op 0 [⟨(some 9), none, .mv (.c (.sl 1 (some true) []))⟩] none)
  (.sq (.sq (.op 0 [⟨(some 21), none, .mv (.t 1)⟩,
    ⟨(some 22), none, .len false (.t 21)⟩,
    ⟨(some 23), none, .mv (.c (.int .i64 0))⟩] none)
  (.kp [8] [4, 5] (.bk 0 (.lp [(t_api_Node, .inr (8, 0)), (t_int, .inl 9)] [1, 7, 8, 9, 21, 22, 23] c_graph_FoldedOf_L0))))
  (.sq (.op 0 [⟨(some 58), none, .ld (.t 8) 1 false⟩,
    ⟨(some 4), none, .mv (.t 58)⟩,
    ⟨(some 5), none, .mv (.c (.int .i64 0))⟩] none)
  .rt))))))),
  [.t 4, .t 5]⟩
def b_graph_ConeOf_L0 : IR :=
 (.sq (.op 0 [⟨(some 32), none, .bin .lss (.t 31) (.t 30)⟩] none)
 (.sq (.cd (.t 32)
  .sk
  (.ex 0))
 (.sq (.bk 1 (.sq (.op 0 [⟨(some 33), none, .mv (.t 31)⟩,
    ⟨(some 34), none, .ia (.t 29) (.t 31) 1⟩,
    ⟨(some 35), none, .ld (.t 34) 1 false⟩,
    ⟨(some 12), none, .mv (.t 33)⟩,
    ⟨(some 13), none, .mv (.t 35)⟩] (some [1, 2, 10, 11, 12, 13, 29, 30, 31]))
  (.sq (.op 0 [⟨(some 36), none, .mv (.t 13)⟩] none)
  (.cd (.t 36)
   (.sq (.op 0 [⟨(some 37), none, .mv (.t 10)⟩,
     ⟨(some 38), none, .mv (.t 12)⟩,
     ⟨(some 39), none, .mv (.t 11)⟩,
     ⟨(some 40), none, .len false (.t 39)⟩,
     ⟨(some 41), none, .ia (.t 37) (.t 38) 1⟩,
     ⟨none, none, .st (.t 41) (.t 40) 1⟩] (some [1, 2, 10, 11, 12, 29, 30, 31]))
   (.op 7 [⟨(some 42), none, .mv (.t 11)⟩,
     ⟨(some 43), none, .mv (.t 1)⟩,
     ⟨(some 44), none, .mv (.t 12)⟩,
     ⟨(some 45), none, .ia (.t 43) (.t 44) 4⟩,
     ⟨(some 46), none, .ld (.t 45) 4 true⟩,
     ⟨(some 47), none, .mv (.t 10)⟩,
     ⟨(some 48), none, .mkc n_graph_mapped n_graph_mapped_1 (.t 47)⟩,
     ⟨(some 49), none, .callV true (.c (.fn n_graph_moved [])) [(.t 46), (.t 48)]⟩,
     ⟨(some 50), none, .bsl t_api_Node 4 true [.int .i64 0, .int .i64 0, .sl 1 (some true) [], .int .i64 0] 1 [(0, (.t 49))]⟩,
     ⟨(some 51), none, .app (.t 42) (.t 50) t_api_Node 4⟩,
     ⟨(some 11), none, .mv (.t 51)⟩] (some [1, 2, 10, 11, 29, 30, 31])))
   .sk))))
 (.op 0 [⟨(some 52), none, .bin .add (.t 31) (.c (.int .i64 1))⟩,
   ⟨(some 31), none, .mv (.t 52)⟩] none))))
def c_graph_ConeOf_L0 : IR := b_graph_ConeOf_L0
theorem u_graph_ConeOf_L0 {C : Call} {L : Loop} {π : Id} {k0 : List Id} {e : Env} {s : Sto} : evC C L π k0 c_graph_ConeOf_L0 e s = evC C L π k0 b_graph_ConeOf_L0 e s := rfl
def b_graph_ConeOf_L1 : IR :=
 (.sq (.op 0 [⟨(some 56), none, .bin .lss (.t 55) (.t 54)⟩] none)
 (.sq (.cd (.t 56)
  .sk
  (.ex 2))
 (.sq (.bk 3 (.sq (.op 0 [⟨(some 57), none, .ia (.t 53) (.t 55) 1⟩,
    ⟨(some 58), none, .ld (.t 57) 1 false⟩,
    ⟨(some 16), none, .mv (.t 58)⟩] none)
  (.op 0 [⟨(some 59), none, .mv (.t 14)⟩,
    ⟨(some 60), none, .mv (.t 10)⟩,
    ⟨(some 61), none, .mv (.t 16)⟩,
    ⟨(some 62), none, .ia (.t 60) (.t 61) 1⟩,
    ⟨(some 63), none, .ld (.t 62) 1 false⟩,
    ⟨(some 64), none, .bsl t_int 1 false [.int .i64 0] 1 [(0, (.t 63))]⟩,
    ⟨(some 65), none, .app (.t 59) (.t 64) t_int 1⟩,
    ⟨(some 14), none, .mv (.t 65)⟩] (some [10, 11, 14, 53, 54, 55]))))
 (.op 0 [⟨(some 66), none, .bin .add (.t 55) (.c (.int .i64 1))⟩,
   ⟨(some 55), none, .mv (.t 66)⟩] none))))
def c_graph_ConeOf_L1 : IR := b_graph_ConeOf_L1
theorem u_graph_ConeOf_L1 {C : Call} {L : Loop} {π : Id} {k0 : List Id} {e : Env} {s : Sto} : evC C L π k0 c_graph_ConeOf_L1 e s = evC C L π k0 b_graph_ConeOf_L1 e s := rfl
def c_graph_ConeOf : FnIR := ⟨69,
  (.sq (.op 0 [⟨(some 6), none, .mv (.c (.sl 4 (some true) []))⟩,
    ⟨(some 7), none, .mv (.c (.sl 1 (some true) []))⟩,
    ⟨(some 8), none, .mv (.c (.int .i64 0))⟩] none)
  (.sq (.sq (.op 0 [⟨(some 17), none, .mv (.t 0)⟩,
    ⟨(some 18), none, .mv (.t 1)⟩,
    ⟨(some 19), none, .mv (.t 2)⟩,
    ⟨(some 20), none, .callV true (.c (.fn n_graph_namedErr [])) [(.t 17), (.t 18), (.t 19)]⟩,
    ⟨(some 9), none, .mv (.t 20)⟩] (some [1, 2, 9]))
  (.sq (.op 0 [⟨(some 21), none, .mv (.t 9)⟩,
    ⟨(some 22), none, .bin .neq (.t 21) (.c (.int .i64 0))⟩] none)
  (.cd (.t 22)
   (.sq (.op 0 [⟨(some 23), none, .mv (.t 9)⟩,
     ⟨(some 6), none, .mv (.c (.sl 4 (some true) []))⟩,
     ⟨(some 7), none, .mv (.c (.sl 1 (some true) []))⟩,
     ⟨(some 8), none, .mv (.t 23)⟩] (some [6, 7, 8]))
   .rt)
   .sk)))
  (.sq (.op 0 [⟨(some 24), none, .mv (.t 1)⟩,
    ⟨(some 25), none, .len false (.t 24)⟩,
    ⟨(some 26), none, .mks t_int 1 false [.int .i64 0] (.t 25) (.t 25)⟩,
    ⟨(some 10), none, .mv (.t 26)⟩] (some [1, 2, 10]))
  (.sq (.op 0 [⟨(some 11), none, .mv (.c (.sl 4 (some true) []))⟩] none)
  (.sq (.sq (.op 0 [⟨(some 27), none, .mv (.t 1)⟩,
    ⟨(some 28), none, .mv (.t 2)⟩,
    ⟨(some 29), none, .callV false (.c (.fn n_graph_below [])) [(.t 27), (.t 28)]⟩,
    ⟨(some 30), none, .len false (.t 29)⟩,
    ⟨(some 31), none, .mv (.c (.int .i64 0))⟩] (some [1, 2, 10, 11, 29, 30, 31]))
  (.kp [2, 10, 11] [6, 7, 8] (.bk 0 (.lp [(t_api_Node, .inl 11)] [1, 2, 10, 11, 29, 30, 31] c_graph_ConeOf_L0))))
  (.sq (.op 0 [⟨(some 14), none, .mv (.c (.sl 1 (some true) []))⟩] none)
  (.sq (.sq (.op 0 [⟨(some 53), none, .mv (.t 2)⟩,
    ⟨(some 54), none, .len false (.t 53)⟩,
    ⟨(some 55), none, .mv (.c (.int .i64 0))⟩] none)
  (.kp [11, 14] [6, 7, 8] (.bk 2 (.lp [(t_int, .inl 14)] [10, 11, 14, 53, 54, 55] c_graph_ConeOf_L1))))
  (.sq (.op 0 [⟨(some 67), none, .mv (.t 11)⟩,
    ⟨(some 68), none, .mv (.t 14)⟩,
    ⟨(some 6), none, .mv (.t 67)⟩,
    ⟨(some 7), none, .mv (.t 68)⟩,
    ⟨(some 8), none, .mv (.c (.int .i64 0))⟩] (some [6, 7, 8]))
  .rt)))))))),
  [.t 6, .t 7, .t 8]⟩
def c_ratchetbase_CopyInts : FnIR := ⟨6,
  (.sq (.op 0 [⟨(some 2), none, .mv (.c (.sl 1 (some true) []))⟩] none)
  (.sq (.op 0 [⟨(some 3), none, .bsl t_int 1 false [.int .i64 0] 0 []⟩,
    ⟨(some 4), none, .mv (.t 0)⟩,
    ⟨(some 5), none, .app (.t 3) (.t 4) t_int 1⟩,
    ⟨(some 2), none, .mv (.t 5)⟩] (some [2]))
  .rt)),
  [.t 2]⟩
def b_graph_Appended_L0 : IR :=
 (.sq (.op 0 [⟨(some 37), none, .bin .lss (.t 36) (.t 35)⟩] none)
 (.sq (.cd (.t 37)
  .sk
  (.ex 0))
 (.sq (.bk 1 (.sq (.op 0 [⟨(some 38), none, .ia (.t 34) (.t 36) 4⟩,
    ⟨(some 39), none, .ld (.t 38) 4 true⟩,
    ⟨(some 13), none, .alloc [.int .i64 0, .int .i64 0, .sl 1 (some true) [], .int .i64 0]⟩,
    ⟨none, none, .st (.t 13) (.t 39) 4⟩] (some [2, 4, 10, 11, 13, 34, 35, 36]))
  (.op 0 [⟨(some 40), none, .mv (.t 10)⟩,
    ⟨(some 41), none, .ld (.t 13) 4 true⟩,
    ⟨(some 42), none, .callV true (.c (.fn n_graph_moved [])) [(.t 41), (.c (.fn n_graph_Appended_1 []))]⟩,
    ⟨(some 43), none, .bsl t_api_Node 4 true [.int .i64 0, .int .i64 0, .sl 1 (some true) [], .int .i64 0] 1 [(0, (.t 42))]⟩,
    ⟨(some 44), none, .app (.t 40) (.t 43) t_api_Node 4⟩,
    ⟨(some 10), none, .mv (.t 44)⟩] (some [2, 4, 10, 11, 34, 35, 36]))))
 (.op 0 [⟨(some 45), none, .bin .add (.t 36) (.c (.int .i64 1))⟩,
   ⟨(some 36), none, .mv (.t 45)⟩] none))))
def c_graph_Appended_L0 : IR := b_graph_Appended_L0
theorem u_graph_Appended_L0 {C : Call} {L : Loop} {π : Id} {k0 : List Id} {e : Env} {s : Sto} : evC C L π k0 c_graph_Appended_L0 e s = evC C L π k0 b_graph_Appended_L0 e s := rfl
def b_graph_Appended_L1 : IR :=
 (.sq (.op 0 [⟨(some 49), none, .bin .lss (.t 48) (.t 47)⟩] none)
 (.sq (.cd (.t 49)
  .sk
  (.ex 2))
 (.sq (.bk 3 (.sq (.op 0 [⟨(some 50), none, .ia (.t 46) (.t 48) 4⟩,
    ⟨(some 51), none, .ld (.t 50) 4 true⟩,
    ⟨(some 15), none, .alloc [.int .i64 0, .int .i64 0, .sl 1 (some true) [], .int .i64 0]⟩,
    ⟨none, none, .st (.t 15) (.t 51) 4⟩] (some [4, 10, 11, 15, 46, 47, 48]))
  (.sq (.op 0 [⟨(some 52), none, .mv (.t 11)⟩,
    ⟨(some 53), none, .mv (.t 10)⟩,
    ⟨(some 54), none, .len false (.t 53)⟩,
    ⟨(some 55), none, .bsl t_int 1 false [.int .i64 0] 1 [(0, (.t 54))]⟩,
    ⟨(some 56), none, .app (.t 52) (.t 55) t_int 1⟩,
    ⟨(some 11), none, .mv (.t 56)⟩] (some [4, 10, 11, 15, 46, 47, 48]))
  (.op 0 [⟨(some 57), none, .mv (.t 10)⟩,
    ⟨(some 58), none, .ld (.t 15) 4 true⟩,
    ⟨(some 59), none, .mkf n_graph_Appended_2 [(.t 4)]⟩,
    ⟨(some 60), none, .callV true (.c (.fn n_graph_moved [])) [(.t 58), (.t 59)]⟩,
    ⟨(some 61), none, .bsl t_api_Node 4 true [.int .i64 0, .int .i64 0, .sl 1 (some true) [], .int .i64 0] 1 [(0, (.t 60))]⟩,
    ⟨(some 62), none, .app (.t 57) (.t 61) t_api_Node 4⟩,
    ⟨(some 10), none, .mv (.t 62)⟩] (some [4, 10, 11, 46, 47, 48])))))
 (.op 0 [⟨(some 63), none, .bin .add (.t 48) (.c (.int .i64 1))⟩,
   ⟨(some 48), none, .mv (.t 63)⟩] none))))
def c_graph_Appended_L1 : IR := b_graph_Appended_L1
theorem u_graph_Appended_L1 {C : Call} {L : Loop} {π : Id} {k0 : List Id} {e : Env} {s : Sto} : evC C L π k0 c_graph_Appended_L1 e s = evC C L π k0 b_graph_Appended_L1 e s := rfl
def c_graph_Appended : FnIR := ⟨66,
  (.sq (.op 0 [⟨(some 4), none, .box (.t 1) 1⟩,
    ⟨(some 6), none, .mv (.c (.sl 4 (some true) []))⟩,
    ⟨(some 7), none, .mv (.c (.sl 1 (some true) []))⟩,
    ⟨(some 8), none, .mv (.c (.int .i64 0))⟩] (some [0, 2, 4]))
  (.sq (.fz [0, 2, 4] (.op 12 [⟨(some 16), none, .mv (.t 0)⟩,
    ⟨(some 17), none, .ld (.t 4) 1 false⟩,
    ⟨(some 18), none, .callV true (.c (.fn n_graph_graphErr [])) [(.t 16), (.t 17)]⟩,
    ⟨(some 19), none, .mv (.t 0)⟩,
    ⟨(some 20), none, .mv (.t 2)⟩,
    ⟨(some 21), none, .callV true (.c (.fn n_graph_graphErr [])) [(.t 19), (.t 20)]⟩,
    ⟨(some 22), none, .ld (.t 4) 1 false⟩,
    ⟨(some 23), none, .len false (.t 22)⟩,
    ⟨(some 24), none, .mv (.t 2)⟩,
    ⟨(some 25), none, .len false (.t 24)⟩,
    ⟨(some 26), none, .bin .add (.t 23) (.t 25)⟩,
    ⟨(some 27), none, .bin .leq (.t 26) (.c (.int .i64 400))⟩,
    ⟨(some 28), none, .callV true (.c (.fn n_graph_unless [])) [(.t 27), (.c (.int .i64 8))]⟩,
    ⟨(some 29), none, .bsl t_api_Errno 1 false [.int .i64 0] 3 [(0, (.t 18)), (1, (.t 21)), (2, (.t 28))]⟩,
    ⟨(some 30), none, .callV true (.c (.fn n_graph_first [])) [(.t 29)]⟩,
    ⟨(some 9), none, .mv (.t 30)⟩] (some [2, 4, 9])))
  (.sq (.sq (.op 0 [⟨(some 31), none, .mv (.t 9)⟩,
    ⟨(some 32), none, .bin .neq (.t 31) (.c (.int .i64 0))⟩] none)
  (.cd (.t 32)
   (.sq (.op 0 [⟨(some 33), none, .mv (.t 9)⟩,
     ⟨(some 6), none, .mv (.c (.sl 4 (some true) []))⟩,
     ⟨(some 7), none, .mv (.c (.sl 1 (some true) []))⟩,
     ⟨(some 8), none, .mv (.t 33)⟩] (some [6, 7, 8]))
   .rt)
   .sk))
  (.sq (.op 0 [⟨(some 10), none, .mv (.c (.sl 4 (some true) []))⟩] none)
  (.sq (.op 0 [⟨(some 11), none, .mv (.c (.sl 1 (some true) []))⟩] none)
  (.sq (.sq (.op 0 [⟨(some 34), none, .ld (.t 4) 1 false⟩,
    ⟨(some 35), none, .len false (.t 34)⟩,
    ⟨(some 36), none, .mv (.c (.int .i64 0))⟩] none)
  (.kp [2, 4, 10, 11] [6, 7, 8] (.bk 0 (.lp [(t_api_Node, .inl 10)] [2, 4, 10, 11, 34, 35, 36] c_graph_Appended_L0))))
  (.sq (.sq (.op 0 [⟨(some 46), none, .mv (.t 2)⟩,
    ⟨(some 47), none, .len false (.t 46)⟩,
    ⟨(some 48), none, .mv (.c (.int .i64 0))⟩] none)
  (.kp [10, 11] [6, 7, 8] (.bk 2 (.lp [(t_int, .inl 11), (t_api_Node, .inl 10)] [4, 10, 11, 46, 47, 48] c_graph_Appended_L1))))
  (.sq (.op 0 [⟨(some 64), none, .mv (.t 10)⟩,
    ⟨(some 65), none, .mv (.t 11)⟩,
    ⟨(some 6), none, .mv (.t 64)⟩,
    ⟨(some 7), none, .mv (.t 65)⟩,
    ⟨(some 8), none, .mv (.c (.int .i64 0))⟩] (some [6, 7, 8]))
  .rt)))))))),
  [.t 6, .t 7, .t 8]⟩
def b_ratchetbase_Ints_L0 : IR :=
 (.sq (.sq (.op 0 [⟨(some 11), none, .mv (.t 5)⟩,
   ⟨(some 12), none, .mv (.t 0)⟩,
   ⟨(some 13), none, .len false (.t 12)⟩,
   ⟨(some 14), none, .bin .lss (.t 11) (.t 13)⟩] (some [0, 1, 5, 14]))
 (.cd (.t 14)
  .sk
  (.ex 0)))
 (.sq (.bk 1 (.sq (.op 8 [⟨(some 17), none, .mv (.t 0)⟩,
    ⟨(some 18), none, .mv (.t 5)⟩,
    ⟨(some 19), none, .ia (.t 17) (.t 18) 1⟩,
    ⟨(some 20), none, .ld (.t 19) 1 false⟩,
    ⟨(some 21), none, .mv (.t 1)⟩,
    ⟨(some 22), none, .mv (.t 5)⟩,
    ⟨(some 23), none, .ia (.t 21) (.t 22) 1⟩,
    ⟨(some 24), none, .ld (.t 23) 1 false⟩,
    ⟨(some 25), none, .bin .neq (.t 20) (.t 24)⟩] (some [0, 1, 5, 25]))
  (.cd (.t 25)
   (.sq (.op 0 [⟨(some 4), none, .mv (.c (.bool false))⟩] none)
   .rt)
   .sk)))
 (.op 0 [⟨(some 15), none, .mv (.t 5)⟩,
   ⟨(some 16), none, .bin .add (.t 15) (.c (.int .i64 1))⟩,
   ⟨(some 5), none, .mv (.t 16)⟩] none)))
def c_ratchetbase_Ints_L0 : IR := b_ratchetbase_Ints_L0
theorem u_ratchetbase_Ints_L0 {C : Call} {L : Loop} {π : Id} {k0 : List Id} {e : Env} {s : Sto} : evC C L π k0 c_ratchetbase_Ints_L0 e s = evC C L π k0 b_ratchetbase_Ints_L0 e s := rfl
def c_ratchetbase_Ints : FnIR := ⟨26,
  (.sq (.op 0 [⟨(some 4), none, .mv (.c (.bool false))⟩] none)
  (.sq (.sq (.op 0 [⟨(some 6), none, .mv (.t 0)⟩,
    ⟨(some 7), none, .len false (.t 6)⟩,
    ⟨(some 8), none, .mv (.t 1)⟩,
    ⟨(some 9), none, .len false (.t 8)⟩,
    ⟨(some 10), none, .bin .neq (.t 7) (.t 9)⟩] (some [0, 1, 10]))
  (.cd (.t 10)
   (.sq (.op 0 [⟨(some 4), none, .mv (.c (.bool false))⟩] none)
   .rt)
   .sk))
  (.sq (.sq (.op 0 [⟨(some 5), none, .mv (.c (.int .i64 0))⟩] none)
  (.kp [] [4] (.bk 0 (.lp [] [0, 1, 5] c_ratchetbase_Ints_L0))))
  (.sq (.op 0 [⟨(some 4), none, .mv (.c (.bool true))⟩] none)
  .rt)))),
  [.t 4]⟩
def c_ratchetbase_Within : FnIR := ⟨15,
  (.sq (.op 0 [⟨(some 6), none, .mv (.c (.bool false))⟩] none)
  (.sq (.op 0 [⟨(some 7), none, .mv (.t 1)⟩,
    ⟨(some 8), none, .mv (.t 0)⟩,
    ⟨(some 9), none, .bin .leq (.t 7) (.t 8)⟩,
    ⟨(some 10), none, .mv (.t 9)⟩,
    ⟨(some 11), (some (10, true)), .mv (.t 0)⟩,
    ⟨(some 12), (some (10, true)), .mv (.t 2)⟩,
    ⟨(some 13), (some (10, true)), .bin .leq (.t 11) (.t 12)⟩,
    ⟨(some 14), none, .pick (.t 10) (.t 13) (.c (.bool false))⟩,
    ⟨(some 6), none, .mv (.t 14)⟩] (some [6]))
  .rt)),
  [.t 6]⟩
def b_graph_Substituted_L0 : IR :=
 (.sq (.op 0 [⟨(some 39), none, .bin .lss (.t 38) (.t 37)⟩] none)
 (.sq (.cd (.t 39)
  .sk
  (.ex 0))
 (.sq (.bk 1 (.sq (.op 0 [⟨(some 40), none, .ia (.t 36) (.t 38) 4⟩,
    ⟨(some 41), none, .ld (.t 40) 4 true⟩,
    ⟨(some 13), none, .alloc [.int .i64 0, .int .i64 0, .sl 1 (some true) [], .int .i64 0]⟩,
    ⟨none, none, .st (.t 13) (.t 41) 4⟩] (some [2, 3, 11, 13, 36, 37, 38]))
  (.sq (.op 0 [⟨(some 42), none, .ld (.t 13) 4 true⟩,
    ⟨(some 43), none, .callV true (.c (.fn n_graph_moved [])) [(.t 42), (.c (.fn n_graph_Substituted_1 []))]⟩,
    ⟨(some 14), none, .alloc [.int .i64 0, .int .i64 0, .sl 1 (some true) [], .int .i64 0]⟩,
    ⟨none, none, .st (.t 14) (.t 43) 4⟩] (some [2, 3, 11, 13, 14, 36, 37, 38]))
  (.sq (.sq (.op 0 [⟨(some 44), none, .fa (.t 13) 0⟩,
    ⟨(some 45), none, .ld (.t 44) 1 false⟩,
    ⟨(some 46), none, .bin .eql (.t 45) (.c (.int .i64 1))⟩,
    ⟨(some 47), none, .mv (.t 46)⟩,
    ⟨(some 48), (some (47, true)), .fa (.t 13) 3⟩,
    ⟨(some 49), (some (47, true)), .ld (.t 48) 1 false⟩,
    ⟨(some 50), (some (47, true)), .mv (.t 2)⟩,
    ⟨(some 51), (some (47, true)), .bin .eql (.t 49) (.t 50)⟩,
    ⟨(some 52), none, .pick (.t 47) (.t 51) (.c (.bool false))⟩] (some [2, 3, 11, 13, 14, 36, 37, 38, 52]))
  (.cd (.t 52)
   (.op 0 [⟨(some 53), none, .fa (.t 13) 1⟩,
     ⟨(some 54), none, .ld (.t 53) 1 false⟩,
     ⟨(some 55), none, .mv (.t 3)⟩,
     ⟨(some 56), none, .callV false (.c (.fn n_graph_constant [])) [(.t 54), (.t 55)]⟩,
     ⟨none, none, .st (.t 14) (.t 56) 4⟩] (some [2, 3, 11, 14, 36, 37, 38]))
   .sk))
  (.op 0 [⟨(some 57), none, .mv (.t 11)⟩,
    ⟨(some 58), none, .ld (.t 14) 4 true⟩,
    ⟨(some 59), none, .bsl t_api_Node 4 true [.int .i64 0, .int .i64 0, .sl 1 (some true) [], .int .i64 0] 1 [(0, (.t 58))]⟩,
    ⟨(some 60), none, .app (.t 57) (.t 59) t_api_Node 4⟩,
    ⟨(some 11), none, .mv (.t 60)⟩] (some [2, 3, 11, 36, 37, 38]))))))
 (.op 0 [⟨(some 61), none, .bin .add (.t 38) (.c (.int .i64 1))⟩,
   ⟨(some 38), none, .mv (.t 61)⟩] none))))
def c_graph_Substituted_L0 : IR := b_graph_Substituted_L0
theorem u_graph_Substituted_L0 {C : Call} {L : Loop} {π : Id} {k0 : List Id} {e : Env} {s : Sto} : evC C L π k0 c_graph_Substituted_L0 e s = evC C L π k0 b_graph_Substituted_L0 e s := rfl
def c_graph_Substituted : FnIR := ⟨63,
  (.sq (.op 0 [⟨(some 8), none, .mv (.c (.sl 4 (some true) []))⟩,
    ⟨(some 9), none, .mv (.c (.int .i64 0))⟩] none)
  (.sq (.sq (.op 0 [⟨(some 15), none, .mv (.t 0)⟩,
    ⟨(some 16), none, .mv (.t 1)⟩,
    ⟨(some 17), none, .callV true (.c (.fn n_graph_graphErr [])) [(.t 15), (.t 16)]⟩,
    ⟨(some 18), none, .mv (.t 2)⟩,
    ⟨(some 19), none, .mv (.t 0)⟩,
    ⟨(some 20), none, .len false (.t 19)⟩,
    ⟨(some 21), none, .bin .sub (.t 20) (.c (.int .i64 1))⟩,
    ⟨(some 22), none, .callV true (.c (.fn n_graph_within [])) [(.t 18), (.c (.int .i64 0)), (.t 21)]⟩,
    ⟨(some 23), none, .callV true (.c (.fn n_graph_unless [])) [(.t 22), (.c (.int .i64 6))]⟩,
    ⟨(some 24), none, .bsl t_api_Errno 1 false [.int .i64 0] 2 [(0, (.t 17)), (1, (.t 23))]⟩,
    ⟨(some 25), none, .callV true (.c (.fn n_graph_first [])) [(.t 24)]⟩,
    ⟨(some 10), none, .mv (.t 25)⟩] (some [0, 1, 2, 3, 10]))
  (.sq (.op 0 [⟨(some 26), none, .mv (.t 10)⟩,
    ⟨(some 27), none, .bin .neq (.t 26) (.c (.int .i64 0))⟩] none)
  (.cd (.t 27)
   (.sq (.op 0 [⟨(some 28), none, .mv (.t 10)⟩,
     ⟨(some 8), none, .mv (.c (.sl 4 (some true) []))⟩,
     ⟨(some 9), none, .mv (.t 28)⟩] none)
   .rt)
   .sk)))
  (.sq (.sq (.op 0 [⟨(some 29), none, .mv (.t 3)⟩,
    ⟨(some 30), none, .mv (.t 0)⟩,
    ⟨(some 31), none, .mv (.t 2)⟩,
    ⟨(some 32), none, .ia (.t 30) (.t 31) 1⟩,
    ⟨(some 33), none, .ld (.t 32) 1 false⟩,
    ⟨(some 34), none, .callV true (.c (.fn n_graph_fits [])) [(.t 29), (.t 33)]⟩,
    ⟨(some 35), none, .un .not (.t 34)⟩] (some [1, 2, 3, 35]))
  (.cd (.t 35)
   (.sq (.op 0 [⟨(some 8), none, .mv (.c (.sl 4 (some true) []))⟩,
     ⟨(some 9), none, .mv (.c (.int .i64 2))⟩] none)
   .rt)
   .sk))
  (.sq (.op 0 [⟨(some 11), none, .mv (.c (.sl 4 (some true) []))⟩] none)
  (.sq (.sq (.op 0 [⟨(some 36), none, .mv (.t 1)⟩,
    ⟨(some 37), none, .len false (.t 36)⟩,
    ⟨(some 38), none, .mv (.c (.int .i64 0))⟩] none)
  (.kp [11] [8, 9] (.bk 0 (.lp [(t_api_Node, .inl 11)] [2, 3, 11, 36, 37, 38] c_graph_Substituted_L0))))
  (.sq (.op 0 [⟨(some 62), none, .mv (.t 11)⟩,
    ⟨(some 8), none, .mv (.t 62)⟩,
    ⟨(some 9), none, .mv (.c (.int .i64 0))⟩] none)
  .rt)))))),
  [.t 8, .t 9]⟩
def b_ratchetbase_SameNodes_L0 : IR :=
 (.sq (.sq (.op 0 [⟨(some 11), none, .mv (.t 5)⟩,
   ⟨(some 12), none, .mv (.t 0)⟩,
   ⟨(some 13), none, .len false (.t 12)⟩,
   ⟨(some 14), none, .bin .lss (.t 11) (.t 13)⟩] (some [0, 1, 5, 14]))
 (.cd (.t 14)
  .sk
  (.ex 0)))
 (.sq (.bk 1 (.sq (.op 48 [⟨(some 17), none, .mv (.t 0)⟩,
    ⟨(some 18), none, .mv (.t 5)⟩,
    ⟨(some 19), none, .ia (.t 17) (.t 18) 4⟩,
    ⟨(some 20), none, .fa (.t 19) 0⟩,
    ⟨(some 21), none, .ld (.t 20) 1 false⟩,
    ⟨(some 22), none, .mv (.t 1)⟩,
    ⟨(some 23), none, .mv (.t 5)⟩,
    ⟨(some 24), none, .ia (.t 22) (.t 23) 4⟩,
    ⟨(some 25), none, .fa (.t 24) 0⟩,
    ⟨(some 26), none, .ld (.t 25) 1 false⟩,
    ⟨(some 27), none, .bin .neq (.t 21) (.t 26)⟩,
    ⟨(some 28), none, .mv (.t 27)⟩,
    ⟨(some 29), (some (28, false)), .mv (.t 0)⟩,
    ⟨(some 30), (some (28, false)), .mv (.t 5)⟩,
    ⟨(some 31), (some (28, false)), .ia (.t 29) (.t 30) 4⟩,
    ⟨(some 32), (some (28, false)), .fa (.t 31) 1⟩,
    ⟨(some 33), (some (28, false)), .ld (.t 32) 1 false⟩,
    ⟨(some 34), (some (28, false)), .mv (.t 1)⟩,
    ⟨(some 35), (some (28, false)), .mv (.t 5)⟩,
    ⟨(some 36), (some (28, false)), .ia (.t 34) (.t 35) 4⟩,
    ⟨(some 37), (some (28, false)), .fa (.t 36) 1⟩,
    ⟨(some 38), (some (28, false)), .ld (.t 37) 1 false⟩,
    ⟨(some 39), (some (28, false)), .bin .neq (.t 33) (.t 38)⟩,
    ⟨(some 40), none, .pick (.t 28) (.c (.bool true)) (.t 39)⟩,
    ⟨(some 41), none, .mv (.t 40)⟩,
    ⟨(some 42), (some (41, false)), .mv (.t 0)⟩,
    ⟨(some 43), (some (41, false)), .mv (.t 5)⟩,
    ⟨(some 44), (some (41, false)), .ia (.t 42) (.t 43) 4⟩,
    ⟨(some 45), (some (41, false)), .fa (.t 44) 3⟩,
    ⟨(some 46), (some (41, false)), .ld (.t 45) 1 false⟩,
    ⟨(some 47), (some (41, false)), .mv (.t 1)⟩,
    ⟨(some 48), (some (41, false)), .mv (.t 5)⟩,
    ⟨(some 49), (some (41, false)), .ia (.t 47) (.t 48) 4⟩,
    ⟨(some 50), (some (41, false)), .fa (.t 49) 3⟩,
    ⟨(some 51), (some (41, false)), .ld (.t 50) 1 false⟩,
    ⟨(some 52), (some (41, false)), .bin .neq (.t 46) (.t 51)⟩,
    ⟨(some 53), none, .pick (.t 41) (.c (.bool true)) (.t 52)⟩,
    ⟨(some 54), none, .mv (.t 53)⟩,
    ⟨(some 55), (some (54, false)), .mv (.t 0)⟩,
    ⟨(some 56), (some (54, false)), .mv (.t 5)⟩,
    ⟨(some 57), (some (54, false)), .ia (.t 55) (.t 56) 4⟩,
    ⟨(some 58), (some (54, false)), .fa (.t 57) 2⟩,
    ⟨(some 59), (some (54, false)), .ld (.t 58) 1 false⟩,
    ⟨(some 60), (some (54, false)), .mv (.t 1)⟩,
    ⟨(some 61), (some (54, false)), .mv (.t 5)⟩,
    ⟨(some 62), (some (54, false)), .ia (.t 60) (.t 61) 4⟩,
    ⟨(some 63), (some (54, false)), .fa (.t 62) 2⟩,
    ⟨(some 64), (some (54, false)), .ld (.t 63) 1 false⟩,
    ⟨(some 65), (some (54, false)), .callV true (.c (.fn n_ratchetbase_Ints [])) [(.t 59), (.t 64)]⟩,
    ⟨(some 66), (some (54, false)), .un .not (.t 65)⟩,
    ⟨(some 67), none, .pick (.t 54) (.c (.bool true)) (.t 66)⟩] (some [0, 1, 5, 67]))
  (.cd (.t 67)
   (.sq (.op 0 [⟨(some 4), none, .mv (.c (.bool false))⟩] none)
   .rt)
   .sk)))
 (.op 0 [⟨(some 15), none, .mv (.t 5)⟩,
   ⟨(some 16), none, .bin .add (.t 15) (.c (.int .i64 1))⟩,
   ⟨(some 5), none, .mv (.t 16)⟩] none)))
def c_ratchetbase_SameNodes_L0 : IR := b_ratchetbase_SameNodes_L0
theorem u_ratchetbase_SameNodes_L0 {C : Call} {L : Loop} {π : Id} {k0 : List Id} {e : Env} {s : Sto} : evC C L π k0 c_ratchetbase_SameNodes_L0 e s = evC C L π k0 b_ratchetbase_SameNodes_L0 e s := rfl
def c_ratchetbase_SameNodes : FnIR := ⟨68,
  (.sq (.op 0 [⟨(some 4), none, .mv (.c (.bool false))⟩] none)
  (.sq (.sq (.op 0 [⟨(some 6), none, .mv (.t 0)⟩,
    ⟨(some 7), none, .len false (.t 6)⟩,
    ⟨(some 8), none, .mv (.t 1)⟩,
    ⟨(some 9), none, .len false (.t 8)⟩,
    ⟨(some 10), none, .bin .neq (.t 7) (.t 9)⟩] (some [0, 1, 10]))
  (.cd (.t 10)
   (.sq (.op 0 [⟨(some 4), none, .mv (.c (.bool false))⟩] none)
   .rt)
   .sk))
  (.sq (.sq (.op 0 [⟨(some 5), none, .mv (.c (.int .i64 0))⟩] none)
  (.kp [] [4] (.bk 0 (.lp [] [0, 1, 5] c_ratchetbase_SameNodes_L0))))
  (.sq (.op 0 [⟨(some 4), none, .mv (.c (.bool true))⟩] none)
  .rt)))),
  [.t 4]⟩
def b_graph_FormatNodes_L1 : IR :=
 (.sq (.op 0 [⟨(some 45), none, .bin .lss (.t 44) (.t 43)⟩] none)
 (.sq (.cd (.t 45)
  .sk
  (.ex 2))
 (.sq (.bk 3 (.sq (.op 0 [⟨(some 46), none, .ia (.t 42) (.t 44) 1⟩,
    ⟨(some 47), none, .ld (.t 46) 1 false⟩,
    ⟨(some 10), none, .mv (.t 47)⟩] none)
  (.op 0 [⟨(some 48), none, .mv (.t 7)⟩,
    ⟨(some 49), none, .mv (.t 10)⟩,
    ⟨(some 50), none, .callV true (.c (.fn n_strconv_Itoa [])) [(.t 49)]⟩,
    ⟨(some 51), none, .bin .add (.c (.str ⟨#[32]⟩)) (.t 50)⟩,
    ⟨(some 52), none, .bin .add (.t 48) (.t 51)⟩,
    ⟨(some 7), none, .mv (.t 52)⟩] (some [3, 4, 7, 12, 13, 14, 42, 43, 44]))))
 (.op 0 [⟨(some 53), none, .bin .add (.t 44) (.c (.int .i64 1))⟩,
   ⟨(some 44), none, .mv (.t 53)⟩] none))))
def c_graph_FormatNodes_L1 : IR := b_graph_FormatNodes_L1
theorem u_graph_FormatNodes_L1 {C : Call} {L : Loop} {π : Id} {k0 : List Id} {e : Env} {s : Sto} : evC C L π k0 c_graph_FormatNodes_L1 e s = evC C L π k0 b_graph_FormatNodes_L1 e s := rfl
def b_graph_FormatNodes_L0 : IR :=
 (.sq (.op 0 [⟨(some 15), none, .bin .lss (.t 14) (.t 13)⟩] none)
 (.sq (.cd (.t 15)
  .sk
  (.ex 0))
 (.sq (.bk 1 (.sq (.op 0 [⟨(some 16), none, .ia (.t 12) (.t 14) 4⟩,
    ⟨(some 17), none, .ld (.t 16) 4 true⟩,
    ⟨(some 6), none, .alloc [.int .i64 0, .int .i64 0, .sl 1 (some true) [], .int .i64 0]⟩,
    ⟨none, none, .st (.t 6) (.t 17) 4⟩] (some [3, 4, 6, 12, 13, 14]))
  (.sq (.op 0 [⟨(some 18), none, .fa (.t 6) 1⟩,
    ⟨(some 19), none, .ld (.t 18) 1 false⟩,
    ⟨(some 20), none, .bsl t_int 1 false [.int .i64 0] 1 [(0, (.t 19))]⟩,
    ⟨(some 21), none, .fa (.t 6) 2⟩,
    ⟨(some 22), none, .ld (.t 21) 1 false⟩,
    ⟨(some 23), none, .app (.t 20) (.t 22) t_int 1⟩,
    ⟨(some 7), none, .mv (.c (.str ⟨#[63]⟩))⟩,
    ⟨(some 8), none, .mv (.t 23)⟩] (some [3, 4, 6, 7, 8, 12, 13, 14]))
  (.sq (.sq (.op 0 [⟨(some 24), none, .fa (.t 6) 0⟩,
    ⟨(some 25), none, .ld (.t 24) 1 false⟩,
    ⟨(some 26), none, .callV true (.c (.fn n_graph_within [])) [(.t 25), (.c (.int .i64 0)), (.c (.int .i64 18))]⟩] none)
  (.cd (.t 26)
   (.sq (.op 0 [⟨(some 27), none, .fa (.t 6) 0⟩,
     ⟨(some 28), none, .ld (.t 27) 1 false⟩,
     ⟨(some 29), none, .iaa (.t 3) (.t 28) 19 5⟩,
     ⟨(some 30), none, .fa (.t 29) 0⟩,
     ⟨(some 31), none, .ld (.t 30) 1 false⟩,
     ⟨(some 7), none, .mv (.t 31)⟩] (some [3, 4, 6, 7, 8, 12, 13, 14]))
   (.sq (.op 0 [⟨(some 32), none, .fa (.t 6) 0⟩,
     ⟨(some 33), none, .ld (.t 32) 1 false⟩,
     ⟨(some 34), none, .iaa (.t 3) (.t 33) 19 5⟩,
     ⟨(some 35), none, .fa (.t 34) 2⟩,
     ⟨(some 36), none, .ld (.t 35) 1 false⟩] (some [3, 4, 6, 7, 8, 12, 13, 14, 36]))
   (.cd (.t 36)
    (.op 0 [⟨(some 37), none, .mv (.t 8)⟩,
      ⟨(some 38), none, .fa (.t 6) 3⟩,
      ⟨(some 39), none, .ld (.t 38) 1 false⟩,
      ⟨(some 40), none, .bsl t_int 1 false [.int .i64 0] 1 [(0, (.t 39))]⟩,
      ⟨(some 41), none, .app (.t 37) (.t 40) t_int 1⟩,
      ⟨(some 8), none, .mv (.t 41)⟩] (some [3, 4, 7, 8, 12, 13, 14]))
    .sk)))
   .sk))
  (.sq (.sq (.op 0 [⟨(some 42), none, .mv (.t 8)⟩,
    ⟨(some 43), none, .len false (.t 42)⟩,
    ⟨(some 44), none, .mv (.c (.int .i64 0))⟩] none)
  (.kp [3, 4, 7, 12, 13, 14] [2] (.bk 2 (.lp [] [3, 4, 7, 12, 13, 14, 42, 43, 44] c_graph_FormatNodes_L1))))
  (.op 0 [⟨(some 54), none, .mv (.t 4)⟩,
    ⟨(some 55), none, .mv (.t 7)⟩,
    ⟨(some 56), none, .bsl t_string 1 false [.str ⟨#[]⟩] 1 [(0, (.t 55))]⟩,
    ⟨(some 57), none, .app (.t 54) (.t 56) t_string 1⟩,
    ⟨(some 4), none, .mv (.t 57)⟩] (some [3, 4, 12, 13, 14])))))))
 (.op 0 [⟨(some 58), none, .bin .add (.t 14) (.c (.int .i64 1))⟩,
   ⟨(some 14), none, .mv (.t 58)⟩] none))))
def c_graph_FormatNodes_L0 : IR := b_graph_FormatNodes_L0
theorem u_graph_FormatNodes_L0 {C : Call} {L : Loop} {π : Id} {k0 : List Id} {e : Env} {s : Sto} : evC C L π k0 c_graph_FormatNodes_L0 e s = evC C L π k0 b_graph_FormatNodes_L0 e s := rfl
def c_graph_FormatNodes : FnIR := ⟨61,
  (.sq (.op 0 [⟨(some 2), none, .mv (.c (.str ⟨#[]⟩))⟩] none)
  (.sq (.op 0 [⟨(some 11), none, .callV true (.c (.fn n_graph_operations [])) []⟩,
    ⟨(some 3), none, .alloc [.str ⟨#[]⟩, .int .i64 0, .bool false, .nilf, .nilf, .str ⟨#[]⟩, .int .i64 0, .bool false, .nilf, .nilf, .str ⟨#[]⟩, .int .i64 0, .bool false, .nilf, .nilf, .str ⟨#[]⟩, .int .i64 0, .bool false, .nilf, .nilf, .str ⟨#[]⟩, .int .i64 0, .bool false, .nilf, .nilf, .str ⟨#[]⟩, .int .i64 0, .bool false, .nilf, .nilf, .str ⟨#[]⟩, .int .i64 0, .bool false, .nilf, .nilf, .str ⟨#[]⟩, .int .i64 0, .bool false, .nilf, .nilf, .str ⟨#[]⟩, .int .i64 0, .bool false, .nilf, .nilf, .str ⟨#[]⟩, .int .i64 0, .bool false, .nilf, .nilf, .str ⟨#[]⟩, .int .i64 0, .bool false, .nilf, .nilf, .str ⟨#[]⟩, .int .i64 0, .bool false, .nilf, .nilf, .str ⟨#[]⟩, .int .i64 0, .bool false, .nilf, .nilf, .str ⟨#[]⟩, .int .i64 0, .bool false, .nilf, .nilf, .str ⟨#[]⟩, .int .i64 0, .bool false, .nilf, .nilf, .str ⟨#[]⟩, .int .i64 0, .bool false, .nilf, .nilf, .str ⟨#[]⟩, .int .i64 0, .bool false, .nilf, .nilf, .str ⟨#[]⟩, .int .i64 0, .bool false, .nilf, .nilf, .str ⟨#[]⟩, .int .i64 0, .bool false, .nilf, .nilf]⟩,
    ⟨none, none, .st (.t 3) (.t 11) 95⟩] none)
  (.sq (.op 0 [⟨(some 4), none, .mv (.c (.sl 1 (some true) []))⟩] none)
  (.sq (.sq (.op 0 [⟨(some 12), none, .mv (.t 0)⟩,
    ⟨(some 13), none, .len false (.t 12)⟩,
    ⟨(some 14), none, .mv (.c (.int .i64 0))⟩] none)
  (.kp [4] [2] (.bk 0 (.lp [(t_string, .inl 4)] [3, 4, 12, 13, 14] c_graph_FormatNodes_L0))))
  (.sq (.op 0 [⟨(some 59), none, .mv (.t 4)⟩,
    ⟨(some 60), none, .callV true (.c (.fn n_strings_Join [])) [(.t 59), (.c (.str ⟨#[59]⟩))]⟩,
    ⟨(some 2), none, .mv (.t 60)⟩] none)
  .rt))))),
  [.t 2]⟩
def c_ratchetlaw02_Leaves : FnIR := ⟨2,
  (.sq (.op 0 [⟨(some 0), none, .mv (.c (.sl 1 (some true) []))⟩] none)
  (.sq (.op 0 [⟨(some 1), none, .bsl t_int 1 false [.int .i64 0] 2 [(0, (.c (.int .i64 4))), (1, (.c (.int .i64 1)))]⟩,
    ⟨(some 0), none, .mv (.t 1)⟩] none)
  .rt)),
  [.t 0]⟩
def c_ratchetlaw02_Nodes : FnIR := ⟨11,
  (.sq (.op 0 [⟨(some 0), none, .mv (.c (.sl 4 (some true) []))⟩] none)
  (.sq (.op 0 [⟨(some 1), none, .build [.int .i64 0, .int .i64 0, .sl 1 (some true) [], .int .i64 0] [(0, 1, (.c (.int .i64 1))), (1, 1, (.c (.int .i64 4)))]⟩,
    ⟨(some 2), none, .build [.int .i64 0, .int .i64 0, .sl 1 (some true) [], .int .i64 0] [(0, 1, (.c (.int .i64 0))), (1, 1, (.c (.int .i64 4))), (3, 1, (.c (.int .i64 3)))]⟩,
    ⟨(some 3), none, .bsl t_int 1 false [.int .i64 0] 2 [(0, (.c (.int .i64 0))), (1, (.c (.int .i64 1)))]⟩,
    ⟨(some 4), none, .build [.int .i64 0, .int .i64 0, .sl 1 (some true) [], .int .i64 0] [(0, 1, (.c (.int .i64 6))), (1, 1, (.c (.int .i64 4))), (2, 1, (.t 3))]⟩,
    ⟨(some 5), none, .build [.int .i64 0, .int .i64 0, .sl 1 (some true) [], .int .i64 0] [(0, 1, (.c (.int .i64 1))), (1, 1, (.c (.int .i64 1))), (3, 1, (.c (.int .i64 1)))]⟩,
    ⟨(some 6), none, .bsl t_int 1 false [.int .i64 0] 3 [(0, (.c (.int .i64 3))), (1, (.c (.int .i64 2))), (2, (.c (.int .i64 0)))]⟩,
    ⟨(some 7), none, .build [.int .i64 0, .int .i64 0, .sl 1 (some true) [], .int .i64 0] [(0, 1, (.c (.int .i64 12))), (1, 1, (.c (.int .i64 4))), (2, 1, (.t 6))]⟩,
    ⟨(some 8), none, .bsl t_int 1 false [.int .i64 0] 2 [(0, (.c (.int .i64 4))), (1, (.c (.int .i64 1)))]⟩,
    ⟨(some 9), none, .build [.int .i64 0, .int .i64 0, .sl 1 (some true) [], .int .i64 0] [(0, 1, (.c (.int .i64 10))), (1, 1, (.c (.int .i64 1))), (2, 1, (.t 8))]⟩,
    ⟨(some 10), none, .bsl t_api_Node 4 true [.int .i64 0, .int .i64 0, .sl 1 (some true) [], .int .i64 0] 6 [(0, (.t 1)), (1, (.t 2)), (2, (.t 4)), (3, (.t 5)), (4, (.t 7)), (5, (.t 9))]⟩,
    ⟨(some 0), none, .mv (.t 10)⟩] (some [0]))
  .rt)),
  [.t 0]⟩
def b_graph_DepthsOf_L1 : IR :=
 (.sq (.op 0 [⟨(some 32), none, .bin .lss (.t 31) (.t 30)⟩] none)
 (.sq (.cd (.t 32)
  .sk
  (.ex 2))
 (.sq (.bk 3 (.sq (.op 0 [⟨(some 33), none, .ia (.t 29) (.t 31) 1⟩,
    ⟨(some 34), none, .ld (.t 33) 1 false⟩,
    ⟨(some 11), none, .mv (.t 34)⟩] none)
  (.op 11 [⟨(some 35), none, .mv (.t 7)⟩,
    ⟨(some 36), none, .mv (.t 8)⟩,
    ⟨(some 37), none, .mv (.t 7)⟩,
    ⟨(some 38), none, .mv (.t 8)⟩,
    ⟨(some 39), none, .ia (.t 37) (.t 38) 1⟩,
    ⟨(some 40), none, .ld (.t 39) 1 false⟩,
    ⟨(some 41), none, .mv (.t 7)⟩,
    ⟨(some 42), none, .mv (.t 11)⟩,
    ⟨(some 43), none, .ia (.t 41) (.t 42) 1⟩,
    ⟨(some 44), none, .ld (.t 43) 1 false⟩,
    ⟨(some 45), none, .bin .add (.t 44) (.c (.int .i64 1))⟩,
    ⟨(some 46), none, .mm true (.t 40) (.t 45)⟩,
    ⟨(some 47), none, .ia (.t 35) (.t 36) 1⟩,
    ⟨none, none, .st (.t 47) (.t 46) 1⟩] (some [7, 8, 21, 22, 23, 29, 30, 31]))))
 (.op 0 [⟨(some 48), none, .bin .add (.t 31) (.c (.int .i64 1))⟩,
   ⟨(some 31), none, .mv (.t 48)⟩] none))))
def c_graph_DepthsOf_L1 : IR := b_graph_DepthsOf_L1
theorem u_graph_DepthsOf_L1 {C : Call} {L : Loop} {π : Id} {k0 : List Id} {e : Env} {s : Sto} : evC C L π k0 c_graph_DepthsOf_L1 e s = evC C L π k0 b_graph_DepthsOf_L1 e s := rfl
def b_graph_DepthsOf_L0 : IR :=
 (.sq (.op 0 [⟨(some 24), none, .bin .lss (.t 23) (.t 22)⟩] none)
 (.sq (.cd (.t 24)
  .sk
  (.ex 0))
 (.sq (.bk 1 (.sq (.op 0 [⟨(some 25), none, .mv (.t 23)⟩,
    ⟨(some 26), none, .ia (.t 21) (.t 23) 4⟩,
    ⟨(some 27), none, .ld (.t 26) 4 true⟩,
    ⟨(some 9), none, .alloc [.int .i64 0, .int .i64 0, .sl 1 (some true) [], .int .i64 0]⟩,
    ⟨(some 8), none, .mv (.t 25)⟩,
    ⟨none, none, .st (.t 9) (.t 27) 4⟩] (some [7, 8, 9, 21, 22, 23]))
  (.sq (.op 0 [⟨(some 28), none, .fa (.t 9) 2⟩,
    ⟨(some 29), none, .ld (.t 28) 1 false⟩,
    ⟨(some 30), none, .len false (.t 29)⟩,
    ⟨(some 31), none, .mv (.c (.int .i64 0))⟩] (some [7, 8, 21, 22, 23, 29, 30, 31]))
  (.kp [7, 21, 22, 23] [4, 5] (.bk 2 (.lp [] [7, 8, 21, 22, 23, 29, 30, 31] c_graph_DepthsOf_L1))))))
 (.op 0 [⟨(some 49), none, .bin .add (.t 23) (.c (.int .i64 1))⟩,
   ⟨(some 23), none, .mv (.t 49)⟩] none))))
def c_graph_DepthsOf_L0 : IR := b_graph_DepthsOf_L0
theorem u_graph_DepthsOf_L0 {C : Call} {L : Loop} {π : Id} {k0 : List Id} {e : Env} {s : Sto} : evC C L π k0 c_graph_DepthsOf_L0 e s = evC C L π k0 b_graph_DepthsOf_L0 e s := rfl
def c_graph_DepthsOf : FnIR := ⟨51,
  (.sq (.op 0 [⟨(some 4), none, .mv (.c (.sl 1 (some true) []))⟩,
    ⟨(some 5), none, .mv (.c (.int .i64 0))⟩] none)
  (.sq (.sq (.op 0 [⟨(some 12), none, .mv (.t 0)⟩,
    ⟨(some 13), none, .mv (.t 1)⟩,
    ⟨(some 14), none, .callV true (.c (.fn n_graph_graphErr [])) [(.t 12), (.t 13)]⟩,
    ⟨(some 6), none, .mv (.t 14)⟩] (some [1, 6]))
  (.sq (.op 0 [⟨(some 15), none, .mv (.t 6)⟩,
    ⟨(some 16), none, .bin .neq (.t 15) (.c (.int .i64 0))⟩] none)
  (.cd (.t 16)
   (.sq (.op 0 [⟨(some 17), none, .mv (.t 6)⟩,
     ⟨(some 4), none, .mv (.c (.sl 1 (some true) []))⟩,
     ⟨(some 5), none, .mv (.t 17)⟩] none)
   .rt)
   .sk)))
  (.sq (.op 0 [⟨(some 18), none, .mv (.t 1)⟩,
    ⟨(some 19), none, .len false (.t 18)⟩,
    ⟨(some 20), none, .mks t_int 1 false [.int .i64 0] (.t 19) (.t 19)⟩,
    ⟨(some 7), none, .mv (.t 20)⟩] (some [1, 7]))
  (.sq (.sq (.op 0 [⟨(some 21), none, .mv (.t 1)⟩,
    ⟨(some 22), none, .len false (.t 21)⟩,
    ⟨(some 23), none, .mv (.c (.int .i64 0))⟩] none)
  (.kp [7] [4, 5] (.bk 0 (.lp [] [7, 21, 22, 23] c_graph_DepthsOf_L0))))
  (.sq (.op 0 [⟨(some 50), none, .mv (.t 7)⟩,
    ⟨(some 4), none, .mv (.t 50)⟩,
    ⟨(some 5), none, .mv (.c (.int .i64 0))⟩] none)
  .rt))))),
  [.t 4, .t 5]⟩
def b_graph_DifferenceOf_R0A : IR :=
 (.sq (.op 0 [⟨(some 13), none, .mv (.t 53)⟩] none)
 (.op 0 [⟨(some 14), none, .mv (.t 54)⟩] none))
def c_graph_DifferenceOf_R0A : IR := b_graph_DifferenceOf_R0A
theorem u_graph_DifferenceOf_R0A {C : Call} {L : Loop} {π : Id} {k0 : List Id} {e : Env} {s : Sto} : evC C L π k0 c_graph_DifferenceOf_R0A e s = evC C L π k0 b_graph_DifferenceOf_R0A e s := rfl
def b_graph_DifferenceOf_R0B : IR :=
 (.bk 1 (.sq (.op 8 [⟨(some 55), none, .mv (.t 14)⟩,
    ⟨(some 56), none, .ld (.t 6) 1 false⟩,
    ⟨(some 57), none, .ia (.t 55) (.t 56) 1⟩,
    ⟨(some 58), none, .ld (.t 57) 1 false⟩,
    ⟨(some 59), none, .mv (.t 14)⟩,
    ⟨(some 60), none, .ld (.t 7) 1 false⟩,
    ⟨(some 61), none, .ia (.t 59) (.t 60) 1⟩,
    ⟨(some 62), none, .ld (.t 61) 1 false⟩,
    ⟨(some 63), none, .bin .neq (.t 58) (.t 62)⟩] (some [8, 9, 13, 63]))
  (.cd (.t 63)
   (.sq (.fz [13, 53] (.op 0 [⟨(some 64), none, .mv (.t 13)⟩,
     ⟨(some 65), none, .callV false (.c (.fn n_slices_Clone_int_int [])) [(.t 64)]⟩,
     ⟨none, none, .st (.t 8) (.t 65) 1⟩,
     ⟨none, none, .st (.t 9) (.c (.int .i64 0)) 1⟩] (some [])))
   .rt)
   .sk)))
def c_graph_DifferenceOf_R0B : IR := b_graph_DifferenceOf_R0B
theorem u_graph_DifferenceOf_R0B {C : Call} {L : Loop} {π : Id} {k0 : List Id} {e : Env} {s : Sto} : evC C L π k0 c_graph_DifferenceOf_R0B e s = evC C L π k0 b_graph_DifferenceOf_R0B e s := rfl
def c_graph_DifferenceOf : FnIR := ⟨66,
  (.sq (.op 0 [⟨(some 6), none, .box (.t 2) 1⟩,
    ⟨(some 7), none, .box (.t 3) 1⟩,
    ⟨(some 8), none, .alloc [.sl 1 (some true) []]⟩,
    ⟨(some 9), none, .alloc [.int .i64 0]⟩] none)
  (.sq (.sq (.op 0 [⟨(some 15), none, .mv (.t 0)⟩,
    ⟨(some 16), none, .mv (.t 1)⟩,
    ⟨(some 17), none, .ld (.t 6) 1 false⟩,
    ⟨(some 18), none, .ld (.t 7) 1 false⟩,
    ⟨(some 19), none, .bsl t_int 1 false [.int .i64 0] 2 [(0, (.t 17)), (1, (.t 18))]⟩,
    ⟨(some 20), none, .callV true (.c (.fn n_graph_namedErr [])) [(.t 15), (.t 16), (.t 19)]⟩,
    ⟨(some 10), none, .mv (.t 20)⟩] (some [0, 1, 6, 7, 8, 9, 10]))
  (.sq (.op 0 [⟨(some 21), none, .mv (.t 10)⟩,
    ⟨(some 22), none, .bin .neq (.t 21) (.c (.int .i64 0))⟩] none)
  (.cd (.t 22)
   (.sq (.op 0 [⟨(some 23), none, .mv (.t 10)⟩,
     ⟨none, none, .st (.t 8) (.c (.sl 1 (some true) [])) 1⟩,
     ⟨none, none, .st (.t 9) (.t 23) 1⟩] none)
   .rt)
   .sk)))
  (.sq (.op 0 [⟨(some 24), none, .mv (.t 1)⟩,
    ⟨(some 25), none, .ld (.t 6) 1 false⟩,
    ⟨(some 26), none, .ld (.t 7) 1 false⟩,
    ⟨(some 27), none, .bsl t_int 1 false [.int .i64 0] 2 [(0, (.t 25)), (1, (.t 26))]⟩,
    ⟨(some 28), none, .callV false (.c (.fn n_graph_leavesBelow [])) [(.t 24), (.t 27)]⟩,
    ⟨(some 11), none, .mv (.t 28)⟩] (some [0, 1, 6, 7, 8, 9, 11]))
  (.sq (.sq (.op 14 [⟨(some 29), none, .mv (.t 1)⟩,
    ⟨(some 30), none, .ld (.t 6) 1 false⟩,
    ⟨(some 31), none, .ia (.t 29) (.t 30) 4⟩,
    ⟨(some 32), none, .fa (.t 31) 1⟩,
    ⟨(some 33), none, .ld (.t 32) 1 false⟩,
    ⟨(some 34), none, .mv (.t 1)⟩,
    ⟨(some 35), none, .ld (.t 7) 1 false⟩,
    ⟨(some 36), none, .ia (.t 34) (.t 35) 4⟩,
    ⟨(some 37), none, .fa (.t 36) 1⟩,
    ⟨(some 38), none, .ld (.t 37) 1 false⟩,
    ⟨(some 39), none, .bin .eql (.t 33) (.t 38)⟩,
    ⟨(some 40), none, .callV true (.c (.fn n_graph_unless [])) [(.t 39), (.c (.int .i64 25))]⟩,
    ⟨(some 41), none, .mv (.t 0)⟩,
    ⟨(some 42), none, .mv (.t 11)⟩,
    ⟨(some 43), none, .callV true (.c (.fn n_graph_bitsErr [])) [(.t 41), (.t 42)]⟩,
    ⟨(some 44), none, .bsl t_api_Errno 1 false [.int .i64 0] 2 [(0, (.t 40)), (1, (.t 43))]⟩,
    ⟨(some 45), none, .callV true (.c (.fn n_graph_first [])) [(.t 44)]⟩,
    ⟨(some 12), none, .mv (.t 45)⟩] (some [0, 1, 6, 7, 8, 9, 11, 12]))
  (.sq (.op 0 [⟨(some 46), none, .mv (.t 12)⟩,
    ⟨(some 47), none, .bin .neq (.t 46) (.c (.int .i64 0))⟩] none)
  (.cd (.t 47)
   (.sq (.op 0 [⟨(some 48), none, .mv (.t 12)⟩,
     ⟨none, none, .st (.t 8) (.c (.sl 1 (some true) [])) 1⟩,
     ⟨none, none, .st (.t 9) (.t 48) 1⟩] none)
   .rt)
   .sk)))
  (.sq (.sq (.kp [6, 7, 8, 9, 52] [8, 9] (.op 0 [⟨(some 49), none, .mv (.t 0)⟩,
    ⟨(some 50), none, .mv (.t 1)⟩,
    ⟨(some 51), none, .mv (.t 11)⟩,
    ⟨(some 52), none, .callV false (.c (.fn n_graph_runs [])) [(.t 49), (.t 50), (.t 51)]⟩] (some [6, 7, 8, 9, 52])))
  (.bk 0 (.kp [8, 9] [8, 9] (.rf (.t 52) 66 0 [6, 7, 8, 9] [53, 54] c_graph_DifferenceOf_R0A c_graph_DifferenceOf_R0B))))
  (.sq (.op 0 [⟨none, none, .st (.t 8) (.c (.sl 1 (some true) [])) 1⟩,
    ⟨none, none, .st (.t 9) (.c (.int .i64 12)) 1⟩] none)
  .rt)))))),
  [.c 8 1 false, .c 9 1 false]⟩
def b_ratchetref02_CheckNodes_L0 : IR :=
 (.sq (.sq (.op 0 [⟨(some 10), none, .mv (.t 6)⟩,
   ⟨(some 11), none, .mv (.t 0)⟩,
   ⟨(some 12), none, .len false (.t 11)⟩,
   ⟨(some 13), none, .bin .lss (.t 10) (.t 12)⟩] (some [0, 1, 6, 13]))
 (.cd (.t 13)
  .sk
  (.ex 0)))
 (.sq (.bk 1 (.sq (.op 0 [⟨(some 16), none, .mv (.t 0)⟩,
    ⟨(some 17), none, .mv (.t 6)⟩,
    ⟨(some 18), none, .ia (.t 16) (.t 17) 1⟩,
    ⟨(some 19), none, .ld (.t 18) 1 false⟩,
    ⟨(some 20), none, .callV true (.c (.fn n_ratchetbase_IsWidth [])) [(.t 19)]⟩,
    ⟨(some 21), none, .un .not (.t 20)⟩] (some [0, 1, 6, 21]))
  (.cd (.t 21)
   (.sq (.op 0 [⟨(some 22), none, .mv (.t 6)⟩,
     ⟨(some 4), none, .mv (.t 22)⟩,
     ⟨(some 5), none, .mv (.c (.int .i64 2))⟩] none)
   .rt)
   .sk)))
 (.op 0 [⟨(some 14), none, .mv (.t 6)⟩,
   ⟨(some 15), none, .bin .add (.t 14) (.c (.int .i64 1))⟩,
   ⟨(some 6), none, .mv (.t 15)⟩] none)))
def c_ratchetref02_CheckNodes_L0 : IR := b_ratchetref02_CheckNodes_L0
theorem u_ratchetref02_CheckNodes_L0 {C : Call} {L : Loop} {π : Id} {k0 : List Id} {e : Env} {s : Sto} : evC C L π k0 c_ratchetref02_CheckNodes_L0 e s = evC C L π k0 b_ratchetref02_CheckNodes_L0 e s := rfl
def c_ratchetref02_CheckNodes : FnIR := ⟨28,
  (.sq (.op 0 [⟨(some 4), none, .mv (.c (.int .i64 0))⟩,
    ⟨(some 5), none, .mv (.c (.int .i64 0))⟩] none)
  (.sq (.sq (.op 0 [⟨(some 7), none, .mv (.t 0)⟩,
    ⟨(some 8), none, .len false (.t 7)⟩,
    ⟨(some 9), none, .bin .gtr (.t 8) (.c (.int .i64 40))⟩] none)
  (.cd (.t 9)
   (.sq (.op 0 [⟨(some 4), none, .mv (.c (.int .i64 0))⟩,
     ⟨(some 5), none, .mv (.c (.int .i64 8))⟩] none)
   .rt)
   .sk))
  (.sq (.sq (.op 0 [⟨(some 6), none, .mv (.c (.int .i64 0))⟩] none)
  (.kp [0, 1] [4, 5] (.bk 0 (.lp [] [0, 1, 6] c_ratchetref02_CheckNodes_L0))))
  (.sq (.op 0 [⟨(some 23), none, .mv (.t 0)⟩,
    ⟨(some 24), none, .mv (.t 1)⟩,
    ⟨(some 25), none, .callV true (.c (.fn n_ratchetbase_NodesErr [])) [(.t 23), (.t 24)]⟩,
    ⟨(some 26), none, .ext (.t 25) 0⟩,
    ⟨(some 27), none, .ext (.t 25) 1⟩,
    ⟨(some 4), none, .mv (.t 26)⟩,
    ⟨(some 5), none, .mv (.t 27)⟩] (some [4, 5]))
  .rt)))),
  [.t 4, .t 5]⟩
def b_ratchetbase_IsValues_L0 : IR :=
 (.sq (.sq (.op 0 [⟨(some 11), none, .mv (.t 5)⟩,
   ⟨(some 12), none, .mv (.t 1)⟩,
   ⟨(some 13), none, .len false (.t 12)⟩,
   ⟨(some 14), none, .bin .lss (.t 11) (.t 13)⟩] (some [0, 1, 5, 14]))
 (.cd (.t 14)
  .sk
  (.ex 0)))
 (.sq (.bk 1 (.sq (.op 8 [⟨(some 17), none, .mv (.t 1)⟩,
    ⟨(some 18), none, .mv (.t 5)⟩,
    ⟨(some 19), none, .ia (.t 17) (.t 18) 1⟩,
    ⟨(some 20), none, .ld (.t 19) 1 false⟩,
    ⟨(some 21), none, .mv (.t 0)⟩,
    ⟨(some 22), none, .mv (.t 5)⟩,
    ⟨(some 23), none, .ia (.t 21) (.t 22) 1⟩,
    ⟨(some 24), none, .ld (.t 23) 1 false⟩,
    ⟨(some 25), none, .callV true (.c (.fn n_ratchetbase_Fits [])) [(.t 20), (.t 24)]⟩,
    ⟨(some 26), none, .un .not (.t 25)⟩] (some [0, 1, 5, 26]))
  (.cd (.t 26)
   (.sq (.op 0 [⟨(some 4), none, .mv (.c (.bool false))⟩] none)
   .rt)
   .sk)))
 (.op 0 [⟨(some 15), none, .mv (.t 5)⟩,
   ⟨(some 16), none, .bin .add (.t 15) (.c (.int .i64 1))⟩,
   ⟨(some 5), none, .mv (.t 16)⟩] none)))
def c_ratchetbase_IsValues_L0 : IR := b_ratchetbase_IsValues_L0
theorem u_ratchetbase_IsValues_L0 {C : Call} {L : Loop} {π : Id} {k0 : List Id} {e : Env} {s : Sto} : evC C L π k0 c_ratchetbase_IsValues_L0 e s = evC C L π k0 b_ratchetbase_IsValues_L0 e s := rfl
def c_ratchetbase_IsValues : FnIR := ⟨27,
  (.sq (.op 0 [⟨(some 4), none, .mv (.c (.bool false))⟩] none)
  (.sq (.sq (.op 0 [⟨(some 6), none, .mv (.t 0)⟩,
    ⟨(some 7), none, .len false (.t 6)⟩,
    ⟨(some 8), none, .mv (.t 1)⟩,
    ⟨(some 9), none, .len false (.t 8)⟩,
    ⟨(some 10), none, .bin .neq (.t 7) (.t 9)⟩] (some [0, 1, 10]))
  (.cd (.t 10)
   (.sq (.op 0 [⟨(some 4), none, .mv (.c (.bool false))⟩] none)
   .rt)
   .sk))
  (.sq (.sq (.op 0 [⟨(some 5), none, .mv (.c (.int .i64 0))⟩] none)
  (.kp [] [4] (.bk 0 (.lp [] [0, 1, 5] c_ratchetbase_IsValues_L0))))
  (.sq (.op 0 [⟨(some 4), none, .mv (.c (.bool true))⟩] none)
  .rt)))),
  [.t 4]⟩
def c_ratchetbase_IsNode : FnIR := ⟨10,
  (.sq (.op 0 [⟨(some 4), none, .mv (.c (.bool false))⟩] none)
  (.sq (.op 0 [⟨(some 5), none, .mv (.t 1)⟩,
    ⟨(some 6), none, .mv (.t 0)⟩,
    ⟨(some 7), none, .len false (.t 6)⟩,
    ⟨(some 8), none, .bin .sub (.t 7) (.c (.int .i64 1))⟩,
    ⟨(some 9), none, .callV true (.c (.fn n_ratchetbase_Within [])) [(.t 5), (.c (.int .i64 0)), (.t 8)]⟩,
    ⟨(some 4), none, .mv (.t 9)⟩] (some [4]))
  .rt)),
  [.t 4]⟩
def b_graph_first_L0 : IR :=
 (.sq (.op 0 [⟨(some 8), none, .bin .lss (.t 7) (.t 6)⟩] none)
 (.sq (.cd (.t 8)
  .sk
  (.ex 0))
 (.sq (.bk 1 (.sq (.op 0 [⟨(some 9), none, .ia (.t 5) (.t 7) 1⟩,
    ⟨(some 10), none, .ld (.t 9) 1 false⟩,
    ⟨(some 4), none, .mv (.t 10)⟩] none)
  (.sq (.op 0 [⟨(some 11), none, .mv (.t 4)⟩,
    ⟨(some 12), none, .bin .neq (.t 11) (.c (.int .i64 0))⟩] none)
  (.cd (.t 12)
   (.sq (.op 0 [⟨(some 13), none, .mv (.t 4)⟩,
     ⟨(some 2), none, .mv (.t 13)⟩] none)
   .rt)
   .sk))))
 (.op 0 [⟨(some 14), none, .bin .add (.t 7) (.c (.int .i64 1))⟩,
   ⟨(some 7), none, .mv (.t 14)⟩] none))))
def c_graph_first_L0 : IR := b_graph_first_L0
theorem u_graph_first_L0 {C : Call} {L : Loop} {π : Id} {k0 : List Id} {e : Env} {s : Sto} : evC C L π k0 c_graph_first_L0 e s = evC C L π k0 b_graph_first_L0 e s := rfl
def c_graph_first : FnIR := ⟨15,
  (.sq (.op 0 [⟨(some 2), none, .mv (.c (.int .i64 0))⟩] none)
  (.sq (.sq (.op 0 [⟨(some 5), none, .mv (.t 0)⟩,
    ⟨(some 6), none, .len false (.t 5)⟩,
    ⟨(some 7), none, .mv (.c (.int .i64 0))⟩] none)
  (.kp [] [2] (.bk 0 (.lp [] [5, 6, 7] c_graph_first_L0))))
  (.sq (.op 0 [⟨(some 2), none, .mv (.c (.int .i64 0))⟩] none)
  .rt))),
  [.t 2]⟩
def c_graph_graphErr : FnIR := ⟨14,
  (.sq (.op 0 [⟨(some 4), none, .mv (.c (.int .i64 0))⟩] none)
  (.sq (.op 0 [⟨(some 8), none, .mv (.t 0)⟩,
    ⟨(some 9), none, .mv (.t 1)⟩,
    ⟨(some 10), none, .callV true (.c (.fn n_graph_CheckNodes [])) [(.t 8), (.t 9)]⟩,
    ⟨(some 7), none, .mv (.t 10)⟩,
    ⟨(some 11), none, .ext (.t 7) 0⟩,
    ⟨(some 12), none, .ext (.t 7) 1⟩,
    ⟨(some 5), none, .mv (.t 11)⟩,
    ⟨(some 6), none, .mv (.t 12)⟩] (some [6]))
  (.sq (.op 0 [⟨(some 13), none, .mv (.t 6)⟩,
    ⟨(some 4), none, .mv (.t 13)⟩] none)
  .rt))),
  [.t 4]⟩
def c_graph_unless : FnIR := ⟨7,
  (.sq (.op 0 [⟨(some 4), none, .mv (.c (.int .i64 0))⟩] none)
  (.sq (.sq (.op 0 [⟨(some 5), none, .mv (.t 0)⟩] none)
  (.cd (.t 5)
   (.sq (.op 0 [⟨(some 4), none, .mv (.c (.int .i64 0))⟩] none)
   .rt)
   .sk))
  (.sq (.op 0 [⟨(some 6), none, .mv (.t 1)⟩,
    ⟨(some 4), none, .mv (.t 6)⟩] none)
  .rt))),
  [.t 4]⟩
def b_graph_each_int_L0 : IR :=
 (.sq (.op 0 [⟨(some 12), none, .bin .lss (.t 11) (.t 10)⟩] none)
 (.sq (.cd (.t 12)
  .sk
  (.ex 0))
 (.sq (.bk 1 (.sq (.op 0 [⟨(some 13), none, .mv (.t 11)⟩,
    ⟨(some 14), none, .ia (.t 9) (.t 11) 1⟩,
    ⟨(some 15), none, .ld (.t 14) 1 false⟩,
    ⟨(some 6), none, .mv (.t 13)⟩,
    ⟨(some 7), none, .mv (.t 15)⟩] (some [1, 6, 7, 9, 10, 11]))
  (.sq (.op 0 [⟨(some 16), none, .mv (.t 1)⟩,
    ⟨(some 17), none, .mv (.t 6)⟩,
    ⟨(some 18), none, .mv (.t 7)⟩,
    ⟨(some 19), none, .callV true (.t 16) [(.t 17), (.t 18)]⟩,
    ⟨(some 8), none, .mv (.t 19)⟩] (some [1, 6, 8, 9, 10, 11]))
  (.sq (.op 0 [⟨(some 20), none, .mv (.t 8)⟩,
    ⟨(some 21), none, .bin .neq (.t 20) (.c (.int .i64 0))⟩] none)
  (.cd (.t 21)
   (.sq (.op 0 [⟨(some 22), none, .mv (.t 6)⟩,
     ⟨(some 23), none, .mv (.t 8)⟩,
     ⟨(some 4), none, .mv (.t 22)⟩,
     ⟨(some 5), none, .mv (.t 23)⟩] (some [4, 5]))
   .rt)
   .sk)))))
 (.op 0 [⟨(some 24), none, .bin .add (.t 11) (.c (.int .i64 1))⟩,
   ⟨(some 11), none, .mv (.t 24)⟩] none))))
def c_graph_each_int_L0 : IR := b_graph_each_int_L0
theorem u_graph_each_int_L0 {C : Call} {L : Loop} {π : Id} {k0 : List Id} {e : Env} {s : Sto} : evC C L π k0 c_graph_each_int_L0 e s = evC C L π k0 b_graph_each_int_L0 e s := rfl
def c_graph_each_int : FnIR := ⟨25,
  (.sq (.op 0 [⟨(some 4), none, .mv (.c (.int .i64 0))⟩,
    ⟨(some 5), none, .mv (.c (.int .i64 0))⟩] none)
  (.sq (.sq (.op 0 [⟨(some 9), none, .mv (.t 0)⟩,
    ⟨(some 10), none, .len false (.t 9)⟩,
    ⟨(some 11), none, .mv (.c (.int .i64 0))⟩] none)
  (.kp [] [4, 5] (.bk 0 (.lp [] [1, 9, 10, 11] c_graph_each_int_L0))))
  (.sq (.op 0 [⟨(some 4), none, .mv (.c (.int .i64 0))⟩,
    ⟨(some 5), none, .mv (.c (.int .i64 0))⟩] none)
  .rt))),
  [.t 4, .t 5]⟩
def c_graph_ValuesOf_1 : FnIR := ⟨13,
  (.sq (.op 0 [⟨(some 5), none, .mv (.c (.int .i64 0))⟩] none)
  (.sq (.op 0 [⟨(some 6), none, .mv (.t 1)⟩,
    ⟨(some 7), none, .ld (.t 2) 1 false⟩,
    ⟨(some 8), none, .mv (.t 0)⟩,
    ⟨(some 9), none, .ia (.t 7) (.t 8) 1⟩,
    ⟨(some 10), none, .ld (.t 9) 1 false⟩,
    ⟨(some 11), none, .callV true (.c (.fn n_graph_fits [])) [(.t 6), (.t 10)]⟩,
    ⟨(some 12), none, .callV true (.c (.fn n_graph_unless [])) [(.t 11), (.c (.int .i64 2))]⟩,
    ⟨(some 5), none, .mv (.t 12)⟩] (some [5]))
  .rt)),
  [.t 5]⟩
def c_graph_fits : FnIR := ⟨14,
  (.sq (.op 0 [⟨(some 4), none, .mv (.c (.bool false))⟩] none)
  (.sq (.op 0 [⟨(some 5), none, .mv (.t 1)⟩,
    ⟨(some 6), none, .bin .geq (.t 5) (.c (.int .i64 0))⟩,
    ⟨(some 7), none, .mv (.t 6)⟩,
    ⟨(some 8), (some (7, true)), .mv (.t 0)⟩,
    ⟨(some 9), (some (7, true)), .mv (.t 1)⟩,
    ⟨(some 10), (some (7, true)), .bin .shl (.c (.int .i64 1)) (.t 9)⟩,
    ⟨(some 11), (some (7, true)), .bin .sub (.t 10) (.c (.int .i64 1))⟩,
    ⟨(some 12), (some (7, true)), .callV true (.c (.fn n_graph_within [])) [(.t 8), (.c (.int .i64 0)), (.t 11)]⟩,
    ⟨(some 13), none, .pick (.t 7) (.t 12) (.c (.bool false))⟩,
    ⟨(some 4), none, .mv (.t 13)⟩] (some [4]))
  .rt)),
  [.t 4]⟩
def b_graph_valued_L0 : IR :=
 (.sq (.op 0 [⟨(some 14), none, .bin .lss (.t 13) (.t 12)⟩] none)
 (.sq (.cd (.t 14)
  .sk
  (.ex 0))
 (.sq (.bk 1 (.sq (.op 0 [⟨(some 15), none, .ia (.t 11) (.t 13) 4⟩,
    ⟨(some 16), none, .ld (.t 15) 4 true⟩,
    ⟨(some 8), none, .alloc [.int .i64 0, .int .i64 0, .sl 1 (some true) [], .int .i64 0]⟩,
    ⟨none, none, .st (.t 8) (.t 16) 4⟩] (some [0, 1, 5, 6, 8, 11, 12, 13]))
  (.sq (.sq (.op 0 [⟨(some 17), none, .fa (.t 8) 0⟩,
    ⟨(some 18), none, .ld (.t 17) 1 false⟩,
    ⟨(some 19), none, .bin .eql (.t 18) (.c (.int .i64 1))⟩] none)
  (.cd (.t 19)
   (.sq (.op 0 [⟨(some 20), none, .mv (.t 6)⟩,
     ⟨(some 21), none, .mv (.t 1)⟩,
     ⟨(some 22), none, .fa (.t 8) 3⟩,
     ⟨(some 23), none, .ld (.t 22) 1 false⟩,
     ⟨(some 24), none, .ia (.t 21) (.t 23) 1⟩,
     ⟨(some 25), none, .ld (.t 24) 1 false⟩,
     ⟨(some 26), none, .bsl t_int 1 false [.int .i64 0] 1 [(0, (.t 25))]⟩,
     ⟨(some 27), none, .app (.t 20) (.t 26) t_int 1⟩,
     ⟨(some 6), none, .mv (.t 27)⟩] (some [0, 1, 5, 6, 11, 12, 13]))
   (.ex 1))
   .sk))
  (.sq (.op 0 [⟨(some 28), none, .mv (.t 0)⟩,
    ⟨(some 29), none, .ld (.t 8) 4 true⟩,
    ⟨(some 30), none, .mv (.t 6)⟩,
    ⟨(some 31), none, .callV true (.c (.fn n_graph_applied [])) [(.t 5), (.t 28), (.t 29), (.t 30)]⟩,
    ⟨(some 9), none, .mv (.t 31)⟩] (some [0, 1, 5, 6, 9, 11, 12, 13]))
  (.op 0 [⟨(some 32), none, .mv (.t 6)⟩,
    ⟨(some 33), none, .mv (.t 9)⟩,
    ⟨(some 34), none, .bsl t_int 1 false [.int .i64 0] 1 [(0, (.t 33))]⟩,
    ⟨(some 35), none, .app (.t 32) (.t 34) t_int 1⟩,
    ⟨(some 6), none, .mv (.t 35)⟩] (some [0, 1, 5, 6, 11, 12, 13]))))))
 (.op 0 [⟨(some 36), none, .bin .add (.t 13) (.c (.int .i64 1))⟩,
   ⟨(some 13), none, .mv (.t 36)⟩] none))))
def c_graph_valued_L0 : IR := b_graph_valued_L0
theorem u_graph_valued_L0 {C : Call} {L : Loop} {π : Id} {k0 : List Id} {e : Env} {s : Sto} : evC C L π k0 c_graph_valued_L0 e s = evC C L π k0 b_graph_valued_L0 e s := rfl
def c_graph_valued : FnIR := ⟨38,
  (.sq (.op 0 [⟨(some 4), none, .mv (.c (.sl 1 (some true) []))⟩] none)
  (.sq (.op 0 [⟨(some 10), none, .callV true (.c (.fn n_graph_operations [])) []⟩,
    ⟨(some 5), none, .alloc [.str ⟨#[]⟩, .int .i64 0, .bool false, .nilf, .nilf, .str ⟨#[]⟩, .int .i64 0, .bool false, .nilf, .nilf, .str ⟨#[]⟩, .int .i64 0, .bool false, .nilf, .nilf, .str ⟨#[]⟩, .int .i64 0, .bool false, .nilf, .nilf, .str ⟨#[]⟩, .int .i64 0, .bool false, .nilf, .nilf, .str ⟨#[]⟩, .int .i64 0, .bool false, .nilf, .nilf, .str ⟨#[]⟩, .int .i64 0, .bool false, .nilf, .nilf, .str ⟨#[]⟩, .int .i64 0, .bool false, .nilf, .nilf, .str ⟨#[]⟩, .int .i64 0, .bool false, .nilf, .nilf, .str ⟨#[]⟩, .int .i64 0, .bool false, .nilf, .nilf, .str ⟨#[]⟩, .int .i64 0, .bool false, .nilf, .nilf, .str ⟨#[]⟩, .int .i64 0, .bool false, .nilf, .nilf, .str ⟨#[]⟩, .int .i64 0, .bool false, .nilf, .nilf, .str ⟨#[]⟩, .int .i64 0, .bool false, .nilf, .nilf, .str ⟨#[]⟩, .int .i64 0, .bool false, .nilf, .nilf, .str ⟨#[]⟩, .int .i64 0, .bool false, .nilf, .nilf, .str ⟨#[]⟩, .int .i64 0, .bool false, .nilf, .nilf, .str ⟨#[]⟩, .int .i64 0, .bool false, .nilf, .nilf, .str ⟨#[]⟩, .int .i64 0, .bool false, .nilf, .nilf]⟩,
    ⟨none, none, .st (.t 5) (.t 10) 95⟩] none)
  (.sq (.op 0 [⟨(some 6), none, .mv (.c (.sl 1 (some true) []))⟩] none)
  (.sq (.sq (.op 0 [⟨(some 11), none, .mv (.t 0)⟩,
    ⟨(some 12), none, .len false (.t 11)⟩,
    ⟨(some 13), none, .mv (.c (.int .i64 0))⟩] none)
  (.kp [6] [4] (.bk 0 (.lp [(t_int, .inl 6)] [0, 1, 5, 6, 11, 12, 13] c_graph_valued_L0))))
  (.sq (.op 0 [⟨(some 37), none, .mv (.t 6)⟩,
    ⟨(some 4), none, .mv (.t 37)⟩] none)
  .rt))))),
  [.t 4]⟩
def b_graph_moved_L0 : IR :=
 (.sq (.op 0 [⟨(some 12), none, .bin .lss (.t 11) (.t 10)⟩] none)
 (.sq (.cd (.t 12)
  .sk
  (.ex 0))
 (.sq (.bk 1 (.sq (.op 0 [⟨(some 13), none, .ia (.t 9) (.t 11) 1⟩,
    ⟨(some 14), none, .ld (.t 13) 1 false⟩,
    ⟨(some 7), none, .mv (.t 14)⟩] none)
  (.op 0 [⟨(some 15), none, .mv (.t 5)⟩,
    ⟨(some 16), none, .mv (.t 1)⟩,
    ⟨(some 17), none, .mv (.t 7)⟩,
    ⟨(some 18), none, .callV true (.t 16) [(.t 17)]⟩,
    ⟨(some 19), none, .bsl t_int 1 false [.int .i64 0] 1 [(0, (.t 18))]⟩,
    ⟨(some 20), none, .app (.t 15) (.t 19) t_int 1⟩,
    ⟨(some 5), none, .mv (.t 20)⟩] (some [1, 2, 4, 5, 9, 10, 11]))))
 (.op 0 [⟨(some 21), none, .bin .add (.t 11) (.c (.int .i64 1))⟩,
   ⟨(some 11), none, .mv (.t 21)⟩] none))))
def c_graph_moved_L0 : IR := b_graph_moved_L0
theorem u_graph_moved_L0 {C : Call} {L : Loop} {π : Id} {k0 : List Id} {e : Env} {s : Sto} : evC C L π k0 c_graph_moved_L0 e s = evC C L π k0 b_graph_moved_L0 e s := rfl
def c_graph_moved : FnIR := ⟨25,
  (.sq (.op 0 [⟨(some 2), none, .box (.t 0) 4⟩,
    ⟨(some 4), none, .alloc [.int .i64 0, .int .i64 0, .sl 1 (some true) [], .int .i64 0]⟩] none)
  (.sq (.op 0 [⟨(some 5), none, .mv (.c (.sl 1 (some true) []))⟩] none)
  (.sq (.sq (.op 0 [⟨(some 8), none, .fa (.t 2) 2⟩,
    ⟨(some 9), none, .ld (.t 8) 1 false⟩,
    ⟨(some 10), none, .len false (.t 9)⟩,
    ⟨(some 11), none, .mv (.c (.int .i64 0))⟩] (some [1, 2, 4, 5, 9, 10, 11]))
  (.kp [2, 4, 5] [4] (.bk 0 (.lp [(t_int, .inl 5)] [1, 2, 4, 5, 9, 10, 11] c_graph_moved_L0))))
  (.sq (.op 0 [⟨(some 22), none, .mv (.t 5)⟩,
    ⟨(some 23), none, .fa (.t 2) 2⟩,
    ⟨none, none, .st (.t 23) (.t 22) 1⟩] none)
  (.sq (.op 0 [⟨(some 24), none, .ld (.t 2) 4 true⟩,
    ⟨none, none, .st (.t 4) (.t 24) 4⟩] none)
  .rt))))),
  [.c 4 4 true]⟩
def c_graph_mapped : FnIR := ⟨4,
  (.sq (.op 0 [⟨(some 1), none, .box (.t 0) 1⟩,
    ⟨(some 2), none, .mv (.c (.nilf))⟩] none)
  (.sq (.op 0 [⟨(some 3), none, .mkf n_graph_mapped_1 [(.t 1)]⟩,
    ⟨(some 2), none, .mv (.t 3)⟩] none)
  .rt)),
  [.t 2]⟩
def c_graph_operations : FnIR := ⟨24,
  (.sq (.op 0 [⟨(some 0), none, .alloc [.str ⟨#[]⟩, .int .i64 0, .bool false, .nilf, .nilf, .str ⟨#[]⟩, .int .i64 0, .bool false, .nilf, .nilf, .str ⟨#[]⟩, .int .i64 0, .bool false, .nilf, .nilf, .str ⟨#[]⟩, .int .i64 0, .bool false, .nilf, .nilf, .str ⟨#[]⟩, .int .i64 0, .bool false, .nilf, .nilf, .str ⟨#[]⟩, .int .i64 0, .bool false, .nilf, .nilf, .str ⟨#[]⟩, .int .i64 0, .bool false, .nilf, .nilf, .str ⟨#[]⟩, .int .i64 0, .bool false, .nilf, .nilf, .str ⟨#[]⟩, .int .i64 0, .bool false, .nilf, .nilf, .str ⟨#[]⟩, .int .i64 0, .bool false, .nilf, .nilf, .str ⟨#[]⟩, .int .i64 0, .bool false, .nilf, .nilf, .str ⟨#[]⟩, .int .i64 0, .bool false, .nilf, .nilf, .str ⟨#[]⟩, .int .i64 0, .bool false, .nilf, .nilf, .str ⟨#[]⟩, .int .i64 0, .bool false, .nilf, .nilf, .str ⟨#[]⟩, .int .i64 0, .bool false, .nilf, .nilf, .str ⟨#[]⟩, .int .i64 0, .bool false, .nilf, .nilf, .str ⟨#[]⟩, .int .i64 0, .bool false, .nilf, .nilf, .str ⟨#[]⟩, .int .i64 0, .bool false, .nilf, .nilf, .str ⟨#[]⟩, .int .i64 0, .bool false, .nilf, .nilf]⟩] none)
  (.sq (.op 0 [⟨(some 1), none, .mv (.c (.fn n_graph_operations_1 []))⟩] none)
  (.sq (.op 0 [⟨(some 2), none, .mv (.t 1)⟩,
    ⟨(some 3), none, .build [.str ⟨#[]⟩, .int .i64 0, .bool false, .nilf, .nilf] [(0, 1, (.c (.str ⟨#[99, 111, 110, 115, 116]⟩))), (1, 1, (.c (.int .i64 0))), (2, 1, (.c (.bool true))), (3, 1, (.c (.fn n_graph_anyWidth []))), (4, 1, (.t 2))]⟩,
    ⟨(some 4), none, .mv (.t 1)⟩,
    ⟨(some 5), none, .build [.str ⟨#[]⟩, .int .i64 0, .bool false, .nilf, .nilf] [(0, 1, (.c (.str ⟨#[108, 101, 97, 102]⟩))), (1, 1, (.c (.int .i64 0))), (2, 1, (.c (.bool true))), (3, 1, (.c (.fn n_graph_anyWidth []))), (4, 1, (.t 4))]⟩,
    ⟨(some 6), none, .build [.str ⟨#[]⟩, .int .i64 0, .bool false, .nilf, .nilf] [(0, 1, (.c (.str ⟨#[110, 111, 116]⟩))), (1, 1, (.c (.int .i64 1))), (2, 1, (.c (.bool false))), (3, 1, (.c (.fn n_graph_same []))), (4, 1, (.c (.fn n_graph_operations_2 [])))]⟩,
    ⟨(some 7), none, .callV false (.c (.fn n_graph_binary [])) [(.c (.str ⟨#[97, 110, 100]⟩)), (.c (.fn n_graph_operations_3 []))]⟩,
    ⟨(some 8), none, .callV false (.c (.fn n_graph_binary [])) [(.c (.str ⟨#[111, 114]⟩)), (.c (.fn n_graph_operations_4 []))]⟩,
    ⟨(some 9), none, .callV false (.c (.fn n_graph_binary [])) [(.c (.str ⟨#[120, 111, 114]⟩)), (.c (.fn n_graph_operations_5 []))]⟩,
    ⟨(some 10), none, .callV false (.c (.fn n_graph_binary [])) [(.c (.str ⟨#[97, 100, 100]⟩)), (.c (.fn n_graph_operations_6 []))]⟩,
    ⟨(some 11), none, .callV false (.c (.fn n_graph_binary [])) [(.c (.str ⟨#[115, 117, 98]⟩)), (.c (.fn n_graph_operations_7 []))]⟩,
    ⟨(some 12), none, .callV false (.c (.fn n_graph_binary [])) [(.c (.str ⟨#[109, 117, 108]⟩)), (.c (.fn n_graph_operations_8 []))]⟩,
    ⟨(some 13), none, .callV false (.c (.fn n_graph_relation [])) [(.c (.str ⟨#[101, 113]⟩)), (.c (.fn n_graph_operations_9 []))]⟩,
    ⟨(some 14), none, .callV false (.c (.fn n_graph_relation [])) [(.c (.str ⟨#[108, 116]⟩)), (.c (.fn n_graph_operations_10 []))]⟩,
    ⟨(some 15), none, .callV false (.c (.fn n_graph_relation [])) [(.c (.str ⟨#[115, 108, 116]⟩)), (.c (.fn n_graph_operations_11 []))]⟩,
    ⟨(some 16), none, .build [.str ⟨#[]⟩, .int .i64 0, .bool false, .nilf, .nilf] [(0, 1, (.c (.str ⟨#[109, 117, 120]⟩))), (1, 1, (.c (.int .i64 3))), (2, 1, (.c (.bool false))), (3, 1, (.c (.fn n_graph_operations_12 []))), (4, 1, (.c (.fn n_graph_operations_13 [])))]⟩,
    ⟨(some 17), none, .build [.str ⟨#[]⟩, .int .i64 0, .bool false, .nilf, .nilf] [(0, 1, (.c (.str ⟨#[106, 111, 105, 110]⟩))), (1, 1, (.c (.int .i64 2))), (2, 1, (.c (.bool false))), (3, 1, (.c (.fn n_graph_operations_14 []))), (4, 1, (.c (.fn n_graph_operations_15 [])))]⟩,
    ⟨(some 18), none, .build [.str ⟨#[]⟩, .int .i64 0, .bool false, .nilf, .nilf] [(0, 1, (.c (.str ⟨#[115, 108, 105, 99, 101]⟩))), (1, 1, (.c (.int .i64 1))), (2, 1, (.c (.bool true))), (3, 1, (.c (.fn n_graph_operations_16 []))), (4, 1, (.c (.fn n_graph_operations_17 [])))]⟩,
    ⟨(some 19), none, .build [.str ⟨#[]⟩, .int .i64 0, .bool false, .nilf, .nilf] [(0, 1, (.c (.str ⟨#[122, 101, 120, 116]⟩))), (1, 1, (.c (.int .i64 1))), (2, 1, (.c (.bool false))), (3, 1, (.c (.fn n_graph_extended []))), (4, 1, (.c (.fn n_graph_operations_18 [])))]⟩,
    ⟨(some 20), none, .build [.str ⟨#[]⟩, .int .i64 0, .bool false, .nilf, .nilf] [(0, 1, (.c (.str ⟨#[115, 101, 120, 116]⟩))), (1, 1, (.c (.int .i64 1))), (2, 1, (.c (.bool false))), (3, 1, (.c (.fn n_graph_extended []))), (4, 1, (.c (.fn n_graph_operations_19 [])))]⟩,
    ⟨(some 21), none, .build [.str ⟨#[]⟩, .int .i64 0, .bool false, .nilf, .nilf] [(0, 1, (.c (.str ⟨#[115, 104, 108]⟩))), (1, 1, (.c (.int .i64 2))), (2, 1, (.c (.bool false))), (3, 1, (.c (.fn n_graph_shifted []))), (4, 1, (.c (.fn n_graph_operations_20 [])))]⟩,
    ⟨(some 22), none, .build [.str ⟨#[]⟩, .int .i64 0, .bool false, .nilf, .nilf] [(0, 1, (.c (.str ⟨#[115, 104, 114]⟩))), (1, 1, (.c (.int .i64 2))), (2, 1, (.c (.bool false))), (3, 1, (.c (.fn n_graph_shifted []))), (4, 1, (.c (.fn n_graph_operations_21 [])))]⟩,
    ⟨(some 23), none, .build [.str ⟨#[]⟩, .int .i64 0, .bool false, .nilf, .nilf, .str ⟨#[]⟩, .int .i64 0, .bool false, .nilf, .nilf, .str ⟨#[]⟩, .int .i64 0, .bool false, .nilf, .nilf, .str ⟨#[]⟩, .int .i64 0, .bool false, .nilf, .nilf, .str ⟨#[]⟩, .int .i64 0, .bool false, .nilf, .nilf, .str ⟨#[]⟩, .int .i64 0, .bool false, .nilf, .nilf, .str ⟨#[]⟩, .int .i64 0, .bool false, .nilf, .nilf, .str ⟨#[]⟩, .int .i64 0, .bool false, .nilf, .nilf, .str ⟨#[]⟩, .int .i64 0, .bool false, .nilf, .nilf, .str ⟨#[]⟩, .int .i64 0, .bool false, .nilf, .nilf, .str ⟨#[]⟩, .int .i64 0, .bool false, .nilf, .nilf, .str ⟨#[]⟩, .int .i64 0, .bool false, .nilf, .nilf, .str ⟨#[]⟩, .int .i64 0, .bool false, .nilf, .nilf, .str ⟨#[]⟩, .int .i64 0, .bool false, .nilf, .nilf, .str ⟨#[]⟩, .int .i64 0, .bool false, .nilf, .nilf, .str ⟨#[]⟩, .int .i64 0, .bool false, .nilf, .nilf, .str ⟨#[]⟩, .int .i64 0, .bool false, .nilf, .nilf, .str ⟨#[]⟩, .int .i64 0, .bool false, .nilf, .nilf, .str ⟨#[]⟩, .int .i64 0, .bool false, .nilf, .nilf] [(0, 5, (.t 3)), (5, 5, (.t 5)), (10, 5, (.t 6)), (15, 5, (.t 7)), (20, 5, (.t 8)), (25, 5, (.t 9)), (30, 5, (.t 10)), (35, 5, (.t 11)), (40, 5, (.t 12)), (45, 5, (.t 13)), (50, 5, (.t 14)), (55, 5, (.t 15)), (60, 5, (.t 16)), (65, 5, (.t 17)), (70, 5, (.t 18)), (75, 5, (.t 19)), (80, 5, (.t 20)), (85, 5, (.t 21)), (90, 5, (.t 22))]⟩,
    ⟨none, none, .st (.t 0) (.t 23) 95⟩] (some [0]))
  .rt))),
  [.c 0 95 true]⟩
def c_graph_FoldedOf_1 : FnIR := ⟨4,
  (.sq (.op 0 [⟨(some 2), none, .mv (.c (.int .i64 0))⟩] none)
  (.sq (.op 0 [⟨(some 3), none, .mv (.t 0)⟩,
    ⟨(some 2), none, .mv (.t 3)⟩] none)
  .rt)),
  [.t 2]⟩
def c_slices_ContainsFunc_int_int : FnIR := ⟨9,
  (.sq (.op 0 [⟨(some 4), none, .mv (.c (.bool false))⟩] none)
  (.sq (.op 0 [⟨(some 5), none, .mv (.t 0)⟩,
    ⟨(some 6), none, .mv (.t 1)⟩,
    ⟨(some 7), none, .callV true (.c (.fn n_slices_IndexFunc_int_int [])) [(.t 5), (.t 6)]⟩,
    ⟨(some 8), none, .bin .geq (.t 7) (.c (.int .i64 0))⟩,
    ⟨(some 4), none, .mv (.t 8)⟩] (some [4]))
  .rt)),
  [.t 4]⟩
def c_graph_FoldedOf_2 : FnIR := ⟨10,
  (.sq (.op 0 [⟨(some 3), none, .mv (.c (.bool false))⟩] none)
  (.sq (.op 0 [⟨(some 4), none, .ld (.t 1) 1 false⟩,
    ⟨(some 5), none, .mv (.t 0)⟩,
    ⟨(some 6), none, .ia (.t 4) (.t 5) 4⟩,
    ⟨(some 7), none, .fa (.t 6) 0⟩,
    ⟨(some 8), none, .ld (.t 7) 1 false⟩,
    ⟨(some 9), none, .bin .neq (.t 8) (.c (.int .i64 0))⟩,
    ⟨(some 3), none, .mv (.t 9)⟩] (some [3]))
  .rt)),
  [.t 3]⟩
def c_graph_constant : FnIR := ⟨8,
  (.sq (.op 0 [⟨(some 4), none, .alloc [.int .i64 0, .int .i64 0, .sl 1 (some true) [], .int .i64 0]⟩] none)
  (.sq (.op 0 [⟨(some 5), none, .mv (.t 0)⟩,
    ⟨(some 6), none, .mv (.t 1)⟩,
    ⟨(some 7), none, .build [.int .i64 0, .int .i64 0, .sl 1 (some true) [], .int .i64 0] [(0, 1, (.c (.int .i64 0))), (1, 1, (.t 5)), (3, 1, (.t 6))]⟩,
    ⟨none, none, .st (.t 4) (.t 7) 4⟩] (some [4]))
  .rt)),
  [.c 4 4 true]⟩
def b_graph_applied_L0 : IR :=
 (.sq (.op 0 [⟨(some 17), none, .bin .lss (.t 16) (.t 15)⟩] none)
 (.sq (.cd (.t 17)
  .sk
  (.ex 0))
 (.sq (.bk 1 (.sq (.op 0 [⟨(some 18), none, .ia (.t 14) (.t 16) 1⟩,
    ⟨(some 19), none, .ld (.t 18) 1 false⟩,
    ⟨(some 12), none, .mv (.t 19)⟩] none)
  (.op 14 [⟨(some 20), none, .mv (.t 9)⟩,
    ⟨(some 21), none, .mv (.t 1)⟩,
    ⟨(some 22), none, .mv (.t 12)⟩,
    ⟨(some 23), none, .ia (.t 21) (.t 22) 4⟩,
    ⟨(some 24), none, .fa (.t 23) 1⟩,
    ⟨(some 25), none, .ld (.t 24) 1 false⟩,
    ⟨(some 26), none, .bsl t_int 1 false [.int .i64 0] 1 [(0, (.t 25))]⟩,
    ⟨(some 27), none, .apx (.t 20) (.t 26) t_int 1 [0, 1, 2, 3, 4, 5, 6]⟩,
    ⟨(some 28), none, .mv (.t 10)⟩,
    ⟨(some 29), none, .mv (.t 3)⟩,
    ⟨(some 30), none, .mv (.t 12)⟩,
    ⟨(some 31), none, .ia (.t 29) (.t 30) 1⟩,
    ⟨(some 32), none, .ld (.t 31) 1 false⟩,
    ⟨(some 33), none, .bsl t_int 1 false [.int .i64 0] 1 [(0, (.t 32))]⟩,
    ⟨(some 34), none, .app (.t 28) (.t 33) t_int 1⟩,
    ⟨(some 9), none, .mv (.t 27)⟩,
    ⟨(some 10), none, .mv (.t 34)⟩] (some [0, 1, 3, 6, 9, 10, 14, 15, 16]))))
 (.op 0 [⟨(some 35), none, .bin .add (.t 16) (.c (.int .i64 1))⟩,
   ⟨(some 16), none, .mv (.t 35)⟩] none))))
def c_graph_applied_L0 : IR := b_graph_applied_L0
theorem u_graph_applied_L0 {C : Call} {L : Loop} {π : Id} {k0 : List Id} {e : Env} {s : Sto} : evC C L π k0 c_graph_applied_L0 e s = evC C L π k0 b_graph_applied_L0 e s := rfl
def c_graph_applied : FnIR := ⟨47,
  (.sq (.op 0 [⟨(some 6), none, .box (.t 2) 4⟩,
    ⟨(some 8), none, .mv (.c (.int .i64 0))⟩] none)
  (.sq (.op 0 [⟨(some 9), none, .mv (.c (.sl 1 (some true) []))⟩,
    ⟨(some 10), none, .mv (.c (.sl 1 (some true) []))⟩] none)
  (.sq (.sq (.op 0 [⟨(some 13), none, .fa (.t 6) 2⟩,
    ⟨(some 14), none, .ld (.t 13) 1 false⟩,
    ⟨(some 15), none, .len false (.t 14)⟩,
    ⟨(some 16), none, .mv (.c (.int .i64 0))⟩] (some [0, 1, 3, 6, 9, 10, 14, 15, 16]))
  (.kp [0, 6, 9, 10] [8] (.bk 0 (.lp [(t_int, .inl 10), (t_int, .inl 9)] [0, 1, 3, 6, 9, 10, 14, 15, 16] c_graph_applied_L0))))
  (.sq (.op 10 [⟨(some 36), none, .mv (.t 0)⟩,
    ⟨(some 37), none, .fa (.t 6) 0⟩,
    ⟨(some 38), none, .ld (.t 37) 1 false⟩,
    ⟨(some 39), none, .nck (.t 36)⟩,
    ⟨(some 40), none, .iaa (.t 39) (.t 38) 19 5⟩,
    ⟨(some 41), none, .fa (.t 40) 4⟩,
    ⟨(some 42), none, .ld (.t 41) 1 false⟩,
    ⟨(some 43), none, .ld (.t 6) 4 true⟩,
    ⟨(some 44), none, .mv (.t 9)⟩,
    ⟨(some 45), none, .mv (.t 10)⟩,
    ⟨(some 46), none, .callV true (.t 42) [(.t 43), (.t 44), (.t 45)]⟩,
    ⟨(some 8), none, .mv (.t 46)⟩] (some [8]))
  .rt)))),
  [.t 8]⟩
def c_graph_namedErr : FnIR := ⟨19,
  (.sq (.op 0 [⟨(some 4), none, .box (.t 1) 1⟩,
    ⟨(some 6), none, .mv (.c (.int .i64 0))⟩] none)
  (.sq (.op 0 [⟨(some 8), none, .mv (.t 2)⟩,
    ⟨(some 9), none, .mkf n_graph_namedErr_1 [(.t 4)]⟩,
    ⟨(some 10), none, .callV true (.c (.fn n_slices_ContainsFunc_int_int [])) [(.t 8), (.t 9)]⟩,
    ⟨(some 7), none, .mv (.t 10)⟩] (some [0, 4, 7]))
  (.sq (.op 0 [⟨(some 11), none, .mv (.t 0)⟩,
    ⟨(some 12), none, .ld (.t 4) 1 false⟩,
    ⟨(some 13), none, .callV true (.c (.fn n_graph_graphErr [])) [(.t 11), (.t 12)]⟩,
    ⟨(some 14), none, .mv (.t 7)⟩,
    ⟨(some 15), none, .un .not (.t 14)⟩,
    ⟨(some 16), none, .callV true (.c (.fn n_graph_unless [])) [(.t 15), (.c (.int .i64 6))]⟩,
    ⟨(some 17), none, .bsl t_api_Errno 1 false [.int .i64 0] 2 [(0, (.t 13)), (1, (.t 16))]⟩,
    ⟨(some 18), none, .callV true (.c (.fn n_graph_first [])) [(.t 17)]⟩,
    ⟨(some 6), none, .mv (.t 18)⟩] (some [6]))
  .rt))),
  [.t 6]⟩
def b_graph_below_L0 : IR :=
 (.sq (.op 0 [⟨(some 18), none, .bin .lss (.t 17) (.t 16)⟩] none)
 (.sq (.cd (.t 18)
  .sk
  (.ex 0))
 (.sq (.bk 1 (.sq (.op 0 [⟨(some 19), none, .ia (.t 15) (.t 17) 1⟩,
    ⟨(some 20), none, .ld (.t 19) 1 false⟩,
    ⟨(some 7), none, .mv (.t 20)⟩] none)
  (.op 0 [⟨(some 21), none, .ld (.t 5) 1 false⟩,
    ⟨(some 22), none, .mv (.t 7)⟩,
    ⟨(some 23), none, .ia (.t 21) (.t 22) 1⟩,
    ⟨none, none, .st (.t 23) (.c (.bool true)) 1⟩] (some [0, 4, 5, 15, 16, 17]))))
 (.op 0 [⟨(some 24), none, .bin .add (.t 17) (.c (.int .i64 1))⟩,
   ⟨(some 17), none, .mv (.t 24)⟩] none))))
def c_graph_below_L0 : IR := b_graph_below_L0
theorem u_graph_below_L0 {C : Call} {L : Loop} {π : Id} {k0 : List Id} {e : Env} {s : Sto} : evC C L π k0 c_graph_below_L0 e s = evC C L π k0 b_graph_below_L0 e s := rfl
def b_graph_below_L1 : IR :=
 (.sq (.op 0 [⟨(some 33), none, .bin .lss (.t 32) (.t 31)⟩] none)
 (.sq (.cd (.t 33)
  .sk
  (.ex 4))
 (.sq (.bk 5 (.sq (.op 0 [⟨(some 34), none, .ia (.t 30) (.t 32) 1⟩,
    ⟨(some 35), none, .ld (.t 34) 1 false⟩,
    ⟨(some 11), none, .mv (.t 35)⟩] none)
  (.op 12 [⟨(some 36), none, .ld (.t 5) 1 false⟩,
    ⟨(some 37), none, .mv (.t 11)⟩,
    ⟨(some 38), none, .ld (.t 5) 1 false⟩,
    ⟨(some 39), none, .mv (.t 11)⟩,
    ⟨(some 40), none, .ia (.t 38) (.t 39) 1⟩,
    ⟨(some 41), none, .ld (.t 40) 1 false⟩,
    ⟨(some 42), none, .mv (.t 41)⟩,
    ⟨(some 43), (some (42, false)), .ld (.t 5) 1 false⟩,
    ⟨(some 44), (some (42, false)), .mv (.t 8)⟩,
    ⟨(some 45), (some (42, false)), .ia (.t 43) (.t 44) 1⟩,
    ⟨(some 46), (some (42, false)), .ld (.t 45) 1 false⟩,
    ⟨(some 47), none, .pick (.t 42) (.c (.bool true)) (.t 46)⟩,
    ⟨(some 48), none, .ia (.t 36) (.t 37) 1⟩,
    ⟨none, none, .st (.t 48) (.t 47) 1⟩] (some [5, 8, 30, 31, 32]))))
 (.op 0 [⟨(some 49), none, .bin .add (.t 32) (.c (.int .i64 1))⟩,
   ⟨(some 32), none, .mv (.t 49)⟩] none))))
def c_graph_below_L1 : IR := b_graph_below_L1
theorem u_graph_below_L1 {C : Call} {L : Loop} {π : Id} {k0 : List Id} {e : Env} {s : Sto} : evC C L π k0 c_graph_below_L1 e s = evC C L π k0 b_graph_below_L1 e s := rfl
def b_graph_below_R0A : IR :=
 (.sq (.op 0 [⟨(some 8), none, .mv (.t 27)⟩] none)
 (.op 0 [⟨(some 9), none, .alloc [.int .i64 0, .int .i64 0, .sl 1 (some true) [], .int .i64 0]⟩,
   ⟨none, none, .st (.t 9) (.t 28) 4⟩] none))
def c_graph_below_R0A : IR := b_graph_below_R0A
theorem u_graph_below_R0A {C : Call} {L : Loop} {π : Id} {k0 : List Id} {e : Env} {s : Sto} : evC C L π k0 c_graph_below_R0A e s = evC C L π k0 b_graph_below_R0A e s := rfl
def b_graph_below_R0B : IR :=
 (.bk 3 (.sq (.op 0 [⟨(some 29), none, .fa (.t 9) 2⟩,
    ⟨(some 30), none, .ld (.t 29) 1 false⟩,
    ⟨(some 31), none, .len false (.t 30)⟩,
    ⟨(some 32), none, .mv (.c (.int .i64 0))⟩] (some [5, 8, 30, 31, 32]))
  (.kp [] [] (.bk 4 (.lp [] [5, 8, 30, 31, 32] c_graph_below_L1)))))
def c_graph_below_R0B : IR := b_graph_below_R0B
theorem u_graph_below_R0B {C : Call} {L : Loop} {π : Id} {k0 : List Id} {e : Env} {s : Sto} : evC C L π k0 c_graph_below_R0B e s = evC C L π k0 b_graph_below_R0B e s := rfl
def c_graph_below : FnIR := ⟨51,
  (.sq (.op 0 [⟨(some 4), none, .mv (.c (.sl 1 (some true) []))⟩] none)
  (.sq (.op 0 [⟨(some 12), none, .mv (.t 0)⟩,
    ⟨(some 13), none, .len false (.t 12)⟩,
    ⟨(some 14), none, .mks t_bool 1 false [.bool false] (.t 13) (.t 13)⟩,
    ⟨(some 5), none, .alloc [.sl 1 (some true) []]⟩,
    ⟨none, none, .st (.t 5) (.t 14) 1⟩] (some [0, 1, 4, 5]))
  (.sq (.sq (.op 0 [⟨(some 15), none, .mv (.t 1)⟩,
    ⟨(some 16), none, .len false (.t 15)⟩,
    ⟨(some 17), none, .mv (.c (.int .i64 0))⟩] none)
  (.kp [0, 4, 5] [4] (.bk 0 (.lp [] [0, 4, 5, 15, 16, 17] c_graph_below_L0))))
  (.sq (.sq (.kp [4, 5, 26] [4] (.op 0 [⟨(some 25), none, .mv (.t 0)⟩,
    ⟨(some 26), none, .callV false (.c (.fn n_slices_Backward_api_Node_api_Node [])) [(.t 25)]⟩] none))
  (.bk 2 (.kp [5] [4] (.rf (.t 26) 51 0 [5] [27, 28] c_graph_below_R0A c_graph_below_R0B))))
  (.sq (.op 0 [⟨(some 50), none, .ld (.t 5) 1 false⟩,
    ⟨(some 4), none, .mv (.t 50)⟩] none)
  .rt))))),
  [.t 4]⟩
def c_graph_Appended_1 : FnIR := ⟨4,
  (.sq (.op 0 [⟨(some 2), none, .mv (.c (.int .i64 0))⟩] none)
  (.sq (.op 0 [⟨(some 3), none, .mv (.t 0)⟩,
    ⟨(some 2), none, .mv (.t 3)⟩] none)
  .rt)),
  [.t 2]⟩
def c_graph_Appended_2 : FnIR := ⟨8,
  (.sq (.op 0 [⟨(some 3), none, .mv (.c (.int .i64 0))⟩] none)
  (.sq (.op 0 [⟨(some 4), none, .mv (.t 0)⟩,
    ⟨(some 5), none, .ld (.t 1) 1 false⟩,
    ⟨(some 6), none, .len false (.t 5)⟩,
    ⟨(some 7), none, .bin .add (.t 4) (.t 6)⟩,
    ⟨(some 3), none, .mv (.t 7)⟩] (some [3]))
  .rt)),
  [.t 3]⟩
def c_graph_within : FnIR := ⟨15,
  (.sq (.op 0 [⟨(some 6), none, .mv (.c (.bool false))⟩] none)
  (.sq (.op 0 [⟨(some 7), none, .mv (.t 1)⟩,
    ⟨(some 8), none, .mv (.t 0)⟩,
    ⟨(some 9), none, .bin .leq (.t 7) (.t 8)⟩,
    ⟨(some 10), none, .mv (.t 9)⟩,
    ⟨(some 11), (some (10, true)), .mv (.t 0)⟩,
    ⟨(some 12), (some (10, true)), .mv (.t 2)⟩,
    ⟨(some 13), (some (10, true)), .bin .leq (.t 11) (.t 12)⟩,
    ⟨(some 14), none, .pick (.t 10) (.t 13) (.c (.bool false))⟩,
    ⟨(some 6), none, .mv (.t 14)⟩] (some [6]))
  .rt)),
  [.t 6]⟩
def c_graph_Substituted_1 : FnIR := ⟨4,
  (.sq (.op 0 [⟨(some 2), none, .mv (.c (.int .i64 0))⟩] none)
  (.sq (.op 0 [⟨(some 3), none, .mv (.t 0)⟩,
    ⟨(some 2), none, .mv (.t 3)⟩] none)
  .rt)),
  [.t 2]⟩
def b_graph_leavesBelow_L0 : IR :=
 (.sq (.op 0 [⟨(some 15), none, .bin .lss (.t 14) (.t 13)⟩] none)
 (.sq (.cd (.t 15)
  .sk
  (.ex 0))
 (.sq (.bk 1 (.sq (.op 0 [⟨(some 16), none, .mv (.t 14)⟩,
    ⟨(some 17), none, .ia (.t 12) (.t 14) 4⟩,
    ⟨(some 18), none, .ld (.t 17) 4 true⟩,
    ⟨(some 8), none, .alloc [.int .i64 0, .int .i64 0, .sl 1 (some true) [], .int .i64 0]⟩,
    ⟨(some 7), none, .mv (.t 16)⟩,
    ⟨none, none, .st (.t 8) (.t 18) 4⟩] (some [5, 6, 7, 8, 12, 13, 14]))
  (.sq (.op 0 [⟨(some 19), none, .mv (.t 6)⟩,
    ⟨(some 20), none, .mv (.t 7)⟩,
    ⟨(some 21), none, .ia (.t 19) (.t 20) 1⟩,
    ⟨(some 22), none, .ld (.t 21) 1 false⟩,
    ⟨(some 23), none, .mv (.t 22)⟩,
    ⟨(some 24), (some (23, true)), .fa (.t 8) 0⟩,
    ⟨(some 25), (some (23, true)), .ld (.t 24) 1 false⟩,
    ⟨(some 26), (some (23, true)), .bin .eql (.t 25) (.c (.int .i64 1))⟩,
    ⟨(some 27), none, .pick (.t 23) (.t 26) (.c (.bool false))⟩] (some [5, 6, 8, 12, 13, 14, 27]))
  (.cd (.t 27)
   (.op 0 [⟨(some 28), none, .mv (.t 5)⟩,
     ⟨(some 29), none, .fa (.t 8) 3⟩,
     ⟨(some 30), none, .ld (.t 29) 1 false⟩,
     ⟨(some 31), none, .bsl t_int 1 false [.int .i64 0] 1 [(0, (.t 30))]⟩,
     ⟨(some 32), none, .app (.t 28) (.t 31) t_int 1⟩,
     ⟨(some 5), none, .mv (.t 32)⟩] (some [5, 6, 12, 13, 14]))
   .sk))))
 (.op 0 [⟨(some 33), none, .bin .add (.t 14) (.c (.int .i64 1))⟩,
   ⟨(some 14), none, .mv (.t 33)⟩] none))))
def c_graph_leavesBelow_L0 : IR := b_graph_leavesBelow_L0
theorem u_graph_leavesBelow_L0 {C : Call} {L : Loop} {π : Id} {k0 : List Id} {e : Env} {s : Sto} : evC C L π k0 c_graph_leavesBelow_L0 e s = evC C L π k0 b_graph_leavesBelow_L0 e s := rfl
def c_graph_leavesBelow : FnIR := ⟨38,
  (.sq (.op 0 [⟨(some 4), none, .mv (.c (.sl 1 (some true) []))⟩] none)
  (.sq (.op 0 [⟨(some 5), none, .mv (.c (.sl 1 (some true) []))⟩] none)
  (.sq (.op 0 [⟨(some 9), none, .mv (.t 0)⟩,
    ⟨(some 10), none, .mv (.t 1)⟩,
    ⟨(some 11), none, .callV false (.c (.fn n_graph_below [])) [(.t 9), (.t 10)]⟩,
    ⟨(some 6), none, .mv (.t 11)⟩] (some [0, 5, 6]))
  (.sq (.sq (.op 0 [⟨(some 12), none, .mv (.t 0)⟩,
    ⟨(some 13), none, .len false (.t 12)⟩,
    ⟨(some 14), none, .mv (.c (.int .i64 0))⟩] none)
  (.kp [5] [4] (.bk 0 (.lp [(t_int, .inl 5)] [5, 6, 12, 13, 14] c_graph_leavesBelow_L0))))
  (.sq (.op 0 [⟨(some 34), none, .mv (.t 5)⟩,
    ⟨(some 35), none, .callS (.c (.fn n_slices_Sort_int_int [])) [(.t 34)]⟩] none)
  (.sq (.op 0 [⟨(some 36), none, .mv (.t 5)⟩,
    ⟨(some 37), none, .callS (.c (.fn n_slices_Compact_int_int [])) [(.t 36)]⟩,
    ⟨(some 4), none, .mv (.t 37)⟩] none)
  .rt)))))),
  [.t 4]⟩
def b_graph_bitsErr_L0 : IR :=
 (.sq (.op 0 [⟨(some 11), none, .bin .lss (.t 10) (.t 9)⟩] none)
 (.sq (.cd (.t 11)
  .sk
  (.ex 0))
 (.sq (.bk 1 (.sq (.op 0 [⟨(some 12), none, .ia (.t 8) (.t 10) 1⟩,
    ⟨(some 13), none, .ld (.t 12) 1 false⟩,
    ⟨(some 7), none, .mv (.t 13)⟩] none)
  (.op 0 [⟨(some 14), none, .mv (.t 5)⟩,
    ⟨(some 15), none, .mv (.t 0)⟩,
    ⟨(some 16), none, .mv (.t 7)⟩,
    ⟨(some 17), none, .ia (.t 15) (.t 16) 1⟩,
    ⟨(some 18), none, .ld (.t 17) 1 false⟩,
    ⟨(some 19), none, .bin .add (.t 14) (.t 18)⟩,
    ⟨(some 5), none, .mv (.t 19)⟩] (some [0, 5, 8, 9, 10]))))
 (.op 0 [⟨(some 20), none, .bin .add (.t 10) (.c (.int .i64 1))⟩,
   ⟨(some 10), none, .mv (.t 20)⟩] none))))
def c_graph_bitsErr_L0 : IR := b_graph_bitsErr_L0
theorem u_graph_bitsErr_L0 {C : Call} {L : Loop} {π : Id} {k0 : List Id} {e : Env} {s : Sto} : evC C L π k0 c_graph_bitsErr_L0 e s = evC C L π k0 b_graph_bitsErr_L0 e s := rfl
def c_graph_bitsErr : FnIR := ⟨24,
  (.sq (.op 0 [⟨(some 4), none, .mv (.c (.int .i64 0))⟩] none)
  (.sq (.op 0 [⟨(some 5), none, .mv (.c (.int .i64 0))⟩] none)
  (.sq (.sq (.op 0 [⟨(some 8), none, .mv (.t 1)⟩,
    ⟨(some 9), none, .len false (.t 8)⟩,
    ⟨(some 10), none, .mv (.c (.int .i64 0))⟩] none)
  (.kp [5] [4] (.bk 0 (.lp [] [0, 5, 8, 9, 10] c_graph_bitsErr_L0))))
  (.sq (.op 0 [⟨(some 21), none, .mv (.t 5)⟩,
    ⟨(some 22), none, .bin .leq (.t 21) (.c (.int .i64 12))⟩,
    ⟨(some 23), none, .callV true (.c (.fn n_graph_unless [])) [(.t 22), (.c (.int .i64 8))]⟩,
    ⟨(some 4), none, .mv (.t 23)⟩] (some [4]))
  .rt)))),
  [.t 4]⟩
def c_graph_runs : FnIR := ⟨8,
  (.sq (.op 0 [⟨(some 3), none, .box (.t 0) 1⟩,
    ⟨(some 4), none, .box (.t 1) 1⟩,
    ⟨(some 5), none, .box (.t 2) 1⟩,
    ⟨(some 6), none, .mv (.c (.nilf))⟩] (some [3, 4, 5]))
  (.sq (.op 0 [⟨(some 7), none, .mkf n_graph_runs_1 [(.t 3), (.t 4), (.t 5)]⟩,
    ⟨(some 6), none, .mv (.t 7)⟩] none)
  .rt)),
  [.t 6]⟩
def c_slices_Clone_int_int : FnIR := ⟨8,
  (.sq (.op 0 [⟨(some 2), none, .mv (.c (.sl 1 (some true) []))⟩] none)
  (.sq (.sq (.op 0 [⟨(some 3), none, .mv (.t 0)⟩,
    ⟨(some 4), none, .isnil true false (.t 3)⟩] none)
  (.cd (.t 4)
   (.sq (.op 0 [⟨(some 2), none, .mv (.c (.sl 1 (some true) []))⟩] none)
   .rt)
   .sk))
  (.sq (.op 0 [⟨(some 5), none, .bsl t_int 1 false [.int .i64 0] 0 []⟩,
    ⟨(some 6), none, .mv (.t 0)⟩,
    ⟨(some 7), none, .app (.t 5) (.t 6) t_int 1⟩,
    ⟨(some 2), none, .mv (.t 7)⟩] (some [2]))
  .rt))),
  [.t 2]⟩
def c_ratchetbase_IsWidth : FnIR := ⟨5,
  (.sq (.op 0 [⟨(some 2), none, .mv (.c (.bool false))⟩] none)
  (.sq (.op 0 [⟨(some 3), none, .mv (.t 0)⟩,
    ⟨(some 4), none, .callV true (.c (.fn n_ratchetbase_Within [])) [(.t 3), (.c (.int .i64 1)), (.c (.int .i64 16))]⟩,
    ⟨(some 2), none, .mv (.t 4)⟩] none)
  .rt)),
  [.t 2]⟩
def b_ratchetbase_NodesErr_L0 : IR :=
 (.sq (.sq (.op 0 [⟨(some 11), none, .mv (.t 6)⟩,
   ⟨(some 12), none, .mv (.t 1)⟩,
   ⟨(some 13), none, .len false (.t 12)⟩,
   ⟨(some 14), none, .bin .lss (.t 11) (.t 13)⟩] (some [0, 1, 6, 14]))
 (.cd (.t 14)
  .sk
  (.ex 0)))
 (.sq (.bk 1 (.sq (.op 0 [⟨(some 17), none, .mv (.t 0)⟩,
    ⟨(some 18), none, .mv (.t 1)⟩,
    ⟨(some 19), none, .mv (.t 6)⟩,
    ⟨(some 20), none, .callV true (.c (.fn n_ratchetbase_nodeErr [])) [(.t 17), (.t 18), (.t 19)]⟩,
    ⟨(some 7), none, .mv (.t 20)⟩] (some [0, 1, 6, 7]))
  (.sq (.op 0 [⟨(some 21), none, .mv (.t 7)⟩,
    ⟨(some 22), none, .bin .neq (.t 21) (.c (.int .i64 0))⟩] none)
  (.cd (.t 22)
   (.sq (.op 0 [⟨(some 23), none, .mv (.t 6)⟩,
     ⟨(some 24), none, .mv (.t 7)⟩,
     ⟨(some 4), none, .mv (.t 23)⟩,
     ⟨(some 5), none, .mv (.t 24)⟩] (some [4, 5]))
   .rt)
   .sk))))
 (.op 0 [⟨(some 15), none, .mv (.t 6)⟩,
   ⟨(some 16), none, .bin .add (.t 15) (.c (.int .i64 1))⟩,
   ⟨(some 6), none, .mv (.t 16)⟩] none)))
def c_ratchetbase_NodesErr_L0 : IR := b_ratchetbase_NodesErr_L0
theorem u_ratchetbase_NodesErr_L0 {C : Call} {L : Loop} {π : Id} {k0 : List Id} {e : Env} {s : Sto} : evC C L π k0 c_ratchetbase_NodesErr_L0 e s = evC C L π k0 b_ratchetbase_NodesErr_L0 e s := rfl
def c_ratchetbase_NodesErr : FnIR := ⟨25,
  (.sq (.op 0 [⟨(some 4), none, .mv (.c (.int .i64 0))⟩,
    ⟨(some 5), none, .mv (.c (.int .i64 0))⟩] none)
  (.sq (.sq (.op 0 [⟨(some 8), none, .mv (.t 1)⟩,
    ⟨(some 9), none, .len false (.t 8)⟩,
    ⟨(some 10), none, .bin .gtr (.t 9) (.c (.int .i64 400))⟩] none)
  (.cd (.t 10)
   (.sq (.op 0 [⟨(some 4), none, .mv (.c (.int .i64 0))⟩,
     ⟨(some 5), none, .mv (.c (.int .i64 8))⟩] none)
   .rt)
   .sk))
  (.sq (.sq (.op 0 [⟨(some 6), none, .mv (.c (.int .i64 0))⟩] none)
  (.kp [] [4, 5] (.bk 0 (.lp [] [0, 1, 6] c_ratchetbase_NodesErr_L0))))
  (.sq (.op 0 [⟨(some 4), none, .mv (.c (.int .i64 0))⟩,
    ⟨(some 5), none, .mv (.c (.int .i64 0))⟩] none)
  .rt)))),
  [.t 4, .t 5]⟩
def c_ratchetbase_Fits : FnIR := ⟨10,
  (.sq (.op 0 [⟨(some 4), none, .mv (.c (.bool false))⟩] none)
  (.sq (.op 0 [⟨(some 5), none, .mv (.t 0)⟩,
    ⟨(some 6), none, .mv (.t 1)⟩,
    ⟨(some 7), none, .callV true (.c (.fn n_ratchetbase_Power [])) [(.t 6)]⟩,
    ⟨(some 8), none, .bin .sub (.t 7) (.c (.int .i64 1))⟩,
    ⟨(some 9), none, .callV true (.c (.fn n_ratchetbase_Within [])) [(.t 5), (.c (.int .i64 0)), (.t 8)]⟩,
    ⟨(some 4), none, .mv (.t 9)⟩] (some [4]))
  .rt)),
  [.t 4]⟩
def c_graph_CheckNodes : FnIR := ⟨30,
  (.sq (.op 0 [⟨(some 2), none, .box (.t 0) 1⟩,
    ⟨(some 3), none, .box (.t 1) 1⟩,
    ⟨(some 4), none, .mv (.c (.int .i64 0))⟩,
    ⟨(some 5), none, .mv (.c (.int .i64 0))⟩] (some [2, 3]))
  (.sq (.sq (.op 0 [⟨(some 9), none, .ld (.t 2) 1 false⟩,
    ⟨(some 10), none, .len false (.t 9)⟩,
    ⟨(some 11), none, .bin .gtr (.t 10) (.c (.int .i64 40))⟩] none)
  (.cd (.t 11)
   (.sq (.op 0 [⟨(some 4), none, .mv (.c (.int .i64 0))⟩,
     ⟨(some 5), none, .mv (.c (.int .i64 8))⟩] none)
   .rt)
   .sk))
  (.sq (.sq (.op 0 [⟨(some 13), none, .ld (.t 2) 1 false⟩,
    ⟨(some 14), none, .callV true (.c (.fn n_graph_each_int [])) [(.t 13), (.c (.fn n_graph_CheckNodes_1 []))]⟩,
    ⟨(some 12), none, .mv (.t 14)⟩,
    ⟨(some 15), none, .ext (.t 12) 0⟩,
    ⟨(some 16), none, .ext (.t 12) 1⟩,
    ⟨(some 6), none, .mv (.t 15)⟩,
    ⟨(some 7), none, .mv (.t 16)⟩] (some [2, 3, 6, 7]))
  (.sq (.op 0 [⟨(some 17), none, .mv (.t 7)⟩,
    ⟨(some 18), none, .bin .neq (.t 17) (.c (.int .i64 0))⟩] none)
  (.cd (.t 18)
   (.sq (.op 0 [⟨(some 19), none, .mv (.t 6)⟩,
     ⟨(some 20), none, .mv (.t 7)⟩,
     ⟨(some 4), none, .mv (.t 19)⟩,
     ⟨(some 5), none, .mv (.t 20)⟩] (some [4, 5]))
   .rt)
   .sk)))
  (.sq (.sq (.op 0 [⟨(some 21), none, .ld (.t 3) 1 false⟩,
    ⟨(some 22), none, .len false (.t 21)⟩,
    ⟨(some 23), none, .bin .gtr (.t 22) (.c (.int .i64 400))⟩] none)
  (.cd (.t 23)
   (.sq (.op 0 [⟨(some 4), none, .mv (.c (.int .i64 0))⟩,
     ⟨(some 5), none, .mv (.c (.int .i64 8))⟩] none)
   .rt)
   .sk))
  (.sq (.op 0 [⟨(some 24), none, .callV true (.c (.fn n_graph_operations [])) []⟩,
    ⟨(some 8), none, .alloc [.str ⟨#[]⟩, .int .i64 0, .bool false, .nilf, .nilf, .str ⟨#[]⟩, .int .i64 0, .bool false, .nilf, .nilf, .str ⟨#[]⟩, .int .i64 0, .bool false, .nilf, .nilf, .str ⟨#[]⟩, .int .i64 0, .bool false, .nilf, .nilf, .str ⟨#[]⟩, .int .i64 0, .bool false, .nilf, .nilf, .str ⟨#[]⟩, .int .i64 0, .bool false, .nilf, .nilf, .str ⟨#[]⟩, .int .i64 0, .bool false, .nilf, .nilf, .str ⟨#[]⟩, .int .i64 0, .bool false, .nilf, .nilf, .str ⟨#[]⟩, .int .i64 0, .bool false, .nilf, .nilf, .str ⟨#[]⟩, .int .i64 0, .bool false, .nilf, .nilf, .str ⟨#[]⟩, .int .i64 0, .bool false, .nilf, .nilf, .str ⟨#[]⟩, .int .i64 0, .bool false, .nilf, .nilf, .str ⟨#[]⟩, .int .i64 0, .bool false, .nilf, .nilf, .str ⟨#[]⟩, .int .i64 0, .bool false, .nilf, .nilf, .str ⟨#[]⟩, .int .i64 0, .bool false, .nilf, .nilf, .str ⟨#[]⟩, .int .i64 0, .bool false, .nilf, .nilf, .str ⟨#[]⟩, .int .i64 0, .bool false, .nilf, .nilf, .str ⟨#[]⟩, .int .i64 0, .bool false, .nilf, .nilf, .str ⟨#[]⟩, .int .i64 0, .bool false, .nilf, .nilf]⟩,
    ⟨none, none, .st (.t 8) (.t 24) 95⟩] none)
  (.sq (.op 0 [⟨(some 25), none, .ld (.t 3) 1 false⟩,
    ⟨(some 26), none, .mkf n_graph_CheckNodes_2 [(.t 8), (.t 2), (.t 3)]⟩,
    ⟨(some 27), none, .callV true (.c (.fn n_graph_each_api_Node [])) [(.t 25), (.t 26)]⟩,
    ⟨(some 28), none, .ext (.t 27) 0⟩,
    ⟨(some 29), none, .ext (.t 27) 1⟩,
    ⟨(some 4), none, .mv (.t 28)⟩,
    ⟨(some 5), none, .mv (.t 29)⟩] (some [4, 5]))
  .rt)))))),
  [.t 4, .t 5]⟩
def c_graph_mapped_1 : FnIR := ⟨8,
  (.sq (.op 0 [⟨(some 3), none, .mv (.c (.int .i64 0))⟩] none)
  (.sq (.op 0 [⟨(some 4), none, .ld (.t 1) 1 false⟩,
    ⟨(some 5), none, .mv (.t 0)⟩,
    ⟨(some 6), none, .ia (.t 4) (.t 5) 1⟩,
    ⟨(some 7), none, .ld (.t 6) 1 false⟩,
    ⟨(some 3), none, .mv (.t 7)⟩] (some [3]))
  .rt)),
  [.t 3]⟩
def c_graph_operations_1 : FnIR := ⟨9,
  (.sq (.op 0 [⟨(some 3), none, .box (.t 0) 4⟩,
    ⟨(some 6), none, .mv (.c (.int .i64 0))⟩] none)
  (.sq (.op 0 [⟨(some 7), none, .fa (.t 3) 3⟩,
    ⟨(some 8), none, .ld (.t 7) 1 false⟩,
    ⟨(some 6), none, .mv (.t 8)⟩] none)
  .rt)),
  [.t 6]⟩
def c_graph_anyWidth : FnIR := ⟨7,
  (.sq (.op 0 [⟨(some 6), none, .mv (.c (.bool false))⟩] none)
  (.sq (.op 0 [⟨(some 6), none, .mv (.c (.bool true))⟩] none)
  .rt)),
  [.t 6]⟩
def c_graph_same : FnIR := ⟨11,
  (.sq (.op 0 [⟨(some 3), none, .box (.t 0) 1⟩,
    ⟨(some 6), none, .mv (.c (.bool false))⟩] none)
  (.sq (.op 0 [⟨(some 7), none, .mv (.t 1)⟩,
    ⟨(some 8), none, .mkf n_graph_same_1 [(.t 3)]⟩,
    ⟨(some 9), none, .callV true (.c (.fn n_slices_ContainsFunc_int_int [])) [(.t 7), (.t 8)]⟩,
    ⟨(some 10), none, .un .not (.t 9)⟩,
    ⟨(some 6), none, .mv (.t 10)⟩] (some [6]))
  .rt)),
  [.t 6]⟩
def c_graph_operations_2 : FnIR := ⟨14,
  (.sq (.op 0 [⟨(some 3), none, .box (.t 0) 4⟩,
    ⟨(some 6), none, .mv (.c (.int .i64 0))⟩] none)
  (.sq (.op 6 [⟨(some 7), none, .mv (.t 2)⟩,
    ⟨(some 8), none, .ia (.t 7) (.c (.int .i64 0)) 1⟩,
    ⟨(some 9), none, .ld (.t 8) 1 false⟩,
    ⟨(some 10), none, .un .xor (.t 9)⟩,
    ⟨(some 11), none, .fa (.t 3) 1⟩,
    ⟨(some 12), none, .ld (.t 11) 1 false⟩,
    ⟨(some 13), none, .callV true (.c (.fn n_graph_mask [])) [(.t 10), (.t 12)]⟩,
    ⟨(some 6), none, .mv (.t 13)⟩] (some [6]))
  .rt)),
  [.t 6]⟩
def c_graph_mask : FnIR := ⟨10,
  (.sq (.op 0 [⟨(some 4), none, .mv (.c (.int .i64 0))⟩] none)
  (.sq (.op 0 [⟨(some 5), none, .mv (.t 0)⟩,
    ⟨(some 6), none, .mv (.t 1)⟩,
    ⟨(some 7), none, .bin .shl (.c (.int .i64 1)) (.t 6)⟩,
    ⟨(some 8), none, .bin .sub (.t 7) (.c (.int .i64 1))⟩,
    ⟨(some 9), none, .bin .and (.t 5) (.t 8)⟩,
    ⟨(some 4), none, .mv (.t 9)⟩] (some [4]))
  .rt)),
  [.t 4]⟩
def c_graph_binary : FnIR := ⟨8,
  (.sq (.op 0 [⟨(some 3), none, .box (.t 1) 1⟩,
    ⟨(some 4), none, .alloc [.str ⟨#[]⟩, .int .i64 0, .bool false, .nilf, .nilf]⟩] none)
  (.sq (.op 0 [⟨(some 5), none, .mv (.t 0)⟩,
    ⟨(some 6), none, .mkf n_graph_binary_1 [(.t 3)]⟩,
    ⟨(some 7), none, .build [.str ⟨#[]⟩, .int .i64 0, .bool false, .nilf, .nilf] [(0, 1, (.t 5)), (1, 1, (.c (.int .i64 2))), (2, 1, (.c (.bool false))), (3, 1, (.c (.fn n_graph_same []))), (4, 1, (.t 6))]⟩,
    ⟨none, none, .st (.t 4) (.t 7) 5⟩] (some [4]))
  .rt)),
  [.c 4 5 true]⟩
def c_graph_operations_3 : FnIR := ⟨8,
  (.sq (.op 0 [⟨(some 4), none, .mv (.c (.int .i64 0))⟩] none)
  (.sq (.op 0 [⟨(some 5), none, .mv (.t 0)⟩,
    ⟨(some 6), none, .mv (.t 1)⟩,
    ⟨(some 7), none, .bin .and (.t 5) (.t 6)⟩,
    ⟨(some 4), none, .mv (.t 7)⟩] (some [4]))
  .rt)),
  [.t 4]⟩
def c_graph_operations_4 : FnIR := ⟨8,
  (.sq (.op 0 [⟨(some 4), none, .mv (.c (.int .i64 0))⟩] none)
  (.sq (.op 0 [⟨(some 5), none, .mv (.t 0)⟩,
    ⟨(some 6), none, .mv (.t 1)⟩,
    ⟨(some 7), none, .bin .or (.t 5) (.t 6)⟩,
    ⟨(some 4), none, .mv (.t 7)⟩] (some [4]))
  .rt)),
  [.t 4]⟩
def c_graph_operations_5 : FnIR := ⟨8,
  (.sq (.op 0 [⟨(some 4), none, .mv (.c (.int .i64 0))⟩] none)
  (.sq (.op 0 [⟨(some 5), none, .mv (.t 0)⟩,
    ⟨(some 6), none, .mv (.t 1)⟩,
    ⟨(some 7), none, .bin .xor (.t 5) (.t 6)⟩,
    ⟨(some 4), none, .mv (.t 7)⟩] (some [4]))
  .rt)),
  [.t 4]⟩
def c_graph_operations_6 : FnIR := ⟨8,
  (.sq (.op 0 [⟨(some 4), none, .mv (.c (.int .i64 0))⟩] none)
  (.sq (.op 0 [⟨(some 5), none, .mv (.t 0)⟩,
    ⟨(some 6), none, .mv (.t 1)⟩,
    ⟨(some 7), none, .bin .add (.t 5) (.t 6)⟩,
    ⟨(some 4), none, .mv (.t 7)⟩] (some [4]))
  .rt)),
  [.t 4]⟩
def c_graph_operations_7 : FnIR := ⟨8,
  (.sq (.op 0 [⟨(some 4), none, .mv (.c (.int .i64 0))⟩] none)
  (.sq (.op 0 [⟨(some 5), none, .mv (.t 0)⟩,
    ⟨(some 6), none, .mv (.t 1)⟩,
    ⟨(some 7), none, .bin .sub (.t 5) (.t 6)⟩,
    ⟨(some 4), none, .mv (.t 7)⟩] (some [4]))
  .rt)),
  [.t 4]⟩
def c_graph_operations_8 : FnIR := ⟨8,
  (.sq (.op 0 [⟨(some 4), none, .mv (.c (.int .i64 0))⟩] none)
  (.sq (.op 0 [⟨(some 5), none, .mv (.t 0)⟩,
    ⟨(some 6), none, .mv (.t 1)⟩,
    ⟨(some 7), none, .bin .mul (.t 5) (.t 6)⟩,
    ⟨(some 4), none, .mv (.t 7)⟩] (some [4]))
  .rt)),
  [.t 4]⟩
def c_graph_relation : FnIR := ⟨8,
  (.sq (.op 0 [⟨(some 3), none, .box (.t 1) 1⟩,
    ⟨(some 4), none, .alloc [.str ⟨#[]⟩, .int .i64 0, .bool false, .nilf, .nilf]⟩] none)
  (.sq (.op 0 [⟨(some 5), none, .mv (.t 0)⟩,
    ⟨(some 6), none, .mkf n_graph_relation_1 [(.t 3)]⟩,
    ⟨(some 7), none, .build [.str ⟨#[]⟩, .int .i64 0, .bool false, .nilf, .nilf] [(0, 1, (.t 5)), (1, 1, (.c (.int .i64 2))), (2, 1, (.c (.bool false))), (3, 1, (.c (.fn n_graph_compared []))), (4, 1, (.t 6))]⟩,
    ⟨none, none, .st (.t 4) (.t 7) 5⟩] (some [4]))
  .rt)),
  [.c 4 5 true]⟩
def c_graph_operations_9 : FnIR := ⟨10,
  (.sq (.op 0 [⟨(some 6), none, .mv (.c (.bool false))⟩] none)
  (.sq (.op 0 [⟨(some 7), none, .mv (.t 0)⟩,
    ⟨(some 8), none, .mv (.t 1)⟩,
    ⟨(some 9), none, .bin .eql (.t 7) (.t 8)⟩,
    ⟨(some 6), none, .mv (.t 9)⟩] (some [6]))
  .rt)),
  [.t 6]⟩
def c_graph_operations_10 : FnIR := ⟨10,
  (.sq (.op 0 [⟨(some 6), none, .mv (.c (.bool false))⟩] none)
  (.sq (.op 0 [⟨(some 7), none, .mv (.t 0)⟩,
    ⟨(some 8), none, .mv (.t 1)⟩,
    ⟨(some 9), none, .bin .lss (.t 7) (.t 8)⟩,
    ⟨(some 6), none, .mv (.t 9)⟩] (some [6]))
  .rt)),
  [.t 6]⟩
def c_graph_operations_11 : FnIR := ⟨14,
  (.sq (.op 0 [⟨(some 6), none, .mv (.c (.bool false))⟩] none)
  (.sq (.op 0 [⟨(some 7), none, .mv (.t 0)⟩,
    ⟨(some 8), none, .mv (.t 2)⟩,
    ⟨(some 9), none, .callV true (.c (.fn n_graph_signed [])) [(.t 7), (.t 8)]⟩,
    ⟨(some 10), none, .mv (.t 1)⟩,
    ⟨(some 11), none, .mv (.t 2)⟩,
    ⟨(some 12), none, .callV true (.c (.fn n_graph_signed [])) [(.t 10), (.t 11)]⟩,
    ⟨(some 13), none, .bin .lss (.t 9) (.t 12)⟩,
    ⟨(some 6), none, .mv (.t 13)⟩] (some [6]))
  .rt)),
  [.t 6]⟩
def c_graph_signed : FnIR := ⟨16,
  (.sq (.op 0 [⟨(some 4), none, .mv (.c (.int .i64 0))⟩] none)
  (.sq (.sq (.op 0 [⟨(some 5), none, .mv (.t 0)⟩,
    ⟨(some 6), none, .mv (.t 1)⟩,
    ⟨(some 7), none, .bin .sub (.t 6) (.c (.int .i64 1))⟩,
    ⟨(some 8), none, .bin .shr (.t 5) (.t 7)⟩,
    ⟨(some 9), none, .bin .and (.t 8) (.c (.int .i64 1))⟩,
    ⟨(some 10), none, .bin .eql (.t 9) (.c (.int .i64 1))⟩] (some [0, 1, 10]))
  (.cd (.t 10)
   (.op 0 [⟨(some 11), none, .mv (.t 0)⟩,
     ⟨(some 12), none, .mv (.t 1)⟩,
     ⟨(some 13), none, .bin .shl (.c (.int .i64 1)) (.t 12)⟩,
     ⟨(some 14), none, .bin .sub (.t 11) (.t 13)⟩,
     ⟨(some 0), none, .mv (.t 14)⟩] (some [0]))
   .sk))
  (.sq (.op 0 [⟨(some 15), none, .mv (.t 0)⟩,
    ⟨(some 4), none, .mv (.t 15)⟩] none)
  .rt))),
  [.t 4]⟩
def c_graph_operations_12 : FnIR := ⟨25,
  (.sq (.op 0 [⟨(some 6), none, .mv (.c (.bool false))⟩] none)
  (.sq (.op 0 [⟨(some 7), none, .mv (.t 1)⟩,
    ⟨(some 8), none, .ia (.t 7) (.c (.int .i64 0)) 1⟩,
    ⟨(some 9), none, .ld (.t 8) 1 false⟩,
    ⟨(some 10), none, .bin .eql (.t 9) (.c (.int .i64 1))⟩,
    ⟨(some 11), none, .mv (.t 10)⟩,
    ⟨(some 12), (some (11, true)), .mv (.t 1)⟩,
    ⟨(some 13), (some (11, true)), .ia (.t 12) (.c (.int .i64 1)) 1⟩,
    ⟨(some 14), (some (11, true)), .ld (.t 13) 1 false⟩,
    ⟨(some 15), (some (11, true)), .mv (.t 0)⟩,
    ⟨(some 16), (some (11, true)), .bin .eql (.t 14) (.t 15)⟩,
    ⟨(some 17), none, .pick (.t 11) (.t 16) (.c (.bool false))⟩,
    ⟨(some 18), none, .mv (.t 17)⟩,
    ⟨(some 19), (some (18, true)), .mv (.t 1)⟩,
    ⟨(some 20), (some (18, true)), .ia (.t 19) (.c (.int .i64 2)) 1⟩,
    ⟨(some 21), (some (18, true)), .ld (.t 20) 1 false⟩,
    ⟨(some 22), (some (18, true)), .mv (.t 0)⟩,
    ⟨(some 23), (some (18, true)), .bin .eql (.t 21) (.t 22)⟩,
    ⟨(some 24), none, .pick (.t 18) (.t 23) (.c (.bool false))⟩,
    ⟨(some 6), none, .mv (.t 24)⟩] (some [6]))
  .rt)),
  [.t 6]⟩
def c_graph_operations_13 : FnIR := ⟨17,
  (.sq (.op 0 [⟨(some 3), none, .box (.t 0) 4⟩,
    ⟨(some 6), none, .mv (.c (.int .i64 0))⟩] none)
  (.sq (.sq (.op 0 [⟨(some 7), none, .mv (.t 2)⟩,
    ⟨(some 8), none, .ia (.t 7) (.c (.int .i64 0)) 1⟩,
    ⟨(some 9), none, .ld (.t 8) 1 false⟩,
    ⟨(some 10), none, .bin .eql (.t 9) (.c (.int .i64 1))⟩] (some [2, 10]))
  (.cd (.t 10)
   (.sq (.op 0 [⟨(some 11), none, .mv (.t 2)⟩,
     ⟨(some 12), none, .ia (.t 11) (.c (.int .i64 1)) 1⟩,
     ⟨(some 13), none, .ld (.t 12) 1 false⟩,
     ⟨(some 6), none, .mv (.t 13)⟩] (some [6]))
   .rt)
   .sk))
  (.sq (.op 0 [⟨(some 14), none, .mv (.t 2)⟩,
    ⟨(some 15), none, .ia (.t 14) (.c (.int .i64 2)) 1⟩,
    ⟨(some 16), none, .ld (.t 15) 1 false⟩,
    ⟨(some 6), none, .mv (.t 16)⟩] (some [6]))
  .rt))),
  [.t 6]⟩
def c_graph_operations_14 : FnIR := ⟨16,
  (.sq (.op 0 [⟨(some 6), none, .mv (.c (.bool false))⟩] none)
  (.sq (.op 8 [⟨(some 7), none, .mv (.t 1)⟩,
    ⟨(some 8), none, .ia (.t 7) (.c (.int .i64 0)) 1⟩,
    ⟨(some 9), none, .ld (.t 8) 1 false⟩,
    ⟨(some 10), none, .mv (.t 1)⟩,
    ⟨(some 11), none, .ia (.t 10) (.c (.int .i64 1)) 1⟩,
    ⟨(some 12), none, .ld (.t 11) 1 false⟩,
    ⟨(some 13), none, .bin .add (.t 9) (.t 12)⟩,
    ⟨(some 14), none, .mv (.t 0)⟩,
    ⟨(some 15), none, .bin .eql (.t 13) (.t 14)⟩,
    ⟨(some 6), none, .mv (.t 15)⟩] (some [6]))
  .rt)),
  [.t 6]⟩
def c_graph_operations_15 : FnIR := ⟨18,
  (.sq (.op 0 [⟨(some 3), none, .box (.t 0) 4⟩,
    ⟨(some 6), none, .mv (.c (.int .i64 0))⟩] none)
  (.sq (.op 10 [⟨(some 7), none, .mv (.t 2)⟩,
    ⟨(some 8), none, .ia (.t 7) (.c (.int .i64 0)) 1⟩,
    ⟨(some 9), none, .ld (.t 8) 1 false⟩,
    ⟨(some 10), none, .mv (.t 1)⟩,
    ⟨(some 11), none, .ia (.t 10) (.c (.int .i64 1)) 1⟩,
    ⟨(some 12), none, .ld (.t 11) 1 false⟩,
    ⟨(some 13), none, .bin .shl (.t 9) (.t 12)⟩,
    ⟨(some 14), none, .mv (.t 2)⟩,
    ⟨(some 15), none, .ia (.t 14) (.c (.int .i64 1)) 1⟩,
    ⟨(some 16), none, .ld (.t 15) 1 false⟩,
    ⟨(some 17), none, .bin .or (.t 13) (.t 16)⟩,
    ⟨(some 6), none, .mv (.t 17)⟩] (some [6]))
  .rt)),
  [.t 6]⟩
def c_graph_operations_16 : FnIR := ⟨14,
  (.sq (.op 0 [⟨(some 6), none, .mv (.c (.bool false))⟩] none)
  (.sq (.op 0 [⟨(some 7), none, .mv (.t 2)⟩,
    ⟨(some 8), none, .mv (.t 0)⟩,
    ⟨(some 9), none, .bin .add (.t 7) (.t 8)⟩,
    ⟨(some 10), none, .mv (.t 1)⟩,
    ⟨(some 11), none, .ia (.t 10) (.c (.int .i64 0)) 1⟩,
    ⟨(some 12), none, .ld (.t 11) 1 false⟩,
    ⟨(some 13), none, .bin .leq (.t 9) (.t 12)⟩,
    ⟨(some 6), none, .mv (.t 13)⟩] (some [6]))
  .rt)),
  [.t 6]⟩
def c_graph_operations_17 : FnIR := ⟨16,
  (.sq (.op 0 [⟨(some 3), none, .box (.t 0) 4⟩,
    ⟨(some 6), none, .mv (.c (.int .i64 0))⟩] none)
  (.sq (.op 8 [⟨(some 7), none, .mv (.t 2)⟩,
    ⟨(some 8), none, .ia (.t 7) (.c (.int .i64 0)) 1⟩,
    ⟨(some 9), none, .ld (.t 8) 1 false⟩,
    ⟨(some 10), none, .fa (.t 3) 3⟩,
    ⟨(some 11), none, .ld (.t 10) 1 false⟩,
    ⟨(some 12), none, .bin .shr (.t 9) (.t 11)⟩,
    ⟨(some 13), none, .fa (.t 3) 1⟩,
    ⟨(some 14), none, .ld (.t 13) 1 false⟩,
    ⟨(some 15), none, .callV true (.c (.fn n_graph_mask [])) [(.t 12), (.t 14)]⟩,
    ⟨(some 6), none, .mv (.t 15)⟩] (some [6]))
  .rt)),
  [.t 6]⟩
def c_graph_extended : FnIR := ⟨12,
  (.sq (.op 0 [⟨(some 6), none, .mv (.c (.bool false))⟩] none)
  (.sq (.op 0 [⟨(some 7), none, .mv (.t 1)⟩,
    ⟨(some 8), none, .ia (.t 7) (.c (.int .i64 0)) 1⟩,
    ⟨(some 9), none, .ld (.t 8) 1 false⟩,
    ⟨(some 10), none, .mv (.t 0)⟩,
    ⟨(some 11), none, .bin .leq (.t 9) (.t 10)⟩,
    ⟨(some 6), none, .mv (.t 11)⟩] (some [6]))
  .rt)),
  [.t 6]⟩
def c_graph_operations_18 : FnIR := ⟨10,
  (.sq (.op 0 [⟨(some 3), none, .box (.t 0) 4⟩,
    ⟨(some 6), none, .mv (.c (.int .i64 0))⟩] none)
  (.sq (.op 0 [⟨(some 7), none, .mv (.t 2)⟩,
    ⟨(some 8), none, .ia (.t 7) (.c (.int .i64 0)) 1⟩,
    ⟨(some 9), none, .ld (.t 8) 1 false⟩,
    ⟨(some 6), none, .mv (.t 9)⟩] (some [6]))
  .rt)),
  [.t 6]⟩
def c_graph_operations_19 : FnIR := ⟨17,
  (.sq (.op 0 [⟨(some 3), none, .box (.t 0) 4⟩,
    ⟨(some 6), none, .mv (.c (.int .i64 0))⟩] none)
  (.sq (.op 9 [⟨(some 7), none, .mv (.t 2)⟩,
    ⟨(some 8), none, .ia (.t 7) (.c (.int .i64 0)) 1⟩,
    ⟨(some 9), none, .ld (.t 8) 1 false⟩,
    ⟨(some 10), none, .mv (.t 1)⟩,
    ⟨(some 11), none, .ia (.t 10) (.c (.int .i64 0)) 1⟩,
    ⟨(some 12), none, .ld (.t 11) 1 false⟩,
    ⟨(some 13), none, .callV true (.c (.fn n_graph_signed [])) [(.t 9), (.t 12)]⟩,
    ⟨(some 14), none, .fa (.t 3) 1⟩,
    ⟨(some 15), none, .ld (.t 14) 1 false⟩,
    ⟨(some 16), none, .callV true (.c (.fn n_graph_mask [])) [(.t 13), (.t 15)]⟩,
    ⟨(some 6), none, .mv (.t 16)⟩] (some [6]))
  .rt)),
  [.t 6]⟩
def c_graph_shifted : FnIR := ⟨12,
  (.sq (.op 0 [⟨(some 6), none, .mv (.c (.bool false))⟩] none)
  (.sq (.op 0 [⟨(some 7), none, .mv (.t 1)⟩,
    ⟨(some 8), none, .ia (.t 7) (.c (.int .i64 0)) 1⟩,
    ⟨(some 9), none, .ld (.t 8) 1 false⟩,
    ⟨(some 10), none, .mv (.t 0)⟩,
    ⟨(some 11), none, .bin .eql (.t 9) (.t 10)⟩,
    ⟨(some 6), none, .mv (.t 11)⟩] (some [6]))
  .rt)),
  [.t 6]⟩
def c_graph_operations_20 : FnIR := ⟨20,
  (.sq (.op 0 [⟨(some 3), none, .box (.t 0) 4⟩,
    ⟨(some 6), none, .mv (.c (.int .i64 0))⟩] none)
  (.sq (.op 12 [⟨(some 7), none, .mv (.t 2)⟩,
    ⟨(some 8), none, .ia (.t 7) (.c (.int .i64 0)) 1⟩,
    ⟨(some 9), none, .ld (.t 8) 1 false⟩,
    ⟨(some 10), none, .mv (.t 2)⟩,
    ⟨(some 11), none, .ia (.t 10) (.c (.int .i64 1)) 1⟩,
    ⟨(some 12), none, .ld (.t 11) 1 false⟩,
    ⟨(some 13), none, .fa (.t 3) 1⟩,
    ⟨(some 14), none, .ld (.t 13) 1 false⟩,
    ⟨(some 15), none, .mm false (.t 12) (.t 14)⟩,
    ⟨(some 16), none, .bin .shl (.t 9) (.t 15)⟩,
    ⟨(some 17), none, .fa (.t 3) 1⟩,
    ⟨(some 18), none, .ld (.t 17) 1 false⟩,
    ⟨(some 19), none, .callV true (.c (.fn n_graph_mask [])) [(.t 16), (.t 18)]⟩,
    ⟨(some 6), none, .mv (.t 19)⟩] (some [6]))
  .rt)),
  [.t 6]⟩
def c_graph_operations_21 : FnIR := ⟨17,
  (.sq (.op 0 [⟨(some 3), none, .box (.t 0) 4⟩,
    ⟨(some 6), none, .mv (.c (.int .i64 0))⟩] none)
  (.sq (.op 9 [⟨(some 7), none, .mv (.t 2)⟩,
    ⟨(some 8), none, .ia (.t 7) (.c (.int .i64 0)) 1⟩,
    ⟨(some 9), none, .ld (.t 8) 1 false⟩,
    ⟨(some 10), none, .mv (.t 2)⟩,
    ⟨(some 11), none, .ia (.t 10) (.c (.int .i64 1)) 1⟩,
    ⟨(some 12), none, .ld (.t 11) 1 false⟩,
    ⟨(some 13), none, .fa (.t 3) 1⟩,
    ⟨(some 14), none, .ld (.t 13) 1 false⟩,
    ⟨(some 15), none, .mm false (.t 12) (.t 14)⟩,
    ⟨(some 16), none, .bin .shr (.t 9) (.t 15)⟩,
    ⟨(some 6), none, .mv (.t 16)⟩] (some [6]))
  .rt)),
  [.t 6]⟩
def b_slices_IndexFunc_int_int_L0 : IR :=
 (.sq (.op 0 [⟨(some 9), none, .bin .lss (.t 8) (.t 7)⟩] none)
 (.sq (.cd (.t 9)
  .sk
  (.ex 0))
 (.sq (.bk 1 (.sq (.op 0 [⟨(some 10), none, .mv (.t 8)⟩,
    ⟨(some 5), none, .mv (.t 10)⟩] none)
  (.sq (.op 0 [⟨(some 11), none, .mv (.t 1)⟩,
    ⟨(some 12), none, .mv (.t 0)⟩,
    ⟨(some 13), none, .mv (.t 5)⟩,
    ⟨(some 14), none, .ia (.t 12) (.t 13) 1⟩,
    ⟨(some 15), none, .ld (.t 14) 1 false⟩,
    ⟨(some 16), none, .callV true (.t 11) [(.t 15)]⟩] (some [0, 1, 5, 7, 8, 16]))
  (.cd (.t 16)
   (.sq (.op 0 [⟨(some 17), none, .mv (.t 5)⟩,
     ⟨(some 4), none, .mv (.t 17)⟩] none)
   .rt)
   .sk))))
 (.op 0 [⟨(some 18), none, .bin .add (.t 8) (.c (.int .i64 1))⟩,
   ⟨(some 8), none, .mv (.t 18)⟩] none))))
def c_slices_IndexFunc_int_int_L0 : IR := b_slices_IndexFunc_int_int_L0
theorem u_slices_IndexFunc_int_int_L0 {C : Call} {L : Loop} {π : Id} {k0 : List Id} {e : Env} {s : Sto} : evC C L π k0 c_slices_IndexFunc_int_int_L0 e s = evC C L π k0 b_slices_IndexFunc_int_int_L0 e s := rfl
def c_slices_IndexFunc_int_int : FnIR := ⟨19,
  (.sq (.op 0 [⟨(some 4), none, .mv (.c (.int .i64 0))⟩] none)
  (.sq (.sq (.op 0 [⟨(some 6), none, .mv (.t 0)⟩,
    ⟨(some 7), none, .len false (.t 6)⟩,
    ⟨(some 8), none, .mv (.c (.int .i64 0))⟩] none)
  (.kp [] [4] (.bk 0 (.lp [] [0, 1, 7, 8] c_slices_IndexFunc_int_int_L0))))
  (.sq (.op 0 [⟨(some 4), none, .mv (.c (.int .i64 (-1)))⟩] none)
  .rt))),
  [.t 4]⟩
def c_graph_namedErr_1 : FnIR := ⟨10,
  (.sq (.op 0 [⟨(some 3), none, .mv (.c (.bool false))⟩] none)
  (.sq (.op 0 [⟨(some 4), none, .mv (.t 0)⟩,
    ⟨(some 5), none, .ld (.t 1) 1 false⟩,
    ⟨(some 6), none, .len false (.t 5)⟩,
    ⟨(some 7), none, .bin .sub (.t 6) (.c (.int .i64 1))⟩,
    ⟨(some 8), none, .callV true (.c (.fn n_graph_within [])) [(.t 4), (.c (.int .i64 0)), (.t 7)]⟩,
    ⟨(some 9), none, .un .not (.t 8)⟩,
    ⟨(some 3), none, .mv (.t 9)⟩] (some [3]))
  .rt)),
  [.t 3]⟩
def c_slices_Backward_api_Node_api_Node : FnIR := ⟨4,
  (.sq (.op 0 [⟨(some 1), none, .box (.t 0) 1⟩,
    ⟨(some 2), none, .mv (.c (.nilf))⟩] none)
  (.sq (.op 0 [⟨(some 3), none, .mkf n_slices_Backward_api_Node_api_Node_1 [(.t 1)]⟩,
    ⟨(some 2), none, .mv (.t 3)⟩] none)
  .rt)),
  [.t 2]⟩
def c_graph_truth : FnIR := ⟨4,
  (.sq (.op 0 [⟨(some 2), none, .mv (.c (.int .i64 0))⟩] none)
  (.sq (.sq (.op 0 [⟨(some 3), none, .mv (.t 0)⟩] none)
  (.cd (.t 3)
   (.sq (.op 0 [⟨(some 2), none, .mv (.c (.int .i64 1))⟩] none)
   .rt)
   .sk))
  (.sq (.op 0 [⟨(some 2), none, .mv (.c (.int .i64 0))⟩] none)
  .rt))),
  [.t 2]⟩

end Go.Proofs.YtglelclmlkeheabGreatDoor.V
