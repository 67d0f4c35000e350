/- The functions of the program in the small language. Printed by a program of this work. -/
import Derived.Test.YtafomlbikcphgabGreatK4

set_option linter.unusedSimpArgs false
set_option linter.unusedVariables false

/- The functions of the program in the small language. Printed by a program of this work. -/
namespace Go.Proofs.YtafomlbikcphgabGreat.V
open Go (IntKind BinOp UnOp)

def n_main_main : Nat := 0
def n_gosem_cut : Nat := 1
def n_gosem_cut_init : Nat := 2
def n_ratchetlaw28_TimingUses : Nat := 3
def n_ratchetlaw28_awake : Nat := 4
def n_ratchetlaw28_Few : Nat := 5
def n_ratchetlaw28_copied : Nat := 6
def n_ratchetref28_AllErr : Nat := 7
def n_ratchetlaw28_light : Nat := 8
def n_ratchetref28_Paths : Nat := 9
def n_timing_UsedAt : Nat := 10
def n_ratchetbase_CopyInts : Nat := 11
def n_timing_TruePath : Nat := 12
def n_ratchetref28_NetErr : Nat := 13
def n_ratchetref28_PathErr : Nat := 14
def n_ratchetref28_BitsErr : Nat := 15
def n_ratchetref28_UsedAt : Nat := 16
def n_ratchetbase_Ints : Nat := 17
def n_ratchetref28_TimesErr : Nat := 18
def n_ratchetref28_TrueErr : Nat := 19
def n_ratchetref28_True : Nat := 20
def n_ratchetref28_Critical : Nat := 21
def n_ratchetref28_Delay : Nat := 22
def n_timing_ArrivalsOf : Nat := 23
def n_ratchetlaw28_Library : Nat := 24
def n_ratchetlaw28_Net : Nat := 25
def n_ratchetlaw28_Model : Nat := 26
def n_timing_SlacksOf : Nat := 27
def n_timing_CriticalPath : Nat := 28
def n_ratchetref27_CopyLibrary : Nat := 29
def n_ratchetref27_CopyNet : Nat := 30
def n_ratchetref28_ModelErr : Nat := 31
def n_ratchetref28_longer : Nat := 32
def n_timing_open : Nat := 33
def n_timing_net_pathErr : Nat := 34
def n_timing_first : Nat := 35
def n_timing_unless : Nat := 36
def n_timing_net_used : Nat := 37
def n_timing_openTimes : Nat := 38
def n_timing_net_count : Nat := 39
def n_timing_net_all : Nat := 40
def n_timing_timed_along : Nat := 41
def n_slices_Clone_int_int : Nat := 42
def n_ratchetref27_NetErr : Nat := 43
def n_ratchetbase_Within : Nat := 44
def n_ratchetref28_Points : Nat := 45
def n_ratchetbase_Has : Nat := 46
def n_ratchetbase_Power : Nat := 47
def n_ratchetref28_IsUsed : Nat := 48
def n_ratchetref28_Delays : Nat := 49
def n_timing_timed_arrivals : Nat := 50
def n_timing_timesErr : Nat := 51
def n_timing_timed_required : Nat := 52
def n_timing_timed_rests : Nat := 53
def n_timing_net_points : Nat := 54
def n_timing_net_has : Nat := 55
def n_timing_timed_delay : Nat := 56
def n_mapping_CheckNet : Nat := 57
def n_timing_each_int : Nat := 58
def n_timing_net_pathErr_1 : Nat := 59
def n_timing_within : Nat := 60
def n_timing_net_isCell : Nat := 61
def n_timing_net_isEnd : Nat := 62
def n_timing_net_isUsed : Nat := 63
def n_timing_net_values : Nat := 64
def n_timing_openModel : Nat := 65
def n_timing_net_paths : Nat := 66
def n_ratchetref27_LibraryErr : Nat := 67
def n_ratchetref27_CheckNet : Nat := 68
def n_ratchetref27_Sources : Nat := 69
def n_ratchetref27_Value : Nat := 70
def n_ratchetref28_load : Nat := 71
def n_timing_greatest : Nat := 72
def n_slices_ContainsFunc_int_int : Nat := 73
def n_timing_timesErr_1 : Nat := 74
def n_slices_Repeat_int_int : Nat := 75
def n_timing_timed_required_1 : Nat := 76
def n_timing_pointOf : Nat := 77
def n_slices_Backward_api_MapPlaced_api_MapPlaced : Nat := 78
def n_timing_net_cell : Nat := 79
def n_slices_Contains_int_int : Nat := 80
def n_mapping_CheckLibrary : Nat := 81
def n_mapping_first : Nat := 82
def n_mapping_unless : Nat := 83
def n_mapping_within : Nat := 84
def n_mapping_CheckNet_1 : Nat := 85
def n_mapping_CheckNet_1_1 : Nat := 86
def n_mapping_each_api_MapPlaced : Nat := 87
def n_mapping_CheckNet_2 : Nat := 88
def n_mapping_each_int : Nat := 89
def n_mapping_CheckNet_3 : Nat := 90
def n_timing_net_output : Nat := 91
def n_timing_net_isUsed_1 : Nat := 92
def n_timing_net_values_1 : Nat := 93
def n_timing_CheckModel : Nat := 94
def n_timing_openModel_1 : Nat := 95
def n_slices_Clip_int_int : Nat := 96
def n_ratchetref27_CheckLibrary : Nat := 97
def n_ratchetref04_Number : Nat := 98
def n_ratchetbase_Bit : Nat := 99
def n_slices_IndexFunc_int_int : Nat := 100
def n_bits_Mul : Nat := 101
def n_slices_Backward_api_MapPlaced_api_MapPlaced_1 : Nat := 102
def n_slices_Index_int_int : Nat := 103
def n_mapping_each_api_MapCell : Nat := 104
def n_mapping_CheckLibrary_1 : Nat := 105
def n_mapping_cellErr : Nat := 106
def n_timing_CheckModel_1 : Nat := 107
def n_timing_CheckModel_2 : Nat := 108
def n_ratchetbase_IsName : Nat := 109
def n_bits_Mul32 : Nat := 110
def n_bits_Mul64 : Nat := 111
def n_mapping_cellErr_1 : Nat := 112
def n_slices_ContainsFunc_api_MapCell_api_MapCell : Nat := 113
def n_mapping_cellErr_2 : Nat := 114
def n_mapping_isName : Nat := 115
def n_slices_IndexFunc_api_MapCell_api_MapCell : Nat := 116
def n_runtime_boundsError_Error : Nat := 117
def n_runtime_boundsError_RuntimeError : Nat := 118
def n_runtime_errorString_Error : Nat := 119
def n_runtime_errorString_RuntimeError : Nat := 120
def n_runtime_plainError_Error : Nat := 121
def n_runtime_plainError_RuntimeError : Nat := 122
def n_runtime_errorAddressString_Error : Nat := 123
def n_runtime_errorAddressString_RuntimeError : Nat := 124
def n_runtime_TypeAssertionError_Error : Nat := 125
def n_runtime_TypeAssertionError_RuntimeError : Nat := 126
def n_runtime_PanicNilError_Error : Nat := 127
def n_runtime_PanicNilError_RuntimeError : Nat := 128
def n_abi_Type_Align : Nat := 129
def n_runtime_maps_unhashableTypeError_Error : Nat := 130
def n_runtime_maps_unhashableTypeError_RuntimeError : Nat := 131
def n_abi_Kind_String : Nat := 132
@[simp] theorem y_main_main : (n_main_main = yieldF) = False := eq_false (by decide)
@[simp] theorem y_gosem_cut : (n_gosem_cut = yieldF) = False := eq_false (by decide)
@[simp] theorem y_gosem_cut_init : (n_gosem_cut_init = yieldF) = False := eq_false (by decide)
@[simp] theorem y_ratchetlaw28_TimingUses : (n_ratchetlaw28_TimingUses = yieldF) = False := eq_false (by decide)
@[simp] theorem y_ratchetlaw28_awake : (n_ratchetlaw28_awake = yieldF) = False := eq_false (by decide)
@[simp] theorem y_ratchetlaw28_Few : (n_ratchetlaw28_Few = yieldF) = False := eq_false (by decide)
@[simp] theorem y_ratchetlaw28_copied : (n_ratchetlaw28_copied = yieldF) = False := eq_false (by decide)
@[simp] theorem y_ratchetref28_AllErr : (n_ratchetref28_AllErr = yieldF) = False := eq_false (by decide)
@[simp] theorem y_ratchetlaw28_light : (n_ratchetlaw28_light = yieldF) = False := eq_false (by decide)
@[simp] theorem y_ratchetref28_Paths : (n_ratchetref28_Paths = yieldF) = False := eq_false (by decide)
@[simp] theorem y_timing_UsedAt : (n_timing_UsedAt = yieldF) = False := eq_false (by decide)
@[simp] theorem y_ratchetbase_CopyInts : (n_ratchetbase_CopyInts = yieldF) = False := eq_false (by decide)
@[simp] theorem y_timing_TruePath : (n_timing_TruePath = yieldF) = False := eq_false (by decide)
@[simp] theorem y_ratchetref28_NetErr : (n_ratchetref28_NetErr = yieldF) = False := eq_false (by decide)
@[simp] theorem y_ratchetref28_PathErr : (n_ratchetref28_PathErr = yieldF) = False := eq_false (by decide)
@[simp] theorem y_ratchetref28_BitsErr : (n_ratchetref28_BitsErr = yieldF) = False := eq_false (by decide)
@[simp] theorem y_ratchetref28_UsedAt : (n_ratchetref28_UsedAt = yieldF) = False := eq_false (by decide)
@[simp] theorem y_ratchetbase_Ints : (n_ratchetbase_Ints = yieldF) = False := eq_false (by decide)
@[simp] theorem y_ratchetref28_TimesErr : (n_ratchetref28_TimesErr = yieldF) = False := eq_false (by decide)
@[simp] theorem y_ratchetref28_TrueErr : (n_ratchetref28_TrueErr = yieldF) = False := eq_false (by decide)
@[simp] theorem y_ratchetref28_True : (n_ratchetref28_True = yieldF) = False := eq_false (by decide)
@[simp] theorem y_ratchetref28_Critical : (n_ratchetref28_Critical = yieldF) = False := eq_false (by decide)
@[simp] theorem y_ratchetref28_Delay : (n_ratchetref28_Delay = yieldF) = False := eq_false (by decide)
@[simp] theorem y_timing_ArrivalsOf : (n_timing_ArrivalsOf = yieldF) = False := eq_false (by decide)
@[simp] theorem y_ratchetlaw28_Library : (n_ratchetlaw28_Library = yieldF) = False := eq_false (by decide)
@[simp] theorem y_ratchetlaw28_Net : (n_ratchetlaw28_Net = yieldF) = False := eq_false (by decide)
@[simp] theorem y_ratchetlaw28_Model : (n_ratchetlaw28_Model = yieldF) = False := eq_false (by decide)
@[simp] theorem y_timing_SlacksOf : (n_timing_SlacksOf = yieldF) = False := eq_false (by decide)
@[simp] theorem y_timing_CriticalPath : (n_timing_CriticalPath = yieldF) = False := eq_false (by decide)
@[simp] theorem y_ratchetref27_CopyLibrary : (n_ratchetref27_CopyLibrary = yieldF) = False := eq_false (by decide)
@[simp] theorem y_ratchetref27_CopyNet : (n_ratchetref27_CopyNet = yieldF) = False := eq_false (by decide)
@[simp] theorem y_ratchetref28_ModelErr : (n_ratchetref28_ModelErr = yieldF) = False := eq_false (by decide)
@[simp] theorem y_ratchetref28_longer : (n_ratchetref28_longer = yieldF) = False := eq_false (by decide)
@[simp] theorem y_timing_open : (n_timing_open = yieldF) = False := eq_false (by decide)
@[simp] theorem y_timing_net_pathErr : (n_timing_net_pathErr = yieldF) = False := eq_false (by decide)
@[simp] theorem y_timing_first : (n_timing_first = yieldF) = False := eq_false (by decide)
@[simp] theorem y_timing_unless : (n_timing_unless = yieldF) = False := eq_false (by decide)
@[simp] theorem y_timing_net_used : (n_timing_net_used = yieldF) = False := eq_false (by decide)
@[simp] theorem y_timing_openTimes : (n_timing_openTimes = yieldF) = False := eq_false (by decide)
@[simp] theorem y_timing_net_count : (n_timing_net_count = yieldF) = False := eq_false (by decide)
@[simp] theorem y_timing_net_all : (n_timing_net_all = yieldF) = False := eq_false (by decide)
@[simp] theorem y_timing_timed_along : (n_timing_timed_along = yieldF) = False := eq_false (by decide)
@[simp] theorem y_slices_Clone_int_int : (n_slices_Clone_int_int = yieldF) = False := eq_false (by decide)
@[simp] theorem y_ratchetref27_NetErr : (n_ratchetref27_NetErr = yieldF) = False := eq_false (by decide)
@[simp] theorem y_ratchetbase_Within : (n_ratchetbase_Within = yieldF) = False := eq_false (by decide)
@[simp] theorem y_ratchetref28_Points : (n_ratchetref28_Points = yieldF) = False := eq_false (by decide)
@[simp] theorem y_ratchetbase_Has : (n_ratchetbase_Has = yieldF) = False := eq_false (by decide)
@[simp] theorem y_ratchetbase_Power : (n_ratchetbase_Power = yieldF) = False := eq_false (by decide)
@[simp] theorem y_ratchetref28_IsUsed : (n_ratchetref28_IsUsed = yieldF) = False := eq_false (by decide)
@[simp] theorem y_ratchetref28_Delays : (n_ratchetref28_Delays = yieldF) = False := eq_false (by decide)
@[simp] theorem y_timing_timed_arrivals : (n_timing_timed_arrivals = yieldF) = False := eq_false (by decide)
@[simp] theorem y_timing_timesErr : (n_timing_timesErr = yieldF) = False := eq_false (by decide)
@[simp] theorem y_timing_timed_required : (n_timing_timed_required = yieldF) = False := eq_false (by decide)
@[simp] theorem y_timing_timed_rests : (n_timing_timed_rests = yieldF) = False := eq_false (by decide)
@[simp] theorem y_timing_net_points : (n_timing_net_points = yieldF) = False := eq_false (by decide)
@[simp] theorem y_timing_net_has : (n_timing_net_has = yieldF) = False := eq_false (by decide)
@[simp] theorem y_timing_timed_delay : (n_timing_timed_delay = yieldF) = False := eq_false (by decide)
@[simp] theorem y_mapping_CheckNet : (n_mapping_CheckNet = yieldF) = False := eq_false (by decide)
@[simp] theorem y_timing_each_int : (n_timing_each_int = yieldF) = False := eq_false (by decide)
@[simp] theorem y_timing_net_pathErr_1 : (n_timing_net_pathErr_1 = yieldF) = False := eq_false (by decide)
@[simp] theorem y_timing_within : (n_timing_within = yieldF) = False := eq_false (by decide)
@[simp] theorem y_timing_net_isCell : (n_timing_net_isCell = yieldF) = False := eq_false (by decide)
@[simp] theorem y_timing_net_isEnd : (n_timing_net_isEnd = yieldF) = False := eq_false (by decide)
@[simp] theorem y_timing_net_isUsed : (n_timing_net_isUsed = yieldF) = False := eq_false (by decide)
@[simp] theorem y_timing_net_values : (n_timing_net_values = yieldF) = False := eq_false (by decide)
@[simp] theorem y_timing_openModel : (n_timing_openModel = yieldF) = False := eq_false (by decide)
@[simp] theorem y_timing_net_paths : (n_timing_net_paths = yieldF) = False := eq_false (by decide)
@[simp] theorem y_ratchetref27_LibraryErr : (n_ratchetref27_LibraryErr = yieldF) = False := eq_false (by decide)
@[simp] theorem y_ratchetref27_CheckNet : (n_ratchetref27_CheckNet = yieldF) = False := eq_false (by decide)
@[simp] theorem y_ratchetref27_Sources : (n_ratchetref27_Sources = yieldF) = False := eq_false (by decide)
@[simp] theorem y_ratchetref27_Value : (n_ratchetref27_Value = yieldF) = False := eq_false (by decide)
@[simp] theorem y_ratchetref28_load : (n_ratchetref28_load = yieldF) = False := eq_false (by decide)
@[simp] theorem y_timing_greatest : (n_timing_greatest = yieldF) = False := eq_false (by decide)
@[simp] theorem y_slices_ContainsFunc_int_int : (n_slices_ContainsFunc_int_int = yieldF) = False := eq_false (by decide)
@[simp] theorem y_timing_timesErr_1 : (n_timing_timesErr_1 = yieldF) = False := eq_false (by decide)
@[simp] theorem y_slices_Repeat_int_int : (n_slices_Repeat_int_int = yieldF) = False := eq_false (by decide)
@[simp] theorem y_timing_timed_required_1 : (n_timing_timed_required_1 = yieldF) = False := eq_false (by decide)
@[simp] theorem y_timing_pointOf : (n_timing_pointOf = yieldF) = False := eq_false (by decide)
@[simp] theorem y_slices_Backward_api_MapPlaced_api_MapPlaced : (n_slices_Backward_api_MapPlaced_api_MapPlaced = yieldF) = False := eq_false (by decide)
@[simp] theorem y_timing_net_cell : (n_timing_net_cell = yieldF) = False := eq_false (by decide)
@[simp] theorem y_slices_Contains_int_int : (n_slices_Contains_int_int = yieldF) = False := eq_false (by decide)
@[simp] theorem y_mapping_CheckLibrary : (n_mapping_CheckLibrary = yieldF) = False := eq_false (by decide)
@[simp] theorem y_mapping_first : (n_mapping_first = yieldF) = False := eq_false (by decide)
@[simp] theorem y_mapping_unless : (n_mapping_unless = yieldF) = False := eq_false (by decide)
@[simp] theorem y_mapping_within : (n_mapping_within = yieldF) = False := eq_false (by decide)
@[simp] theorem y_mapping_CheckNet_1 : (n_mapping_CheckNet_1 = yieldF) = False := eq_false (by decide)
@[simp] theorem y_mapping_CheckNet_1_1 : (n_mapping_CheckNet_1_1 = yieldF) = False := eq_false (by decide)
@[simp] theorem y_mapping_each_api_MapPlaced : (n_mapping_each_api_MapPlaced = yieldF) = False := eq_false (by decide)
@[simp] theorem y_mapping_CheckNet_2 : (n_mapping_CheckNet_2 = yieldF) = False := eq_false (by decide)
@[simp] theorem y_mapping_each_int : (n_mapping_each_int = yieldF) = False := eq_false (by decide)
@[simp] theorem y_mapping_CheckNet_3 : (n_mapping_CheckNet_3 = yieldF) = False := eq_false (by decide)
@[simp] theorem y_timing_net_output : (n_timing_net_output = yieldF) = False := eq_false (by decide)
@[simp] theorem y_timing_net_isUsed_1 : (n_timing_net_isUsed_1 = yieldF) = False := eq_false (by decide)
@[simp] theorem y_timing_net_values_1 : (n_timing_net_values_1 = yieldF) = False := eq_false (by decide)
@[simp] theorem y_timing_CheckModel : (n_timing_CheckModel = yieldF) = False := eq_false (by decide)
@[simp] theorem y_timing_openModel_1 : (n_timing_openModel_1 = yieldF) = False := eq_false (by decide)
@[simp] theorem y_slices_Clip_int_int : (n_slices_Clip_int_int = yieldF) = False := eq_false (by decide)
@[simp] theorem y_ratchetref27_CheckLibrary : (n_ratchetref27_CheckLibrary = yieldF) = False := eq_false (by decide)
@[simp] theorem y_ratchetref04_Number : (n_ratchetref04_Number = yieldF) = False := eq_false (by decide)
@[simp] theorem y_ratchetbase_Bit : (n_ratchetbase_Bit = yieldF) = False := eq_false (by decide)
@[simp] theorem y_slices_IndexFunc_int_int : (n_slices_IndexFunc_int_int = yieldF) = False := eq_false (by decide)
@[simp] theorem y_bits_Mul : (n_bits_Mul = yieldF) = False := eq_false (by decide)
@[simp] theorem y_slices_Backward_api_MapPlaced_api_MapPlaced_1 : (n_slices_Backward_api_MapPlaced_api_MapPlaced_1 = yieldF) = False := eq_false (by decide)
@[simp] theorem y_slices_Index_int_int : (n_slices_Index_int_int = yieldF) = False := eq_false (by decide)
@[simp] theorem y_mapping_each_api_MapCell : (n_mapping_each_api_MapCell = yieldF) = False := eq_false (by decide)
@[simp] theorem y_mapping_CheckLibrary_1 : (n_mapping_CheckLibrary_1 = yieldF) = False := eq_false (by decide)
@[simp] theorem y_mapping_cellErr : (n_mapping_cellErr = yieldF) = False := eq_false (by decide)
@[simp] theorem y_timing_CheckModel_1 : (n_timing_CheckModel_1 = yieldF) = False := eq_false (by decide)
@[simp] theorem y_timing_CheckModel_2 : (n_timing_CheckModel_2 = yieldF) = False := eq_false (by decide)
@[simp] theorem y_ratchetbase_IsName : (n_ratchetbase_IsName = yieldF) = False := eq_false (by decide)
@[simp] theorem y_bits_Mul32 : (n_bits_Mul32 = yieldF) = False := eq_false (by decide)
@[simp] theorem y_bits_Mul64 : (n_bits_Mul64 = yieldF) = False := eq_false (by decide)
@[simp] theorem y_mapping_cellErr_1 : (n_mapping_cellErr_1 = yieldF) = False := eq_false (by decide)
@[simp] theorem y_slices_ContainsFunc_api_MapCell_api_MapCell : (n_slices_ContainsFunc_api_MapCell_api_MapCell = yieldF) = False := eq_false (by decide)
@[simp] theorem y_mapping_cellErr_2 : (n_mapping_cellErr_2 = yieldF) = False := eq_false (by decide)
@[simp] theorem y_mapping_isName : (n_mapping_isName = yieldF) = False := eq_false (by decide)
@[simp] theorem y_slices_IndexFunc_api_MapCell_api_MapCell : (n_slices_IndexFunc_api_MapCell_api_MapCell = yieldF) = False := eq_false (by decide)
@[simp] theorem y_runtime_boundsError_Error : (n_runtime_boundsError_Error = yieldF) = False := eq_false (by decide)
@[simp] theorem y_runtime_boundsError_RuntimeError : (n_runtime_boundsError_RuntimeError = yieldF) = False := eq_false (by decide)
@[simp] theorem y_runtime_errorString_Error : (n_runtime_errorString_Error = yieldF) = False := eq_false (by decide)
@[simp] theorem y_runtime_errorString_RuntimeError : (n_runtime_errorString_RuntimeError = yieldF) = False := eq_false (by decide)
@[simp] theorem y_runtime_plainError_Error : (n_runtime_plainError_Error = yieldF) = False := eq_false (by decide)
@[simp] theorem y_runtime_plainError_RuntimeError : (n_runtime_plainError_RuntimeError = yieldF) = False := eq_false (by decide)
@[simp] theorem y_runtime_errorAddressString_Error : (n_runtime_errorAddressString_Error = yieldF) = False := eq_false (by decide)
@[simp] theorem y_runtime_errorAddressString_RuntimeError : (n_runtime_errorAddressString_RuntimeError = yieldF) = False := eq_false (by decide)
@[simp] theorem y_runtime_TypeAssertionError_Error : (n_runtime_TypeAssertionError_Error = yieldF) = False := eq_false (by decide)
@[simp] theorem y_runtime_TypeAssertionError_RuntimeError : (n_runtime_TypeAssertionError_RuntimeError = yieldF) = False := eq_false (by decide)
@[simp] theorem y_runtime_PanicNilError_Error : (n_runtime_PanicNilError_Error = yieldF) = False := eq_false (by decide)
@[simp] theorem y_runtime_PanicNilError_RuntimeError : (n_runtime_PanicNilError_RuntimeError = yieldF) = False := eq_false (by decide)
@[simp] theorem y_abi_Type_Align : (n_abi_Type_Align = yieldF) = False := eq_false (by decide)
@[simp] theorem y_runtime_maps_unhashableTypeError_Error : (n_runtime_maps_unhashableTypeError_Error = yieldF) = False := eq_false (by decide)
@[simp] theorem y_runtime_maps_unhashableTypeError_RuntimeError : (n_runtime_maps_unhashableTypeError_RuntimeError = yieldF) = False := eq_false (by decide)
@[simp] theorem y_abi_Kind_String : (n_abi_Kind_String = yieldF) = False := eq_false (by decide)
def t_int : Nat := 3
def t_L_int : Nat := 24
def t_api_Errno : Nat := 38
def t_api_MapPlaced : Nat := 61
def t_api_MapCell : Nat := 86

def c_gosem_cut_init : FnIR := ⟨1,
  (.op 0 [⟨(some 0), none, .callV true (.c (.fn n_gosem_cut [])) []⟩] none),
  []⟩
def c_ratchetlaw28_TimingUses : FnIR := ⟨236,
  (.sq (.op 0 [⟨(some 3), none, .box (.t 0) 9⟩,
    ⟨(some 6), none, .mv (.c (.bool false))⟩] none)
  (.sq (.sq (.op 0 [⟨(some 23), none, .callV true (.c (.fn n_ratchetlaw28_awake [])) []⟩,
    ⟨(some 24), none, .un .not (.t 23)⟩] none)
  (.cd (.t 24)
   (.sq (.op 0 [⟨(some 6), none, .mv (.c (.bool false))⟩] none)
   .rt)
   .sk))
  (.sq (.sq (.op 0 [⟨(some 25), none, .ld (.t 3) 9 true⟩,
    ⟨(some 26), none, .callV true (.c (.fn n_ratchetlaw28_Few [])) [(.t 25)]⟩,
    ⟨(some 27), none, .un .not (.t 26)⟩,
    ⟨(some 28), none, .mv (.t 27)⟩,
    ⟨(some 29), (some (28, false)), .mv (.t 1)⟩,
    ⟨(some 30), (some (28, false)), .len false (.t 29)⟩,
    ⟨(some 31), (some (28, false)), .bin .gtr (.t 30) (.c (.int .i64 42))⟩,
    ⟨(some 32), none, .pick (.t 28) (.c (.bool true)) (.t 31)⟩,
    ⟨(some 33), none, .mv (.t 32)⟩,
    ⟨(some 34), (some (33, false)), .mv (.t 2)⟩,
    ⟨(some 35), (some (33, false)), .len false (.t 34)⟩,
    ⟨(some 36), (some (33, false)), .bin .gtr (.t 35) (.c (.int .i64 12))⟩,
    ⟨(some 37), none, .pick (.t 33) (.c (.bool true)) (.t 36)⟩] (some [1, 2, 3, 37]))
  (.cd (.t 37)
   (.sq (.op 0 [⟨(some 6), none, .mv (.c (.bool true))⟩] none)
   .rt)
   .sk))
  (.sq (.op 0 [⟨(some 39), none, .ld (.t 3) 9 true⟩,
    ⟨(some 40), none, .callV true (.c (.fn n_ratchetlaw28_copied [])) [(.t 39)]⟩,
    ⟨(some 38), none, .mv (.t 40)⟩,
    ⟨(some 41), none, .ext (.t 38) 0⟩,
    ⟨(some 42), none, .ext (.t 38) 1⟩,
    ⟨(some 43), none, .ext (.t 38) 2⟩,
    ⟨(some 8), none, .alloc [.int .i64 0, .sl 2 (some true) [], .sl 1 (some true) []]⟩,
    ⟨(some 9), none, .alloc [.int .i64 0, .int .i64 0, .int .i64 0, .int .i64 0, .int .i64 0]⟩,
    ⟨(some 7), none, .mv (.t 41)⟩,
    ⟨none, none, .st (.t 8) (.t 42) 3⟩,
    ⟨none, none, .st (.t 9) (.t 43) 5⟩] (some [1, 2, 3, 7, 8, 9]))
  (.sq (.op 0 [⟨(some 44), none, .mv (.t 7)⟩,
    ⟨(some 45), none, .ld (.t 8) 3 true⟩,
    ⟨(some 46), none, .ld (.t 9) 5 true⟩,
    ⟨(some 47), none, .callV true (.c (.fn n_ratchetref28_AllErr [])) [(.t 44), (.t 45), (.t 46)]⟩,
    ⟨(some 10), none, .mv (.t 47)⟩] (some [1, 2, 3, 7, 8, 9, 10]))
  (.sq (.sq (.op 0 [⟨(some 48), none, .mv (.t 10)⟩,
    ⟨(some 49), none, .bin .eql (.t 48) (.c (.int .i64 0))⟩,
    ⟨(some 50), none, .mv (.t 49)⟩,
    ⟨(some 51), (some (50, true)), .ld (.t 3) 9 true⟩,
    ⟨(some 52), (some (50, true)), .callV true (.c (.fn n_ratchetlaw28_light [])) [(.t 51)]⟩,
    ⟨(some 53), (some (50, true)), .un .not (.t 52)⟩,
    ⟨(some 54), (some (50, true)), .mv (.t 53)⟩,
    ⟨(some 55), (some (54, false)), .fa (.t 8) 0⟩,
    ⟨(some 56), (some (54, false)), .ld (.t 55) 1 false⟩,
    ⟨(some 57), (some (54, false)), .bin .gtr (.t 56) (.c (.int .i64 6))⟩,
    ⟨(some 58), (some (54, false)), .mv (.t 57)⟩,
    ⟨(some 59), (some (58, true)), .fa (.t 8) 0⟩,
    ⟨(some 60), (some (58, true)), .ld (.t 59) 1 false⟩,
    ⟨(some 61), (some (58, true)), .bin .leq (.t 60) (.c (.int .i64 10))⟩,
    ⟨(some 62), (some (54, false)), .pick (.t 58) (.t 61) (.c (.bool false))⟩,
    ⟨(some 63), (some (50, true)), .pick (.t 54) (.c (.bool true)) (.t 62)⟩,
    ⟨(some 64), (some (50, true)), .mv (.t 63)⟩,
    ⟨(some 65), (some (64, false)), .ld (.t 8) 3 true⟩,
    ⟨(some 66), (some (64, false)), .callV false (.c (.fn n_ratchetref28_Paths [])) [(.t 65), (.c (.int .i64 60))]⟩,
    ⟨(some 67), (some (64, false)), .len false (.t 66)⟩,
    ⟨(some 68), (some (64, false)), .bin .gtr (.t 67) (.c (.int .i64 60))⟩,
    ⟨(some 69), (some (50, true)), .pick (.t 64) (.c (.bool true)) (.t 68)⟩,
    ⟨(some 70), none, .pick (.t 50) (.t 69) (.c (.bool false))⟩] (some [1, 2, 7, 8, 9, 10, 70]))
  (.cd (.t 70)
   (.sq (.op 0 [⟨(some 6), none, .mv (.c (.bool true))⟩] none)
   .rt)
   .sk))
  (.sq (.fz [2] (.op 9 [⟨(some 72), none, .mv (.t 7)⟩,
    ⟨(some 73), none, .ld (.t 8) 3 true⟩,
    ⟨(some 74), none, .mv (.t 2)⟩,
    ⟨(some 75), none, .callV true (.c (.fn n_ratchetbase_CopyInts [])) [(.t 74)]⟩,
    ⟨(some 76), none, .callV false (.c (.fn n_timing_UsedAt [])) [(.t 72), (.t 73), (.t 75)]⟩,
    ⟨(some 71), none, .mv (.t 76)⟩,
    ⟨(some 77), none, .ext (.t 71) 0⟩,
    ⟨(some 78), none, .ext (.t 71) 1⟩,
    ⟨(some 11), none, .mv (.t 77)⟩,
    ⟨(some 12), none, .mv (.t 78)⟩] (some [1, 2, 7, 8, 9, 10, 11, 12])))
  (.sq (.fz [1] (.op 12 [⟨(some 80), none, .mv (.t 7)⟩,
    ⟨(some 81), none, .ld (.t 8) 3 true⟩,
    ⟨(some 82), none, .ld (.t 9) 5 true⟩,
    ⟨(some 83), none, .mv (.t 1)⟩,
    ⟨(some 84), none, .callV true (.c (.fn n_ratchetbase_CopyInts [])) [(.t 83)]⟩,
    ⟨(some 85), none, .callV false (.c (.fn n_timing_TruePath [])) [(.t 80), (.t 81), (.t 82), (.t 84)]⟩,
    ⟨(some 79), none, .mv (.t 85)⟩,
    ⟨(some 86), none, .ext (.t 79) 0⟩,
    ⟨(some 87), none, .ext (.t 79) 1⟩,
    ⟨(some 88), none, .ext (.t 79) 2⟩,
    ⟨(some 13), none, .mv (.t 86)⟩,
    ⟨(some 14), none, .mv (.t 87)⟩,
    ⟨(some 15), none, .mv (.t 88)⟩] (some [1, 2, 7, 8, 9, 10, 11, 12, 13, 14, 15])))
  (.sq (.op 0 [⟨(some 89), none, .mv (.t 7)⟩,
    ⟨(some 90), none, .ld (.t 8) 3 true⟩,
    ⟨(some 91), none, .callV true (.c (.fn n_ratchetref28_NetErr [])) [(.t 89), (.t 90)]⟩,
    ⟨(some 16), none, .mv (.t 91)⟩] (some [1, 2, 7, 8, 9, 10, 11, 12, 13, 14, 15, 16]))
  (.sq (.sq (.op 0 [⟨(some 92), none, .mv (.t 16)⟩,
    ⟨(some 93), none, .bin .eql (.t 92) (.c (.int .i64 0))⟩,
    ⟨(some 94), none, .mv (.t 93)⟩,
    ⟨(some 95), (some (94, true)), .fa (.t 8) 0⟩,
    ⟨(some 96), (some (94, true)), .ld (.t 95) 1 false⟩,
    ⟨(some 97), (some (94, true)), .bin .gtr (.t 96) (.c (.int .i64 6))⟩,
    ⟨(some 98), none, .pick (.t 94) (.t 97) (.c (.bool false))⟩,
    ⟨(some 99), none, .mv (.t 98)⟩,
    ⟨(some 100), (some (99, true)), .fa (.t 8) 0⟩,
    ⟨(some 101), (some (99, true)), .ld (.t 100) 1 false⟩,
    ⟨(some 102), (some (99, true)), .bin .leq (.t 101) (.c (.int .i64 10))⟩,
    ⟨(some 103), none, .pick (.t 99) (.t 102) (.c (.bool false))⟩] (some [1, 2, 7, 8, 9, 10, 11, 12, 13, 14, 15, 16, 103]))
  (.cd (.t 103)
   (.sq (.op 0 [⟨(some 6), none, .mv (.c (.bool true))⟩] none)
   .rt)
   .sk))
  (.sq (.sq (.op 0 [⟨(some 104), none, .mv (.t 16)⟩,
    ⟨(some 105), none, .bin .eql (.t 104) (.c (.int .i64 0))⟩] none)
  (.cd (.t 105)
   (.op 0 [⟨(some 106), none, .ld (.t 8) 3 true⟩,
     ⟨(some 107), none, .mv (.t 2)⟩,
     ⟨(some 108), none, .callV true (.c (.fn n_ratchetref28_PathErr [])) [(.t 106), (.t 107)]⟩,
     ⟨(some 16), none, .mv (.t 108)⟩] (some [1, 2, 7, 8, 9, 10, 11, 12, 13, 14, 15, 16]))
   .sk))
  (.sq (.sq (.op 0 [⟨(some 109), none, .mv (.t 16)⟩,
    ⟨(some 110), none, .bin .eql (.t 109) (.c (.int .i64 0))⟩] none)
  (.cd (.t 110)
   (.op 0 [⟨(some 111), none, .ld (.t 8) 3 true⟩,
     ⟨(some 112), none, .callV true (.c (.fn n_ratchetref28_BitsErr [])) [(.t 111)]⟩,
     ⟨(some 16), none, .mv (.t 112)⟩] none)
   .sk))
  (.sq (.sq (.op 0 [⟨(some 113), none, .mv (.t 16)⟩,
    ⟨(some 114), none, .bin .neq (.t 113) (.c (.int .i64 0))⟩] none)
  (.cd (.t 114)
   (.sq (.op 0 [⟨(some 115), none, .mv (.t 12)⟩,
     ⟨(some 116), none, .mv (.t 16)⟩,
     ⟨(some 117), none, .bin .neq (.t 115) (.t 116)⟩,
     ⟨(some 118), none, .mv (.t 117)⟩,
     ⟨(some 119), (some (118, false)), .mv (.t 11)⟩,
     ⟨(some 120), (some (118, false)), .len false (.t 119)⟩,
     ⟨(some 121), (some (118, false)), .bin .neq (.t 120) (.c (.int .i64 0))⟩,
     ⟨(some 122), none, .pick (.t 118) (.c (.bool true)) (.t 121)⟩] (some [1, 7, 8, 9, 10, 13, 14, 15, 122]))
   (.cd (.t 122)
    (.sq (.op 0 [⟨(some 6), none, .mv (.c (.bool false))⟩] none)
    .rt)
    .sk))
   (.sq (.op 0 [⟨(some 124), none, .mv (.t 7)⟩,
     ⟨(some 125), none, .ld (.t 8) 3 true⟩,
     ⟨(some 126), none, .mv (.t 2)⟩,
     ⟨(some 127), none, .callV false (.c (.fn n_ratchetref28_UsedAt [])) [(.t 124), (.t 125), (.t 126)]⟩,
     ⟨(some 123), none, .mv (.t 127)⟩,
     ⟨(some 128), none, .ext (.t 123) 0⟩,
     ⟨(some 129), none, .ext (.t 123) 1⟩,
     ⟨(some 17), none, .mv (.t 128)⟩,
     ⟨(some 18), none, .mv (.t 129)⟩] (some [1, 7, 8, 9, 10, 11, 12, 13, 14, 15, 17, 18]))
   (.sq (.op 0 [⟨(some 130), none, .mv (.t 18)⟩,
     ⟨(some 131), none, .mv (.t 130)⟩,
     ⟨(some 132), (some (131, true)), .mv (.t 12)⟩,
     ⟨(some 133), (some (131, true)), .bin .neq (.t 132) (.c (.int .i64 0))⟩,
     ⟨(some 134), (some (131, true)), .mv (.t 133)⟩,
     ⟨(some 135), (some (134, false)), .mv (.t 11)⟩,
     ⟨(some 136), (some (134, false)), .mv (.t 17)⟩,
     ⟨(some 137), (some (134, false)), .callV true (.c (.fn n_ratchetbase_Ints [])) [(.t 135), (.t 136)]⟩,
     ⟨(some 138), (some (134, false)), .un .not (.t 137)⟩,
     ⟨(some 139), (some (131, true)), .pick (.t 134) (.c (.bool true)) (.t 138)⟩,
     ⟨(some 140), none, .pick (.t 131) (.t 139) (.c (.bool false))⟩,
     ⟨(some 141), none, .mv (.t 140)⟩,
     ⟨(some 142), (some (141, false)), .mv (.t 18)⟩,
     ⟨(some 143), (some (141, false)), .un .not (.t 142)⟩,
     ⟨(some 144), (some (141, false)), .mv (.t 143)⟩,
     ⟨(some 145), (some (144, true)), .mv (.t 12)⟩,
     ⟨(some 146), (some (144, true)), .bin .neq (.t 145) (.c (.int .i64 12))⟩,
     ⟨(some 147), (some (144, true)), .mv (.t 146)⟩,
     ⟨(some 148), (some (147, false)), .mv (.t 11)⟩,
     ⟨(some 149), (some (147, false)), .len false (.t 148)⟩,
     ⟨(some 150), (some (147, false)), .bin .neq (.t 149) (.c (.int .i64 0))⟩,
     ⟨(some 151), (some (144, true)), .pick (.t 147) (.c (.bool true)) (.t 150)⟩,
     ⟨(some 152), (some (141, false)), .pick (.t 144) (.t 151) (.c (.bool false))⟩,
     ⟨(some 153), none, .pick (.t 141) (.c (.bool true)) (.t 152)⟩] (some [1, 7, 8, 9, 10, 13, 14, 15, 153]))
   (.cd (.t 153)
    (.sq (.op 0 [⟨(some 6), none, .mv (.c (.bool false))⟩] none)
    .rt)
    .sk)))))
  (.sq (.sq (.op 0 [⟨(some 154), none, .mv (.t 10)⟩,
    ⟨(some 155), none, .bin .eql (.t 154) (.c (.int .i64 0))⟩] none)
  (.cd (.t 155)
   (.op 0 [⟨(some 156), none, .fa (.t 8) 0⟩,
     ⟨(some 157), none, .ld (.t 156) 1 false⟩,
     ⟨(some 158), none, .mv (.t 1)⟩,
     ⟨(some 159), none, .callV true (.c (.fn n_ratchetref28_TimesErr [])) [(.t 157), (.t 158)]⟩,
     ⟨(some 10), none, .mv (.t 159)⟩] (some [1, 7, 8, 9, 10, 13, 14, 15]))
   .sk))
  (.sq (.sq (.op 0 [⟨(some 160), none, .mv (.t 10)⟩,
    ⟨(some 161), none, .bin .eql (.t 160) (.c (.int .i64 0))⟩] none)
  (.cd (.t 161)
   (.op 0 [⟨(some 162), none, .ld (.t 8) 3 true⟩,
     ⟨(some 163), none, .callV true (.c (.fn n_ratchetref28_TrueErr [])) [(.t 162)]⟩,
     ⟨(some 10), none, .mv (.t 163)⟩] none)
   .sk))
  (.sq (.sq (.op 0 [⟨(some 164), none, .mv (.t 10)⟩,
    ⟨(some 165), none, .bin .neq (.t 164) (.c (.int .i64 0))⟩] none)
  (.cd (.t 165)
   (.sq (.op 0 [⟨(some 166), none, .mv (.t 15)⟩,
     ⟨(some 167), none, .mv (.t 10)⟩,
     ⟨(some 168), none, .bin .eql (.t 166) (.t 167)⟩,
     ⟨(some 169), none, .mv (.t 168)⟩,
     ⟨(some 170), (some (169, true)), .mv (.t 13)⟩,
     ⟨(some 171), (some (169, true)), .len false (.t 170)⟩,
     ⟨(some 172), (some (169, true)), .bin .eql (.t 171) (.c (.int .i64 0))⟩,
     ⟨(some 173), none, .pick (.t 169) (.t 172) (.c (.bool false))⟩,
     ⟨(some 174), none, .mv (.t 173)⟩,
     ⟨(some 175), (some (174, true)), .mv (.t 14)⟩,
     ⟨(some 176), (some (174, true)), .bin .eql (.t 175) (.c (.int .i64 0))⟩,
     ⟨(some 177), none, .pick (.t 174) (.t 176) (.c (.bool false))⟩,
     ⟨(some 6), none, .mv (.t 177)⟩] (some [6]))
   .rt)
   .sk))
  (.sq (.op 0 [⟨(some 179), none, .mv (.t 7)⟩,
    ⟨(some 180), none, .ld (.t 8) 3 true⟩,
    ⟨(some 181), none, .ld (.t 9) 5 true⟩,
    ⟨(some 182), none, .mv (.t 1)⟩,
    ⟨(some 183), none, .callV false (.c (.fn n_ratchetref28_True [])) [(.t 179), (.t 180), (.t 181), (.t 182)]⟩,
    ⟨(some 178), none, .mv (.t 183)⟩,
    ⟨(some 184), none, .ext (.t 178) 0⟩,
    ⟨(some 185), none, .ext (.t 178) 1⟩,
    ⟨(some 19), none, .mv (.t 184)⟩,
    ⟨(some 20), none, .mv (.t 185)⟩] (some [1, 7, 8, 9, 13, 14, 15, 19, 20]))
  (.sq (.sq (.op 0 [⟨(some 186), none, .mv (.t 20)⟩,
    ⟨(some 187), none, .un .not (.t 186)⟩] none)
  (.cd (.t 187)
   (.sq (.op 0 [⟨(some 188), none, .mv (.t 15)⟩,
     ⟨(some 189), none, .bin .eql (.t 188) (.c (.int .i64 12))⟩,
     ⟨(some 190), none, .mv (.t 189)⟩,
     ⟨(some 191), (some (190, true)), .mv (.t 13)⟩,
     ⟨(some 192), (some (190, true)), .len false (.t 191)⟩,
     ⟨(some 193), (some (190, true)), .bin .eql (.t 192) (.c (.int .i64 0))⟩,
     ⟨(some 194), none, .pick (.t 190) (.t 193) (.c (.bool false))⟩,
     ⟨(some 195), none, .mv (.t 194)⟩,
     ⟨(some 196), (some (195, true)), .mv (.t 14)⟩,
     ⟨(some 197), (some (195, true)), .bin .eql (.t 196) (.c (.int .i64 0))⟩,
     ⟨(some 198), none, .pick (.t 195) (.t 197) (.c (.bool false))⟩,
     ⟨(some 6), none, .mv (.t 198)⟩] (some [6]))
   .rt)
   .sk))
  (.sq (.fz [1] (.op 11 [⟨(some 200), none, .mv (.t 7)⟩,
    ⟨(some 201), none, .ld (.t 8) 3 true⟩,
    ⟨(some 202), none, .ld (.t 9) 5 true⟩,
    ⟨(some 203), none, .mv (.t 1)⟩,
    ⟨(some 204), none, .ld (.t 8) 3 true⟩,
    ⟨(some 205), none, .callV true (.c (.fn n_ratchetref28_Paths [])) [(.t 204), (.c (.int .i64 60))]⟩,
    ⟨(some 206), none, .callV false (.c (.fn n_ratchetref28_Critical [])) [(.t 200), (.t 201), (.t 202), (.t 203), (.t 205)]⟩,
    ⟨(some 199), none, .mv (.t 206)⟩,
    ⟨(some 207), none, .ext (.t 199) 0⟩,
    ⟨(some 208), none, .ext (.t 199) 1⟩,
    ⟨(some 21), none, .mv (.t 207)⟩,
    ⟨(some 22), none, .mv (.t 208)⟩] (some [1, 7, 8, 9, 13, 14, 15, 19, 21])))
  (.sq (.op 0 [⟨(some 209), none, .mv (.t 15)⟩,
    ⟨(some 210), none, .bin .eql (.t 209) (.c (.int .i64 0))⟩,
    ⟨(some 211), none, .mv (.t 210)⟩,
    ⟨(some 212), (some (211, true)), .mv (.t 13)⟩,
    ⟨(some 213), (some (211, true)), .mv (.t 19)⟩,
    ⟨(some 214), (some (211, true)), .callV true (.c (.fn n_ratchetbase_Ints [])) [(.t 212), (.t 213)]⟩,
    ⟨(some 215), none, .pick (.t 211) (.t 214) (.c (.bool false))⟩,
    ⟨(some 216), none, .mv (.t 215)⟩,
    ⟨(some 217), (some (216, true)), .mv (.t 14)⟩,
    ⟨(some 218), (some (216, true)), .mv (.t 7)⟩,
    ⟨(some 219), (some (216, true)), .ld (.t 8) 3 true⟩,
    ⟨(some 220), (some (216, true)), .ld (.t 9) 5 true⟩,
    ⟨(some 221), (some (216, true)), .mv (.t 1)⟩,
    ⟨(some 222), (some (216, true)), .mv (.t 19)⟩,
    ⟨(some 223), (some (216, true)), .callV true (.c (.fn n_ratchetref28_Delay [])) [(.t 218), (.t 219), (.t 220), (.t 221), (.t 222)]⟩,
    ⟨(some 224), (some (216, true)), .bin .eql (.t 217) (.t 223)⟩,
    ⟨(some 225), none, .pick (.t 216) (.t 224) (.c (.bool false))⟩,
    ⟨(some 226), none, .mv (.t 225)⟩,
    ⟨(some 227), (some (226, true)), .mv (.t 14)⟩,
    ⟨(some 228), (some (226, true)), .mv (.t 7)⟩,
    ⟨(some 229), (some (226, true)), .ld (.t 8) 3 true⟩,
    ⟨(some 230), (some (226, true)), .ld (.t 9) 5 true⟩,
    ⟨(some 231), (some (226, true)), .mv (.t 1)⟩,
    ⟨(some 232), (some (226, true)), .mv (.t 21)⟩,
    ⟨(some 233), (some (226, true)), .callV true (.c (.fn n_ratchetref28_Delay [])) [(.t 228), (.t 229), (.t 230), (.t 231), (.t 232)]⟩,
    ⟨(some 234), (some (226, true)), .bin .leq (.t 227) (.t 233)⟩,
    ⟨(some 235), none, .pick (.t 226) (.t 234) (.c (.bool false))⟩,
    ⟨(some 6), none, .mv (.t 235)⟩] (some [6]))
  .rt)))))))))))))))))))),
  [.t 6]⟩
def c_ratchetlaw28_awake : FnIR := ⟨81,
  (.sq (.op 0 [⟨(some 0), none, .mv (.c (.bool false))⟩] none)
  (.sq (.op 0 [⟨(some 11), none, .callV false (.c (.fn n_ratchetlaw28_Library [])) []⟩,
    ⟨(some 12), none, .callV false (.c (.fn n_ratchetlaw28_Net [])) []⟩,
    ⟨(some 13), none, .callV true (.c (.fn n_ratchetlaw28_Model [])) []⟩,
    ⟨(some 14), none, .bsl t_int 1 false [.int .i64 0] 2 [(0, (.c (.int .i64 0))), (1, (.c (.int .i64 0)))]⟩,
    ⟨(some 15), none, .callV false (.c (.fn n_timing_ArrivalsOf [])) [(.t 11), (.t 12), (.t 13), (.t 14)]⟩,
    ⟨(some 10), none, .mv (.t 15)⟩,
    ⟨(some 16), none, .ext (.t 10) 0⟩,
    ⟨(some 17), none, .ext (.t 10) 1⟩,
    ⟨(some 1), none, .mv (.t 16)⟩,
    ⟨(some 2), none, .mv (.t 17)⟩] (some [1, 2]))
  (.sq (.op 0 [⟨(some 19), none, .callV false (.c (.fn n_ratchetlaw28_Library [])) []⟩,
    ⟨(some 20), none, .callV false (.c (.fn n_ratchetlaw28_Net [])) []⟩,
    ⟨(some 21), none, .callV true (.c (.fn n_ratchetlaw28_Model [])) []⟩,
    ⟨(some 22), none, .bsl t_int 1 false [.int .i64 0] 2 [(0, (.c (.int .i64 0))), (1, (.c (.int .i64 0)))]⟩,
    ⟨(some 23), none, .bsl t_int 1 false [.int .i64 0] 1 [(0, (.c (.int .i64 10)))]⟩,
    ⟨(some 24), none, .callV false (.c (.fn n_timing_SlacksOf [])) [(.t 19), (.t 20), (.t 21), (.t 22), (.t 23)]⟩,
    ⟨(some 18), none, .mv (.t 24)⟩,
    ⟨(some 25), none, .ext (.t 18) 0⟩,
    ⟨(some 26), none, .ext (.t 18) 1⟩,
    ⟨(some 3), none, .mv (.t 25)⟩,
    ⟨(some 4), none, .mv (.t 26)⟩] (some [1, 2, 3, 4]))
  (.sq (.op 0 [⟨(some 28), none, .callV false (.c (.fn n_ratchetlaw28_Library [])) []⟩,
    ⟨(some 29), none, .callV false (.c (.fn n_ratchetlaw28_Net [])) []⟩,
    ⟨(some 30), none, .callV true (.c (.fn n_ratchetlaw28_Model [])) []⟩,
    ⟨(some 31), none, .bsl t_int 1 false [.int .i64 0] 2 [(0, (.c (.int .i64 0))), (1, (.c (.int .i64 0)))]⟩,
    ⟨(some 32), none, .callV false (.c (.fn n_timing_CriticalPath [])) [(.t 28), (.t 29), (.t 30), (.t 31)]⟩,
    ⟨(some 27), none, .mv (.t 32)⟩,
    ⟨(some 33), none, .ext (.t 27) 0⟩,
    ⟨(some 34), none, .ext (.t 27) 1⟩,
    ⟨(some 35), none, .ext (.t 27) 2⟩,
    ⟨(some 5), none, .mv (.t 33)⟩,
    ⟨(some 6), none, .mv (.t 34)⟩,
    ⟨(some 7), none, .mv (.t 35)⟩] (some [1, 2, 3, 4, 5, 6, 7]))
  (.sq (.op 0 [⟨(some 37), none, .callV false (.c (.fn n_ratchetlaw28_Library [])) []⟩,
    ⟨(some 38), none, .callV false (.c (.fn n_ratchetlaw28_Net [])) []⟩,
    ⟨(some 39), none, .bsl t_int 1 false [.int .i64 0] 4 [(0, (.c (.int .i64 1))), (1, (.c (.int .i64 2))), (2, (.c (.int .i64 3))), (3, (.c (.int .i64 4)))]⟩,
    ⟨(some 40), none, .callV false (.c (.fn n_timing_UsedAt [])) [(.t 37), (.t 38), (.t 39)]⟩,
    ⟨(some 36), none, .mv (.t 40)⟩,
    ⟨(some 41), none, .ext (.t 36) 0⟩,
    ⟨(some 42), none, .ext (.t 36) 1⟩,
    ⟨(some 8), none, .mv (.t 41)⟩,
    ⟨(some 9), none, .mv (.t 42)⟩] (some [1, 2, 3, 4, 5, 6, 7, 8, 9]))
  (.sq (.op 0 [⟨(some 43), none, .mv (.t 2)⟩,
    ⟨(some 44), none, .bin .eql (.t 43) (.c (.int .i64 0))⟩,
    ⟨(some 45), none, .mv (.t 44)⟩,
    ⟨(some 46), (some (45, true)), .mv (.t 1)⟩,
    ⟨(some 47), (some (45, true)), .bsl t_int 1 false [.int .i64 0] 5 [(0, (.c (.int .i64 0))), (1, (.c (.int .i64 0))), (2, (.c (.int .i64 2))), (3, (.c (.int .i64 4))), (4, (.c (.int .i64 6)))]⟩,
    ⟨(some 48), (some (45, true)), .callV true (.c (.fn n_ratchetbase_Ints [])) [(.t 46), (.t 47)]⟩,
    ⟨(some 49), none, .pick (.t 45) (.t 48) (.c (.bool false))⟩,
    ⟨(some 50), none, .mv (.t 49)⟩,
    ⟨(some 51), (some (50, true)), .mv (.t 4)⟩,
    ⟨(some 52), (some (50, true)), .bin .eql (.t 51) (.c (.int .i64 0))⟩,
    ⟨(some 53), none, .pick (.t 50) (.t 52) (.c (.bool false))⟩,
    ⟨(some 54), none, .mv (.t 53)⟩,
    ⟨(some 55), (some (54, true)), .mv (.t 3)⟩,
    ⟨(some 56), (some (54, true)), .bsl t_int 1 false [.int .i64 0] 5 [(0, (.c (.int .i64 4))), (1, (.c (.int .i64 4))), (2, (.c (.int .i64 4))), (3, (.c (.int .i64 4))), (4, (.c (.int .i64 4)))]⟩,
    ⟨(some 57), (some (54, true)), .callV true (.c (.fn n_ratchetbase_Ints [])) [(.t 55), (.t 56)]⟩,
    ⟨(some 58), none, .pick (.t 54) (.t 57) (.c (.bool false))⟩,
    ⟨(some 59), none, .mv (.t 58)⟩,
    ⟨(some 60), (some (59, true)), .mv (.t 7)⟩,
    ⟨(some 61), (some (59, true)), .bin .eql (.t 60) (.c (.int .i64 0))⟩,
    ⟨(some 62), none, .pick (.t 59) (.t 61) (.c (.bool false))⟩,
    ⟨(some 63), none, .mv (.t 62)⟩,
    ⟨(some 64), (some (63, true)), .mv (.t 6)⟩,
    ⟨(some 65), (some (63, true)), .bin .eql (.t 64) (.c (.int .i64 6))⟩,
    ⟨(some 66), none, .pick (.t 63) (.t 65) (.c (.bool false))⟩,
    ⟨(some 67), none, .mv (.t 66)⟩,
    ⟨(some 68), (some (67, true)), .mv (.t 5)⟩,
    ⟨(some 69), (some (67, true)), .bsl t_int 1 false [.int .i64 0] 4 [(0, (.c (.int .i64 0))), (1, (.c (.int .i64 2))), (2, (.c (.int .i64 3))), (3, (.c (.int .i64 4)))]⟩,
    ⟨(some 70), (some (67, true)), .callV true (.c (.fn n_ratchetbase_Ints [])) [(.t 68), (.t 69)]⟩,
    ⟨(some 71), none, .pick (.t 67) (.t 70) (.c (.bool false))⟩,
    ⟨(some 72), none, .mv (.t 71)⟩,
    ⟨(some 73), (some (72, true)), .mv (.t 9)⟩,
    ⟨(some 74), (some (72, true)), .bin .eql (.t 73) (.c (.int .i64 0))⟩,
    ⟨(some 75), none, .pick (.t 72) (.t 74) (.c (.bool false))⟩,
    ⟨(some 76), none, .mv (.t 75)⟩,
    ⟨(some 77), (some (76, true)), .mv (.t 8)⟩,
    ⟨(some 78), (some (76, true)), .bsl t_int 1 false [.int .i64 0] 2 [(0, (.c (.int .i64 1))), (1, (.c (.int .i64 0)))]⟩,
    ⟨(some 79), (some (76, true)), .callV true (.c (.fn n_ratchetbase_Ints [])) [(.t 77), (.t 78)]⟩,
    ⟨(some 80), none, .pick (.t 76) (.t 79) (.c (.bool false))⟩,
    ⟨(some 0), none, .mv (.t 80)⟩] (some [0]))
  .rt)))))),
  [.t 0]⟩
def b_ratchetlaw28_Few_L0 : IR :=
 (.sq (.sq (.op 0 [⟨(some 22), none, .mv (.t 3)⟩,
   ⟨(some 23), none, .fa (.t 1) 1⟩,
   ⟨(some 24), none, .fa (.t 23) 1⟩,
   ⟨(some 25), none, .ld (.t 24) 1 false⟩,
   ⟨(some 26), none, .len false (.t 25)⟩,
   ⟨(some 27), none, .bin .lss (.t 22) (.t 26)⟩] (some [1, 3, 27]))
 (.cd (.t 27)
  .sk
  (.ex 0)))
 (.sq (.bk 1 (.sq (.op 0 [⟨(some 30), none, .fa (.t 1) 1⟩,
    ⟨(some 31), none, .fa (.t 30) 1⟩,
    ⟨(some 32), none, .ld (.t 31) 1 false⟩,
    ⟨(some 33), none, .mv (.t 3)⟩,
    ⟨(some 34), none, .ia (.t 32) (.t 33) 2⟩,
    ⟨(some 35), none, .fa (.t 34) 1⟩,
    ⟨(some 36), none, .ld (.t 35) 1 false⟩,
    ⟨(some 37), none, .len false (.t 36)⟩,
    ⟨(some 38), none, .bin .gtr (.t 37) (.c (.int .i64 5))⟩] (some [1, 3, 38]))
  (.cd (.t 38)
   (.sq (.op 0 [⟨(some 2), none, .mv (.c (.bool false))⟩] none)
   .rt)
   .sk)))
 (.op 0 [⟨(some 28), none, .mv (.t 3)⟩,
   ⟨(some 29), none, .bin .add (.t 28) (.c (.int .i64 1))⟩,
   ⟨(some 3), none, .mv (.t 29)⟩] none)))
def c_ratchetlaw28_Few_L0 : IR := b_ratchetlaw28_Few_L0
theorem u_ratchetlaw28_Few_L0 {C : Call} {L : Loop} {π : Id} {k0 : List Id} {e : Env} {s : Sto} : evC C L π k0 c_ratchetlaw28_Few_L0 e s = evC C L π k0 b_ratchetlaw28_Few_L0 e s := rfl
def c_ratchetlaw28_Few : FnIR := ⟨39,
  (.sq (.op 0 [⟨(some 1), none, .box (.t 0) 9⟩,
    ⟨(some 2), none, .mv (.c (.bool false))⟩] none)
  (.sq (.sq (.op 0 [⟨(some 4), none, .fa (.t 1) 0⟩,
    ⟨(some 5), none, .ld (.t 4) 1 false⟩,
    ⟨(some 6), none, .len false (.t 5)⟩,
    ⟨(some 7), none, .bin .gtr (.t 6) (.c (.int .i64 18))⟩,
    ⟨(some 8), none, .mv (.t 7)⟩,
    ⟨(some 9), (some (8, false)), .fa (.t 1) 1⟩,
    ⟨(some 10), (some (8, false)), .fa (.t 9) 1⟩,
    ⟨(some 11), (some (8, false)), .ld (.t 10) 1 false⟩,
    ⟨(some 12), (some (8, false)), .len false (.t 11)⟩,
    ⟨(some 13), (some (8, false)), .bin .gtr (.t 12) (.c (.int .i64 62))⟩,
    ⟨(some 14), none, .pick (.t 8) (.c (.bool true)) (.t 13)⟩,
    ⟨(some 15), none, .mv (.t 14)⟩,
    ⟨(some 16), (some (15, false)), .fa (.t 1) 1⟩,
    ⟨(some 17), (some (15, false)), .fa (.t 16) 2⟩,
    ⟨(some 18), (some (15, false)), .ld (.t 17) 1 false⟩,
    ⟨(some 19), (some (15, false)), .len false (.t 18)⟩,
    ⟨(some 20), (some (15, false)), .bin .gtr (.t 19) (.c (.int .i64 70))⟩,
    ⟨(some 21), none, .pick (.t 15) (.c (.bool true)) (.t 20)⟩] (some [1, 21]))
  (.cd (.t 21)
   (.sq (.op 0 [⟨(some 2), none, .mv (.c (.bool false))⟩] none)
   .rt)
   .sk))
  (.sq (.sq (.op 0 [⟨(some 3), none, .mv (.c (.int .i64 0))⟩] none)
  (.kp [] [2] (.bk 0 (.lp [] [1, 3] c_ratchetlaw28_Few_L0))))
  (.sq (.op 0 [⟨(some 2), none, .mv (.c (.bool true))⟩] none)
  .rt)))),
  [.t 2]⟩
def c_ratchetlaw28_copied : FnIR := ⟨13,
  (.sq (.op 0 [⟨(some 1), none, .box (.t 0) 9⟩,
    ⟨(some 2), none, .mv (.c (.sl 5 (some true) []))⟩,
    ⟨(some 3), none, .alloc [.int .i64 0, .sl 2 (some true) [], .sl 1 (some true) []]⟩,
    ⟨(some 4), none, .alloc [.int .i64 0, .int .i64 0, .int .i64 0, .int .i64 0, .int .i64 0]⟩] (some [1, 3, 4]))
  (.sq (.op 10 [⟨(some 5), none, .fa (.t 1) 0⟩,
    ⟨(some 6), none, .ld (.t 5) 1 false⟩,
    ⟨(some 7), none, .callV false (.c (.fn n_ratchetref27_CopyLibrary [])) [(.t 6)]⟩,
    ⟨(some 8), none, .fa (.t 1) 1⟩,
    ⟨(some 9), none, .ld (.t 8) 3 true⟩,
    ⟨(some 10), none, .callV false (.c (.fn n_ratchetref27_CopyNet [])) [(.t 9)]⟩,
    ⟨(some 11), none, .fa (.t 1) 4⟩,
    ⟨(some 12), none, .ld (.t 11) 5 true⟩,
    ⟨(some 2), none, .mv (.t 7)⟩,
    ⟨none, none, .st (.t 3) (.t 10) 3⟩,
    ⟨none, none, .st (.t 4) (.t 12) 5⟩] (some [2, 3, 4]))
  .rt)),
  [.t 2, .c 3 3 true, .c 4 5 true]⟩
def c_ratchetref28_AllErr : FnIR := ⟨16,
  (.sq (.op 0 [⟨(some 4), none, .box (.t 1) 3⟩,
    ⟨(some 5), none, .box (.t 2) 5⟩,
    ⟨(some 6), none, .mv (.c (.int .i64 0))⟩] none)
  (.sq (.sq (.op 0 [⟨(some 8), none, .mv (.t 0)⟩,
    ⟨(some 9), none, .ld (.t 4) 3 true⟩,
    ⟨(some 10), none, .callV true (.c (.fn n_ratchetref28_NetErr [])) [(.t 8), (.t 9)]⟩,
    ⟨(some 7), none, .mv (.t 10)⟩] (some [5, 7]))
  (.sq (.op 0 [⟨(some 11), none, .mv (.t 7)⟩,
    ⟨(some 12), none, .bin .neq (.t 11) (.c (.int .i64 0))⟩] none)
  (.cd (.t 12)
   (.sq (.op 0 [⟨(some 13), none, .mv (.t 7)⟩,
     ⟨(some 6), none, .mv (.t 13)⟩] none)
   .rt)
   .sk)))
  (.sq (.op 0 [⟨(some 14), none, .ld (.t 5) 5 true⟩,
    ⟨(some 15), none, .callV true (.c (.fn n_ratchetref28_ModelErr [])) [(.t 14)]⟩,
    ⟨(some 6), none, .mv (.t 15)⟩] none)
  .rt))),
  [.t 6]⟩
def c_ratchetlaw28_light : FnIR := ⟨8,
  (.sq (.op 0 [⟨(some 1), none, .box (.t 0) 9⟩,
    ⟨(some 2), none, .mv (.c (.bool false))⟩] none)
  (.sq (.op 0 [⟨(some 3), none, .fa (.t 1) 1⟩,
    ⟨(some 4), none, .fa (.t 3) 1⟩,
    ⟨(some 5), none, .ld (.t 4) 1 false⟩,
    ⟨(some 6), none, .len false (.t 5)⟩,
    ⟨(some 7), none, .bin .leq (.t 6) (.c (.int .i64 9))⟩,
    ⟨(some 2), none, .mv (.t 7)⟩] (some [2]))
  .rt)),
  [.t 2]⟩
def b_ratchetref28_Paths_L0 : IR :=
 (.sq (.sq (.op 0 [⟨(some 7), none, .mv (.t 6)⟩,
   ⟨(some 8), none, .fa (.t 2) 0⟩,
   ⟨(some 9), none, .ld (.t 8) 1 false⟩,
   ⟨(some 10), none, .bin .lss (.t 7) (.t 9)⟩] (some [1, 2, 5, 6, 10]))
 (.cd (.t 10)
  .sk
  (.ex 0)))
 (.sq (.bk 1 (.op 0 [⟨(some 13), none, .ld (.t 2) 3 true⟩,
    ⟨(some 14), none, .mv (.t 6)⟩,
    ⟨(some 15), none, .bsl t_int 1 false [.int .i64 0] 1 [(0, (.t 14))]⟩,
    ⟨(some 16), none, .mv (.t 5)⟩,
    ⟨(some 17), none, .mv (.t 1)⟩,
    ⟨(some 18), none, .callS (.c (.fn n_ratchetref28_longer [])) [(.t 13), (.t 15), (.t 16), (.t 17)]⟩,
    ⟨(some 5), none, .mv (.t 18)⟩] (some [1, 2, 5, 6])))
 (.op 0 [⟨(some 11), none, .mv (.t 6)⟩,
   ⟨(some 12), none, .bin .add (.t 11) (.c (.int .i64 1))⟩,
   ⟨(some 6), none, .mv (.t 12)⟩] none)))
def c_ratchetref28_Paths_L0 : IR := b_ratchetref28_Paths_L0
theorem u_ratchetref28_Paths_L0 {C : Call} {L : Loop} {π : Id} {k0 : List Id} {e : Env} {s : Sto} : evC C L π k0 c_ratchetref28_Paths_L0 e s = evC C L π k0 b_ratchetref28_Paths_L0 e s := rfl
def c_ratchetref28_Paths : FnIR := ⟨20,
  (.sq (.op 0 [⟨(some 2), none, .box (.t 0) 3⟩,
    ⟨(some 4), none, .mv (.c (.sl 1 (some true) []))⟩] none)
  (.sq (.op 0 [⟨(some 5), none, .mv (.c (.sl 1 (some true) []))⟩] none)
  (.sq (.sq (.op 0 [⟨(some 6), none, .mv (.c (.int .i64 0))⟩] none)
  (.kp [5] [4] (.bk 0 (.lp [(t_L_int, .inl 5)] [1, 2, 5, 6] c_ratchetref28_Paths_L0))))
  (.sq (.op 0 [⟨(some 19), none, .mv (.t 5)⟩,
    ⟨(some 4), none, .mv (.t 19)⟩] none)
  .rt)))),
  [.t 4]⟩
def c_timing_UsedAt : FnIR := ⟨39,
  (.sq (.op 0 [⟨(some 4), none, .box (.t 1) 3⟩,
    ⟨(some 6), none, .mv (.c (.sl 1 (some true) []))⟩,
    ⟨(some 7), none, .mv (.c (.int .i64 0))⟩] none)
  (.sq (.op 0 [⟨(some 12), none, .mv (.t 0)⟩,
    ⟨(some 13), none, .ld (.t 4) 3 true⟩,
    ⟨(some 14), none, .callV false (.c (.fn n_timing_open [])) [(.t 12), (.t 13)]⟩,
    ⟨(some 11), none, .mv (.t 14)⟩,
    ⟨(some 15), none, .ext (.t 11) 0⟩,
    ⟨(some 16), none, .ext (.t 11) 1⟩,
    ⟨(some 8), none, .alloc [.int .i64 0, .sl 2 (some true) [], .sl 1 (some true) [], .sl 5 (some true) []]⟩,
    ⟨none, none, .st (.t 8) (.t 15) 4⟩,
    ⟨(some 9), none, .mv (.t 16)⟩] (some [2, 4, 8, 9]))
  (.sq (.sq (.op 0 [⟨(some 17), none, .mv (.t 9)⟩,
    ⟨(some 18), none, .bin .eql (.t 17) (.c (.int .i64 0))⟩] none)
  (.cd (.t 18)
   (.op 0 [⟨(some 19), none, .ld (.t 8) 4 true⟩,
     ⟨(some 20), none, .mv (.t 2)⟩,
     ⟨(some 21), none, .callV true (.c (.fn n_timing_net_pathErr [])) [(.t 19), (.t 20)]⟩,
     ⟨(some 9), none, .mv (.t 21)⟩] (some [2, 4, 8, 9]))
   .sk))
  (.sq (.sq (.op 0 [⟨(some 22), none, .mv (.t 9)⟩,
    ⟨(some 23), none, .fa (.t 4) 0⟩,
    ⟨(some 24), none, .ld (.t 23) 1 false⟩,
    ⟨(some 25), none, .bin .leq (.t 24) (.c (.int .i64 10))⟩,
    ⟨(some 26), none, .callV true (.c (.fn n_timing_unless [])) [(.t 25), (.c (.int .i64 8))]⟩,
    ⟨(some 27), none, .bsl t_api_Errno 1 false [.int .i64 0] 2 [(0, (.t 22)), (1, (.t 26))]⟩,
    ⟨(some 28), none, .callV true (.c (.fn n_timing_first [])) [(.t 27)]⟩,
    ⟨(some 9), none, .mv (.t 28)⟩] (some [2, 8, 9]))
  (.sq (.op 0 [⟨(some 29), none, .mv (.t 9)⟩,
    ⟨(some 30), none, .bin .neq (.t 29) (.c (.int .i64 0))⟩] none)
  (.cd (.t 30)
   (.sq (.op 0 [⟨(some 31), none, .mv (.t 9)⟩,
     ⟨(some 6), none, .mv (.c (.sl 1 (some true) []))⟩,
     ⟨(some 7), none, .mv (.t 31)⟩] none)
   .rt)
   .sk)))
  (.sq (.op 0 [⟨(some 32), none, .ld (.t 8) 4 true⟩,
    ⟨(some 33), none, .mv (.t 2)⟩,
    ⟨(some 34), none, .callV false (.c (.fn n_timing_net_used [])) [(.t 32), (.t 33)]⟩,
    ⟨(some 10), none, .mv (.t 34)⟩] (some [10]))
  (.sq (.op 0 [⟨(some 35), none, .mv (.t 10)⟩,
    ⟨(some 36), none, .mv (.t 10)⟩,
    ⟨(some 37), none, .isnil true true (.t 36)⟩,
    ⟨(some 38), none, .callV true (.c (.fn n_timing_unless [])) [(.t 37), (.c (.int .i64 12))]⟩,
    ⟨(some 6), none, .mv (.t 35)⟩,
    ⟨(some 7), none, .mv (.t 38)⟩] (some [6, 7]))
  .rt)))))),
  [.t 6, .t 7]⟩
def c_ratchetbase_CopyInts : FnIR := ⟨6,
  (.sq (.op 0 [⟨(some 2), none, .mv (.c (.sl 1 (some true) []))⟩] none)
  (.sq (.op 0 [⟨(some 3), none, .bsl t_int 1 false [.int .i64 0] 0 []⟩,
    ⟨(some 4), none, .mv (.t 0)⟩,
    ⟨(some 5), none, .app (.t 3) (.t 4) t_int 1⟩,
    ⟨(some 2), none, .mv (.t 5)⟩] (some [2]))
  .rt)),
  [.t 2]⟩
def b_timing_TruePath_R0A : IR :=
 (.op 0 [⟨(some 15), none, .mv (.t 43)⟩] none)
def c_timing_TruePath_R0A : IR := b_timing_TruePath_R0A
theorem u_timing_TruePath_R0A {C : Call} {L : Loop} {π : Id} {k0 : List Id} {e : Env} {s : Sto} : evC C L π k0 c_timing_TruePath_R0A e s = evC C L π k0 b_timing_TruePath_R0A e s := rfl
def b_timing_TruePath_R0B : IR :=
 (.bk 1 (.sq (.fz [15, 43] (.op 0 [⟨(some 44), none, .ld (.t 11) 10 true⟩,
    ⟨(some 45), none, .ld (.t 7) 1 false⟩,
    ⟨(some 46), none, .mv (.t 15)⟩,
    ⟨(some 47), none, .callV true (.c (.fn n_timing_timed_along [])) [(.t 44), (.t 45), (.t 46)]⟩,
    ⟨(some 16), none, .mv (.t 47)⟩] (some [11, 13, 14, 15, 16])))
  (.sq (.fz [15, 43] (.op 0 [⟨(some 48), none, .mv (.t 16)⟩,
    ⟨(some 49), none, .ld (.t 14) 1 false⟩,
    ⟨(some 50), none, .bin .gtr (.t 48) (.t 49)⟩,
    ⟨(some 51), none, .mv (.t 50)⟩,
    ⟨(some 52), (some (51, true)), .fa (.t 11) 0⟩,
    ⟨(some 53), (some (51, true)), .ld (.t 52) 4 true⟩,
    ⟨(some 54), (some (51, true)), .mv (.t 15)⟩,
    ⟨(some 55), (some (51, true)), .callV false (.c (.fn n_timing_net_used [])) [(.t 53), (.t 54)]⟩,
    ⟨(some 56), (some (51, true)), .isnil true true (.t 55)⟩,
    ⟨(some 57), none, .pick (.t 51) (.t 56) (.c (.bool false))⟩] (some [13, 14, 15, 16, 57])))
  (.cd (.t 57)
   (.fz [15, 43] (.op 0 [⟨(some 58), none, .mv (.t 15)⟩,
     ⟨(some 59), none, .callV true (.c (.fn n_slices_Clone_int_int [])) [(.t 58)]⟩,
     ⟨(some 60), none, .mv (.t 16)⟩,
     ⟨none, none, .st (.t 13) (.t 59) 1⟩,
     ⟨none, none, .st (.t 14) (.t 60) 1⟩] (some [])))
   .sk))))
def c_timing_TruePath_R0B : IR := b_timing_TruePath_R0B
theorem u_timing_TruePath_R0B {C : Call} {L : Loop} {π : Id} {k0 : List Id} {e : Env} {s : Sto} : evC C L π k0 c_timing_TruePath_R0B e s = evC C L π k0 b_timing_TruePath_R0B e s := rfl
def c_timing_TruePath : FnIR := ⟨65,
  (.sq (.op 0 [⟨(some 5), none, .box (.t 1) 3⟩,
    ⟨(some 6), none, .box (.t 2) 5⟩,
    ⟨(some 7), none, .box (.t 3) 1⟩,
    ⟨(some 8), none, .mv (.c (.sl 1 (some true) []))⟩,
    ⟨(some 9), none, .mv (.c (.int .i64 0))⟩,
    ⟨(some 10), none, .mv (.c (.int .i64 0))⟩] none)
  (.sq (.op 0 [⟨(some 18), none, .mv (.t 0)⟩,
    ⟨(some 19), none, .ld (.t 5) 3 true⟩,
    ⟨(some 20), none, .ld (.t 6) 5 true⟩,
    ⟨(some 21), none, .ld (.t 7) 1 false⟩,
    ⟨(some 22), none, .callV false (.c (.fn n_timing_openTimes [])) [(.t 18), (.t 19), (.t 20), (.t 21)]⟩,
    ⟨(some 17), none, .mv (.t 22)⟩,
    ⟨(some 23), none, .ext (.t 17) 0⟩,
    ⟨(some 24), none, .ext (.t 17) 1⟩,
    ⟨(some 11), none, .alloc [.int .i64 0, .sl 2 (some true) [], .sl 1 (some true) [], .sl 5 (some true) [], .int .i64 0, .int .i64 0, .int .i64 0, .int .i64 0, .int .i64 0, .sl 1 (some true) []]⟩,
    ⟨none, none, .st (.t 11) (.t 23) 10⟩,
    ⟨(some 12), none, .mv (.t 24)⟩] (some [5, 7, 8, 9, 10, 11, 12]))
  (.sq (.sq (.op 0 [⟨(some 25), none, .mv (.t 12)⟩,
    ⟨(some 26), none, .bin .eql (.t 25) (.c (.int .i64 0))⟩] none)
  (.cd (.t 26)
   (.op 0 [⟨(some 27), none, .fa (.t 5) 0⟩,
     ⟨(some 28), none, .ld (.t 27) 1 false⟩,
     ⟨(some 29), none, .bin .leq (.t 28) (.c (.int .i64 10))⟩,
     ⟨(some 30), none, .mv (.t 29)⟩,
     ⟨(some 31), (some (30, true)), .fa (.t 11) 0⟩,
     ⟨(some 32), (some (30, true)), .ld (.t 31) 4 true⟩,
     ⟨(some 33), (some (30, true)), .callV true (.c (.fn n_timing_net_count [])) [(.t 32)]⟩,
     ⟨(some 34), (some (30, true)), .bin .leq (.t 33) (.c (.int .i64 500))⟩,
     ⟨(some 35), none, .pick (.t 30) (.t 34) (.c (.bool false))⟩,
     ⟨(some 36), none, .callV true (.c (.fn n_timing_unless [])) [(.t 35), (.c (.int .i64 8))]⟩,
     ⟨(some 12), none, .mv (.t 36)⟩] (some [7, 8, 9, 10, 11, 12]))
   .sk))
  (.sq (.sq (.op 0 [⟨(some 37), none, .mv (.t 12)⟩,
    ⟨(some 38), none, .bin .neq (.t 37) (.c (.int .i64 0))⟩] none)
  (.cd (.t 38)
   (.sq (.op 0 [⟨(some 39), none, .mv (.t 12)⟩,
     ⟨(some 8), none, .mv (.c (.sl 1 (some true) []))⟩,
     ⟨(some 9), none, .mv (.c (.int .i64 0))⟩,
     ⟨(some 10), none, .mv (.t 39)⟩] (some [8, 9, 10]))
   .rt)
   .sk))
  (.sq (.op 0 [⟨(some 13), none, .alloc [.sl 1 (some true) []]⟩] none)
  (.sq (.op 0 [⟨(some 14), none, .alloc [.int .i64 0]⟩,
    ⟨none, none, .st (.t 14) (.c (.int .i64 (-1))) 1⟩] none)
  (.sq (.sq (.kp [7, 8, 9, 10, 11, 13, 14, 42] [8, 9, 10] (.op 0 [⟨(some 40), none, .fa (.t 11) 0⟩,
    ⟨(some 41), none, .ld (.t 40) 4 true⟩,
    ⟨(some 42), none, .mkm n_timing_net_all (.t 41)⟩] none))
  (.bk 0 (.kp [13, 14] [8, 9, 10] (.rf (.t 42) 65 0 [7, 11, 13, 14] [43] c_timing_TruePath_R0A c_timing_TruePath_R0B))))
  (.sq (.sq (.op 0 [⟨(some 61), none, .ld (.t 13) 1 false⟩,
    ⟨(some 62), none, .isnil true false (.t 61)⟩] none)
  (.cd (.t 62)
   (.sq (.op 0 [⟨(some 8), none, .mv (.c (.sl 1 (some true) []))⟩,
     ⟨(some 9), none, .mv (.c (.int .i64 0))⟩,
     ⟨(some 10), none, .mv (.c (.int .i64 12))⟩] none)
   .rt)
   .sk))
  (.sq (.op 3 [⟨(some 63), none, .ld (.t 13) 1 false⟩,
    ⟨(some 64), none, .ld (.t 14) 1 false⟩,
    ⟨(some 8), none, .mv (.t 63)⟩,
    ⟨(some 9), none, .mv (.t 64)⟩,
    ⟨(some 10), none, .mv (.c (.int .i64 0))⟩] (some [8, 9, 10]))
  .rt))))))))),
  [.t 8, .t 9, .t 10]⟩
def c_ratchetref28_NetErr : FnIR := ⟨16,
  (.sq (.op 0 [⟨(some 3), none, .box (.t 1) 3⟩,
    ⟨(some 4), none, .mv (.c (.int .i64 0))⟩] none)
  (.sq (.sq (.op 0 [⟨(some 6), none, .mv (.t 0)⟩,
    ⟨(some 7), none, .ld (.t 3) 3 true⟩,
    ⟨(some 8), none, .callV true (.c (.fn n_ratchetref27_NetErr [])) [(.t 6), (.t 7)]⟩,
    ⟨(some 5), none, .mv (.t 8)⟩] (some [3, 5]))
  (.sq (.op 0 [⟨(some 9), none, .mv (.t 5)⟩,
    ⟨(some 10), none, .bin .neq (.t 9) (.c (.int .i64 0))⟩] none)
  (.cd (.t 10)
   (.sq (.op 0 [⟨(some 11), none, .mv (.t 5)⟩,
     ⟨(some 4), none, .mv (.t 11)⟩] none)
   .rt)
   .sk)))
  (.sq (.sq (.op 0 [⟨(some 12), none, .fa (.t 3) 1⟩,
    ⟨(some 13), none, .ld (.t 12) 1 false⟩,
    ⟨(some 14), none, .len false (.t 13)⟩,
    ⟨(some 15), none, .bin .gtr (.t 14) (.c (.int .i64 60))⟩] (some [15]))
  (.cd (.t 15)
   (.sq (.op 0 [⟨(some 4), none, .mv (.c (.int .i64 8))⟩] none)
   .rt)
   .sk))
  (.sq (.op 0 [⟨(some 4), none, .mv (.c (.int .i64 0))⟩] none)
  .rt)))),
  [.t 4]⟩
def b_ratchetref28_PathErr_L0 : IR :=
 (.sq (.sq (.op 0 [⟨(some 9), none, .mv (.t 5)⟩,
   ⟨(some 10), none, .mv (.t 1)⟩,
   ⟨(some 11), none, .len false (.t 10)⟩,
   ⟨(some 12), none, .bin .lss (.t 9) (.t 11)⟩] (some [1, 2, 5, 12]))
 (.cd (.t 12)
  .sk
  (.ex 0)))
 (.sq (.bk 1 (.sq (.sq (.op 26 [⟨(some 15), none, .mv (.t 5)⟩,
    ⟨(some 16), none, .bin .eql (.t 15) (.c (.int .i64 0))⟩,
    ⟨(some 17), none, .mv (.t 16)⟩,
    ⟨(some 18), (some (17, true)), .mv (.t 1)⟩,
    ⟨(some 19), (some (17, true)), .mv (.t 5)⟩,
    ⟨(some 20), (some (17, true)), .ia (.t 18) (.t 19) 1⟩,
    ⟨(some 21), (some (17, true)), .ld (.t 20) 1 false⟩,
    ⟨(some 22), (some (17, true)), .fa (.t 2) 0⟩,
    ⟨(some 23), (some (17, true)), .ld (.t 22) 1 false⟩,
    ⟨(some 24), (some (17, true)), .bin .sub (.t 23) (.c (.int .i64 1))⟩,
    ⟨(some 25), (some (17, true)), .callV true (.c (.fn n_ratchetbase_Within [])) [(.t 21), (.c (.int .i64 0)), (.t 24)]⟩,
    ⟨(some 26), (some (17, true)), .un .not (.t 25)⟩,
    ⟨(some 27), none, .pick (.t 17) (.t 26) (.c (.bool false))⟩,
    ⟨(some 28), none, .mv (.t 27)⟩,
    ⟨(some 29), (some (28, false)), .mv (.t 5)⟩,
    ⟨(some 30), (some (28, false)), .bin .gtr (.t 29) (.c (.int .i64 0))⟩,
    ⟨(some 31), (some (28, false)), .mv (.t 30)⟩,
    ⟨(some 32), (some (31, true)), .mv (.t 1)⟩,
    ⟨(some 33), (some (31, true)), .mv (.t 5)⟩,
    ⟨(some 34), (some (31, true)), .ia (.t 32) (.t 33) 1⟩,
    ⟨(some 35), (some (31, true)), .ld (.t 34) 1 false⟩,
    ⟨(some 36), (some (31, true)), .fa (.t 2) 0⟩,
    ⟨(some 37), (some (31, true)), .ld (.t 36) 1 false⟩,
    ⟨(some 38), (some (31, true)), .ld (.t 2) 3 true⟩,
    ⟨(some 39), (some (31, true)), .callV true (.c (.fn n_ratchetref28_Points [])) [(.t 38)]⟩,
    ⟨(some 40), (some (31, true)), .bin .sub (.t 39) (.c (.int .i64 1))⟩,
    ⟨(some 41), (some (31, true)), .callV true (.c (.fn n_ratchetbase_Within [])) [(.t 35), (.t 37), (.t 40)]⟩,
    ⟨(some 42), (some (31, true)), .un .not (.t 41)⟩,
    ⟨(some 43), (some (28, false)), .pick (.t 31) (.t 42) (.c (.bool false))⟩,
    ⟨(some 44), none, .pick (.t 28) (.c (.bool true)) (.t 43)⟩] (some [1, 2, 5, 44]))
  (.cd (.t 44)
   (.sq (.op 0 [⟨(some 4), none, .mv (.c (.int .i64 6))⟩] none)
   .rt)
   .sk))
  (.sq (.op 21 [⟨(some 45), none, .mv (.t 5)⟩,
    ⟨(some 46), none, .bin .gtr (.t 45) (.c (.int .i64 0))⟩,
    ⟨(some 47), none, .mv (.t 46)⟩,
    ⟨(some 48), (some (47, true)), .fa (.t 2) 1⟩,
    ⟨(some 49), (some (47, true)), .ld (.t 48) 1 false⟩,
    ⟨(some 50), (some (47, true)), .mv (.t 1)⟩,
    ⟨(some 51), (some (47, true)), .mv (.t 5)⟩,
    ⟨(some 52), (some (47, true)), .ia (.t 50) (.t 51) 1⟩,
    ⟨(some 53), (some (47, true)), .ld (.t 52) 1 false⟩,
    ⟨(some 54), (some (47, true)), .fa (.t 2) 0⟩,
    ⟨(some 55), (some (47, true)), .ld (.t 54) 1 false⟩,
    ⟨(some 56), (some (47, true)), .bin .sub (.t 53) (.t 55)⟩,
    ⟨(some 57), (some (47, true)), .ia (.t 49) (.t 56) 2⟩,
    ⟨(some 58), (some (47, true)), .fa (.t 57) 1⟩,
    ⟨(some 59), (some (47, true)), .ld (.t 58) 1 false⟩,
    ⟨(some 60), (some (47, true)), .mv (.t 1)⟩,
    ⟨(some 61), (some (47, true)), .mv (.t 5)⟩,
    ⟨(some 62), (some (47, true)), .bin .sub (.t 61) (.c (.int .i64 1))⟩,
    ⟨(some 63), (some (47, true)), .ia (.t 60) (.t 62) 1⟩,
    ⟨(some 64), (some (47, true)), .ld (.t 63) 1 false⟩,
    ⟨(some 65), (some (47, true)), .bin .add (.t 64) (.c (.int .i64 2))⟩,
    ⟨(some 66), (some (47, true)), .callV true (.c (.fn n_ratchetbase_Has [])) [(.t 59), (.t 65)]⟩,
    ⟨(some 67), (some (47, true)), .un .not (.t 66)⟩,
    ⟨(some 68), none, .pick (.t 47) (.t 67) (.c (.bool false))⟩] (some [1, 2, 5, 68]))
  (.cd (.t 68)
   (.sq (.op 0 [⟨(some 4), none, .mv (.c (.int .i64 14))⟩] none)
   .rt)
   .sk))))
 (.op 0 [⟨(some 13), none, .mv (.t 5)⟩,
   ⟨(some 14), none, .bin .add (.t 13) (.c (.int .i64 1))⟩,
   ⟨(some 5), none, .mv (.t 14)⟩] none)))
def c_ratchetref28_PathErr_L0 : IR := b_ratchetref28_PathErr_L0
theorem u_ratchetref28_PathErr_L0 {C : Call} {L : Loop} {π : Id} {k0 : List Id} {e : Env} {s : Sto} : evC C L π k0 c_ratchetref28_PathErr_L0 e s = evC C L π k0 b_ratchetref28_PathErr_L0 e s := rfl
def c_ratchetref28_PathErr : FnIR := ⟨80,
  (.sq (.op 0 [⟨(some 2), none, .box (.t 0) 3⟩,
    ⟨(some 4), none, .mv (.c (.int .i64 0))⟩] none)
  (.sq (.sq (.op 0 [⟨(some 6), none, .mv (.t 1)⟩,
    ⟨(some 7), none, .len false (.t 6)⟩,
    ⟨(some 8), none, .bin .eql (.t 7) (.c (.int .i64 0))⟩] none)
  (.cd (.t 8)
   (.sq (.op 0 [⟨(some 4), none, .mv (.c (.int .i64 10))⟩] none)
   .rt)
   .sk))
  (.sq (.sq (.op 0 [⟨(some 5), none, .mv (.c (.int .i64 0))⟩] none)
  (.kp [1, 2] [4] (.bk 0 (.lp [] [1, 2, 5] c_ratchetref28_PathErr_L0))))
  (.sq (.sq (.op 9 [⟨(some 69), none, .fa (.t 2) 2⟩,
    ⟨(some 70), none, .ld (.t 69) 1 false⟩,
    ⟨(some 71), none, .mv (.t 1)⟩,
    ⟨(some 72), none, .mv (.t 1)⟩,
    ⟨(some 73), none, .len false (.t 72)⟩,
    ⟨(some 74), none, .bin .sub (.t 73) (.c (.int .i64 1))⟩,
    ⟨(some 75), none, .ia (.t 71) (.t 74) 1⟩,
    ⟨(some 76), none, .ld (.t 75) 1 false⟩,
    ⟨(some 77), none, .bin .add (.t 76) (.c (.int .i64 2))⟩,
    ⟨(some 78), none, .callV true (.c (.fn n_ratchetbase_Has [])) [(.t 70), (.t 77)]⟩,
    ⟨(some 79), none, .un .not (.t 78)⟩] (some [79]))
  (.cd (.t 79)
   (.sq (.op 0 [⟨(some 4), none, .mv (.c (.int .i64 21))⟩] none)
   .rt)
   .sk))
  (.sq (.op 0 [⟨(some 4), none, .mv (.c (.int .i64 0))⟩] none)
  .rt))))),
  [.t 4]⟩
def c_ratchetref28_BitsErr : FnIR := ⟨6,
  (.sq (.op 0 [⟨(some 1), none, .box (.t 0) 3⟩,
    ⟨(some 2), none, .mv (.c (.int .i64 0))⟩] none)
  (.sq (.sq (.op 0 [⟨(some 3), none, .fa (.t 1) 0⟩,
    ⟨(some 4), none, .ld (.t 3) 1 false⟩,
    ⟨(some 5), none, .bin .gtr (.t 4) (.c (.int .i64 10))⟩] none)
  (.cd (.t 5)
   (.sq (.op 0 [⟨(some 2), none, .mv (.c (.int .i64 8))⟩] none)
   .rt)
   .sk))
  (.sq (.op 0 [⟨(some 2), none, .mv (.c (.int .i64 0))⟩] none)
  .rt))),
  [.t 2]⟩
def b_ratchetref28_UsedAt_L1 : IR :=
 (.sq (.sq (.op 0 [⟨(some 18), none, .mv (.t 10)⟩,
   ⟨(some 19), none, .fa (.t 4) 0⟩,
   ⟨(some 20), none, .ld (.t 19) 1 false⟩,
   ⟨(some 21), none, .bin .lss (.t 18) (.t 20)⟩] (some [0, 2, 4, 8, 9, 10, 21]))
 (.cd (.t 21)
  .sk
  (.ex 2)))
 (.sq (.bk 3 (.op 0 [⟨(some 24), none, .mv (.t 9)⟩,
    ⟨(some 25), none, .mv (.t 8)⟩,
    ⟨(some 26), none, .fa (.t 4) 0⟩,
    ⟨(some 27), none, .ld (.t 26) 1 false⟩,
    ⟨(some 28), none, .bin .sub (.t 27) (.c (.int .i64 1))⟩,
    ⟨(some 29), none, .mv (.t 10)⟩,
    ⟨(some 30), none, .bin .sub (.t 28) (.t 29)⟩,
    ⟨(some 31), none, .callV true (.c (.fn n_ratchetbase_Power [])) [(.t 30)]⟩,
    ⟨(some 32), none, .bin .quo (.t 25) (.t 31)⟩,
    ⟨(some 33), none, .bin .rem (.t 32) (.c (.int .i64 2))⟩,
    ⟨(some 34), none, .bsl t_int 1 false [.int .i64 0] 1 [(0, (.t 33))]⟩,
    ⟨(some 35), none, .app (.t 24) (.t 34) t_int 1⟩,
    ⟨(some 9), none, .mv (.t 35)⟩] (some [0, 2, 4, 8, 9, 10])))
 (.op 0 [⟨(some 22), none, .mv (.t 10)⟩,
   ⟨(some 23), none, .bin .add (.t 22) (.c (.int .i64 1))⟩,
   ⟨(some 10), none, .mv (.t 23)⟩] none)))
def c_ratchetref28_UsedAt_L1 : IR := b_ratchetref28_UsedAt_L1
theorem u_ratchetref28_UsedAt_L1 {C : Call} {L : Loop} {π : Id} {k0 : List Id} {e : Env} {s : Sto} : evC C L π k0 c_ratchetref28_UsedAt_L1 e s = evC C L π k0 b_ratchetref28_UsedAt_L1 e s := rfl
def b_ratchetref28_UsedAt_L0 : IR :=
 (.sq (.sq (.op 0 [⟨(some 11), none, .mv (.t 8)⟩,
   ⟨(some 12), none, .fa (.t 4) 0⟩,
   ⟨(some 13), none, .ld (.t 12) 1 false⟩,
   ⟨(some 14), none, .callV true (.c (.fn n_ratchetbase_Power [])) [(.t 13)]⟩,
   ⟨(some 15), none, .bin .lss (.t 11) (.t 14)⟩] (some [0, 2, 4, 8, 15]))
 (.cd (.t 15)
  .sk
  (.ex 0)))
 (.sq (.bk 1 (.sq (.op 0 [⟨(some 9), none, .mv (.c (.sl 1 (some true) []))⟩] none)
  (.sq (.sq (.op 0 [⟨(some 10), none, .mv (.c (.int .i64 0))⟩] none)
  (.kp [0, 2, 4, 8, 9] [6, 7] (.bk 2 (.lp [(t_int, .inl 9)] [0, 2, 4, 8, 9, 10] c_ratchetref28_UsedAt_L1))))
  (.sq (.op 0 [⟨(some 36), none, .mv (.t 0)⟩,
    ⟨(some 37), none, .ld (.t 4) 3 true⟩,
    ⟨(some 38), none, .mv (.t 2)⟩,
    ⟨(some 39), none, .mv (.t 9)⟩,
    ⟨(some 40), none, .callV true (.c (.fn n_ratchetref28_IsUsed [])) [(.t 36), (.t 37), (.t 38), (.t 39)]⟩] (some [0, 2, 4, 8, 9, 40]))
  (.cd (.t 40)
   (.sq (.op 0 [⟨(some 41), none, .mv (.t 9)⟩,
     ⟨(some 6), none, .mv (.t 41)⟩,
     ⟨(some 7), none, .mv (.c (.bool true))⟩] none)
   .rt)
   .sk)))))
 (.op 0 [⟨(some 16), none, .mv (.t 8)⟩,
   ⟨(some 17), none, .bin .add (.t 16) (.c (.int .i64 1))⟩,
   ⟨(some 8), none, .mv (.t 17)⟩] none)))
def c_ratchetref28_UsedAt_L0 : IR := b_ratchetref28_UsedAt_L0
theorem u_ratchetref28_UsedAt_L0 {C : Call} {L : Loop} {π : Id} {k0 : List Id} {e : Env} {s : Sto} : evC C L π k0 c_ratchetref28_UsedAt_L0 e s = evC C L π k0 b_ratchetref28_UsedAt_L0 e s := rfl
def c_ratchetref28_UsedAt : FnIR := ⟨42,
  (.sq (.op 0 [⟨(some 4), none, .box (.t 1) 3⟩,
    ⟨(some 6), none, .mv (.c (.sl 1 (some true) []))⟩,
    ⟨(some 7), none, .mv (.c (.bool false))⟩] none)
  (.sq (.sq (.op 0 [⟨(some 8), none, .mv (.c (.int .i64 0))⟩] none)
  (.kp [] [6, 7] (.bk 0 (.lp [] [0, 2, 4, 8] c_ratchetref28_UsedAt_L0))))
  (.sq (.op 0 [⟨(some 6), none, .mv (.c (.sl 1 (some true) []))⟩,
    ⟨(some 7), none, .mv (.c (.bool false))⟩] none)
  .rt))),
  [.t 6, .t 7]⟩
def b_ratchetbase_Ints_L0 : IR :=
 (.sq (.sq (.op 0 [⟨(some 11), none, .mv (.t 5)⟩,
   ⟨(some 12), none, .mv (.t 0)⟩,
   ⟨(some 13), none, .len false (.t 12)⟩,
   ⟨(some 14), none, .bin .lss (.t 11) (.t 13)⟩] (some [0, 1, 5, 14]))
 (.cd (.t 14)
  .sk
  (.ex 0)))
 (.sq (.bk 1 (.sq (.op 8 [⟨(some 17), none, .mv (.t 0)⟩,
    ⟨(some 18), none, .mv (.t 5)⟩,
    ⟨(some 19), none, .ia (.t 17) (.t 18) 1⟩,
    ⟨(some 20), none, .ld (.t 19) 1 false⟩,
    ⟨(some 21), none, .mv (.t 1)⟩,
    ⟨(some 22), none, .mv (.t 5)⟩,
    ⟨(some 23), none, .ia (.t 21) (.t 22) 1⟩,
    ⟨(some 24), none, .ld (.t 23) 1 false⟩,
    ⟨(some 25), none, .bin .neq (.t 20) (.t 24)⟩] (some [0, 1, 5, 25]))
  (.cd (.t 25)
   (.sq (.op 0 [⟨(some 4), none, .mv (.c (.bool false))⟩] none)
   .rt)
   .sk)))
 (.op 0 [⟨(some 15), none, .mv (.t 5)⟩,
   ⟨(some 16), none, .bin .add (.t 15) (.c (.int .i64 1))⟩,
   ⟨(some 5), none, .mv (.t 16)⟩] none)))
def c_ratchetbase_Ints_L0 : IR := b_ratchetbase_Ints_L0
theorem u_ratchetbase_Ints_L0 {C : Call} {L : Loop} {π : Id} {k0 : List Id} {e : Env} {s : Sto} : evC C L π k0 c_ratchetbase_Ints_L0 e s = evC C L π k0 b_ratchetbase_Ints_L0 e s := rfl
def c_ratchetbase_Ints : FnIR := ⟨26,
  (.sq (.op 0 [⟨(some 4), none, .mv (.c (.bool false))⟩] none)
  (.sq (.sq (.op 0 [⟨(some 6), none, .mv (.t 0)⟩,
    ⟨(some 7), none, .len false (.t 6)⟩,
    ⟨(some 8), none, .mv (.t 1)⟩,
    ⟨(some 9), none, .len false (.t 8)⟩,
    ⟨(some 10), none, .bin .neq (.t 7) (.t 9)⟩] (some [0, 1, 10]))
  (.cd (.t 10)
   (.sq (.op 0 [⟨(some 4), none, .mv (.c (.bool false))⟩] none)
   .rt)
   .sk))
  (.sq (.sq (.op 0 [⟨(some 5), none, .mv (.c (.int .i64 0))⟩] none)
  (.kp [] [4] (.bk 0 (.lp [] [0, 1, 5] c_ratchetbase_Ints_L0))))
  (.sq (.op 0 [⟨(some 4), none, .mv (.c (.bool true))⟩] none)
  .rt)))),
  [.t 4]⟩
def b_ratchetref28_TimesErr_L0 : IR :=
 (.sq (.sq (.op 0 [⟨(some 10), none, .mv (.t 5)⟩,
   ⟨(some 11), none, .mv (.t 1)⟩,
   ⟨(some 12), none, .len false (.t 11)⟩,
   ⟨(some 13), none, .bin .lss (.t 10) (.t 12)⟩] (some [1, 5, 13]))
 (.cd (.t 13)
  .sk
  (.ex 0)))
 (.sq (.bk 1 (.sq (.op 0 [⟨(some 16), none, .mv (.t 1)⟩,
    ⟨(some 17), none, .mv (.t 5)⟩,
    ⟨(some 18), none, .ia (.t 16) (.t 17) 1⟩,
    ⟨(some 19), none, .ld (.t 18) 1 false⟩,
    ⟨(some 20), none, .callV true (.c (.fn n_ratchetbase_Within [])) [(.t 19), (.c (.int .i64 0)), (.c (.int .i64 1000000))]⟩,
    ⟨(some 21), none, .un .not (.t 20)⟩] (some [1, 5, 21]))
  (.cd (.t 21)
   (.sq (.op 0 [⟨(some 4), none, .mv (.c (.int .i64 2))⟩] none)
   .rt)
   .sk)))
 (.op 0 [⟨(some 14), none, .mv (.t 5)⟩,
   ⟨(some 15), none, .bin .add (.t 14) (.c (.int .i64 1))⟩,
   ⟨(some 5), none, .mv (.t 15)⟩] none)))
def c_ratchetref28_TimesErr_L0 : IR := b_ratchetref28_TimesErr_L0
theorem u_ratchetref28_TimesErr_L0 {C : Call} {L : Loop} {π : Id} {k0 : List Id} {e : Env} {s : Sto} : evC C L π k0 c_ratchetref28_TimesErr_L0 e s = evC C L π k0 b_ratchetref28_TimesErr_L0 e s := rfl
def c_ratchetref28_TimesErr : FnIR := ⟨22,
  (.sq (.op 0 [⟨(some 4), none, .mv (.c (.int .i64 0))⟩] none)
  (.sq (.sq (.op 0 [⟨(some 6), none, .mv (.t 1)⟩,
    ⟨(some 7), none, .len false (.t 6)⟩,
    ⟨(some 8), none, .mv (.t 0)⟩,
    ⟨(some 9), none, .bin .neq (.t 7) (.t 8)⟩] (some [1, 9]))
  (.cd (.t 9)
   (.sq (.op 0 [⟨(some 4), none, .mv (.c (.int .i64 10))⟩] none)
   .rt)
   .sk))
  (.sq (.sq (.op 0 [⟨(some 5), none, .mv (.c (.int .i64 0))⟩] none)
  (.kp [] [4] (.bk 0 (.lp [] [1, 5] c_ratchetref28_TimesErr_L0))))
  (.sq (.op 0 [⟨(some 4), none, .mv (.c (.int .i64 0))⟩] none)
  .rt)))),
  [.t 4]⟩
def c_ratchetref28_TrueErr : FnIR := ⟨13,
  (.sq (.op 0 [⟨(some 1), none, .box (.t 0) 3⟩,
    ⟨(some 2), none, .mv (.c (.int .i64 0))⟩] none)
  (.sq (.sq (.op 0 [⟨(some 4), none, .ld (.t 1) 3 true⟩,
    ⟨(some 5), none, .callV true (.c (.fn n_ratchetref28_BitsErr [])) [(.t 4)]⟩,
    ⟨(some 3), none, .mv (.t 5)⟩] none)
  (.sq (.op 0 [⟨(some 6), none, .mv (.t 3)⟩,
    ⟨(some 7), none, .bin .neq (.t 6) (.c (.int .i64 0))⟩] none)
  (.cd (.t 7)
   (.sq (.op 0 [⟨(some 8), none, .mv (.t 3)⟩,
     ⟨(some 2), none, .mv (.t 8)⟩] none)
   .rt)
   .sk)))
  (.sq (.sq (.op 0 [⟨(some 9), none, .ld (.t 1) 3 true⟩,
    ⟨(some 10), none, .callV false (.c (.fn n_ratchetref28_Paths [])) [(.t 9), (.c (.int .i64 500))]⟩,
    ⟨(some 11), none, .len false (.t 10)⟩,
    ⟨(some 12), none, .bin .gtr (.t 11) (.c (.int .i64 500))⟩] (some [12]))
  (.cd (.t 12)
   (.sq (.op 0 [⟨(some 2), none, .mv (.c (.int .i64 8))⟩] none)
   .rt)
   .sk))
  (.sq (.op 0 [⟨(some 2), none, .mv (.c (.int .i64 0))⟩] none)
  .rt)))),
  [.t 2]⟩
def b_ratchetref28_True_L0 : IR :=
 (.sq (.sq (.op 0 [⟨(some 17), none, .mv (.t 12)⟩,
   ⟨(some 18), none, .mv (.t 10)⟩,
   ⟨(some 19), none, .len false (.t 18)⟩,
   ⟨(some 20), none, .bin .lss (.t 17) (.t 19)⟩] (some [0, 3, 5, 6, 10, 11, 12, 20]))
 (.cd (.t 20)
  .sk
  (.ex 0)))
 (.sq (.bk 1 (.sq (.fz [0, 10, 16] (.op 11 [⟨(some 24), none, .mv (.t 0)⟩,
    ⟨(some 25), none, .ld (.t 5) 3 true⟩,
    ⟨(some 26), none, .mv (.t 10)⟩,
    ⟨(some 27), none, .mv (.t 12)⟩,
    ⟨(some 28), none, .ia (.t 26) (.t 27) 1⟩,
    ⟨(some 29), none, .ld (.t 28) 1 false⟩,
    ⟨(some 30), none, .callV false (.c (.fn n_ratchetref28_UsedAt [])) [(.t 24), (.t 25), (.t 29)]⟩,
    ⟨(some 23), none, .mv (.t 30)⟩,
    ⟨(some 31), none, .ext (.t 23) 0⟩,
    ⟨(some 32), none, .ext (.t 23) 1⟩,
    ⟨(some 13), none, .mv (.t 31)⟩,
    ⟨(some 14), none, .mv (.t 32)⟩] (some [0, 3, 5, 6, 10, 11, 12, 14])))
  (.sq (.op 0 [⟨(some 33), none, .mv (.t 14)⟩] none)
  (.cd (.t 33)
   (.op 0 [⟨(some 34), none, .mv (.t 11)⟩,
     ⟨(some 35), none, .mv (.t 10)⟩,
     ⟨(some 36), none, .mv (.t 12)⟩,
     ⟨(some 37), none, .ia (.t 35) (.t 36) 1⟩,
     ⟨(some 38), none, .ld (.t 37) 1 false⟩,
     ⟨(some 39), none, .bsl t_L_int 1 false [.sl 1 (some true) []] 1 [(0, (.t 38))]⟩,
     ⟨(some 40), none, .app (.t 34) (.t 39) t_L_int 1⟩,
     ⟨(some 11), none, .mv (.t 40)⟩] (some [0, 3, 5, 6, 10, 11, 12]))
   .sk))))
 (.op 0 [⟨(some 21), none, .mv (.t 12)⟩,
   ⟨(some 22), none, .bin .add (.t 21) (.c (.int .i64 1))⟩,
   ⟨(some 12), none, .mv (.t 22)⟩] none)))
def c_ratchetref28_True_L0 : IR := b_ratchetref28_True_L0
theorem u_ratchetref28_True_L0 {C : Call} {L : Loop} {π : Id} {k0 : List Id} {e : Env} {s : Sto} : evC C L π k0 c_ratchetref28_True_L0 e s = evC C L π k0 b_ratchetref28_True_L0 e s := rfl
def c_ratchetref28_True : FnIR := ⟨49,
  (.sq (.op 0 [⟨(some 5), none, .box (.t 1) 3⟩,
    ⟨(some 6), none, .box (.t 2) 5⟩,
    ⟨(some 8), none, .mv (.c (.sl 1 (some true) []))⟩,
    ⟨(some 9), none, .mv (.c (.bool false))⟩] (some [0, 3, 5, 6]))
  (.sq (.op 0 [⟨(some 15), none, .ld (.t 5) 3 true⟩,
    ⟨(some 16), none, .callV true (.c (.fn n_ratchetref28_Paths [])) [(.t 15), (.c (.int .i64 500))]⟩,
    ⟨(some 10), none, .mv (.t 16)⟩] none)
  (.sq (.op 0 [⟨(some 11), none, .mv (.c (.sl 1 (some true) []))⟩] none)
  (.sq (.sq (.op 0 [⟨(some 12), none, .mv (.c (.int .i64 0))⟩] none)
  (.kp [0, 3, 5, 6, 11] [8, 9] (.bk 0 (.lp [(t_L_int, .inl 11)] [0, 3, 5, 6, 10, 11, 12] c_ratchetref28_True_L0))))
  (.sq (.op 0 [⟨(some 41), none, .mv (.t 0)⟩,
    ⟨(some 42), none, .ld (.t 5) 3 true⟩,
    ⟨(some 43), none, .ld (.t 6) 5 true⟩,
    ⟨(some 44), none, .mv (.t 3)⟩,
    ⟨(some 45), none, .mv (.t 11)⟩,
    ⟨(some 46), none, .callV false (.c (.fn n_ratchetref28_Critical [])) [(.t 41), (.t 42), (.t 43), (.t 44), (.t 45)]⟩,
    ⟨(some 47), none, .ext (.t 46) 0⟩,
    ⟨(some 48), none, .ext (.t 46) 1⟩,
    ⟨(some 8), none, .mv (.t 47)⟩,
    ⟨(some 9), none, .mv (.t 48)⟩] (some [8, 9]))
  .rt))))),
  [.t 8, .t 9]⟩
def b_ratchetref28_Critical_L0 : IR :=
 (.sq (.sq (.op 0 [⟨(some 14), none, .mv (.t 13)⟩,
   ⟨(some 15), none, .mv (.t 4)⟩,
   ⟨(some 16), none, .len false (.t 15)⟩,
   ⟨(some 17), none, .bin .lss (.t 14) (.t 16)⟩] (some [0, 3, 4, 6, 7, 12, 13, 17]))
 (.cd (.t 17)
  .sk
  (.ex 0)))
 (.sq (.bk 1 (.sq (.fz [0, 3, 4] (.op 17 [⟨(some 20), none, .mv (.t 12)⟩,
    ⟨(some 21), none, .isnil true false (.t 20)⟩,
    ⟨(some 22), none, .mv (.t 21)⟩,
    ⟨(some 23), (some (22, false)), .mv (.t 0)⟩,
    ⟨(some 24), (some (22, false)), .ld (.t 6) 3 true⟩,
    ⟨(some 25), (some (22, false)), .ld (.t 7) 5 true⟩,
    ⟨(some 26), (some (22, false)), .mv (.t 3)⟩,
    ⟨(some 27), (some (22, false)), .mv (.t 4)⟩,
    ⟨(some 28), (some (22, false)), .mv (.t 13)⟩,
    ⟨(some 29), (some (22, false)), .ia (.t 27) (.t 28) 1⟩,
    ⟨(some 30), (some (22, false)), .ld (.t 29) 1 false⟩,
    ⟨(some 31), (some (22, false)), .callV true (.c (.fn n_ratchetref28_Delay [])) [(.t 23), (.t 24), (.t 25), (.t 26), (.t 30)]⟩,
    ⟨(some 32), (some (22, false)), .mv (.t 0)⟩,
    ⟨(some 33), (some (22, false)), .ld (.t 6) 3 true⟩,
    ⟨(some 34), (some (22, false)), .ld (.t 7) 5 true⟩,
    ⟨(some 35), (some (22, false)), .mv (.t 3)⟩,
    ⟨(some 36), (some (22, false)), .mv (.t 12)⟩,
    ⟨(some 37), (some (22, false)), .callV true (.c (.fn n_ratchetref28_Delay [])) [(.t 32), (.t 33), (.t 34), (.t 35), (.t 36)]⟩,
    ⟨(some 38), (some (22, false)), .bin .gtr (.t 31) (.t 37)⟩,
    ⟨(some 39), none, .pick (.t 22) (.c (.bool true)) (.t 38)⟩] (some [0, 3, 4, 6, 7, 12, 13, 39])))
  (.cd (.t 39)
   (.op 0 [⟨(some 40), none, .mv (.t 4)⟩,
     ⟨(some 41), none, .mv (.t 13)⟩,
     ⟨(some 42), none, .ia (.t 40) (.t 41) 1⟩,
     ⟨(some 43), none, .ld (.t 42) 1 false⟩,
     ⟨(some 12), none, .mv (.t 43)⟩] (some [0, 3, 4, 6, 7, 12, 13]))
   .sk)))
 (.op 0 [⟨(some 18), none, .mv (.t 13)⟩,
   ⟨(some 19), none, .bin .add (.t 18) (.c (.int .i64 1))⟩,
   ⟨(some 13), none, .mv (.t 19)⟩] none)))
def c_ratchetref28_Critical_L0 : IR := b_ratchetref28_Critical_L0
theorem u_ratchetref28_Critical_L0 {C : Call} {L : Loop} {π : Id} {k0 : List Id} {e : Env} {s : Sto} : evC C L π k0 c_ratchetref28_Critical_L0 e s = evC C L π k0 b_ratchetref28_Critical_L0 e s := rfl
def c_ratchetref28_Critical : FnIR := ⟨47,
  (.sq (.op 0 [⟨(some 6), none, .box (.t 1) 3⟩,
    ⟨(some 7), none, .box (.t 2) 5⟩,
    ⟨(some 10), none, .mv (.c (.sl 1 (some true) []))⟩,
    ⟨(some 11), none, .mv (.c (.bool false))⟩] (some [0, 3, 4, 6, 7]))
  (.sq (.op 0 [⟨(some 12), none, .mv (.c (.sl 1 (some true) []))⟩] none)
  (.sq (.sq (.op 0 [⟨(some 13), none, .mv (.c (.int .i64 0))⟩] none)
  (.kp [12] [10, 11] (.bk 0 (.lp [] [0, 3, 4, 6, 7, 12, 13] c_ratchetref28_Critical_L0))))
  (.sq (.op 0 [⟨(some 44), none, .mv (.t 12)⟩,
    ⟨(some 45), none, .mv (.t 12)⟩,
    ⟨(some 46), none, .isnil true true (.t 45)⟩,
    ⟨(some 10), none, .mv (.t 44)⟩,
    ⟨(some 11), none, .mv (.t 46)⟩] (some [10, 11]))
  .rt)))),
  [.t 10, .t 11]⟩
def b_ratchetref28_Delay_L0 : IR :=
 (.sq (.sq (.op 0 [⟨(some 24), none, .mv (.t 13)⟩,
   ⟨(some 25), none, .mv (.t 4)⟩,
   ⟨(some 26), none, .len false (.t 25)⟩,
   ⟨(some 27), none, .bin .lss (.t 24) (.t 26)⟩] (some [4, 6, 11, 12, 13, 27]))
 (.cd (.t 27)
  .sk
  (.ex 0)))
 (.sq (.bk 1 (.op 8 [⟨(some 30), none, .mv (.t 11)⟩,
    ⟨(some 31), none, .mv (.t 12)⟩,
    ⟨(some 32), none, .mv (.t 4)⟩,
    ⟨(some 33), none, .mv (.t 13)⟩,
    ⟨(some 34), none, .ia (.t 32) (.t 33) 1⟩,
    ⟨(some 35), none, .ld (.t 34) 1 false⟩,
    ⟨(some 36), none, .fa (.t 6) 0⟩,
    ⟨(some 37), none, .ld (.t 36) 1 false⟩,
    ⟨(some 38), none, .bin .sub (.t 35) (.t 37)⟩,
    ⟨(some 39), none, .ia (.t 31) (.t 38) 1⟩,
    ⟨(some 40), none, .ld (.t 39) 1 false⟩,
    ⟨(some 41), none, .bin .add (.t 30) (.t 40)⟩,
    ⟨(some 11), none, .mv (.t 41)⟩] (some [4, 6, 11, 12, 13])))
 (.op 0 [⟨(some 28), none, .mv (.t 13)⟩,
   ⟨(some 29), none, .bin .add (.t 28) (.c (.int .i64 1))⟩,
   ⟨(some 13), none, .mv (.t 29)⟩] none)))
def c_ratchetref28_Delay_L0 : IR := b_ratchetref28_Delay_L0
theorem u_ratchetref28_Delay_L0 {C : Call} {L : Loop} {π : Id} {k0 : List Id} {e : Env} {s : Sto} : evC C L π k0 c_ratchetref28_Delay_L0 e s = evC C L π k0 b_ratchetref28_Delay_L0 e s := rfl
def c_ratchetref28_Delay : FnIR := ⟨43,
  (.sq (.op 0 [⟨(some 6), none, .box (.t 1) 3⟩,
    ⟨(some 7), none, .box (.t 2) 5⟩,
    ⟨(some 10), none, .mv (.c (.int .i64 0))⟩] none)
  (.sq (.op 0 [⟨(some 14), none, .mv (.t 3)⟩,
    ⟨(some 15), none, .mv (.t 4)⟩,
    ⟨(some 16), none, .ia (.t 15) (.c (.int .i64 0)) 1⟩,
    ⟨(some 17), none, .ld (.t 16) 1 false⟩,
    ⟨(some 18), none, .ia (.t 14) (.t 17) 1⟩,
    ⟨(some 19), none, .ld (.t 18) 1 false⟩,
    ⟨(some 11), none, .mv (.t 19)⟩] (some [0, 4, 6, 7, 11]))
  (.sq (.op 0 [⟨(some 20), none, .mv (.t 0)⟩,
    ⟨(some 21), none, .ld (.t 6) 3 true⟩,
    ⟨(some 22), none, .ld (.t 7) 5 true⟩,
    ⟨(some 23), none, .callV false (.c (.fn n_ratchetref28_Delays [])) [(.t 20), (.t 21), (.t 22)]⟩,
    ⟨(some 12), none, .mv (.t 23)⟩] (some [4, 6, 11, 12]))
  (.sq (.sq (.op 0 [⟨(some 13), none, .mv (.c (.int .i64 1))⟩] none)
  (.kp [11] [10] (.bk 0 (.lp [] [4, 6, 11, 12, 13] c_ratchetref28_Delay_L0))))
  (.sq (.op 0 [⟨(some 42), none, .mv (.t 11)⟩,
    ⟨(some 10), none, .mv (.t 42)⟩] none)
  .rt))))),
  [.t 10]⟩
def c_timing_ArrivalsOf : FnIR := ⟨26,
  (.sq (.op 0 [⟨(some 5), none, .box (.t 1) 3⟩,
    ⟨(some 6), none, .box (.t 2) 5⟩,
    ⟨(some 8), none, .mv (.c (.sl 1 (some true) []))⟩,
    ⟨(some 9), none, .mv (.c (.int .i64 0))⟩] (some [0, 3, 5, 6]))
  (.sq (.op 0 [⟨(some 13), none, .mv (.t 0)⟩,
    ⟨(some 14), none, .ld (.t 5) 3 true⟩,
    ⟨(some 15), none, .ld (.t 6) 5 true⟩,
    ⟨(some 16), none, .mv (.t 3)⟩,
    ⟨(some 17), none, .callV false (.c (.fn n_timing_openTimes [])) [(.t 13), (.t 14), (.t 15), (.t 16)]⟩,
    ⟨(some 12), none, .mv (.t 17)⟩,
    ⟨(some 18), none, .ext (.t 12) 0⟩,
    ⟨(some 19), none, .ext (.t 12) 1⟩,
    ⟨(some 10), none, .alloc [.int .i64 0, .sl 2 (some true) [], .sl 1 (some true) [], .sl 5 (some true) [], .int .i64 0, .int .i64 0, .int .i64 0, .int .i64 0, .int .i64 0, .sl 1 (some true) []]⟩,
    ⟨none, none, .st (.t 10) (.t 18) 10⟩,
    ⟨(some 11), none, .mv (.t 19)⟩] (some [3, 10, 11]))
  (.sq (.sq (.op 0 [⟨(some 20), none, .mv (.t 11)⟩,
    ⟨(some 21), none, .bin .neq (.t 20) (.c (.int .i64 0))⟩] none)
  (.cd (.t 21)
   (.sq (.op 0 [⟨(some 22), none, .mv (.t 11)⟩,
     ⟨(some 8), none, .mv (.c (.sl 1 (some true) []))⟩,
     ⟨(some 9), none, .mv (.t 22)⟩] none)
   .rt)
   .sk))
  (.sq (.op 0 [⟨(some 23), none, .ld (.t 10) 10 true⟩,
    ⟨(some 24), none, .mv (.t 3)⟩,
    ⟨(some 25), none, .callV false (.c (.fn n_timing_timed_arrivals [])) [(.t 23), (.t 24)]⟩,
    ⟨(some 8), none, .mv (.t 25)⟩,
    ⟨(some 9), none, .mv (.c (.int .i64 0))⟩] (some [8, 9]))
  .rt)))),
  [.t 8, .t 9]⟩
def c_ratchetlaw28_Library : FnIR := ⟨6,
  (.sq (.op 0 [⟨(some 0), none, .mv (.c (.sl 5 (some true) []))⟩] none)
  (.sq (.op 0 [⟨(some 1), none, .build [.str ⟨#[]⟩, .int .i64 0, .int .i64 0, .int .i64 0, .int .i64 0] [(0, 1, (.c (.str ⟨#[105, 110, 118]⟩))), (1, 1, (.c (.int .i64 1))), (2, 1, (.c (.int .i64 1))), (3, 1, (.c (.int .i64 1))), (4, 1, (.c (.int .i64 1)))]⟩,
    ⟨(some 2), none, .build [.str ⟨#[]⟩, .int .i64 0, .int .i64 0, .int .i64 0, .int .i64 0] [(0, 1, (.c (.str ⟨#[110, 97, 110, 100]⟩))), (1, 1, (.c (.int .i64 2))), (2, 1, (.c (.int .i64 7))), (3, 1, (.c (.int .i64 2))), (4, 1, (.c (.int .i64 1)))]⟩,
    ⟨(some 3), none, .build [.str ⟨#[]⟩, .int .i64 0, .int .i64 0, .int .i64 0, .int .i64 0] [(0, 1, (.c (.str ⟨#[97, 110, 100]⟩))), (1, 1, (.c (.int .i64 2))), (2, 1, (.c (.int .i64 8))), (3, 1, (.c (.int .i64 3))), (4, 1, (.c (.int .i64 1)))]⟩,
    ⟨(some 4), none, .build [.str ⟨#[]⟩, .int .i64 0, .int .i64 0, .int .i64 0, .int .i64 0] [(0, 1, (.c (.str ⟨#[120, 111, 114]⟩))), (1, 1, (.c (.int .i64 2))), (2, 1, (.c (.int .i64 6))), (3, 1, (.c (.int .i64 5))), (4, 1, (.c (.int .i64 1)))]⟩,
    ⟨(some 5), none, .bsl t_api_MapCell 5 true [.str ⟨#[]⟩, .int .i64 0, .int .i64 0, .int .i64 0, .int .i64 0] 4 [(0, (.t 1)), (1, (.t 2)), (2, (.t 3)), (3, (.t 4))]⟩,
    ⟨(some 0), none, .mv (.t 5)⟩] (some [0]))
  .rt)),
  [.t 0]⟩
def c_ratchetlaw28_Net : FnIR := ⟨10,
  (.sq (.op 0 [⟨(some 0), none, .alloc [.int .i64 0, .sl 2 (some true) [], .sl 1 (some true) []]⟩] none)
  (.sq (.op 0 [⟨(some 1), none, .bsl t_int 1 false [.int .i64 0] 2 [(0, (.c (.int .i64 2))), (1, (.c (.int .i64 3)))]⟩,
    ⟨(some 2), none, .build [.int .i64 0, .sl 1 (some true) []] [(0, 1, (.c (.int .i64 1))), (1, 1, (.t 1))]⟩,
    ⟨(some 3), none, .bsl t_int 1 false [.int .i64 0] 1 [(0, (.c (.int .i64 4)))]⟩,
    ⟨(some 4), none, .build [.int .i64 0, .sl 1 (some true) []] [(0, 1, (.c (.int .i64 0))), (1, 1, (.t 3))]⟩,
    ⟨(some 5), none, .bsl t_int 1 false [.int .i64 0] 2 [(0, (.c (.int .i64 5))), (1, (.c (.int .i64 2)))]⟩,
    ⟨(some 6), none, .build [.int .i64 0, .sl 1 (some true) []] [(0, 1, (.c (.int .i64 1))), (1, 1, (.t 5))]⟩,
    ⟨(some 7), none, .bsl t_api_MapPlaced 2 true [.int .i64 0, .sl 1 (some true) []] 3 [(0, (.t 2)), (1, (.t 4)), (2, (.t 6))]⟩,
    ⟨(some 8), none, .bsl t_int 1 false [.int .i64 0] 1 [(0, (.c (.int .i64 6)))]⟩,
    ⟨(some 9), none, .build [.int .i64 0, .sl 2 (some true) [], .sl 1 (some true) []] [(0, 1, (.c (.int .i64 2))), (1, 1, (.t 7)), (2, 1, (.t 8))]⟩,
    ⟨none, none, .st (.t 0) (.t 9) 3⟩] (some [0]))
  .rt)),
  [.c 0 3 true]⟩
def c_ratchetlaw28_Model : FnIR := ⟨2,
  (.sq (.op 0 [⟨(some 0), none, .alloc [.int .i64 0, .int .i64 0, .int .i64 0, .int .i64 0, .int .i64 0]⟩] none)
  (.sq (.op 0 [⟨(some 1), none, .build [.int .i64 0, .int .i64 0, .int .i64 0, .int .i64 0, .int .i64 0] [(0, 1, (.c (.int .i64 1))), (1, 1, (.c (.int .i64 2))), (2, 1, (.c (.int .i64 1))), (3, 1, (.c (.int .i64 50))), (4, 1, (.c (.int .i64 150)))]⟩,
    ⟨none, none, .st (.t 0) (.t 1) 5⟩] none)
  .rt)),
  [.c 0 5 true]⟩
def b_timing_SlacksOf_L0 : IR :=
 (.sq (.op 0 [⟨(some 44), none, .bin .lss (.t 43) (.t 42)⟩] none)
 (.sq (.cd (.t 44)
  .sk
  (.ex 0))
 (.sq (.bk 1 (.sq (.op 0 [⟨(some 45), none, .mv (.t 43)⟩,
    ⟨(some 46), none, .ia (.t 41) (.t 43) 1⟩,
    ⟨(some 47), none, .ld (.t 46) 1 false⟩,
    ⟨(some 15), none, .mv (.t 45)⟩,
    ⟨(some 16), none, .mv (.t 47)⟩] (some [14, 15, 16, 41, 42, 43]))
  (.sq (.op 0 [⟨(some 48), none, .mv (.t 14)⟩,
    ⟨(some 49), none, .mv (.t 15)⟩,
    ⟨(some 50), none, .ia (.t 48) (.t 49) 1⟩,
    ⟨(some 51), none, .ld (.t 50) 1 false⟩,
    ⟨(some 52), none, .bin .neq (.t 51) (.c (.int .i64 (-1000000000)))⟩] (some [14, 15, 16, 41, 42, 43, 52]))
  (.cd (.t 52)
   (.op 0 [⟨(some 53), none, .mv (.t 14)⟩,
     ⟨(some 54), none, .mv (.t 15)⟩,
     ⟨(some 55), none, .ia (.t 53) (.t 54) 1⟩,
     ⟨(some 56), none, .ld (.t 55) 1 false⟩,
     ⟨(some 57), none, .mv (.t 16)⟩,
     ⟨(some 58), none, .bin .sub (.t 56) (.t 57)⟩,
     ⟨(some 59), none, .ia (.t 53) (.t 54) 1⟩,
     ⟨none, none, .st (.t 59) (.t 58) 1⟩] (some [14, 41, 42, 43]))
   .sk))))
 (.op 0 [⟨(some 60), none, .bin .add (.t 43) (.c (.int .i64 1))⟩,
   ⟨(some 43), none, .mv (.t 60)⟩] none))))
def c_timing_SlacksOf_L0 : IR := b_timing_SlacksOf_L0
theorem u_timing_SlacksOf_L0 {C : Call} {L : Loop} {π : Id} {k0 : List Id} {e : Env} {s : Sto} : evC C L π k0 c_timing_SlacksOf_L0 e s = evC C L π k0 b_timing_SlacksOf_L0 e s := rfl
def c_timing_SlacksOf : FnIR := ⟨62,
  (.sq (.op 0 [⟨(some 6), none, .box (.t 1) 3⟩,
    ⟨(some 7), none, .box (.t 2) 5⟩,
    ⟨(some 10), none, .mv (.c (.sl 1 (some true) []))⟩,
    ⟨(some 11), none, .mv (.c (.int .i64 0))⟩] (some [0, 3, 4, 6, 7]))
  (.sq (.op 0 [⟨(some 18), none, .mv (.t 0)⟩,
    ⟨(some 19), none, .ld (.t 6) 3 true⟩,
    ⟨(some 20), none, .ld (.t 7) 5 true⟩,
    ⟨(some 21), none, .mv (.t 3)⟩,
    ⟨(some 22), none, .callV false (.c (.fn n_timing_openTimes [])) [(.t 18), (.t 19), (.t 20), (.t 21)]⟩,
    ⟨(some 17), none, .mv (.t 22)⟩,
    ⟨(some 23), none, .ext (.t 17) 0⟩,
    ⟨(some 24), none, .ext (.t 17) 1⟩,
    ⟨(some 12), none, .alloc [.int .i64 0, .sl 2 (some true) [], .sl 1 (some true) [], .sl 5 (some true) [], .int .i64 0, .int .i64 0, .int .i64 0, .int .i64 0, .int .i64 0, .sl 1 (some true) []]⟩,
    ⟨none, none, .st (.t 12) (.t 23) 10⟩,
    ⟨(some 13), none, .mv (.t 24)⟩] (some [3, 4, 6, 12, 13]))
  (.sq (.sq (.op 0 [⟨(some 25), none, .mv (.t 13)⟩,
    ⟨(some 26), none, .mv (.t 4)⟩,
    ⟨(some 27), none, .fa (.t 6) 2⟩,
    ⟨(some 28), none, .ld (.t 27) 1 false⟩,
    ⟨(some 29), none, .len false (.t 28)⟩,
    ⟨(some 30), none, .callV true (.c (.fn n_timing_timesErr [])) [(.t 26), (.t 29)]⟩,
    ⟨(some 31), none, .bsl t_api_Errno 1 false [.int .i64 0] 2 [(0, (.t 25)), (1, (.t 30))]⟩,
    ⟨(some 32), none, .callV true (.c (.fn n_timing_first [])) [(.t 31)]⟩,
    ⟨(some 13), none, .mv (.t 32)⟩] (some [3, 4, 12, 13]))
  (.sq (.op 0 [⟨(some 33), none, .mv (.t 13)⟩,
    ⟨(some 34), none, .bin .neq (.t 33) (.c (.int .i64 0))⟩] none)
  (.cd (.t 34)
   (.sq (.op 0 [⟨(some 35), none, .mv (.t 13)⟩,
     ⟨(some 10), none, .mv (.c (.sl 1 (some true) []))⟩,
     ⟨(some 11), none, .mv (.t 35)⟩] none)
   .rt)
   .sk)))
  (.sq (.op 0 [⟨(some 36), none, .ld (.t 12) 10 true⟩,
    ⟨(some 37), none, .mv (.t 4)⟩,
    ⟨(some 38), none, .callV false (.c (.fn n_timing_timed_required [])) [(.t 36), (.t 37)]⟩,
    ⟨(some 14), none, .mv (.t 38)⟩] (some [3, 12, 14]))
  (.sq (.sq (.op 0 [⟨(some 39), none, .ld (.t 12) 10 true⟩,
    ⟨(some 40), none, .mv (.t 3)⟩,
    ⟨(some 41), none, .callV false (.c (.fn n_timing_timed_arrivals [])) [(.t 39), (.t 40)]⟩,
    ⟨(some 42), none, .len false (.t 41)⟩,
    ⟨(some 43), none, .mv (.c (.int .i64 0))⟩] (some [14, 41, 42, 43]))
  (.kp [14] [10, 11] (.bk 0 (.lp [] [14, 41, 42, 43] c_timing_SlacksOf_L0))))
  (.sq (.op 0 [⟨(some 61), none, .mv (.t 14)⟩,
    ⟨(some 10), none, .mv (.t 61)⟩,
    ⟨(some 11), none, .mv (.c (.int .i64 0))⟩] none)
  .rt)))))),
  [.t 10, .t 11]⟩
def b_timing_CriticalPath_L0 : IR :=
 (.sq (.op 0 [⟨(some 37), none, .bin .lss (.t 36) (.t 35)⟩] none)
 (.sq (.cd (.t 37)
  .sk
  (.ex 0))
 (.sq (.bk 1 (.sq (.op 0 [⟨(some 38), none, .mv (.t 36)⟩,
    ⟨(some 39), none, .ia (.t 34) (.t 36) 1⟩,
    ⟨(some 40), none, .ld (.t 39) 1 false⟩,
    ⟨(some 16), none, .mv (.t 38)⟩,
    ⟨(some 17), none, .mv (.t 40)⟩] (some [11, 13, 14, 15, 16, 17, 34, 35, 36]))
  (.sq (.op 0 [⟨(some 41), none, .mv (.t 13)⟩,
    ⟨(some 42), none, .mv (.t 16)⟩,
    ⟨(some 43), none, .ia (.t 41) (.t 42) 1⟩,
    ⟨(some 44), none, .ld (.t 43) 1 false⟩,
    ⟨(some 45), none, .bin .neq (.t 44) (.c (.int .i64 (-1)))⟩,
    ⟨(some 46), none, .mv (.t 45)⟩,
    ⟨(some 47), (some (46, true)), .mv (.t 17)⟩,
    ⟨(some 48), (some (46, true)), .mv (.t 13)⟩,
    ⟨(some 49), (some (46, true)), .mv (.t 16)⟩,
    ⟨(some 50), (some (46, true)), .ia (.t 48) (.t 49) 1⟩,
    ⟨(some 51), (some (46, true)), .ld (.t 50) 1 false⟩,
    ⟨(some 52), (some (46, true)), .bin .add (.t 47) (.t 51)⟩,
    ⟨(some 53), (some (46, true)), .mv (.t 15)⟩,
    ⟨(some 54), (some (46, true)), .bin .gtr (.t 52) (.t 53)⟩,
    ⟨(some 55), none, .pick (.t 46) (.t 54) (.c (.bool false))⟩] (some [11, 13, 14, 15, 16, 17, 34, 35, 36, 55]))
  (.cd (.t 55)
   (.op 8 [⟨(some 56), none, .mv (.t 16)⟩,
     ⟨(some 57), none, .mv (.t 17)⟩,
     ⟨(some 58), none, .mv (.t 13)⟩,
     ⟨(some 59), none, .mv (.t 16)⟩,
     ⟨(some 60), none, .ia (.t 58) (.t 59) 1⟩,
     ⟨(some 61), none, .ld (.t 60) 1 false⟩,
     ⟨(some 62), none, .bin .add (.t 57) (.t 61)⟩,
     ⟨(some 14), none, .mv (.t 56)⟩,
     ⟨(some 15), none, .mv (.t 62)⟩] (some [11, 13, 14, 15, 34, 35, 36]))
   .sk))))
 (.op 0 [⟨(some 63), none, .bin .add (.t 36) (.c (.int .i64 1))⟩,
   ⟨(some 36), none, .mv (.t 63)⟩] none))))
def c_timing_CriticalPath_L0 : IR := b_timing_CriticalPath_L0
theorem u_timing_CriticalPath_L0 {C : Call} {L : Loop} {π : Id} {k0 : List Id} {e : Env} {s : Sto} : evC C L π k0 c_timing_CriticalPath_L0 e s = evC C L π k0 b_timing_CriticalPath_L0 e s := rfl
def b_timing_CriticalPath_L2 : IR :=
 (.sq (.sq (.op 0 [⟨(some 78), none, .mv (.t 20)⟩,
   ⟨(some 79), none, .fa (.t 11) 0⟩,
   ⟨(some 80), none, .ld (.t 79) 4 true⟩,
   ⟨(some 81), none, .callV true (.c (.fn n_timing_net_points [])) [(.t 80)]⟩,
   ⟨(some 82), none, .bin .lss (.t 78) (.t 81)⟩] (some [11, 13, 15, 18, 19, 20, 82]))
 (.cd (.t 82)
  .sk
  (.ex 4)))
 (.sq (.bk 5 (.sq (.op 30 [⟨(some 85), none, .mv (.t 20)⟩,
    ⟨(some 86), none, .mv (.t 19)⟩,
    ⟨(some 87), none, .bin .gtr (.t 85) (.t 86)⟩,
    ⟨(some 88), none, .mv (.t 87)⟩,
    ⟨(some 89), (some (88, true)), .fa (.t 11) 0⟩,
    ⟨(some 90), (some (88, true)), .ld (.t 89) 4 true⟩,
    ⟨(some 91), (some (88, true)), .mv (.t 20)⟩,
    ⟨(some 92), (some (88, true)), .mv (.t 19)⟩,
    ⟨(some 93), (some (88, true)), .callV true (.c (.fn n_timing_net_has [])) [(.t 90), (.t 91), (.t 92)]⟩,
    ⟨(some 94), none, .pick (.t 88) (.t 93) (.c (.bool false))⟩,
    ⟨(some 95), none, .mv (.t 94)⟩,
    ⟨(some 96), (some (95, true)), .mv (.t 13)⟩,
    ⟨(some 97), (some (95, true)), .mv (.t 20)⟩,
    ⟨(some 98), (some (95, true)), .ia (.t 96) (.t 97) 1⟩,
    ⟨(some 99), (some (95, true)), .ld (.t 98) 1 false⟩,
    ⟨(some 100), (some (95, true)), .bin .neq (.t 99) (.c (.int .i64 (-1)))⟩,
    ⟨(some 101), none, .pick (.t 95) (.t 100) (.c (.bool false))⟩,
    ⟨(some 102), none, .mv (.t 101)⟩,
    ⟨(some 103), (some (102, true)), .ld (.t 11) 10 true⟩,
    ⟨(some 104), (some (102, true)), .mv (.t 20)⟩,
    ⟨(some 105), (some (102, true)), .callV true (.c (.fn n_timing_timed_delay [])) [(.t 103), (.t 104)]⟩,
    ⟨(some 106), (some (102, true)), .mv (.t 13)⟩,
    ⟨(some 107), (some (102, true)), .mv (.t 20)⟩,
    ⟨(some 108), (some (102, true)), .ia (.t 106) (.t 107) 1⟩,
    ⟨(some 109), (some (102, true)), .ld (.t 108) 1 false⟩,
    ⟨(some 110), (some (102, true)), .bin .add (.t 105) (.t 109)⟩,
    ⟨(some 111), (some (102, true)), .mv (.t 13)⟩,
    ⟨(some 112), (some (102, true)), .mv (.t 19)⟩,
    ⟨(some 113), (some (102, true)), .ia (.t 111) (.t 112) 1⟩,
    ⟨(some 114), (some (102, true)), .ld (.t 113) 1 false⟩,
    ⟨(some 115), (some (102, true)), .bin .eql (.t 110) (.t 114)⟩,
    ⟨(some 116), none, .pick (.t 102) (.t 115) (.c (.bool false))⟩] (some [11, 13, 15, 18, 19, 20, 116]))
  (.cd (.t 116)
   (.sq (.op 0 [⟨(some 117), none, .mv (.t 18)⟩,
     ⟨(some 118), none, .mv (.t 20)⟩,
     ⟨(some 119), none, .bsl t_int 1 false [.int .i64 0] 1 [(0, (.t 118))]⟩,
     ⟨(some 120), none, .app (.t 117) (.t 119) t_int 1⟩,
     ⟨(some 18), none, .mv (.t 120)⟩] (some [11, 13, 15, 18, 20]))
   (.sq (.op 0 [⟨(some 121), none, .mv (.t 20)⟩,
     ⟨(some 19), none, .mv (.t 121)⟩] none)
   (.ex 4)))
   .sk)))
 (.op 0 [⟨(some 83), none, .mv (.t 20)⟩,
   ⟨(some 84), none, .bin .add (.t 83) (.c (.int .i64 1))⟩,
   ⟨(some 20), none, .mv (.t 84)⟩] none)))
def c_timing_CriticalPath_L2 : IR := b_timing_CriticalPath_L2
theorem u_timing_CriticalPath_L2 {C : Call} {L : Loop} {π : Id} {k0 : List Id} {e : Env} {s : Sto} : evC C L π k0 c_timing_CriticalPath_L2 e s = evC C L π k0 b_timing_CriticalPath_L2 e s := rfl
def b_timing_CriticalPath_L1 : IR :=
 (.sq (.sq (.op 0 [⟨(some 69), none, .mv (.t 13)⟩,
   ⟨(some 70), none, .mv (.t 19)⟩,
   ⟨(some 71), none, .ia (.t 69) (.t 70) 1⟩,
   ⟨(some 72), none, .ld (.t 71) 1 false⟩,
   ⟨(some 73), none, .bin .gtr (.t 72) (.c (.int .i64 0))⟩] (some [11, 13, 15, 18, 19, 73]))
 (.cd (.t 73)
  .sk
  (.ex 2)))
 (.bk 3 (.sq (.op 0 [⟨(some 74), none, .fa (.t 11) 0⟩,
    ⟨(some 75), none, .fa (.t 74) 0⟩,
    ⟨(some 76), none, .fa (.t 75) 0⟩,
    ⟨(some 77), none, .ld (.t 76) 1 false⟩,
    ⟨(some 20), none, .mv (.t 77)⟩] (some [11, 13, 15, 18, 19, 20]))
  (.kp [11, 13, 15, 18, 19] [8, 9, 10] (.bk 4 (.lp [(t_int, .inl 18)] [11, 13, 15, 18, 19, 20] c_timing_CriticalPath_L2))))))
def c_timing_CriticalPath_L1 : IR := b_timing_CriticalPath_L1
theorem u_timing_CriticalPath_L1 {C : Call} {L : Loop} {π : Id} {k0 : List Id} {e : Env} {s : Sto} : evC C L π k0 c_timing_CriticalPath_L1 e s = evC C L π k0 b_timing_CriticalPath_L1 e s := rfl
def c_timing_CriticalPath : FnIR := ⟨124,
  (.sq (.op 0 [⟨(some 5), none, .box (.t 1) 3⟩,
    ⟨(some 6), none, .box (.t 2) 5⟩,
    ⟨(some 8), none, .mv (.c (.sl 1 (some true) []))⟩,
    ⟨(some 9), none, .mv (.c (.int .i64 0))⟩,
    ⟨(some 10), none, .mv (.c (.int .i64 0))⟩] (some [0, 3, 5, 6]))
  (.sq (.op 0 [⟨(some 22), none, .mv (.t 0)⟩,
    ⟨(some 23), none, .ld (.t 5) 3 true⟩,
    ⟨(some 24), none, .ld (.t 6) 5 true⟩,
    ⟨(some 25), none, .mv (.t 3)⟩,
    ⟨(some 26), none, .callV false (.c (.fn n_timing_openTimes [])) [(.t 22), (.t 23), (.t 24), (.t 25)]⟩,
    ⟨(some 21), none, .mv (.t 26)⟩,
    ⟨(some 27), none, .ext (.t 21) 0⟩,
    ⟨(some 28), none, .ext (.t 21) 1⟩,
    ⟨(some 11), none, .alloc [.int .i64 0, .sl 2 (some true) [], .sl 1 (some true) [], .sl 5 (some true) [], .int .i64 0, .int .i64 0, .int .i64 0, .int .i64 0, .int .i64 0, .sl 1 (some true) []]⟩,
    ⟨none, none, .st (.t 11) (.t 27) 10⟩,
    ⟨(some 12), none, .mv (.t 28)⟩] (some [3, 11, 12]))
  (.sq (.sq (.op 0 [⟨(some 29), none, .mv (.t 12)⟩,
    ⟨(some 30), none, .bin .neq (.t 29) (.c (.int .i64 0))⟩] none)
  (.cd (.t 30)
   (.sq (.op 0 [⟨(some 31), none, .mv (.t 12)⟩,
     ⟨(some 8), none, .mv (.c (.sl 1 (some true) []))⟩,
     ⟨(some 9), none, .mv (.c (.int .i64 0))⟩,
     ⟨(some 10), none, .mv (.t 31)⟩] (some [8, 9, 10]))
   .rt)
   .sk))
  (.sq (.op 0 [⟨(some 32), none, .ld (.t 11) 10 true⟩,
    ⟨(some 33), none, .callV false (.c (.fn n_timing_timed_rests [])) [(.t 32)]⟩,
    ⟨(some 13), none, .mv (.t 33)⟩] none)
  (.sq (.op 0 [⟨(some 14), none, .mv (.c (.int .i64 0))⟩,
    ⟨(some 15), none, .mv (.c (.int .i64 (-1)))⟩] none)
  (.sq (.sq (.op 0 [⟨(some 34), none, .mv (.t 3)⟩,
    ⟨(some 35), none, .len false (.t 34)⟩,
    ⟨(some 36), none, .mv (.c (.int .i64 0))⟩] none)
  (.kp [11, 13, 14, 15] [8, 9, 10] (.bk 0 (.lp [] [11, 13, 14, 15, 34, 35, 36] c_timing_CriticalPath_L0))))
  (.sq (.sq (.op 0 [⟨(some 64), none, .mv (.t 15)⟩,
    ⟨(some 65), none, .bin .eql (.t 64) (.c (.int .i64 (-1)))⟩] none)
  (.cd (.t 65)
   (.sq (.op 0 [⟨(some 8), none, .mv (.c (.sl 1 (some true) []))⟩,
     ⟨(some 9), none, .mv (.c (.int .i64 0))⟩,
     ⟨(some 10), none, .mv (.c (.int .i64 12))⟩] none)
   .rt)
   .sk))
  (.sq (.op 0 [⟨(some 66), none, .mv (.t 14)⟩,
    ⟨(some 67), none, .bsl t_int 1 false [.int .i64 0] 1 [(0, (.t 66))]⟩,
    ⟨(some 18), none, .mv (.t 67)⟩] none)
  (.sq (.sq (.op 0 [⟨(some 68), none, .mv (.t 14)⟩,
    ⟨(some 19), none, .mv (.t 68)⟩] none)
  (.kp [15, 18] [8, 9, 10] (.bk 2 (.lp [(t_int, .inl 18)] [11, 13, 15, 18, 19] c_timing_CriticalPath_L1))))
  (.sq (.op 0 [⟨(some 122), none, .mv (.t 18)⟩,
    ⟨(some 123), none, .mv (.t 15)⟩,
    ⟨(some 8), none, .mv (.t 122)⟩,
    ⟨(some 9), none, .mv (.t 123)⟩,
    ⟨(some 10), none, .mv (.c (.int .i64 0))⟩] (some [8, 9, 10]))
  .rt)))))))))),
  [.t 8, .t 9, .t 10]⟩
def c_ratchetref27_CopyLibrary : FnIR := ⟨6,
  (.sq (.op 0 [⟨(some 2), none, .mv (.c (.sl 5 (some true) []))⟩] none)
  (.sq (.op 0 [⟨(some 3), none, .bsl t_api_MapCell 5 true [.str ⟨#[]⟩, .int .i64 0, .int .i64 0, .int .i64 0, .int .i64 0] 0 []⟩,
    ⟨(some 4), none, .mv (.t 0)⟩,
    ⟨(some 5), none, .app (.t 3) (.t 4) t_api_MapCell 5⟩,
    ⟨(some 2), none, .mv (.t 5)⟩] (some [2]))
  .rt)),
  [.t 2]⟩
def b_ratchetref27_CopyNet_L0 : IR :=
 (.sq (.sq (.op 0 [⟨(some 11), none, .mv (.t 4)⟩,
   ⟨(some 12), none, .fa (.t 1) 1⟩,
   ⟨(some 13), none, .ld (.t 12) 1 false⟩,
   ⟨(some 14), none, .len false (.t 13)⟩,
   ⟨(some 15), none, .bin .lss (.t 11) (.t 14)⟩] (some [1, 2, 3, 4, 15]))
 (.cd (.t 15)
  .sk
  (.ex 0)))
 (.sq (.bk 1 (.op 17 [⟨(some 18), none, .fa (.t 3) 1⟩,
    ⟨(some 19), none, .ld (.t 18) 1 false⟩,
    ⟨(some 20), none, .fa (.t 1) 1⟩,
    ⟨(some 21), none, .ld (.t 20) 1 false⟩,
    ⟨(some 22), none, .mv (.t 4)⟩,
    ⟨(some 23), none, .ia (.t 21) (.t 22) 2⟩,
    ⟨(some 24), none, .fa (.t 23) 0⟩,
    ⟨(some 25), none, .ld (.t 24) 1 false⟩,
    ⟨(some 26), none, .fa (.t 1) 1⟩,
    ⟨(some 27), none, .ld (.t 26) 1 false⟩,
    ⟨(some 28), none, .mv (.t 4)⟩,
    ⟨(some 29), none, .ia (.t 27) (.t 28) 2⟩,
    ⟨(some 30), none, .fa (.t 29) 1⟩,
    ⟨(some 31), none, .ld (.t 30) 1 false⟩,
    ⟨(some 32), none, .callV true (.c (.fn n_ratchetbase_CopyInts [])) [(.t 31)]⟩,
    ⟨(some 33), none, .build [.int .i64 0, .sl 1 (some true) []] [(0, 1, (.t 25)), (1, 1, (.t 32))]⟩,
    ⟨(some 34), none, .bsl t_api_MapPlaced 2 true [.int .i64 0, .sl 1 (some true) []] 1 [(0, (.t 33))]⟩,
    ⟨(some 35), none, .app (.t 19) (.t 34) t_api_MapPlaced 2⟩,
    ⟨(some 36), none, .fa (.t 3) 1⟩,
    ⟨none, none, .st (.t 36) (.t 35) 1⟩] (some [1, 2, 3, 4])))
 (.op 0 [⟨(some 16), none, .mv (.t 4)⟩,
   ⟨(some 17), none, .bin .add (.t 16) (.c (.int .i64 1))⟩,
   ⟨(some 4), none, .mv (.t 17)⟩] none)))
def c_ratchetref27_CopyNet_L0 : IR := b_ratchetref27_CopyNet_L0
theorem u_ratchetref27_CopyNet_L0 {C : Call} {L : Loop} {π : Id} {k0 : List Id} {e : Env} {s : Sto} : evC C L π k0 c_ratchetref27_CopyNet_L0 e s = evC C L π k0 b_ratchetref27_CopyNet_L0 e s := rfl
def c_ratchetref27_CopyNet : FnIR := ⟨38,
  (.sq (.op 0 [⟨(some 1), none, .box (.t 0) 3⟩,
    ⟨(some 2), none, .alloc [.int .i64 0, .sl 2 (some true) [], .sl 1 (some true) []]⟩] none)
  (.sq (.op 7 [⟨(some 5), none, .fa (.t 1) 0⟩,
    ⟨(some 6), none, .ld (.t 5) 1 false⟩,
    ⟨(some 7), none, .fa (.t 1) 2⟩,
    ⟨(some 8), none, .ld (.t 7) 1 false⟩,
    ⟨(some 9), none, .callV false (.c (.fn n_ratchetbase_CopyInts [])) [(.t 8)]⟩,
    ⟨(some 10), none, .build [.int .i64 0, .sl 2 (some true) [], .sl 1 (some true) []] [(0, 1, (.t 6)), (2, 1, (.t 9))]⟩,
    ⟨(some 3), none, .alloc [.int .i64 0, .sl 2 (some true) [], .sl 1 (some true) []]⟩,
    ⟨none, none, .st (.t 3) (.t 10) 3⟩] (some [1, 2, 3]))
  (.sq (.sq (.op 0 [⟨(some 4), none, .mv (.c (.int .i64 0))⟩] none)
  (.kp [2, 3] [2] (.bk 0 (.lp [(t_api_MapPlaced, .inr (3, 1))] [1, 2, 3, 4] c_ratchetref27_CopyNet_L0))))
  (.sq (.op 0 [⟨(some 37), none, .ld (.t 3) 3 true⟩,
    ⟨none, none, .st (.t 2) (.t 37) 3⟩] none)
  .rt)))),
  [.c 2 3 true]⟩
def c_ratchetref28_ModelErr : FnIR := ⟨36,
  (.sq (.op 0 [⟨(some 1), none, .box (.t 0) 5⟩,
    ⟨(some 2), none, .mv (.c (.int .i64 0))⟩] none)
  (.sq (.sq (.op 0 [⟨(some 3), none, .fa (.t 1) 0⟩,
    ⟨(some 4), none, .ld (.t 3) 1 false⟩,
    ⟨(some 5), none, .callV true (.c (.fn n_ratchetbase_Within [])) [(.t 4), (.c (.int .i64 0)), (.c (.int .i64 100))]⟩,
    ⟨(some 6), none, .un .not (.t 5)⟩,
    ⟨(some 7), none, .mv (.t 6)⟩,
    ⟨(some 8), (some (7, false)), .fa (.t 1) 1⟩,
    ⟨(some 9), (some (7, false)), .ld (.t 8) 1 false⟩,
    ⟨(some 10), (some (7, false)), .callV true (.c (.fn n_ratchetbase_Within [])) [(.t 9), (.c (.int .i64 0)), (.c (.int .i64 1000000))]⟩,
    ⟨(some 11), (some (7, false)), .un .not (.t 10)⟩,
    ⟨(some 12), none, .pick (.t 7) (.c (.bool true)) (.t 11)⟩,
    ⟨(some 13), none, .mv (.t 12)⟩,
    ⟨(some 14), (some (13, false)), .fa (.t 1) 2⟩,
    ⟨(some 15), (some (13, false)), .ld (.t 14) 1 false⟩,
    ⟨(some 16), (some (13, false)), .callV true (.c (.fn n_ratchetbase_Within [])) [(.t 15), (.c (.int .i64 0)), (.c (.int .i64 1000000))]⟩,
    ⟨(some 17), (some (13, false)), .un .not (.t 16)⟩,
    ⟨(some 18), none, .pick (.t 13) (.c (.bool true)) (.t 17)⟩,
    ⟨(some 19), none, .mv (.t 18)⟩,
    ⟨(some 20), (some (19, false)), .fa (.t 1) 3⟩,
    ⟨(some 21), (some (19, false)), .ld (.t 20) 1 false⟩,
    ⟨(some 22), (some (19, false)), .callV true (.c (.fn n_ratchetbase_Within [])) [(.t 21), (.c (.int .i64 1)), (.c (.int .i64 1000))]⟩,
    ⟨(some 23), (some (19, false)), .un .not (.t 22)⟩,
    ⟨(some 24), none, .pick (.t 19) (.c (.bool true)) (.t 23)⟩,
    ⟨(some 25), none, .mv (.t 24)⟩,
    ⟨(some 26), (some (25, false)), .fa (.t 1) 4⟩,
    ⟨(some 27), (some (25, false)), .ld (.t 26) 1 false⟩,
    ⟨(some 28), (some (25, false)), .callV true (.c (.fn n_ratchetbase_Within [])) [(.t 27), (.c (.int .i64 1)), (.c (.int .i64 1000))]⟩,
    ⟨(some 29), (some (25, false)), .un .not (.t 28)⟩,
    ⟨(some 30), none, .pick (.t 25) (.c (.bool true)) (.t 29)⟩] (some [1, 30]))
  (.cd (.t 30)
   (.sq (.op 0 [⟨(some 2), none, .mv (.c (.int .i64 2))⟩] none)
   .rt)
   .sk))
  (.sq (.sq (.op 0 [⟨(some 31), none, .fa (.t 1) 3⟩,
    ⟨(some 32), none, .ld (.t 31) 1 false⟩,
    ⟨(some 33), none, .fa (.t 1) 4⟩,
    ⟨(some 34), none, .ld (.t 33) 1 false⟩,
    ⟨(some 35), none, .bin .gtr (.t 32) (.t 34)⟩] (some [35]))
  (.cd (.t 35)
   (.sq (.op 0 [⟨(some 2), none, .mv (.c (.int .i64 9))⟩] none)
   .rt)
   .sk))
  (.sq (.op 0 [⟨(some 2), none, .mv (.c (.int .i64 0))⟩] none)
  .rt)))),
  [.t 2]⟩
def b_ratchetref28_longer_L0 : IR :=
 (.sq (.sq (.op 0 [⟨(some 32), none, .mv (.t 10)⟩,
   ⟨(some 33), none, .fa (.t 4) 1⟩,
   ⟨(some 34), none, .ld (.t 33) 1 false⟩,
   ⟨(some 35), none, .len false (.t 34)⟩,
   ⟨(some 36), none, .bin .lss (.t 32) (.t 35)⟩] (some [1, 2, 3, 4, 9, 10, 36]))
 (.cd (.t 36)
  .sk
  (.ex 0)))
 (.sq (.bk 1 (.sq (.op 0 [⟨(some 39), none, .fa (.t 4) 1⟩,
    ⟨(some 40), none, .ld (.t 39) 1 false⟩,
    ⟨(some 41), none, .mv (.t 10)⟩,
    ⟨(some 42), none, .ia (.t 40) (.t 41) 2⟩,
    ⟨(some 43), none, .fa (.t 42) 1⟩,
    ⟨(some 44), none, .ld (.t 43) 1 false⟩,
    ⟨(some 45), none, .mv (.t 9)⟩,
    ⟨(some 46), none, .bin .add (.t 45) (.c (.int .i64 2))⟩,
    ⟨(some 47), none, .callV true (.c (.fn n_ratchetbase_Has [])) [(.t 44), (.t 46)]⟩] (some [1, 2, 3, 4, 9, 10, 47]))
  (.cd (.t 47)
   (.fz [1] (.op 11 [⟨(some 48), none, .ld (.t 4) 3 true⟩,
     ⟨(some 49), none, .mv (.t 1)⟩,
     ⟨(some 50), none, .callV false (.c (.fn n_ratchetbase_CopyInts [])) [(.t 49)]⟩,
     ⟨(some 51), none, .fa (.t 4) 0⟩,
     ⟨(some 52), none, .ld (.t 51) 1 false⟩,
     ⟨(some 53), none, .mv (.t 10)⟩,
     ⟨(some 54), none, .bin .add (.t 52) (.t 53)⟩,
     ⟨(some 55), none, .bsl t_int 1 false [.int .i64 0] 1 [(0, (.t 54))]⟩,
     ⟨(some 56), none, .apx (.t 50) (.t 55) t_int 1 [1, 2, 3, 4, 5, 6, 7]⟩,
     ⟨(some 57), none, .mv (.t 2)⟩,
     ⟨(some 58), none, .mv (.t 3)⟩,
     ⟨(some 59), none, .callS (.c (.fn n_ratchetref28_longer [])) [(.t 48), (.t 56), (.t 57), (.t 58)]⟩,
     ⟨(some 2), none, .mv (.t 59)⟩] (some [1, 2, 3, 4, 9, 10])))
   .sk)))
 (.op 0 [⟨(some 37), none, .mv (.t 10)⟩,
   ⟨(some 38), none, .bin .add (.t 37) (.c (.int .i64 1))⟩,
   ⟨(some 10), none, .mv (.t 38)⟩] none)))
def c_ratchetref28_longer_L0 : IR := b_ratchetref28_longer_L0
theorem u_ratchetref28_longer_L0 {C : Call} {L : Loop} {π : Id} {k0 : List Id} {e : Env} {s : Sto} : evC C L π k0 c_ratchetref28_longer_L0 e s = evC C L π k0 b_ratchetref28_longer_L0 e s := rfl
def c_ratchetref28_longer : FnIR := ⟨61,
  (.fz [1] (.sq (.op 0 [⟨(some 4), none, .box (.t 0) 3⟩,
    ⟨(some 8), none, .mv (.c (.sl 1 (some true) []))⟩] none)
  (.sq (.sq (.op 0 [⟨(some 11), none, .mv (.t 2)⟩,
    ⟨(some 12), none, .len false (.t 11)⟩,
    ⟨(some 13), none, .mv (.t 3)⟩,
    ⟨(some 14), none, .bin .gtr (.t 12) (.t 13)⟩] (some [1, 2, 3, 4, 14]))
  (.cd (.t 14)
   (.sq (.op 0 [⟨(some 15), none, .mv (.t 2)⟩,
     ⟨(some 8), none, .mv (.t 15)⟩] none)
   .rt)
   .sk))
  (.sq (.op 0 [⟨(some 16), none, .mv (.t 1)⟩,
    ⟨(some 17), none, .mv (.t 1)⟩,
    ⟨(some 18), none, .len false (.t 17)⟩,
    ⟨(some 19), none, .bin .sub (.t 18) (.c (.int .i64 1))⟩,
    ⟨(some 20), none, .ia (.t 16) (.t 19) 1⟩,
    ⟨(some 21), none, .ld (.t 20) 1 false⟩,
    ⟨(some 9), none, .mv (.t 21)⟩] (some [1, 2, 3, 4, 9]))
  (.sq (.sq (.op 0 [⟨(some 22), none, .fa (.t 4) 2⟩,
    ⟨(some 23), none, .ld (.t 22) 1 false⟩,
    ⟨(some 24), none, .mv (.t 9)⟩,
    ⟨(some 25), none, .bin .add (.t 24) (.c (.int .i64 2))⟩,
    ⟨(some 26), none, .callV true (.c (.fn n_ratchetbase_Has [])) [(.t 23), (.t 25)]⟩] (some [1, 2, 3, 4, 9, 26]))
  (.cd (.t 26)
   (.op 0 [⟨(some 27), none, .mv (.t 2)⟩,
     ⟨(some 28), none, .mv (.t 1)⟩,
     ⟨(some 29), none, .callV false (.c (.fn n_ratchetbase_CopyInts [])) [(.t 28)]⟩,
     ⟨(some 30), none, .bsl t_L_int 1 false [.sl 1 (some true) []] 1 [(0, (.t 29))]⟩,
     ⟨(some 31), none, .app (.t 27) (.t 30) t_L_int 1⟩,
     ⟨(some 2), none, .mv (.t 31)⟩] (some [1, 2, 3, 4, 9]))
   .sk))
  (.sq (.sq (.op 0 [⟨(some 10), none, .mv (.c (.int .i64 0))⟩] none)
  (.kp [2] [8] (.bk 0 (.lp [(t_L_int, .inl 2)] [1, 2, 3, 4, 9, 10] c_ratchetref28_longer_L0))))
  (.sq (.op 0 [⟨(some 60), none, .mv (.t 2)⟩,
    ⟨(some 8), none, .mv (.t 60)⟩] none)
  .rt))))))),
  [.t 8]⟩
def c_timing_open : FnIR := ⟨25,
  (.sq (.op 0 [⟨(some 3), none, .box (.t 1) 3⟩,
    ⟨(some 4), none, .alloc [.int .i64 0, .sl 2 (some true) [], .sl 1 (some true) [], .sl 5 (some true) []]⟩,
    ⟨(some 5), none, .mv (.c (.int .i64 0))⟩] none)
  (.sq (.op 0 [⟨(some 9), none, .mv (.t 0)⟩,
    ⟨(some 10), none, .ld (.t 3) 3 true⟩,
    ⟨(some 11), none, .callV true (.c (.fn n_mapping_CheckNet [])) [(.t 9), (.t 10)]⟩,
    ⟨(some 8), none, .mv (.t 11)⟩,
    ⟨(some 12), none, .ext (.t 8) 0⟩,
    ⟨(some 13), none, .ext (.t 8) 1⟩,
    ⟨(some 6), none, .mv (.t 12)⟩,
    ⟨(some 7), none, .mv (.t 13)⟩] (some [0, 3, 4, 7]))
  (.sq (.op 11 [⟨(some 14), none, .ld (.t 3) 3 true⟩,
    ⟨(some 15), none, .mv (.t 0)⟩,
    ⟨(some 16), none, .build [.int .i64 0, .sl 2 (some true) [], .sl 1 (some true) [], .sl 5 (some true) []] [(0, 3, (.t 14)), (3, 1, (.t 15))]⟩,
    ⟨(some 17), none, .mv (.t 7)⟩,
    ⟨(some 18), none, .fa (.t 3) 1⟩,
    ⟨(some 19), none, .ld (.t 18) 1 false⟩,
    ⟨(some 20), none, .len false (.t 19)⟩,
    ⟨(some 21), none, .bin .leq (.t 20) (.c (.int .i64 60))⟩,
    ⟨(some 22), none, .callV true (.c (.fn n_timing_unless [])) [(.t 21), (.c (.int .i64 8))]⟩,
    ⟨(some 23), none, .bsl t_api_Errno 1 false [.int .i64 0] 2 [(0, (.t 17)), (1, (.t 22))]⟩,
    ⟨(some 24), none, .callV true (.c (.fn n_timing_first [])) [(.t 23)]⟩,
    ⟨none, none, .st (.t 4) (.t 16) 4⟩,
    ⟨(some 5), none, .mv (.t 24)⟩] (some [4, 5]))
  .rt))),
  [.c 4 4 true, .t 5]⟩
def c_timing_net_pathErr : FnIR := ⟨28,
  (.sq (.op 0 [⟨(some 2), none, .box (.t 0) 4⟩,
    ⟨(some 3), none, .box (.t 1) 1⟩,
    ⟨(some 4), none, .mv (.c (.int .i64 0))⟩] none)
  (.sq (.sq (.op 0 [⟨(some 7), none, .ld (.t 3) 1 false⟩,
    ⟨(some 8), none, .len false (.t 7)⟩,
    ⟨(some 9), none, .bin .eql (.t 8) (.c (.int .i64 0))⟩] none)
  (.cd (.t 9)
   (.sq (.op 0 [⟨(some 4), none, .mv (.c (.int .i64 10))⟩] none)
   .rt)
   .sk))
  (.sq (.op 0 [⟨(some 11), none, .ld (.t 3) 1 false⟩,
    ⟨(some 12), none, .mkf n_timing_net_pathErr_1 [(.t 2), (.t 3)]⟩,
    ⟨(some 13), none, .callV true (.c (.fn n_timing_each_int [])) [(.t 11), (.t 12)]⟩,
    ⟨(some 10), none, .mv (.t 13)⟩,
    ⟨(some 14), none, .ext (.t 10) 0⟩,
    ⟨(some 15), none, .ext (.t 10) 1⟩,
    ⟨(some 5), none, .mv (.t 14)⟩,
    ⟨(some 6), none, .mv (.t 15)⟩] (some [2, 3, 6]))
  (.sq (.sq (.op 0 [⟨(some 16), none, .mv (.t 6)⟩,
    ⟨(some 17), none, .bin .neq (.t 16) (.c (.int .i64 0))⟩] none)
  (.cd (.t 17)
   (.sq (.op 0 [⟨(some 18), none, .mv (.t 6)⟩,
     ⟨(some 4), none, .mv (.t 18)⟩] none)
   .rt)
   .sk))
  (.sq (.op 7 [⟨(some 19), none, .ld (.t 2) 4 true⟩,
    ⟨(some 20), none, .ld (.t 3) 1 false⟩,
    ⟨(some 21), none, .ld (.t 3) 1 false⟩,
    ⟨(some 22), none, .len false (.t 21)⟩,
    ⟨(some 23), none, .bin .sub (.t 22) (.c (.int .i64 1))⟩,
    ⟨(some 24), none, .ia (.t 20) (.t 23) 1⟩,
    ⟨(some 25), none, .ld (.t 24) 1 false⟩,
    ⟨(some 26), none, .callV true (.c (.fn n_timing_net_isEnd [])) [(.t 19), (.t 25)]⟩,
    ⟨(some 27), none, .callV true (.c (.fn n_timing_unless [])) [(.t 26), (.c (.int .i64 21))]⟩,
    ⟨(some 4), none, .mv (.t 27)⟩] (some [4]))
  .rt))))),
  [.t 4]⟩
def b_timing_first_L0 : IR :=
 (.sq (.op 0 [⟨(some 8), none, .bin .lss (.t 7) (.t 6)⟩] none)
 (.sq (.cd (.t 8)
  .sk
  (.ex 0))
 (.sq (.bk 1 (.sq (.op 0 [⟨(some 9), none, .ia (.t 5) (.t 7) 1⟩,
    ⟨(some 10), none, .ld (.t 9) 1 false⟩,
    ⟨(some 4), none, .mv (.t 10)⟩] none)
  (.sq (.op 0 [⟨(some 11), none, .mv (.t 4)⟩,
    ⟨(some 12), none, .bin .neq (.t 11) (.c (.int .i64 0))⟩] none)
  (.cd (.t 12)
   (.sq (.op 0 [⟨(some 13), none, .mv (.t 4)⟩,
     ⟨(some 2), none, .mv (.t 13)⟩] none)
   .rt)
   .sk))))
 (.op 0 [⟨(some 14), none, .bin .add (.t 7) (.c (.int .i64 1))⟩,
   ⟨(some 7), none, .mv (.t 14)⟩] none))))
def c_timing_first_L0 : IR := b_timing_first_L0
theorem u_timing_first_L0 {C : Call} {L : Loop} {π : Id} {k0 : List Id} {e : Env} {s : Sto} : evC C L π k0 c_timing_first_L0 e s = evC C L π k0 b_timing_first_L0 e s := rfl
def c_timing_first : FnIR := ⟨15,
  (.sq (.op 0 [⟨(some 2), none, .mv (.c (.int .i64 0))⟩] none)
  (.sq (.sq (.op 0 [⟨(some 5), none, .mv (.t 0)⟩,
    ⟨(some 6), none, .len false (.t 5)⟩,
    ⟨(some 7), none, .mv (.c (.int .i64 0))⟩] none)
  (.kp [] [2] (.bk 0 (.lp [] [5, 6, 7] c_timing_first_L0))))
  (.sq (.op 0 [⟨(some 2), none, .mv (.c (.int .i64 0))⟩] none)
  .rt))),
  [.t 2]⟩
def c_timing_unless : FnIR := ⟨7,
  (.sq (.op 0 [⟨(some 4), none, .mv (.c (.int .i64 0))⟩] none)
  (.sq (.sq (.op 0 [⟨(some 5), none, .mv (.t 0)⟩] none)
  (.cd (.t 5)
   (.sq (.op 0 [⟨(some 4), none, .mv (.c (.int .i64 0))⟩] none)
   .rt)
   .sk))
  (.sq (.op 0 [⟨(some 6), none, .mv (.t 1)⟩,
    ⟨(some 4), none, .mv (.t 6)⟩] none)
  .rt))),
  [.t 4]⟩
def b_timing_net_used_L1 : IR :=
 (.sq (.op 0 [⟨(some 22), none, .bin .lss (.t 21) (.t 20)⟩] none)
 (.sq (.cd (.t 22)
  .sk
  (.ex 2))
 (.sq (.bk 3 (.sq (.op 0 [⟨(some 23), none, .mv (.t 21)⟩,
    ⟨(some 7), none, .mv (.t 23)⟩] none)
  (.op 0 [⟨(some 24), none, .mv (.t 6)⟩,
    ⟨(some 25), none, .mv (.t 7)⟩,
    ⟨(some 26), none, .mv (.t 5)⟩,
    ⟨(some 27), none, .fa (.t 2) 0⟩,
    ⟨(some 28), none, .fa (.t 27) 0⟩,
    ⟨(some 29), none, .ld (.t 28) 1 false⟩,
    ⟨(some 30), none, .bin .sub (.t 29) (.c (.int .i64 1))⟩,
    ⟨(some 31), none, .mv (.t 7)⟩,
    ⟨(some 32), none, .bin .sub (.t 30) (.t 31)⟩,
    ⟨(some 33), none, .bin .shr (.t 26) (.t 32)⟩,
    ⟨(some 34), none, .bin .and (.t 33) (.c (.int .i64 1))⟩,
    ⟨(some 35), none, .ia (.t 24) (.t 25) 1⟩,
    ⟨none, none, .st (.t 35) (.t 34) 1⟩] (some [1, 2, 5, 6, 11, 12, 20, 21]))))
 (.op 0 [⟨(some 36), none, .bin .add (.t 21) (.c (.int .i64 1))⟩,
   ⟨(some 21), none, .mv (.t 36)⟩] none))))
def c_timing_net_used_L1 : IR := b_timing_net_used_L1
theorem u_timing_net_used_L1 {C : Call} {L : Loop} {π : Id} {k0 : List Id} {e : Env} {s : Sto} : evC C L π k0 c_timing_net_used_L1 e s = evC C L π k0 b_timing_net_used_L1 e s := rfl
def b_timing_net_used_L0 : IR :=
 (.sq (.op 0 [⟨(some 13), none, .bin .lss (.t 12) (.t 11)⟩] none)
 (.sq (.cd (.t 13)
  .sk
  (.ex 0))
 (.sq (.bk 1 (.sq (.op 0 [⟨(some 14), none, .mv (.t 12)⟩,
    ⟨(some 5), none, .mv (.t 14)⟩] none)
  (.sq (.op 0 [⟨(some 15), none, .fa (.t 2) 0⟩,
    ⟨(some 16), none, .fa (.t 15) 0⟩,
    ⟨(some 17), none, .ld (.t 16) 1 false⟩,
    ⟨(some 18), none, .mks t_int 1 false [.int .i64 0] (.t 17) (.t 17)⟩,
    ⟨(some 6), none, .mv (.t 18)⟩] (some [1, 2, 5, 6, 11, 12]))
  (.sq (.sq (.op 0 [⟨(some 19), none, .mv (.t 6)⟩,
    ⟨(some 20), none, .len false (.t 19)⟩,
    ⟨(some 21), none, .mv (.c (.int .i64 0))⟩] none)
  (.kp [1, 2, 6, 11, 12] [4] (.bk 2 (.lp [] [1, 2, 5, 6, 11, 12, 20, 21] c_timing_net_used_L1))))
  (.sq (.fz [6, 18] (.op 5 [⟨(some 37), none, .ld (.t 2) 4 true⟩,
    ⟨(some 38), none, .mv (.t 1)⟩,
    ⟨(some 39), none, .ld (.t 2) 4 true⟩,
    ⟨(some 40), none, .mv (.t 6)⟩,
    ⟨(some 41), none, .callV false (.c (.fn n_timing_net_values [])) [(.t 39), (.t 40)]⟩,
    ⟨(some 42), none, .callV true (.c (.fn n_timing_net_isUsed [])) [(.t 37), (.t 38), (.t 41)]⟩] (some [1, 2, 6, 11, 12, 42])))
  (.cd (.t 42)
   (.sq (.op 0 [⟨(some 43), none, .mv (.t 6)⟩,
     ⟨(some 4), none, .mv (.t 43)⟩] none)
   .rt)
   .sk))))))
 (.op 0 [⟨(some 44), none, .bin .add (.t 12) (.c (.int .i64 1))⟩,
   ⟨(some 12), none, .mv (.t 44)⟩] none))))
def c_timing_net_used_L0 : IR := b_timing_net_used_L0
theorem u_timing_net_used_L0 {C : Call} {L : Loop} {π : Id} {k0 : List Id} {e : Env} {s : Sto} : evC C L π k0 c_timing_net_used_L0 e s = evC C L π k0 b_timing_net_used_L0 e s := rfl
def c_timing_net_used : FnIR := ⟨45,
  (.sq (.op 0 [⟨(some 2), none, .box (.t 0) 4⟩,
    ⟨(some 4), none, .mv (.c (.sl 1 (some true) []))⟩] none)
  (.sq (.sq (.op 0 [⟨(some 8), none, .fa (.t 2) 0⟩,
    ⟨(some 9), none, .fa (.t 8) 0⟩,
    ⟨(some 10), none, .ld (.t 9) 1 false⟩,
    ⟨(some 11), none, .bin .shl (.c (.int .i64 1)) (.t 10)⟩,
    ⟨(some 12), none, .mv (.c (.int .i64 0))⟩] (some [1, 2, 11, 12]))
  (.kp [] [4] (.bk 0 (.lp [] [1, 2, 11, 12] c_timing_net_used_L0))))
  (.sq (.op 0 [⟨(some 4), none, .mv (.c (.sl 1 (some true) []))⟩] none)
  .rt))),
  [.t 4]⟩
def c_timing_openTimes : FnIR := ⟨27,
  (.sq (.op 0 [⟨(some 5), none, .box (.t 1) 3⟩,
    ⟨(some 6), none, .box (.t 2) 5⟩,
    ⟨(some 8), none, .alloc [.int .i64 0, .sl 2 (some true) [], .sl 1 (some true) [], .sl 5 (some true) [], .int .i64 0, .int .i64 0, .int .i64 0, .int .i64 0, .int .i64 0, .sl 1 (some true) []]⟩,
    ⟨(some 9), none, .mv (.c (.int .i64 0))⟩] (some [0, 3, 5, 6, 8]))
  (.sq (.op 0 [⟨(some 13), none, .mv (.t 0)⟩,
    ⟨(some 14), none, .ld (.t 5) 3 true⟩,
    ⟨(some 15), none, .ld (.t 6) 5 true⟩,
    ⟨(some 16), none, .callV false (.c (.fn n_timing_openModel [])) [(.t 13), (.t 14), (.t 15)]⟩,
    ⟨(some 12), none, .mv (.t 16)⟩,
    ⟨(some 17), none, .ext (.t 12) 0⟩,
    ⟨(some 18), none, .ext (.t 12) 1⟩,
    ⟨(some 10), none, .alloc [.int .i64 0, .sl 2 (some true) [], .sl 1 (some true) [], .sl 5 (some true) [], .int .i64 0, .int .i64 0, .int .i64 0, .int .i64 0, .int .i64 0, .sl 1 (some true) []]⟩,
    ⟨none, none, .st (.t 10) (.t 17) 10⟩,
    ⟨(some 11), none, .mv (.t 18)⟩] (some [3, 5, 8, 10, 11]))
  (.sq (.fz [3] (.op 8 [⟨(some 19), none, .ld (.t 10) 10 true⟩,
    ⟨(some 20), none, .mv (.t 11)⟩,
    ⟨(some 21), none, .mv (.t 3)⟩,
    ⟨(some 22), none, .fa (.t 5) 0⟩,
    ⟨(some 23), none, .ld (.t 22) 1 false⟩,
    ⟨(some 24), none, .callV true (.c (.fn n_timing_timesErr [])) [(.t 21), (.t 23)]⟩,
    ⟨(some 25), none, .bsl t_api_Errno 1 false [.int .i64 0] 2 [(0, (.t 20)), (1, (.t 24))]⟩,
    ⟨(some 26), none, .callV true (.c (.fn n_timing_first [])) [(.t 25)]⟩,
    ⟨none, none, .st (.t 8) (.t 19) 10⟩,
    ⟨(some 9), none, .mv (.t 26)⟩] (some [8, 9])))
  .rt))),
  [.c 8 10 true, .t 9]⟩
def b_timing_net_count_L1 : IR :=
 (.sq (.sq (.op 0 [⟨(some 29), none, .mv (.t 6)⟩,
   ⟨(some 30), none, .ld (.t 1) 4 true⟩,
   ⟨(some 31), none, .callV true (.c (.fn n_timing_net_points [])) [(.t 30)]⟩,
   ⟨(some 32), none, .bin .lss (.t 29) (.t 31)⟩] (some [1, 3, 4, 5, 6, 32]))
 (.cd (.t 32)
  .sk
  (.ex 2)))
 (.sq (.bk 3 (.sq (.op 0 [⟨(some 35), none, .ld (.t 1) 4 true⟩,
    ⟨(some 36), none, .mv (.t 6)⟩,
    ⟨(some 37), none, .mv (.t 5)⟩,
    ⟨(some 38), none, .callV true (.c (.fn n_timing_net_has [])) [(.t 35), (.t 36), (.t 37)]⟩] (some [1, 3, 4, 5, 6, 38]))
  (.cd (.t 38)
   (.op 10 [⟨(some 39), none, .mv (.t 3)⟩,
     ⟨(some 40), none, .mv (.t 5)⟩,
     ⟨(some 41), none, .mv (.t 3)⟩,
     ⟨(some 42), none, .mv (.t 5)⟩,
     ⟨(some 43), none, .ia (.t 41) (.t 42) 1⟩,
     ⟨(some 44), none, .ld (.t 43) 1 false⟩,
     ⟨(some 45), none, .mv (.t 3)⟩,
     ⟨(some 46), none, .mv (.t 6)⟩,
     ⟨(some 47), none, .ia (.t 45) (.t 46) 1⟩,
     ⟨(some 48), none, .ld (.t 47) 1 false⟩,
     ⟨(some 49), none, .bin .add (.t 44) (.t 48)⟩,
     ⟨(some 50), none, .mm false (.t 49) (.c (.int .i64 501))⟩,
     ⟨(some 51), none, .ia (.t 39) (.t 40) 1⟩,
     ⟨none, none, .st (.t 51) (.t 50) 1⟩] (some [1, 3, 4, 5, 6]))
   .sk)))
 (.op 0 [⟨(some 33), none, .mv (.t 6)⟩,
   ⟨(some 34), none, .bin .add (.t 33) (.c (.int .i64 1))⟩,
   ⟨(some 6), none, .mv (.t 34)⟩] none)))
def c_timing_net_count_L1 : IR := b_timing_net_count_L1
theorem u_timing_net_count_L1 {C : Call} {L : Loop} {π : Id} {k0 : List Id} {e : Env} {s : Sto} : evC C L π k0 c_timing_net_count_L1 e s = evC C L π k0 b_timing_net_count_L1 e s := rfl
def b_timing_net_count_L0 : IR :=
 (.sq (.sq (.op 0 [⟨(some 13), none, .mv (.t 5)⟩,
   ⟨(some 14), none, .bin .geq (.t 13) (.c (.int .i64 0))⟩] none)
 (.cd (.t 14)
  .sk
  (.ex 0)))
 (.sq (.bk 1 (.sq (.sq (.op 0 [⟨(some 17), none, .ld (.t 1) 4 true⟩,
    ⟨(some 18), none, .mv (.t 5)⟩,
    ⟨(some 19), none, .callV true (.c (.fn n_timing_net_isEnd [])) [(.t 17), (.t 18)]⟩] none)
  (.cd (.t 19)
   (.op 0 [⟨(some 20), none, .mv (.t 3)⟩,
     ⟨(some 21), none, .mv (.t 5)⟩,
     ⟨(some 22), none, .ia (.t 20) (.t 21) 1⟩,
     ⟨none, none, .st (.t 22) (.c (.int .i64 1)) 1⟩] (some [1, 3, 4, 5]))
   .sk))
  (.sq (.sq (.op 0 [⟨(some 23), none, .fa (.t 1) 0⟩,
    ⟨(some 24), none, .fa (.t 23) 0⟩,
    ⟨(some 25), none, .ld (.t 24) 1 false⟩,
    ⟨(some 26), none, .mv (.t 5)⟩,
    ⟨(some 27), none, .bin .add (.t 26) (.c (.int .i64 1))⟩,
    ⟨(some 28), none, .mm true (.t 25) (.t 27)⟩,
    ⟨(some 6), none, .mv (.t 28)⟩] (some [1, 3, 4, 5, 6]))
  (.kp [1, 3, 4, 5] [2] (.bk 2 (.lp [] [1, 3, 4, 5, 6] c_timing_net_count_L1))))
  (.sq (.op 0 [⟨(some 52), none, .mv (.t 5)⟩,
    ⟨(some 53), none, .fa (.t 1) 0⟩,
    ⟨(some 54), none, .fa (.t 53) 0⟩,
    ⟨(some 55), none, .ld (.t 54) 1 false⟩,
    ⟨(some 56), none, .bin .lss (.t 52) (.t 55)⟩] (some [1, 3, 4, 5, 56]))
  (.cd (.t 56)
   (.op 0 [⟨(some 57), none, .mv (.t 4)⟩,
     ⟨(some 58), none, .mv (.t 3)⟩,
     ⟨(some 59), none, .mv (.t 5)⟩,
     ⟨(some 60), none, .ia (.t 58) (.t 59) 1⟩,
     ⟨(some 61), none, .ld (.t 60) 1 false⟩,
     ⟨(some 62), none, .bin .add (.t 57) (.t 61)⟩,
     ⟨(some 63), none, .mm false (.t 62) (.c (.int .i64 501))⟩,
     ⟨(some 4), none, .mv (.t 63)⟩] (some [1, 3, 4, 5]))
   .sk)))))
 (.op 0 [⟨(some 15), none, .mv (.t 5)⟩,
   ⟨(some 16), none, .bin .sub (.t 15) (.c (.int .i64 1))⟩,
   ⟨(some 5), none, .mv (.t 16)⟩] none)))
def c_timing_net_count_L0 : IR := b_timing_net_count_L0
theorem u_timing_net_count_L0 {C : Call} {L : Loop} {π : Id} {k0 : List Id} {e : Env} {s : Sto} : evC C L π k0 c_timing_net_count_L0 e s = evC C L π k0 b_timing_net_count_L0 e s := rfl
def c_timing_net_count : FnIR := ⟨65,
  (.sq (.op 0 [⟨(some 1), none, .box (.t 0) 4⟩,
    ⟨(some 2), none, .mv (.c (.int .i64 0))⟩] none)
  (.sq (.op 0 [⟨(some 7), none, .ld (.t 1) 4 true⟩,
    ⟨(some 8), none, .callV true (.c (.fn n_timing_net_points [])) [(.t 7)]⟩,
    ⟨(some 9), none, .mks t_int 1 false [.int .i64 0] (.t 8) (.t 8)⟩,
    ⟨(some 3), none, .mv (.t 9)⟩] (some [1, 3]))
  (.sq (.op 0 [⟨(some 4), none, .mv (.c (.int .i64 0))⟩] none)
  (.sq (.sq (.op 0 [⟨(some 10), none, .ld (.t 1) 4 true⟩,
    ⟨(some 11), none, .callV true (.c (.fn n_timing_net_points [])) [(.t 10)]⟩,
    ⟨(some 12), none, .bin .sub (.t 11) (.c (.int .i64 1))⟩,
    ⟨(some 5), none, .mv (.t 12)⟩] (some [1, 3, 4, 5]))
  (.kp [4] [2] (.bk 0 (.lp [] [1, 3, 4, 5] c_timing_net_count_L0))))
  (.sq (.op 0 [⟨(some 64), none, .mv (.t 4)⟩,
    ⟨(some 2), none, .mv (.t 64)⟩] none)
  .rt))))),
  [.t 2]⟩
def b_timing_net_all_L0 : IR :=
 (.sq (.op 0 [⟨(some 9), none, .bin .lss (.t 8) (.t 7)⟩] none)
 (.sq (.cd (.t 9)
  .sk
  (.ex 0))
 (.sq (.bk 1 (.sq (.op 0 [⟨(some 10), none, .mv (.t 8)⟩,
    ⟨(some 4), none, .mv (.t 10)⟩] none)
  (.sq (.op 0 [⟨(some 11), none, .ld (.t 2) 4 true⟩,
    ⟨(some 12), none, .mv (.t 4)⟩,
    ⟨(some 13), none, .bsl t_int 1 false [.int .i64 0] 1 [(0, (.t 12))]⟩,
    ⟨(some 14), none, .mv (.t 1)⟩,
    ⟨(some 15), none, .callS (.c (.fn n_timing_net_paths [])) [(.t 11), (.t 13), (.t 14)]⟩,
    ⟨(some 16), none, .un .not (.t 15)⟩] (some [1, 2, 7, 8, 16]))
  (.cd (.t 16)
   .rt
   .sk))))
 (.op 0 [⟨(some 17), none, .bin .add (.t 8) (.c (.int .i64 1))⟩,
   ⟨(some 8), none, .mv (.t 17)⟩] none))))
def c_timing_net_all_L0 : IR := b_timing_net_all_L0
theorem u_timing_net_all_L0 {C : Call} {L : Loop} {π : Id} {k0 : List Id} {e : Env} {s : Sto} : evC C L π k0 c_timing_net_all_L0 e s = evC C L π k0 b_timing_net_all_L0 e s := rfl
def c_timing_net_all : FnIR := ⟨18,
  (.sq (.op 0 [⟨(some 2), none, .box (.t 0) 4⟩] none)
  (.sq (.op 0 [⟨(some 5), none, .fa (.t 2) 0⟩,
    ⟨(some 6), none, .fa (.t 5) 0⟩,
    ⟨(some 7), none, .ld (.t 6) 1 false⟩,
    ⟨(some 8), none, .mv (.c (.int .i64 0))⟩] (some [1, 2, 7, 8]))
  (.kp [] [] (.bk 0 (.lp [] [1, 2, 7, 8] c_timing_net_all_L0))))),
  []⟩
def b_timing_timed_along_L0 : IR :=
 (.sq (.op 0 [⟨(some 20), none, .bin .lss (.t 19) (.t 18)⟩] none)
 (.sq (.cd (.t 20)
  .sk
  (.ex 0))
 (.sq (.bk 1 (.sq (.op 0 [⟨(some 21), none, .ia (.t 17) (.t 19) 1⟩,
    ⟨(some 22), none, .ld (.t 21) 1 false⟩,
    ⟨(some 9), none, .mv (.t 22)⟩] none)
  (.op 0 [⟨(some 23), none, .mv (.t 7)⟩,
    ⟨(some 24), none, .ld (.t 3) 10 true⟩,
    ⟨(some 25), none, .mv (.t 9)⟩,
    ⟨(some 26), none, .callV true (.c (.fn n_timing_timed_delay [])) [(.t 24), (.t 25)]⟩,
    ⟨(some 27), none, .bin .add (.t 23) (.t 26)⟩,
    ⟨(some 7), none, .mv (.t 27)⟩] (some [3, 7, 17, 18, 19]))))
 (.op 0 [⟨(some 28), none, .bin .add (.t 19) (.c (.int .i64 1))⟩,
   ⟨(some 19), none, .mv (.t 28)⟩] none))))
def c_timing_timed_along_L0 : IR := b_timing_timed_along_L0
theorem u_timing_timed_along_L0 {C : Call} {L : Loop} {π : Id} {k0 : List Id} {e : Env} {s : Sto} : evC C L π k0 c_timing_timed_along_L0 e s = evC C L π k0 b_timing_timed_along_L0 e s := rfl
def c_timing_timed_along : FnIR := ⟨30,
  (.sq (.op 0 [⟨(some 3), none, .box (.t 0) 10⟩,
    ⟨(some 6), none, .mv (.c (.int .i64 0))⟩] none)
  (.sq (.op 0 [⟨(some 10), none, .mv (.t 1)⟩,
    ⟨(some 11), none, .mv (.t 2)⟩,
    ⟨(some 12), none, .ia (.t 11) (.c (.int .i64 0)) 1⟩,
    ⟨(some 13), none, .ld (.t 12) 1 false⟩,
    ⟨(some 14), none, .ia (.t 10) (.t 13) 1⟩,
    ⟨(some 15), none, .ld (.t 14) 1 false⟩,
    ⟨(some 7), none, .mv (.t 15)⟩] (some [2, 3, 7]))
  (.sq (.sq (.op 0 [⟨(some 16), none, .mv (.t 2)⟩,
    ⟨(some 17), none, .slc false (.t 16) (some (.c (.int .i64 1))) none 1⟩,
    ⟨(some 18), none, .len false (.t 17)⟩,
    ⟨(some 19), none, .mv (.c (.int .i64 0))⟩] (some [3, 7, 17, 18, 19]))
  (.kp [7] [6] (.bk 0 (.lp [] [3, 7, 17, 18, 19] c_timing_timed_along_L0))))
  (.sq (.op 0 [⟨(some 29), none, .mv (.t 7)⟩,
    ⟨(some 6), none, .mv (.t 29)⟩] none)
  .rt)))),
  [.t 6]⟩
def c_slices_Clone_int_int : FnIR := ⟨8,
  (.sq (.op 0 [⟨(some 2), none, .mv (.c (.sl 1 (some true) []))⟩] none)
  (.sq (.sq (.op 0 [⟨(some 3), none, .mv (.t 0)⟩,
    ⟨(some 4), none, .isnil true false (.t 3)⟩] none)
  (.cd (.t 4)
   (.sq (.op 0 [⟨(some 2), none, .mv (.c (.sl 1 (some true) []))⟩] none)
   .rt)
   .sk))
  (.sq (.op 0 [⟨(some 5), none, .bsl t_int 1 false [.int .i64 0] 0 []⟩,
    ⟨(some 6), none, .mv (.t 0)⟩,
    ⟨(some 7), none, .app (.t 5) (.t 6) t_int 1⟩,
    ⟨(some 2), none, .mv (.t 7)⟩] (some [2]))
  .rt))),
  [.t 2]⟩
def c_ratchetref27_NetErr : FnIR := ⟨20,
  (.sq (.op 0 [⟨(some 3), none, .box (.t 1) 3⟩,
    ⟨(some 4), none, .mv (.c (.int .i64 0))⟩] none)
  (.sq (.sq (.op 0 [⟨(some 8), none, .mv (.t 0)⟩,
    ⟨(some 9), none, .callV true (.c (.fn n_ratchetref27_LibraryErr [])) [(.t 8)]⟩,
    ⟨(some 5), none, .mv (.t 9)⟩] none)
  (.sq (.op 0 [⟨(some 10), none, .mv (.t 5)⟩,
    ⟨(some 11), none, .bin .neq (.t 10) (.c (.int .i64 0))⟩] none)
  (.cd (.t 11)
   (.sq (.op 0 [⟨(some 12), none, .mv (.t 5)⟩,
     ⟨(some 4), none, .mv (.t 12)⟩] none)
   .rt)
   .sk)))
  (.sq (.op 0 [⟨(some 14), none, .mv (.t 0)⟩,
    ⟨(some 15), none, .ld (.t 3) 3 true⟩,
    ⟨(some 16), none, .callV true (.c (.fn n_ratchetref27_CheckNet [])) [(.t 14), (.t 15)]⟩,
    ⟨(some 13), none, .mv (.t 16)⟩,
    ⟨(some 17), none, .ext (.t 13) 0⟩,
    ⟨(some 18), none, .ext (.t 13) 1⟩,
    ⟨(some 6), none, .mv (.t 17)⟩,
    ⟨(some 7), none, .mv (.t 18)⟩] (some [7]))
  (.sq (.op 0 [⟨(some 19), none, .mv (.t 7)⟩,
    ⟨(some 4), none, .mv (.t 19)⟩] none)
  .rt)))),
  [.t 4]⟩
def c_ratchetbase_Within : FnIR := ⟨15,
  (.sq (.op 0 [⟨(some 6), none, .mv (.c (.bool false))⟩] none)
  (.sq (.op 0 [⟨(some 7), none, .mv (.t 1)⟩,
    ⟨(some 8), none, .mv (.t 0)⟩,
    ⟨(some 9), none, .bin .leq (.t 7) (.t 8)⟩,
    ⟨(some 10), none, .mv (.t 9)⟩,
    ⟨(some 11), (some (10, true)), .mv (.t 0)⟩,
    ⟨(some 12), (some (10, true)), .mv (.t 2)⟩,
    ⟨(some 13), (some (10, true)), .bin .leq (.t 11) (.t 12)⟩,
    ⟨(some 14), none, .pick (.t 10) (.t 13) (.c (.bool false))⟩,
    ⟨(some 6), none, .mv (.t 14)⟩] (some [6]))
  .rt)),
  [.t 6]⟩
def c_ratchetref28_Points : FnIR := ⟨9,
  (.sq (.op 0 [⟨(some 1), none, .box (.t 0) 3⟩,
    ⟨(some 2), none, .mv (.c (.int .i64 0))⟩] none)
  (.sq (.op 0 [⟨(some 3), none, .fa (.t 1) 0⟩,
    ⟨(some 4), none, .ld (.t 3) 1 false⟩,
    ⟨(some 5), none, .fa (.t 1) 1⟩,
    ⟨(some 6), none, .ld (.t 5) 1 false⟩,
    ⟨(some 7), none, .len false (.t 6)⟩,
    ⟨(some 8), none, .bin .add (.t 4) (.t 7)⟩,
    ⟨(some 2), none, .mv (.t 8)⟩] (some [2]))
  .rt)),
  [.t 2]⟩
def b_ratchetbase_Has_L0 : IR :=
 (.sq (.sq (.op 0 [⟨(some 6), none, .mv (.t 5)⟩,
   ⟨(some 7), none, .mv (.t 0)⟩,
   ⟨(some 8), none, .len false (.t 7)⟩,
   ⟨(some 9), none, .bin .lss (.t 6) (.t 8)⟩] (some [0, 1, 5, 9]))
 (.cd (.t 9)
  .sk
  (.ex 0)))
 (.sq (.bk 1 (.sq (.op 0 [⟨(some 12), none, .mv (.t 0)⟩,
    ⟨(some 13), none, .mv (.t 5)⟩,
    ⟨(some 14), none, .ia (.t 12) (.t 13) 1⟩,
    ⟨(some 15), none, .ld (.t 14) 1 false⟩,
    ⟨(some 16), none, .mv (.t 1)⟩,
    ⟨(some 17), none, .bin .eql (.t 15) (.t 16)⟩] (some [0, 1, 5, 17]))
  (.cd (.t 17)
   (.sq (.op 0 [⟨(some 4), none, .mv (.c (.bool true))⟩] none)
   .rt)
   .sk)))
 (.op 0 [⟨(some 10), none, .mv (.t 5)⟩,
   ⟨(some 11), none, .bin .add (.t 10) (.c (.int .i64 1))⟩,
   ⟨(some 5), none, .mv (.t 11)⟩] none)))
def c_ratchetbase_Has_L0 : IR := b_ratchetbase_Has_L0
theorem u_ratchetbase_Has_L0 {C : Call} {L : Loop} {π : Id} {k0 : List Id} {e : Env} {s : Sto} : evC C L π k0 c_ratchetbase_Has_L0 e s = evC C L π k0 b_ratchetbase_Has_L0 e s := rfl
def c_ratchetbase_Has : FnIR := ⟨18,
  (.sq (.op 0 [⟨(some 4), none, .mv (.c (.bool false))⟩] none)
  (.sq (.sq (.op 0 [⟨(some 5), none, .mv (.c (.int .i64 0))⟩] none)
  (.kp [] [4] (.bk 0 (.lp [] [0, 1, 5] c_ratchetbase_Has_L0))))
  (.sq (.op 0 [⟨(some 4), none, .mv (.c (.bool false))⟩] none)
  .rt))),
  [.t 4]⟩
def c_ratchetbase_Power : FnIR := ⟨5,
  (.sq (.op 0 [⟨(some 2), none, .mv (.c (.int .i64 0))⟩] none)
  (.sq (.op 0 [⟨(some 3), none, .mv (.t 0)⟩,
    ⟨(some 4), none, .bin .shl (.c (.int .i64 1)) (.t 3)⟩,
    ⟨(some 2), none, .mv (.t 4)⟩] none)
  .rt)),
  [.t 2]⟩
def b_ratchetref28_IsUsed_L1 : IR :=
 (.sq (.sq (.op 0 [⟨(some 37), none, .mv (.t 14)⟩,
   ⟨(some 38), none, .fa (.t 11) 1⟩,
   ⟨(some 39), none, .ld (.t 38) 1 false⟩,
   ⟨(some 40), none, .len false (.t 39)⟩,
   ⟨(some 41), none, .bin .lss (.t 37) (.t 40)⟩] (some [0, 2, 5, 9, 10, 11, 12, 13, 14, 41]))
 (.cd (.t 41)
  .sk
  (.ex 2)))
 (.sq (.bk 3 (.sq (.op 0 [⟨(some 44), none, .mv (.t 9)⟩,
    ⟨(some 45), none, .fa (.t 11) 1⟩,
    ⟨(some 46), none, .ld (.t 45) 1 false⟩,
    ⟨(some 47), none, .mv (.t 14)⟩,
    ⟨(some 48), none, .ia (.t 46) (.t 47) 1⟩,
    ⟨(some 49), none, .ld (.t 48) 1 false⟩,
    ⟨(some 50), none, .ia (.t 44) (.t 49) 1⟩,
    ⟨(some 51), none, .ld (.t 50) 1 false⟩,
    ⟨(some 15), none, .mv (.t 51)⟩] (some [0, 2, 5, 9, 10, 11, 12, 13, 14, 15]))
  (.sq (.op 0 [⟨(some 52), none, .mv (.t 12)⟩,
    ⟨(some 53), none, .mv (.t 15)⟩,
    ⟨(some 54), none, .bsl t_int 1 false [.int .i64 0] 1 [(0, (.t 53))]⟩,
    ⟨(some 55), none, .app (.t 52) (.t 54) t_int 1⟩,
    ⟨(some 12), none, .mv (.t 55)⟩] (some [0, 2, 5, 9, 10, 11, 12, 13, 14, 15]))
  (.sq (.sq (.op 11 [⟨(some 56), none, .fa (.t 11) 1⟩,
    ⟨(some 57), none, .ld (.t 56) 1 false⟩,
    ⟨(some 58), none, .mv (.t 14)⟩,
    ⟨(some 59), none, .ia (.t 57) (.t 58) 1⟩,
    ⟨(some 60), none, .ld (.t 59) 1 false⟩,
    ⟨(some 61), none, .mv (.t 2)⟩,
    ⟨(some 62), none, .mv (.t 10)⟩,
    ⟨(some 63), none, .bin .sub (.t 62) (.c (.int .i64 1))⟩,
    ⟨(some 64), none, .ia (.t 61) (.t 63) 1⟩,
    ⟨(some 65), none, .ld (.t 64) 1 false⟩,
    ⟨(some 66), none, .bin .add (.t 65) (.c (.int .i64 2))⟩,
    ⟨(some 67), none, .bin .eql (.t 60) (.t 66)⟩] (some [0, 2, 5, 9, 10, 11, 12, 13, 14, 15, 67]))
  (.cd (.t 67)
   (.op 0 [⟨(some 68), none, .mv (.t 15)⟩,
     ⟨(some 69), none, .bin .sub (.c (.int .i64 1)) (.t 68)⟩,
     ⟨(some 15), none, .mv (.t 69)⟩] none)
   .sk))
  (.op 0 [⟨(some 70), none, .mv (.t 13)⟩,
    ⟨(some 71), none, .mv (.t 15)⟩,
    ⟨(some 72), none, .bsl t_int 1 false [.int .i64 0] 1 [(0, (.t 71))]⟩,
    ⟨(some 73), none, .app (.t 70) (.t 72) t_int 1⟩,
    ⟨(some 13), none, .mv (.t 73)⟩] (some [0, 2, 5, 9, 10, 11, 12, 13, 14]))))))
 (.op 0 [⟨(some 42), none, .mv (.t 14)⟩,
   ⟨(some 43), none, .bin .add (.t 42) (.c (.int .i64 1))⟩,
   ⟨(some 14), none, .mv (.t 43)⟩] none)))
def c_ratchetref28_IsUsed_L1 : IR := b_ratchetref28_IsUsed_L1
theorem u_ratchetref28_IsUsed_L1 {C : Call} {L : Loop} {π : Id} {k0 : List Id} {e : Env} {s : Sto} : evC C L π k0 c_ratchetref28_IsUsed_L1 e s = evC C L π k0 b_ratchetref28_IsUsed_L1 e s := rfl
def b_ratchetref28_IsUsed_L0 : IR :=
 (.sq (.sq (.op 0 [⟨(some 20), none, .mv (.t 10)⟩,
   ⟨(some 21), none, .mv (.t 2)⟩,
   ⟨(some 22), none, .len false (.t 21)⟩,
   ⟨(some 23), none, .bin .lss (.t 20) (.t 22)⟩] (some [0, 2, 5, 9, 10, 23]))
 (.cd (.t 23)
  .sk
  (.ex 0)))
 (.sq (.bk 1 (.sq (.op 12 [⟨(some 26), none, .fa (.t 5) 1⟩,
    ⟨(some 27), none, .ld (.t 26) 1 false⟩,
    ⟨(some 28), none, .mv (.t 2)⟩,
    ⟨(some 29), none, .mv (.t 10)⟩,
    ⟨(some 30), none, .ia (.t 28) (.t 29) 1⟩,
    ⟨(some 31), none, .ld (.t 30) 1 false⟩,
    ⟨(some 32), none, .fa (.t 5) 0⟩,
    ⟨(some 33), none, .ld (.t 32) 1 false⟩,
    ⟨(some 34), none, .bin .sub (.t 31) (.t 33)⟩,
    ⟨(some 35), none, .ia (.t 27) (.t 34) 2⟩,
    ⟨(some 36), none, .ld (.t 35) 2 true⟩,
    ⟨(some 11), none, .alloc [.int .i64 0, .sl 1 (some true) []]⟩,
    ⟨none, none, .st (.t 11) (.t 36) 2⟩] (some [0, 2, 5, 9, 10, 11]))
  (.sq (.op 0 [⟨(some 12), none, .mv (.c (.sl 1 (some true) []))⟩,
    ⟨(some 13), none, .mv (.c (.sl 1 (some true) []))⟩] none)
  (.sq (.sq (.op 0 [⟨(some 14), none, .mv (.c (.int .i64 0))⟩] none)
  (.kp [0, 2, 5, 9, 10, 11, 12, 13] [8] (.bk 2 (.lp [(t_int, .inl 12), (t_int, .inl 13)] [0, 2, 5, 9, 10, 11, 12, 13, 14] c_ratchetref28_IsUsed_L1))))
  (.sq (.op 13 [⟨(some 74), none, .mv (.t 0)⟩,
    ⟨(some 75), none, .fa (.t 11) 0⟩,
    ⟨(some 76), none, .ld (.t 75) 1 false⟩,
    ⟨(some 77), none, .ia (.t 74) (.t 76) 5⟩,
    ⟨(some 78), none, .ld (.t 77) 5 true⟩,
    ⟨(some 79), none, .mv (.t 12)⟩,
    ⟨(some 80), none, .callV true (.c (.fn n_ratchetref27_Value [])) [(.t 78), (.t 79)]⟩,
    ⟨(some 81), none, .mv (.t 0)⟩,
    ⟨(some 82), none, .fa (.t 11) 0⟩,
    ⟨(some 83), none, .ld (.t 82) 1 false⟩,
    ⟨(some 84), none, .ia (.t 81) (.t 83) 5⟩,
    ⟨(some 85), none, .ld (.t 84) 5 true⟩,
    ⟨(some 86), none, .mv (.t 13)⟩,
    ⟨(some 87), none, .callV true (.c (.fn n_ratchetref27_Value [])) [(.t 85), (.t 86)]⟩,
    ⟨(some 88), none, .bin .eql (.t 80) (.t 87)⟩] (some [0, 2, 5, 9, 10, 88]))
  (.cd (.t 88)
   (.sq (.op 0 [⟨(some 8), none, .mv (.c (.bool false))⟩] none)
   .rt)
   .sk))))))
 (.op 0 [⟨(some 24), none, .mv (.t 10)⟩,
   ⟨(some 25), none, .bin .add (.t 24) (.c (.int .i64 1))⟩,
   ⟨(some 10), none, .mv (.t 25)⟩] none)))
def c_ratchetref28_IsUsed_L0 : IR := b_ratchetref28_IsUsed_L0
theorem u_ratchetref28_IsUsed_L0 {C : Call} {L : Loop} {π : Id} {k0 : List Id} {e : Env} {s : Sto} : evC C L π k0 c_ratchetref28_IsUsed_L0 e s = evC C L π k0 b_ratchetref28_IsUsed_L0 e s := rfl
def c_ratchetref28_IsUsed : FnIR := ⟨89,
  (.sq (.op 0 [⟨(some 5), none, .box (.t 1) 3⟩,
    ⟨(some 8), none, .mv (.c (.bool false))⟩] none)
  (.sq (.op 0 [⟨(some 16), none, .mv (.t 0)⟩,
    ⟨(some 17), none, .ld (.t 5) 3 true⟩,
    ⟨(some 18), none, .mv (.t 3)⟩,
    ⟨(some 19), none, .callV false (.c (.fn n_ratchetref27_Sources [])) [(.t 16), (.t 17), (.t 18)]⟩,
    ⟨(some 9), none, .mv (.t 19)⟩] (some [0, 2, 5, 9]))
  (.sq (.sq (.op 0 [⟨(some 10), none, .mv (.c (.int .i64 1))⟩] none)
  (.kp [] [8] (.bk 0 (.lp [] [0, 2, 5, 9, 10] c_ratchetref28_IsUsed_L0))))
  (.sq (.op 0 [⟨(some 8), none, .mv (.c (.bool true))⟩] none)
  .rt)))),
  [.t 8]⟩
def b_ratchetref28_Delays_L0 : IR :=
 (.sq (.sq (.op 0 [⟨(some 9), none, .mv (.t 8)⟩,
   ⟨(some 10), none, .fa (.t 4) 1⟩,
   ⟨(some 11), none, .ld (.t 10) 1 false⟩,
   ⟨(some 12), none, .len false (.t 11)⟩,
   ⟨(some 13), none, .bin .lss (.t 9) (.t 12)⟩] (some [0, 4, 5, 7, 8, 13]))
 (.cd (.t 13)
  .sk
  (.ex 0)))
 (.sq (.bk 1 (.op 17 [⟨(some 16), none, .mv (.t 7)⟩,
    ⟨(some 17), none, .mv (.t 0)⟩,
    ⟨(some 18), none, .fa (.t 4) 1⟩,
    ⟨(some 19), none, .ld (.t 18) 1 false⟩,
    ⟨(some 20), none, .mv (.t 8)⟩,
    ⟨(some 21), none, .ia (.t 19) (.t 20) 2⟩,
    ⟨(some 22), none, .fa (.t 21) 0⟩,
    ⟨(some 23), none, .ld (.t 22) 1 false⟩,
    ⟨(some 24), none, .ia (.t 17) (.t 23) 5⟩,
    ⟨(some 25), none, .fa (.t 24) 4⟩,
    ⟨(some 26), none, .ld (.t 25) 1 false⟩,
    ⟨(some 27), none, .fa (.t 5) 0⟩,
    ⟨(some 28), none, .ld (.t 27) 1 false⟩,
    ⟨(some 29), none, .ld (.t 4) 3 true⟩,
    ⟨(some 30), none, .mv (.t 8)⟩,
    ⟨(some 31), none, .callV true (.c (.fn n_ratchetref28_load [])) [(.t 29), (.t 30)]⟩,
    ⟨(some 32), none, .bin .mul (.t 28) (.t 31)⟩,
    ⟨(some 33), none, .bin .add (.t 26) (.t 32)⟩,
    ⟨(some 34), none, .bsl t_int 1 false [.int .i64 0] 1 [(0, (.t 33))]⟩,
    ⟨(some 35), none, .app (.t 16) (.t 34) t_int 1⟩,
    ⟨(some 7), none, .mv (.t 35)⟩] (some [0, 4, 5, 7, 8])))
 (.op 0 [⟨(some 14), none, .mv (.t 8)⟩,
   ⟨(some 15), none, .bin .add (.t 14) (.c (.int .i64 1))⟩,
   ⟨(some 8), none, .mv (.t 15)⟩] none)))
def c_ratchetref28_Delays_L0 : IR := b_ratchetref28_Delays_L0
theorem u_ratchetref28_Delays_L0 {C : Call} {L : Loop} {π : Id} {k0 : List Id} {e : Env} {s : Sto} : evC C L π k0 c_ratchetref28_Delays_L0 e s = evC C L π k0 b_ratchetref28_Delays_L0 e s := rfl
def c_ratchetref28_Delays : FnIR := ⟨37,
  (.sq (.op 0 [⟨(some 4), none, .box (.t 1) 3⟩,
    ⟨(some 5), none, .box (.t 2) 5⟩,
    ⟨(some 6), none, .mv (.c (.sl 1 (some true) []))⟩] none)
  (.sq (.op 0 [⟨(some 7), none, .mv (.c (.sl 1 (some true) []))⟩] none)
  (.sq (.sq (.op 0 [⟨(some 8), none, .mv (.c (.int .i64 0))⟩] none)
  (.kp [7] [6] (.bk 0 (.lp [(t_int, .inl 7)] [0, 4, 5, 7, 8] c_ratchetref28_Delays_L0))))
  (.sq (.op 0 [⟨(some 36), none, .mv (.t 7)⟩,
    ⟨(some 6), none, .mv (.t 36)⟩] none)
  .rt)))),
  [.t 6]⟩
def b_timing_timed_arrivals_L0 : IR :=
 (.sq (.op 0 [⟨(some 16), none, .bin .lss (.t 15) (.t 14)⟩] none)
 (.sq (.cd (.t 16)
  .sk
  (.ex 0))
 (.sq (.bk 1 (.sq (.op 0 [⟨(some 17), none, .mv (.t 15)⟩,
    ⟨(some 18), none, .ia (.t 13) (.t 15) 2⟩,
    ⟨(some 19), none, .ld (.t 18) 2 true⟩,
    ⟨(some 7), none, .alloc [.int .i64 0, .sl 1 (some true) []]⟩,
    ⟨(some 6), none, .mv (.t 17)⟩,
    ⟨none, none, .st (.t 7) (.t 19) 2⟩] (some [2, 5, 6, 7, 13, 14, 15]))
  (.op 10 [⟨(some 20), none, .mv (.t 5)⟩,
    ⟨(some 21), none, .fa (.t 7) 1⟩,
    ⟨(some 22), none, .ld (.t 21) 1 false⟩,
    ⟨(some 23), none, .mv (.t 5)⟩,
    ⟨(some 24), none, .callV true (.c (.fn n_timing_greatest [])) [(.t 22), (.t 23)]⟩,
    ⟨(some 25), none, .fa (.t 2) 9⟩,
    ⟨(some 26), none, .ld (.t 25) 1 false⟩,
    ⟨(some 27), none, .mv (.t 6)⟩,
    ⟨(some 28), none, .ia (.t 26) (.t 27) 1⟩,
    ⟨(some 29), none, .ld (.t 28) 1 false⟩,
    ⟨(some 30), none, .bin .add (.t 24) (.t 29)⟩,
    ⟨(some 31), none, .bsl t_int 1 false [.int .i64 0] 1 [(0, (.t 30))]⟩,
    ⟨(some 32), none, .app (.t 20) (.t 31) t_int 1⟩,
    ⟨(some 5), none, .mv (.t 32)⟩] (some [2, 5, 13, 14, 15]))))
 (.op 0 [⟨(some 33), none, .bin .add (.t 15) (.c (.int .i64 1))⟩,
   ⟨(some 15), none, .mv (.t 33)⟩] none))))
def c_timing_timed_arrivals_L0 : IR := b_timing_timed_arrivals_L0
theorem u_timing_timed_arrivals_L0 {C : Call} {L : Loop} {π : Id} {k0 : List Id} {e : Env} {s : Sto} : evC C L π k0 c_timing_timed_arrivals_L0 e s = evC C L π k0 b_timing_timed_arrivals_L0 e s := rfl
def c_timing_timed_arrivals : FnIR := ⟨35,
  (.sq (.op 0 [⟨(some 2), none, .box (.t 0) 10⟩,
    ⟨(some 4), none, .mv (.c (.sl 1 (some true) []))⟩] none)
  (.sq (.op 0 [⟨(some 8), none, .mv (.t 1)⟩,
    ⟨(some 9), none, .callV false (.c (.fn n_slices_Clone_int_int [])) [(.t 8)]⟩,
    ⟨(some 5), none, .mv (.t 9)⟩] none)
  (.sq (.sq (.op 0 [⟨(some 10), none, .fa (.t 2) 0⟩,
    ⟨(some 11), none, .fa (.t 10) 0⟩,
    ⟨(some 12), none, .fa (.t 11) 1⟩,
    ⟨(some 13), none, .ld (.t 12) 1 false⟩,
    ⟨(some 14), none, .len false (.t 13)⟩,
    ⟨(some 15), none, .mv (.c (.int .i64 0))⟩] (some [2, 5, 13, 14, 15]))
  (.kp [5] [4] (.bk 0 (.lp [(t_int, .inl 5)] [2, 5, 13, 14, 15] c_timing_timed_arrivals_L0))))
  (.sq (.op 0 [⟨(some 34), none, .mv (.t 5)⟩,
    ⟨(some 4), none, .mv (.t 34)⟩] none)
  .rt)))),
  [.t 4]⟩
def c_timing_timesErr : FnIR := ⟨18,
  (.sq (.op 0 [⟨(some 4), none, .mv (.c (.int .i64 0))⟩] none)
  (.sq (.op 0 [⟨(some 6), none, .mv (.t 0)⟩,
    ⟨(some 7), none, .callV true (.c (.fn n_slices_ContainsFunc_int_int [])) [(.t 6), (.c (.fn n_timing_timesErr_1 []))]⟩,
    ⟨(some 5), none, .mv (.t 7)⟩] none)
  (.sq (.op 0 [⟨(some 8), none, .mv (.t 0)⟩,
    ⟨(some 9), none, .len false (.t 8)⟩,
    ⟨(some 10), none, .mv (.t 1)⟩,
    ⟨(some 11), none, .bin .eql (.t 9) (.t 10)⟩,
    ⟨(some 12), none, .callV true (.c (.fn n_timing_unless [])) [(.t 11), (.c (.int .i64 10))]⟩,
    ⟨(some 13), none, .mv (.t 5)⟩,
    ⟨(some 14), none, .un .not (.t 13)⟩,
    ⟨(some 15), none, .callV true (.c (.fn n_timing_unless [])) [(.t 14), (.c (.int .i64 2))]⟩,
    ⟨(some 16), none, .bsl t_api_Errno 1 false [.int .i64 0] 2 [(0, (.t 12)), (1, (.t 15))]⟩,
    ⟨(some 17), none, .callV true (.c (.fn n_timing_first [])) [(.t 16)]⟩,
    ⟨(some 4), none, .mv (.t 17)⟩] (some [4]))
  .rt))),
  [.t 4]⟩
def b_timing_timed_required_L0 : IR :=
 (.sq (.op 0 [⟨(some 26), none, .bin .lss (.t 25) (.t 24)⟩] none)
 (.sq (.cd (.t 26)
  .sk
  (.ex 0))
 (.sq (.bk 1 (.sq (.op 0 [⟨(some 27), none, .mv (.t 25)⟩,
    ⟨(some 28), none, .ia (.t 23) (.t 25) 1⟩,
    ⟨(some 29), none, .ld (.t 28) 1 false⟩,
    ⟨(some 7), none, .mv (.t 27)⟩,
    ⟨(some 8), none, .mv (.t 29)⟩] (some [1, 2, 4, 5, 6, 7, 8, 23, 24, 25]))
  (.op 6 [⟨(some 30), none, .ld (.t 6) 1 false⟩,
    ⟨(some 31), none, .mv (.t 8)⟩,
    ⟨(some 32), none, .mv (.t 1)⟩,
    ⟨(some 33), none, .mv (.t 7)⟩,
    ⟨(some 34), none, .ia (.t 32) (.t 33) 1⟩,
    ⟨(some 35), none, .ld (.t 34) 1 false⟩,
    ⟨(some 36), none, .callS (.t 30) [(.t 31), (.t 35)]⟩] (some [1, 2, 4, 5, 6, 23, 24, 25]))))
 (.op 0 [⟨(some 37), none, .bin .add (.t 25) (.c (.int .i64 1))⟩,
   ⟨(some 25), none, .mv (.t 37)⟩] none))))
def c_timing_timed_required_L0 : IR := b_timing_timed_required_L0
theorem u_timing_timed_required_L0 {C : Call} {L : Loop} {π : Id} {k0 : List Id} {e : Env} {s : Sto} : evC C L π k0 c_timing_timed_required_L0 e s = evC C L π k0 b_timing_timed_required_L0 e s := rfl
def b_timing_timed_required_L1 : IR :=
 (.sq (.op 0 [⟨(some 58), none, .bin .lss (.t 57) (.t 56)⟩] none)
 (.sq (.cd (.t 58)
  .sk
  (.ex 4))
 (.sq (.bk 5 (.sq (.op 0 [⟨(some 59), none, .ia (.t 55) (.t 57) 1⟩,
    ⟨(some 60), none, .ld (.t 59) 1 false⟩,
    ⟨(some 13), none, .mv (.t 60)⟩] none)
  (.op 9 [⟨(some 61), none, .ld (.t 6) 1 false⟩,
    ⟨(some 62), none, .mv (.t 13)⟩,
    ⟨(some 63), none, .mv (.t 11)⟩,
    ⟨(some 64), none, .fa (.t 2) 9⟩,
    ⟨(some 65), none, .ld (.t 64) 1 false⟩,
    ⟨(some 66), none, .mv (.t 9)⟩,
    ⟨(some 67), none, .ia (.t 65) (.t 66) 1⟩,
    ⟨(some 68), none, .ld (.t 67) 1 false⟩,
    ⟨(some 69), none, .bin .sub (.t 63) (.t 68)⟩,
    ⟨(some 70), none, .callS (.t 61) [(.t 62), (.t 69)]⟩] (some [2, 6, 9, 11, 55, 56, 57]))))
 (.op 0 [⟨(some 71), none, .bin .add (.t 57) (.c (.int .i64 1))⟩,
   ⟨(some 57), none, .mv (.t 71)⟩] none))))
def c_timing_timed_required_L1 : IR := b_timing_timed_required_L1
theorem u_timing_timed_required_L1 {C : Call} {L : Loop} {π : Id} {k0 : List Id} {e : Env} {s : Sto} : evC C L π k0 c_timing_timed_required_L1 e s = evC C L π k0 b_timing_timed_required_L1 e s := rfl
def b_timing_timed_required_R0A : IR :=
 (.sq (.op 0 [⟨(some 9), none, .mv (.t 43)⟩] none)
 (.op 0 [⟨(some 10), none, .alloc [.int .i64 0, .sl 1 (some true) []]⟩,
   ⟨none, none, .st (.t 10) (.t 44) 2⟩] none))
def c_timing_timed_required_R0A : IR := b_timing_timed_required_R0A
theorem u_timing_timed_required_R0A {C : Call} {L : Loop} {π : Id} {k0 : List Id} {e : Env} {s : Sto} : evC C L π k0 c_timing_timed_required_R0A e s = evC C L π k0 b_timing_timed_required_R0A e s := rfl
def b_timing_timed_required_R0B : IR :=
 (.bk 3 (.sq (.op 5 [⟨(some 45), none, .ld (.t 5) 1 false⟩,
    ⟨(some 46), none, .fa (.t 2) 0⟩,
    ⟨(some 47), none, .ld (.t 46) 4 true⟩,
    ⟨(some 48), none, .mv (.t 9)⟩,
    ⟨(some 49), none, .callV true (.c (.fn n_timing_net_cell [])) [(.t 47), (.t 48)]⟩,
    ⟨(some 50), none, .ia (.t 45) (.t 49) 1⟩,
    ⟨(some 51), none, .ld (.t 50) 1 false⟩,
    ⟨(some 11), none, .mv (.t 51)⟩] (some [2, 6, 9, 10, 11]))
  (.sq (.op 0 [⟨(some 52), none, .mv (.t 11)⟩,
    ⟨(some 53), none, .bin .neq (.t 52) (.c (.int .i64 (-1000000000)))⟩] none)
  (.cd (.t 53)
   (.sq (.op 0 [⟨(some 54), none, .fa (.t 10) 1⟩,
     ⟨(some 55), none, .ld (.t 54) 1 false⟩,
     ⟨(some 56), none, .len false (.t 55)⟩,
     ⟨(some 57), none, .mv (.c (.int .i64 0))⟩] (some [2, 6, 9, 11, 55, 56, 57]))
   (.kp [] [] (.bk 4 (.lp [] [2, 6, 9, 11, 55, 56, 57] c_timing_timed_required_L1))))
   .sk))))
def c_timing_timed_required_R0B : IR := b_timing_timed_required_R0B
theorem u_timing_timed_required_R0B {C : Call} {L : Loop} {π : Id} {k0 : List Id} {e : Env} {s : Sto} : evC C L π k0 c_timing_timed_required_R0B e s = evC C L π k0 b_timing_timed_required_R0B e s := rfl
def c_timing_timed_required : FnIR := ⟨73,
  (.sq (.op 0 [⟨(some 2), none, .box (.t 0) 10⟩,
    ⟨(some 4), none, .mv (.c (.sl 1 (some true) []))⟩] none)
  (.sq (.op 0 [⟨(some 14), none, .bsl t_int 1 false [.int .i64 0] 1 [(0, (.c (.int .i64 (-1000000000))))]⟩,
    ⟨(some 15), none, .fa (.t 2) 0⟩,
    ⟨(some 16), none, .ld (.t 15) 4 true⟩,
    ⟨(some 17), none, .callV true (.c (.fn n_timing_net_points [])) [(.t 16)]⟩,
    ⟨(some 18), none, .callV false (.c (.fn n_slices_Repeat_int_int [])) [(.t 14), (.t 17)]⟩,
    ⟨(some 5), none, .alloc [.sl 1 (some true) []]⟩,
    ⟨none, none, .st (.t 5) (.t 18) 1⟩] (some [1, 2, 4, 5]))
  (.sq (.op 0 [⟨(some 19), none, .mkf n_timing_timed_required_1 [(.t 5)]⟩,
    ⟨(some 6), none, .alloc [.nilf]⟩,
    ⟨none, none, .st (.t 6) (.t 19) 1⟩] none)
  (.sq (.sq (.op 0 [⟨(some 20), none, .fa (.t 2) 0⟩,
    ⟨(some 21), none, .fa (.t 20) 0⟩,
    ⟨(some 22), none, .fa (.t 21) 2⟩,
    ⟨(some 23), none, .ld (.t 22) 1 false⟩,
    ⟨(some 24), none, .len false (.t 23)⟩,
    ⟨(some 25), none, .mv (.c (.int .i64 0))⟩] (some [1, 2, 4, 5, 6, 23, 24, 25]))
  (.kp [2, 4, 5, 6] [4] (.bk 0 (.lp [] [1, 2, 4, 5, 6, 23, 24, 25] c_timing_timed_required_L0))))
  (.sq (.sq (.op 0 [⟨(some 38), none, .fa (.t 2) 0⟩,
    ⟨(some 39), none, .fa (.t 38) 0⟩,
    ⟨(some 40), none, .fa (.t 39) 1⟩,
    ⟨(some 41), none, .ld (.t 40) 1 false⟩,
    ⟨(some 42), none, .callV false (.c (.fn n_slices_Backward_api_MapPlaced_api_MapPlaced [])) [(.t 41)]⟩] (some [2, 4, 5, 6, 42]))
  (.bk 2 (.kp [5] [4] (.rf (.t 42) 73 0 [2, 5, 6] [43, 44] c_timing_timed_required_R0A c_timing_timed_required_R0B))))
  (.sq (.op 0 [⟨(some 72), none, .ld (.t 5) 1 false⟩,
    ⟨(some 4), none, .mv (.t 72)⟩] none)
  .rt)))))),
  [.t 4]⟩
def b_timing_timed_rests_L1 : IR :=
 (.sq (.sq (.op 0 [⟨(some 30), none, .mv (.t 5)⟩,
   ⟨(some 31), none, .fa (.t 1) 0⟩,
   ⟨(some 32), none, .ld (.t 31) 4 true⟩,
   ⟨(some 33), none, .callV true (.c (.fn n_timing_net_points [])) [(.t 32)]⟩,
   ⟨(some 34), none, .bin .lss (.t 30) (.t 33)⟩] (some [1, 3, 4, 5, 34]))
 (.cd (.t 34)
  .sk
  (.ex 2)))
 (.sq (.bk 3 (.sq (.op 0 [⟨(some 37), none, .mv (.t 5)⟩,
    ⟨(some 38), none, .mv (.t 4)⟩,
    ⟨(some 39), none, .bin .gtr (.t 37) (.t 38)⟩,
    ⟨(some 40), none, .mv (.t 39)⟩,
    ⟨(some 41), (some (40, true)), .fa (.t 1) 0⟩,
    ⟨(some 42), (some (40, true)), .ld (.t 41) 4 true⟩,
    ⟨(some 43), (some (40, true)), .mv (.t 5)⟩,
    ⟨(some 44), (some (40, true)), .mv (.t 4)⟩,
    ⟨(some 45), (some (40, true)), .callV true (.c (.fn n_timing_net_has [])) [(.t 42), (.t 43), (.t 44)]⟩,
    ⟨(some 46), none, .pick (.t 40) (.t 45) (.c (.bool false))⟩,
    ⟨(some 47), none, .mv (.t 46)⟩,
    ⟨(some 48), (some (47, true)), .mv (.t 3)⟩,
    ⟨(some 49), (some (47, true)), .mv (.t 5)⟩,
    ⟨(some 50), (some (47, true)), .ia (.t 48) (.t 49) 1⟩,
    ⟨(some 51), (some (47, true)), .ld (.t 50) 1 false⟩,
    ⟨(some 52), (some (47, true)), .bin .neq (.t 51) (.c (.int .i64 (-1)))⟩,
    ⟨(some 53), none, .pick (.t 47) (.t 52) (.c (.bool false))⟩] (some [1, 3, 4, 5, 53]))
  (.cd (.t 53)
   (.op 14 [⟨(some 54), none, .mv (.t 3)⟩,
     ⟨(some 55), none, .mv (.t 4)⟩,
     ⟨(some 56), none, .mv (.t 3)⟩,
     ⟨(some 57), none, .mv (.t 4)⟩,
     ⟨(some 58), none, .ia (.t 56) (.t 57) 1⟩,
     ⟨(some 59), none, .ld (.t 58) 1 false⟩,
     ⟨(some 60), none, .ld (.t 1) 10 true⟩,
     ⟨(some 61), none, .mv (.t 5)⟩,
     ⟨(some 62), none, .callV true (.c (.fn n_timing_timed_delay [])) [(.t 60), (.t 61)]⟩,
     ⟨(some 63), none, .mv (.t 3)⟩,
     ⟨(some 64), none, .mv (.t 5)⟩,
     ⟨(some 65), none, .ia (.t 63) (.t 64) 1⟩,
     ⟨(some 66), none, .ld (.t 65) 1 false⟩,
     ⟨(some 67), none, .bin .add (.t 62) (.t 66)⟩,
     ⟨(some 68), none, .mm true (.t 59) (.t 67)⟩,
     ⟨(some 69), none, .ia (.t 54) (.t 55) 1⟩,
     ⟨none, none, .st (.t 69) (.t 68) 1⟩] (some [1, 3, 4, 5]))
   .sk)))
 (.op 0 [⟨(some 35), none, .mv (.t 5)⟩,
   ⟨(some 36), none, .bin .add (.t 35) (.c (.int .i64 1))⟩,
   ⟨(some 5), none, .mv (.t 36)⟩] none)))
def c_timing_timed_rests_L1 : IR := b_timing_timed_rests_L1
theorem u_timing_timed_rests_L1 {C : Call} {L : Loop} {π : Id} {k0 : List Id} {e : Env} {s : Sto} : evC C L π k0 c_timing_timed_rests_L1 e s = evC C L π k0 b_timing_timed_rests_L1 e s := rfl
def b_timing_timed_rests_L0 : IR :=
 (.sq (.sq (.op 0 [⟨(some 15), none, .mv (.t 4)⟩,
   ⟨(some 16), none, .bin .geq (.t 15) (.c (.int .i64 0))⟩] none)
 (.cd (.t 16)
  .sk
  (.ex 0)))
 (.sq (.bk 1 (.sq (.sq (.op 0 [⟨(some 19), none, .fa (.t 1) 0⟩,
    ⟨(some 20), none, .ld (.t 19) 4 true⟩,
    ⟨(some 21), none, .mv (.t 4)⟩,
    ⟨(some 22), none, .callV true (.c (.fn n_timing_net_isEnd [])) [(.t 20), (.t 21)]⟩] (some [1, 3, 4, 22]))
  (.cd (.t 22)
   (.op 0 [⟨(some 23), none, .mv (.t 3)⟩,
     ⟨(some 24), none, .mv (.t 4)⟩,
     ⟨(some 25), none, .ia (.t 23) (.t 24) 1⟩,
     ⟨none, none, .st (.t 25) (.c (.int .i64 0)) 1⟩] (some [1, 3, 4]))
   .sk))
  (.sq (.op 0 [⟨(some 26), none, .fa (.t 1) 0⟩,
    ⟨(some 27), none, .fa (.t 26) 0⟩,
    ⟨(some 28), none, .fa (.t 27) 0⟩,
    ⟨(some 29), none, .ld (.t 28) 1 false⟩,
    ⟨(some 5), none, .mv (.t 29)⟩] (some [1, 3, 4, 5]))
  (.kp [1, 3, 4] [2] (.bk 2 (.lp [] [1, 3, 4, 5] c_timing_timed_rests_L1))))))
 (.op 0 [⟨(some 17), none, .mv (.t 4)⟩,
   ⟨(some 18), none, .bin .sub (.t 17) (.c (.int .i64 1))⟩,
   ⟨(some 4), none, .mv (.t 18)⟩] none)))
def c_timing_timed_rests_L0 : IR := b_timing_timed_rests_L0
theorem u_timing_timed_rests_L0 {C : Call} {L : Loop} {π : Id} {k0 : List Id} {e : Env} {s : Sto} : evC C L π k0 c_timing_timed_rests_L0 e s = evC C L π k0 b_timing_timed_rests_L0 e s := rfl
def c_timing_timed_rests : FnIR := ⟨71,
  (.sq (.op 0 [⟨(some 1), none, .box (.t 0) 10⟩,
    ⟨(some 2), none, .mv (.c (.sl 1 (some true) []))⟩] none)
  (.sq (.op 0 [⟨(some 6), none, .bsl t_int 1 false [.int .i64 0] 1 [(0, (.c (.int .i64 (-1))))]⟩,
    ⟨(some 7), none, .fa (.t 1) 0⟩,
    ⟨(some 8), none, .ld (.t 7) 4 true⟩,
    ⟨(some 9), none, .callV true (.c (.fn n_timing_net_points [])) [(.t 8)]⟩,
    ⟨(some 10), none, .callV false (.c (.fn n_slices_Repeat_int_int [])) [(.t 6), (.t 9)]⟩,
    ⟨(some 3), none, .mv (.t 10)⟩] (some [1, 3]))
  (.sq (.sq (.op 0 [⟨(some 11), none, .fa (.t 1) 0⟩,
    ⟨(some 12), none, .ld (.t 11) 4 true⟩,
    ⟨(some 13), none, .callV true (.c (.fn n_timing_net_points [])) [(.t 12)]⟩,
    ⟨(some 14), none, .bin .sub (.t 13) (.c (.int .i64 1))⟩,
    ⟨(some 4), none, .mv (.t 14)⟩] (some [1, 3, 4]))
  (.kp [3] [2] (.bk 0 (.lp [] [1, 3, 4] c_timing_timed_rests_L0))))
  (.sq (.op 0 [⟨(some 70), none, .mv (.t 3)⟩,
    ⟨(some 2), none, .mv (.t 70)⟩] none)
  .rt)))),
  [.t 2]⟩
def c_timing_net_points : FnIR := ⟨11,
  (.sq (.op 0 [⟨(some 1), none, .box (.t 0) 4⟩,
    ⟨(some 2), none, .mv (.c (.int .i64 0))⟩] none)
  (.sq (.op 0 [⟨(some 3), none, .fa (.t 1) 0⟩,
    ⟨(some 4), none, .fa (.t 3) 0⟩,
    ⟨(some 5), none, .ld (.t 4) 1 false⟩,
    ⟨(some 6), none, .fa (.t 1) 0⟩,
    ⟨(some 7), none, .fa (.t 6) 1⟩,
    ⟨(some 8), none, .ld (.t 7) 1 false⟩,
    ⟨(some 9), none, .len false (.t 8)⟩,
    ⟨(some 10), none, .bin .add (.t 5) (.t 9)⟩,
    ⟨(some 2), none, .mv (.t 10)⟩] (some [2]))
  .rt)),
  [.t 2]⟩
def c_timing_net_has : FnIR := ⟨21,
  (.sq (.op 0 [⟨(some 3), none, .box (.t 0) 4⟩,
    ⟨(some 6), none, .mv (.c (.bool false))⟩] none)
  (.sq (.op 0 [⟨(some 7), none, .fa (.t 3) 0⟩,
    ⟨(some 8), none, .fa (.t 7) 1⟩,
    ⟨(some 9), none, .ld (.t 8) 1 false⟩,
    ⟨(some 10), none, .mv (.t 1)⟩,
    ⟨(some 11), none, .fa (.t 3) 0⟩,
    ⟨(some 12), none, .fa (.t 11) 0⟩,
    ⟨(some 13), none, .ld (.t 12) 1 false⟩,
    ⟨(some 14), none, .bin .sub (.t 10) (.t 13)⟩,
    ⟨(some 15), none, .ia (.t 9) (.t 14) 2⟩,
    ⟨(some 16), none, .fa (.t 15) 1⟩,
    ⟨(some 17), none, .ld (.t 16) 1 false⟩,
    ⟨(some 18), none, .mv (.t 2)⟩,
    ⟨(some 19), none, .bin .add (.t 18) (.c (.int .i64 2))⟩,
    ⟨(some 20), none, .callV true (.c (.fn n_slices_Contains_int_int [])) [(.t 17), (.t 19)]⟩,
    ⟨(some 6), none, .mv (.t 20)⟩] (some [6]))
  .rt)),
  [.t 6]⟩
def c_timing_timed_delay : FnIR := ⟨15,
  (.sq (.op 0 [⟨(some 2), none, .box (.t 0) 10⟩,
    ⟨(some 4), none, .mv (.c (.int .i64 0))⟩] none)
  (.sq (.op 0 [⟨(some 5), none, .fa (.t 2) 9⟩,
    ⟨(some 6), none, .ld (.t 5) 1 false⟩,
    ⟨(some 7), none, .mv (.t 1)⟩,
    ⟨(some 8), none, .fa (.t 2) 0⟩,
    ⟨(some 9), none, .fa (.t 8) 0⟩,
    ⟨(some 10), none, .fa (.t 9) 0⟩,
    ⟨(some 11), none, .ld (.t 10) 1 false⟩,
    ⟨(some 12), none, .bin .sub (.t 7) (.t 11)⟩,
    ⟨(some 13), none, .ia (.t 6) (.t 12) 1⟩,
    ⟨(some 14), none, .ld (.t 13) 1 false⟩,
    ⟨(some 4), none, .mv (.t 14)⟩] (some [4]))
  .rt)),
  [.t 4]⟩
def c_mapping_CheckNet : FnIR := ⟨58,
  (.sq (.op 0 [⟨(some 2), none, .box (.t 0) 1⟩,
    ⟨(some 3), none, .box (.t 1) 3⟩,
    ⟨(some 4), none, .mv (.c (.int .i64 0))⟩,
    ⟨(some 5), none, .mv (.c (.int .i64 0))⟩] (some [2, 3]))
  (.sq (.op 0 [⟨(some 13), none, .ld (.t 2) 1 false⟩,
    ⟨(some 14), none, .callV true (.c (.fn n_mapping_CheckLibrary [])) [(.t 13)]⟩,
    ⟨(some 12), none, .mv (.t 14)⟩,
    ⟨(some 15), none, .ext (.t 12) 0⟩,
    ⟨(some 16), none, .ext (.t 12) 1⟩,
    ⟨(some 6), none, .mv (.t 15)⟩,
    ⟨(some 7), none, .mv (.t 16)⟩] (some [2, 3, 7]))
  (.sq (.op 0 [⟨(some 17), none, .fa (.t 3) 1⟩,
    ⟨(some 18), none, .ld (.t 17) 1 false⟩,
    ⟨(some 19), none, .len false (.t 18)⟩,
    ⟨(some 20), none, .bin .gtr (.t 19) (.c (.int .i64 400))⟩,
    ⟨(some 21), none, .mv (.t 20)⟩,
    ⟨(some 22), (some (21, false)), .fa (.t 3) 2⟩,
    ⟨(some 23), (some (21, false)), .ld (.t 22) 1 false⟩,
    ⟨(some 24), (some (21, false)), .len false (.t 23)⟩,
    ⟨(some 25), (some (21, false)), .bin .gtr (.t 24) (.c (.int .i64 64))⟩,
    ⟨(some 26), none, .pick (.t 21) (.c (.bool true)) (.t 25)⟩,
    ⟨(some 8), none, .mv (.t 26)⟩] (some [2, 3, 7, 8]))
  (.sq (.sq (.op 0 [⟨(some 27), none, .mv (.t 7)⟩,
    ⟨(some 28), none, .fa (.t 3) 0⟩,
    ⟨(some 29), none, .ld (.t 28) 1 false⟩,
    ⟨(some 30), none, .callV true (.c (.fn n_mapping_within [])) [(.t 29), (.c (.int .i64 0)), (.c (.int .i64 40))]⟩,
    ⟨(some 31), none, .callV true (.c (.fn n_mapping_unless [])) [(.t 30), (.c (.int .i64 2))]⟩,
    ⟨(some 32), none, .mv (.t 8)⟩,
    ⟨(some 33), none, .un .not (.t 32)⟩,
    ⟨(some 34), none, .callV true (.c (.fn n_mapping_unless [])) [(.t 33), (.c (.int .i64 8))]⟩,
    ⟨(some 35), none, .bsl t_api_Errno 1 false [.int .i64 0] 3 [(0, (.t 27)), (1, (.t 31)), (2, (.t 34))]⟩,
    ⟨(some 36), none, .callV true (.c (.fn n_mapping_first [])) [(.t 35)]⟩,
    ⟨(some 7), none, .mv (.t 36)⟩] (some [2, 3, 7]))
  (.sq (.op 0 [⟨(some 37), none, .mv (.t 7)⟩,
    ⟨(some 38), none, .bin .neq (.t 37) (.c (.int .i64 0))⟩] none)
  (.cd (.t 38)
   (.sq (.op 0 [⟨(some 39), none, .mv (.t 7)⟩,
     ⟨(some 4), none, .mv (.c (.int .i64 0))⟩,
     ⟨(some 5), none, .mv (.t 39)⟩] none)
   .rt)
   .sk)))
  (.sq (.op 0 [⟨(some 40), none, .mkf n_mapping_CheckNet_1 [(.t 3)]⟩,
    ⟨(some 9), none, .alloc [.nilf]⟩,
    ⟨none, none, .st (.t 9) (.t 40) 1⟩] none)
  (.sq (.sq (.op 0 [⟨(some 42), none, .fa (.t 3) 1⟩,
    ⟨(some 43), none, .ld (.t 42) 1 false⟩,
    ⟨(some 44), none, .mkf n_mapping_CheckNet_2 [(.t 2), (.t 9)]⟩,
    ⟨(some 45), none, .callV true (.c (.fn n_mapping_each_api_MapPlaced [])) [(.t 43), (.t 44)]⟩,
    ⟨(some 41), none, .mv (.t 45)⟩,
    ⟨(some 46), none, .ext (.t 41) 0⟩,
    ⟨(some 47), none, .ext (.t 41) 1⟩,
    ⟨(some 10), none, .mv (.t 46)⟩,
    ⟨(some 11), none, .mv (.t 47)⟩] (some [3, 9, 10, 11]))
  (.sq (.op 0 [⟨(some 48), none, .mv (.t 11)⟩,
    ⟨(some 49), none, .bin .neq (.t 48) (.c (.int .i64 0))⟩] none)
  (.cd (.t 49)
   (.sq (.op 0 [⟨(some 50), none, .mv (.t 10)⟩,
     ⟨(some 51), none, .mv (.t 11)⟩,
     ⟨(some 4), none, .mv (.t 50)⟩,
     ⟨(some 5), none, .mv (.t 51)⟩] (some [4, 5]))
   .rt)
   .sk)))
  (.sq (.op 0 [⟨(some 52), none, .fa (.t 3) 2⟩,
    ⟨(some 53), none, .ld (.t 52) 1 false⟩,
    ⟨(some 54), none, .mkf n_mapping_CheckNet_3 [(.t 9), (.t 3)]⟩,
    ⟨(some 55), none, .callV true (.c (.fn n_mapping_each_int [])) [(.t 53), (.t 54)]⟩,
    ⟨(some 56), none, .ext (.t 55) 0⟩,
    ⟨(some 57), none, .ext (.t 55) 1⟩,
    ⟨(some 4), none, .mv (.t 56)⟩,
    ⟨(some 5), none, .mv (.t 57)⟩] (some [4, 5]))
  .rt))))))),
  [.t 4, .t 5]⟩
def b_timing_each_int_L0 : IR :=
 (.sq (.op 0 [⟨(some 12), none, .bin .lss (.t 11) (.t 10)⟩] none)
 (.sq (.cd (.t 12)
  .sk
  (.ex 0))
 (.sq (.bk 1 (.sq (.op 0 [⟨(some 13), none, .mv (.t 11)⟩,
    ⟨(some 14), none, .ia (.t 9) (.t 11) 1⟩,
    ⟨(some 15), none, .ld (.t 14) 1 false⟩,
    ⟨(some 6), none, .mv (.t 13)⟩,
    ⟨(some 7), none, .mv (.t 15)⟩] (some [1, 6, 7, 9, 10, 11]))
  (.sq (.op 0 [⟨(some 16), none, .mv (.t 1)⟩,
    ⟨(some 17), none, .mv (.t 6)⟩,
    ⟨(some 18), none, .mv (.t 7)⟩,
    ⟨(some 19), none, .callV true (.t 16) [(.t 17), (.t 18)]⟩,
    ⟨(some 8), none, .mv (.t 19)⟩] (some [1, 6, 8, 9, 10, 11]))
  (.sq (.op 0 [⟨(some 20), none, .mv (.t 8)⟩,
    ⟨(some 21), none, .bin .neq (.t 20) (.c (.int .i64 0))⟩] none)
  (.cd (.t 21)
   (.sq (.op 0 [⟨(some 22), none, .mv (.t 6)⟩,
     ⟨(some 23), none, .mv (.t 8)⟩,
     ⟨(some 4), none, .mv (.t 22)⟩,
     ⟨(some 5), none, .mv (.t 23)⟩] (some [4, 5]))
   .rt)
   .sk)))))
 (.op 0 [⟨(some 24), none, .bin .add (.t 11) (.c (.int .i64 1))⟩,
   ⟨(some 11), none, .mv (.t 24)⟩] none))))
def c_timing_each_int_L0 : IR := b_timing_each_int_L0
theorem u_timing_each_int_L0 {C : Call} {L : Loop} {π : Id} {k0 : List Id} {e : Env} {s : Sto} : evC C L π k0 c_timing_each_int_L0 e s = evC C L π k0 b_timing_each_int_L0 e s := rfl
def c_timing_each_int : FnIR := ⟨25,
  (.sq (.op 0 [⟨(some 4), none, .mv (.c (.int .i64 0))⟩,
    ⟨(some 5), none, .mv (.c (.int .i64 0))⟩] none)
  (.sq (.sq (.op 0 [⟨(some 9), none, .mv (.t 0)⟩,
    ⟨(some 10), none, .len false (.t 9)⟩,
    ⟨(some 11), none, .mv (.c (.int .i64 0))⟩] none)
  (.kp [] [4, 5] (.bk 0 (.lp [] [1, 9, 10, 11] c_timing_each_int_L0))))
  (.sq (.op 0 [⟨(some 4), none, .mv (.c (.int .i64 0))⟩,
    ⟨(some 5), none, .mv (.c (.int .i64 0))⟩] none)
  .rt))),
  [.t 4, .t 5]⟩
def c_timing_net_pathErr_1 : FnIR := ⟨29,
  (.sq (.op 0 [⟨(some 6), none, .mv (.c (.int .i64 0))⟩] none)
  (.sq (.sq (.op 0 [⟨(some 7), none, .mv (.t 0)⟩,
    ⟨(some 8), none, .bin .eql (.t 7) (.c (.int .i64 0))⟩] none)
  (.cd (.t 8)
   (.sq (.op 0 [⟨(some 9), none, .mv (.t 1)⟩,
     ⟨(some 10), none, .fa (.t 2) 0⟩,
     ⟨(some 11), none, .fa (.t 10) 0⟩,
     ⟨(some 12), none, .ld (.t 11) 1 false⟩,
     ⟨(some 13), none, .bin .sub (.t 12) (.c (.int .i64 1))⟩,
     ⟨(some 14), none, .callV true (.c (.fn n_timing_within [])) [(.t 9), (.c (.int .i64 0)), (.t 13)]⟩,
     ⟨(some 15), none, .callV true (.c (.fn n_timing_unless [])) [(.t 14), (.c (.int .i64 6))]⟩,
     ⟨(some 6), none, .mv (.t 15)⟩] (some [6]))
   .rt)
   .sk))
  (.sq (.sq (.op 0 [⟨(some 16), none, .ld (.t 2) 4 true⟩,
    ⟨(some 17), none, .mv (.t 1)⟩,
    ⟨(some 18), none, .callV true (.c (.fn n_timing_net_isCell [])) [(.t 16), (.t 17)]⟩,
    ⟨(some 19), none, .un .not (.t 18)⟩] (some [0, 1, 2, 3, 19]))
  (.cd (.t 19)
   (.sq (.op 0 [⟨(some 6), none, .mv (.c (.int .i64 6))⟩] none)
   .rt)
   .sk))
  (.sq (.op 7 [⟨(some 20), none, .ld (.t 2) 4 true⟩,
    ⟨(some 21), none, .mv (.t 1)⟩,
    ⟨(some 22), none, .ld (.t 3) 1 false⟩,
    ⟨(some 23), none, .mv (.t 0)⟩,
    ⟨(some 24), none, .bin .sub (.t 23) (.c (.int .i64 1))⟩,
    ⟨(some 25), none, .ia (.t 22) (.t 24) 1⟩,
    ⟨(some 26), none, .ld (.t 25) 1 false⟩,
    ⟨(some 27), none, .callV true (.c (.fn n_timing_net_has [])) [(.t 20), (.t 21), (.t 26)]⟩,
    ⟨(some 28), none, .callV true (.c (.fn n_timing_unless [])) [(.t 27), (.c (.int .i64 14))]⟩,
    ⟨(some 6), none, .mv (.t 28)⟩] (some [6]))
  .rt)))),
  [.t 6]⟩
def c_timing_within : FnIR := ⟨15,
  (.sq (.op 0 [⟨(some 6), none, .mv (.c (.bool false))⟩] none)
  (.sq (.op 0 [⟨(some 7), none, .mv (.t 1)⟩,
    ⟨(some 8), none, .mv (.t 0)⟩,
    ⟨(some 9), none, .bin .leq (.t 7) (.t 8)⟩,
    ⟨(some 10), none, .mv (.t 9)⟩,
    ⟨(some 11), (some (10, true)), .mv (.t 0)⟩,
    ⟨(some 12), (some (10, true)), .mv (.t 2)⟩,
    ⟨(some 13), (some (10, true)), .bin .leq (.t 11) (.t 12)⟩,
    ⟨(some 14), none, .pick (.t 10) (.t 13) (.c (.bool false))⟩,
    ⟨(some 6), none, .mv (.t 14)⟩] (some [6]))
  .rt)),
  [.t 6]⟩
def c_timing_net_isCell : FnIR := ⟨13,
  (.sq (.op 0 [⟨(some 2), none, .box (.t 0) 4⟩,
    ⟨(some 4), none, .mv (.c (.bool false))⟩] none)
  (.sq (.op 7 [⟨(some 5), none, .mv (.t 1)⟩,
    ⟨(some 6), none, .fa (.t 2) 0⟩,
    ⟨(some 7), none, .fa (.t 6) 0⟩,
    ⟨(some 8), none, .ld (.t 7) 1 false⟩,
    ⟨(some 9), none, .ld (.t 2) 4 true⟩,
    ⟨(some 10), none, .callV true (.c (.fn n_timing_net_points [])) [(.t 9)]⟩,
    ⟨(some 11), none, .bin .sub (.t 10) (.c (.int .i64 1))⟩,
    ⟨(some 12), none, .callV true (.c (.fn n_timing_within [])) [(.t 5), (.t 8), (.t 11)]⟩,
    ⟨(some 4), none, .mv (.t 12)⟩] (some [4]))
  .rt)),
  [.t 4]⟩
def c_timing_net_isEnd : FnIR := ⟨11,
  (.sq (.op 0 [⟨(some 2), none, .box (.t 0) 4⟩,
    ⟨(some 4), none, .mv (.c (.bool false))⟩] none)
  (.sq (.op 0 [⟨(some 5), none, .fa (.t 2) 0⟩,
    ⟨(some 6), none, .fa (.t 5) 2⟩,
    ⟨(some 7), none, .ld (.t 6) 1 false⟩,
    ⟨(some 8), none, .mv (.t 1)⟩,
    ⟨(some 9), none, .bin .add (.t 8) (.c (.int .i64 2))⟩,
    ⟨(some 10), none, .callV true (.c (.fn n_slices_Contains_int_int [])) [(.t 7), (.t 9)]⟩,
    ⟨(some 4), none, .mv (.t 10)⟩] (some [4]))
  .rt)),
  [.t 4]⟩
def b_timing_net_isUsed_L0 : IR :=
 (.sq (.op 0 [⟨(some 15), none, .bin .lss (.t 14) (.t 13)⟩] none)
 (.sq (.cd (.t 15)
  .sk
  (.ex 0))
 (.sq (.bk 1 (.sq (.op 0 [⟨(some 16), none, .mv (.t 14)⟩,
    ⟨(some 17), none, .ia (.t 12) (.t 14) 1⟩,
    ⟨(some 18), none, .ld (.t 17) 1 false⟩,
    ⟨(some 7), none, .mv (.t 16)⟩,
    ⟨(some 8), none, .mv (.t 18)⟩] (some [1, 3, 5, 7, 8, 12, 13, 14]))
  (.sq (.op 0 [⟨(some 19), none, .mv (.t 1)⟩,
    ⟨(some 20), none, .mv (.t 7)⟩,
    ⟨(some 21), none, .ia (.t 19) (.t 20) 1⟩,
    ⟨(some 22), none, .ld (.t 21) 1 false⟩,
    ⟨(some 23), none, .bin .add (.t 22) (.c (.int .i64 2))⟩,
    ⟨(some 9), none, .alloc [.int .i64 0]⟩,
    ⟨none, none, .st (.t 9) (.t 23) 1⟩] (some [1, 3, 5, 8, 9, 12, 13, 14]))
  (.sq (.op 0 [⟨(some 24), none, .ld (.t 3) 4 true⟩,
    ⟨(some 25), none, .mv (.t 8)⟩,
    ⟨(some 26), none, .fa (.t 3) 0⟩,
    ⟨(some 27), none, .fa (.t 26) 0⟩,
    ⟨(some 28), none, .ld (.t 27) 1 false⟩,
    ⟨(some 29), none, .bin .sub (.t 25) (.t 28)⟩,
    ⟨(some 30), none, .mkf n_timing_net_isUsed_1 [(.t 9), (.t 5)]⟩,
    ⟨(some 31), none, .callV true (.c (.fn n_timing_net_output [])) [(.t 24), (.t 29), (.t 30)]⟩,
    ⟨(some 10), none, .mv (.t 31)⟩] (some [1, 3, 5, 8, 10, 12, 13, 14]))
  (.sq (.op 0 [⟨(some 32), none, .mv (.t 10)⟩,
    ⟨(some 33), none, .ld (.t 5) 1 false⟩,
    ⟨(some 34), none, .mv (.t 8)⟩,
    ⟨(some 35), none, .bin .add (.t 34) (.c (.int .i64 2))⟩,
    ⟨(some 36), none, .ia (.t 33) (.t 35) 1⟩,
    ⟨(some 37), none, .ld (.t 36) 1 false⟩,
    ⟨(some 38), none, .bin .eql (.t 32) (.t 37)⟩] (some [1, 3, 5, 12, 13, 14, 38]))
  (.cd (.t 38)
   (.sq (.op 0 [⟨(some 6), none, .mv (.c (.bool false))⟩] none)
   .rt)
   .sk))))))
 (.op 0 [⟨(some 39), none, .bin .add (.t 14) (.c (.int .i64 1))⟩,
   ⟨(some 14), none, .mv (.t 39)⟩] none))))
def c_timing_net_isUsed_L0 : IR := b_timing_net_isUsed_L0
theorem u_timing_net_isUsed_L0 {C : Call} {L : Loop} {π : Id} {k0 : List Id} {e : Env} {s : Sto} : evC C L π k0 c_timing_net_isUsed_L0 e s = evC C L π k0 b_timing_net_isUsed_L0 e s := rfl
def c_timing_net_isUsed : FnIR := ⟨40,
  (.sq (.op 0 [⟨(some 3), none, .box (.t 0) 4⟩,
    ⟨(some 5), none, .box (.t 2) 1⟩,
    ⟨(some 6), none, .mv (.c (.bool false))⟩] none)
  (.sq (.sq (.op 0 [⟨(some 11), none, .mv (.t 1)⟩,
    ⟨(some 12), none, .slc false (.t 11) (some (.c (.int .i64 1))) none 1⟩,
    ⟨(some 13), none, .len false (.t 12)⟩,
    ⟨(some 14), none, .mv (.c (.int .i64 0))⟩] (some [1, 3, 5, 12, 13, 14]))
  (.kp [] [6] (.bk 0 (.lp [] [1, 3, 5, 12, 13, 14] c_timing_net_isUsed_L0))))
  (.sq (.op 0 [⟨(some 6), none, .mv (.c (.bool true))⟩] none)
  .rt))),
  [.t 6]⟩
def b_timing_net_values_L0 : IR :=
 (.sq (.op 0 [⟨(some 15), none, .bin .lss (.t 14) (.t 13)⟩] none)
 (.sq (.cd (.t 15)
  .sk
  (.ex 0))
 (.sq (.bk 1 (.sq (.op 0 [⟨(some 16), none, .mv (.t 14)⟩,
    ⟨(some 6), none, .mv (.t 16)⟩] none)
  (.op 6 [⟨(some 17), none, .ld (.t 5) 1 false⟩,
    ⟨(some 18), none, .ld (.t 2) 4 true⟩,
    ⟨(some 19), none, .mv (.t 6)⟩,
    ⟨(some 20), none, .mkf n_timing_net_values_1 [(.t 5)]⟩,
    ⟨(some 21), none, .callV true (.c (.fn n_timing_net_output [])) [(.t 18), (.t 19), (.t 20)]⟩,
    ⟨(some 22), none, .bsl t_int 1 false [.int .i64 0] 1 [(0, (.t 21))]⟩,
    ⟨(some 23), none, .app (.t 17) (.t 22) t_int 1⟩,
    ⟨none, none, .st (.t 5) (.t 23) 1⟩] (some [2, 5, 13, 14]))))
 (.op 0 [⟨(some 24), none, .bin .add (.t 14) (.c (.int .i64 1))⟩,
   ⟨(some 14), none, .mv (.t 24)⟩] none))))
def c_timing_net_values_L0 : IR := b_timing_net_values_L0
theorem u_timing_net_values_L0 {C : Call} {L : Loop} {π : Id} {k0 : List Id} {e : Env} {s : Sto} : evC C L π k0 c_timing_net_values_L0 e s = evC C L π k0 b_timing_net_values_L0 e s := rfl
def c_timing_net_values : FnIR := ⟨26,
  (.sq (.op 0 [⟨(some 2), none, .box (.t 0) 4⟩,
    ⟨(some 4), none, .mv (.c (.sl 1 (some true) []))⟩] none)
  (.sq (.op 0 [⟨(some 7), none, .bsl t_int 1 false [.int .i64 0] 2 [(0, (.c (.int .i64 0))), (1, (.c (.int .i64 1)))]⟩,
    ⟨(some 8), none, .mv (.t 1)⟩,
    ⟨(some 9), none, .app (.t 7) (.t 8) t_int 1⟩,
    ⟨(some 5), none, .alloc [.sl 1 (some true) []]⟩,
    ⟨none, none, .st (.t 5) (.t 9) 1⟩] (some [2, 5]))
  (.sq (.sq (.op 0 [⟨(some 10), none, .fa (.t 2) 0⟩,
    ⟨(some 11), none, .fa (.t 10) 1⟩,
    ⟨(some 12), none, .ld (.t 11) 1 false⟩,
    ⟨(some 13), none, .len false (.t 12)⟩,
    ⟨(some 14), none, .mv (.c (.int .i64 0))⟩] (some [2, 5, 13, 14]))
  (.kp [5] [4] (.bk 0 (.lp [(t_int, .inr (5, 0))] [2, 5, 13, 14] c_timing_net_values_L0))))
  (.sq (.op 0 [⟨(some 25), none, .ld (.t 5) 1 false⟩,
    ⟨(some 4), none, .mv (.t 25)⟩] none)
  .rt)))),
  [.t 4]⟩

end Go.Proofs.YtafomlbikcphgabGreat.V
