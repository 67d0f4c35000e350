/- The functions of the program in the small language. Printed by a program of this work. -/
import Derived.Test.YtafomlbikcphgaaGreatK4

set_option linter.unusedSimpArgs false
set_option linter.unusedVariables false

/- The functions of the program in the small language. Printed by a program of this work. -/
namespace Go.Proofs.YtafomlbikcphgaaGreat.V
open Go (IntKind BinOp UnOp)

def n_main_main : Nat := 0
def n_gosem_cut : Nat := 1
def n_gosem_cut_init : Nat := 2
def n_ratchetlaw28_TimingPaths : Nat := 3
def n_ratchetlaw28_TimingCorners : Nat := 4
def n_ratchetlaw28_TimingRegisters : Nat := 5
def n_ratchetlaw28_awake : Nat := 6
def n_ratchetlaw28_Few : Nat := 7
def n_ratchetlaw28_copied : Nat := 8
def n_ratchetref28_AllErr : Nat := 9
def n_ratchetref28_TimesErr : Nat := 10
def n_ratchetlaw28_light : Nat := 11
def n_ratchetref28_Paths : Nat := 12
def n_timing_CriticalPath : Nat := 13
def n_ratchetbase_CopyInts : Nat := 14
def n_timing_DelayOf : Nat := 15
def n_ratchetref28_Critical : Nat := 16
def n_ratchetbase_Ints : Nat := 17
def n_ratchetref28_Delay : Nat := 18
def n_timing_ArrivalsOf : Nat := 19
def n_ratchetref28_Points : Nat := 20
def n_ratchetref28_PathErr : Nat := 21
def n_timing_RangesOf : Nat := 22
def n_ratchetbase_Ranges : Nat := 23
def n_ratchetref28_Corners : Nat := 24
def n_ratchetbase_Mod : Nat := 25
def n_ratchetbase_Within : Nat := 26
def n_timing_PeriodOf : Nat := 27
def n_timing_HoldsIn : Nat := 28
def n_ratchetref28_RegistersErr : Nat := 29
def n_ratchetref28_Holds : Nat := 30
def n_ratchetref28_Period : Nat := 31
def n_ratchetlaw28_Library : Nat := 32
def n_ratchetlaw28_Net : Nat := 33
def n_ratchetlaw28_Model : Nat := 34
def n_timing_SlacksOf : Nat := 35
def n_timing_UsedAt : Nat := 36
def n_ratchetref27_CopyLibrary : Nat := 37
def n_ratchetref27_CopyNet : Nat := 38
def n_ratchetref28_NetErr : Nat := 39
def n_ratchetref28_ModelErr : Nat := 40
def n_ratchetref28_longer : Nat := 41
def n_timing_openTimes : Nat := 42
def n_timing_timed_rests : Nat := 43
def n_timing_net_points : Nat := 44
def n_timing_net_has : Nat := 45
def n_timing_timed_delay : Nat := 46
def n_timing_net_pathErr : Nat := 47
def n_timing_timed_along : Nat := 48
def n_ratchetref28_Delays : Nat := 49
def n_timing_timed_arrivals : Nat := 50
def n_ratchetbase_Has : Nat := 51
def n_timing_timed_ends : Nat := 52
def n_ratchetref28_point : Nat := 53
def n_ratchetbase_Ceil : Nat := 54
def n_timing_openRegisters : Nat := 55
def n_timing_first : Nat := 56
def n_timing_unless : Nat := 57
def n_timing_greatest : Nat := 58
def n_timing_least : Nat := 59
def n_ratchetref28_From : Nat := 60
def n_ratchetref28_Arrivals : Nat := 61
def n_timing_timesErr : Nat := 62
def n_timing_timed_required : Nat := 63
def n_timing_open : Nat := 64
def n_timing_net_used : Nat := 65
def n_ratchetref27_NetErr : Nat := 66
def n_timing_openModel : Nat := 67
def n_slices_Repeat_int_int : Nat := 68
def n_timing_net_isEnd : Nat := 69
def n_slices_Contains_int_int : Nat := 70
def n_timing_each_int : Nat := 71
def n_timing_net_pathErr_1 : Nat := 72
def n_timing_within : Nat := 73
def n_timing_net_isCell : Nat := 74
def n_ratchetref28_load : Nat := 75
def n_slices_Clone_int_int : Nat := 76
def n_ratchetbase_Floor : Nat := 77
def n_timing_pointOf : Nat := 78
def n_slices_ContainsFunc_int_int : Nat := 79
def n_timing_timesErr_1 : Nat := 80
def n_timing_timed_required_1 : Nat := 81
def n_slices_Backward_api_MapPlaced_api_MapPlaced : Nat := 82
def n_timing_net_cell : Nat := 83
def n_mapping_CheckNet : Nat := 84
def n_timing_net_isUsed : Nat := 85
def n_timing_net_values : Nat := 86
def n_ratchetref27_LibraryErr : Nat := 87
def n_ratchetref27_CheckNet : Nat := 88
def n_timing_CheckModel : Nat := 89
def n_timing_openModel_1 : Nat := 90
def n_bits_Mul : Nat := 91
def n_slices_Index_int_int : Nat := 92
def n_ratchetbase_Bit : Nat := 93
def n_slices_IndexFunc_int_int : Nat := 94
def n_slices_Backward_api_MapPlaced_api_MapPlaced_1 : Nat := 95
def n_mapping_CheckLibrary : Nat := 96
def n_mapping_first : Nat := 97
def n_mapping_unless : Nat := 98
def n_mapping_within : Nat := 99
def n_mapping_CheckNet_1 : Nat := 100
def n_mapping_CheckNet_1_1 : Nat := 101
def n_mapping_each_api_MapPlaced : Nat := 102
def n_mapping_CheckNet_2 : Nat := 103
def n_mapping_each_int : Nat := 104
def n_mapping_CheckNet_3 : Nat := 105
def n_timing_net_output : Nat := 106
def n_timing_net_isUsed_1 : Nat := 107
def n_timing_net_values_1 : Nat := 108
def n_ratchetref27_CheckLibrary : Nat := 109
def n_timing_CheckModel_1 : Nat := 110
def n_timing_CheckModel_2 : Nat := 111
def n_bits_Mul32 : Nat := 112
def n_bits_Mul64 : Nat := 113
def n_mapping_each_api_MapCell : Nat := 114
def n_mapping_CheckLibrary_1 : Nat := 115
def n_mapping_cellErr : Nat := 116
def n_ratchetbase_IsName : Nat := 117
def n_ratchetbase_Power : Nat := 118
def n_mapping_cellErr_1 : Nat := 119
def n_slices_ContainsFunc_api_MapCell_api_MapCell : Nat := 120
def n_mapping_cellErr_2 : Nat := 121
def n_mapping_isName : Nat := 122
def n_slices_IndexFunc_api_MapCell_api_MapCell : Nat := 123
def n_runtime_boundsError_Error : Nat := 124
def n_runtime_boundsError_RuntimeError : Nat := 125
def n_runtime_errorString_Error : Nat := 126
def n_runtime_errorString_RuntimeError : Nat := 127
def n_runtime_plainError_Error : Nat := 128
def n_runtime_plainError_RuntimeError : Nat := 129
def n_runtime_errorAddressString_Error : Nat := 130
def n_runtime_errorAddressString_RuntimeError : Nat := 131
def n_runtime_TypeAssertionError_Error : Nat := 132
def n_runtime_TypeAssertionError_RuntimeError : Nat := 133
def n_runtime_PanicNilError_Error : Nat := 134
def n_runtime_PanicNilError_RuntimeError : Nat := 135
def n_abi_Type_Align : Nat := 136
def n_runtime_maps_unhashableTypeError_Error : Nat := 137
def n_runtime_maps_unhashableTypeError_RuntimeError : Nat := 138
def n_timing_net_count : Nat := 139
def n_abi_Kind_String : Nat := 140
@[simp] theorem y_main_main : (n_main_main = yieldF) = False := eq_false (by decide)
@[simp] theorem y_gosem_cut : (n_gosem_cut = yieldF) = False := eq_false (by decide)
@[simp] theorem y_gosem_cut_init : (n_gosem_cut_init = yieldF) = False := eq_false (by decide)
@[simp] theorem y_ratchetlaw28_TimingPaths : (n_ratchetlaw28_TimingPaths = yieldF) = False := eq_false (by decide)
@[simp] theorem y_ratchetlaw28_TimingCorners : (n_ratchetlaw28_TimingCorners = yieldF) = False := eq_false (by decide)
@[simp] theorem y_ratchetlaw28_TimingRegisters : (n_ratchetlaw28_TimingRegisters = yieldF) = False := eq_false (by decide)
@[simp] theorem y_ratchetlaw28_awake : (n_ratchetlaw28_awake = yieldF) = False := eq_false (by decide)
@[simp] theorem y_ratchetlaw28_Few : (n_ratchetlaw28_Few = yieldF) = False := eq_false (by decide)
@[simp] theorem y_ratchetlaw28_copied : (n_ratchetlaw28_copied = yieldF) = False := eq_false (by decide)
@[simp] theorem y_ratchetref28_AllErr : (n_ratchetref28_AllErr = yieldF) = False := eq_false (by decide)
@[simp] theorem y_ratchetref28_TimesErr : (n_ratchetref28_TimesErr = yieldF) = False := eq_false (by decide)
@[simp] theorem y_ratchetlaw28_light : (n_ratchetlaw28_light = yieldF) = False := eq_false (by decide)
@[simp] theorem y_ratchetref28_Paths : (n_ratchetref28_Paths = yieldF) = False := eq_false (by decide)
@[simp] theorem y_timing_CriticalPath : (n_timing_CriticalPath = yieldF) = False := eq_false (by decide)
@[simp] theorem y_ratchetbase_CopyInts : (n_ratchetbase_CopyInts = yieldF) = False := eq_false (by decide)
@[simp] theorem y_timing_DelayOf : (n_timing_DelayOf = yieldF) = False := eq_false (by decide)
@[simp] theorem y_ratchetref28_Critical : (n_ratchetref28_Critical = yieldF) = False := eq_false (by decide)
@[simp] theorem y_ratchetbase_Ints : (n_ratchetbase_Ints = yieldF) = False := eq_false (by decide)
@[simp] theorem y_ratchetref28_Delay : (n_ratchetref28_Delay = yieldF) = False := eq_false (by decide)
@[simp] theorem y_timing_ArrivalsOf : (n_timing_ArrivalsOf = yieldF) = False := eq_false (by decide)
@[simp] theorem y_ratchetref28_Points : (n_ratchetref28_Points = yieldF) = False := eq_false (by decide)
@[simp] theorem y_ratchetref28_PathErr : (n_ratchetref28_PathErr = yieldF) = False := eq_false (by decide)
@[simp] theorem y_timing_RangesOf : (n_timing_RangesOf = yieldF) = False := eq_false (by decide)
@[simp] theorem y_ratchetbase_Ranges : (n_ratchetbase_Ranges = yieldF) = False := eq_false (by decide)
@[simp] theorem y_ratchetref28_Corners : (n_ratchetref28_Corners = yieldF) = False := eq_false (by decide)
@[simp] theorem y_ratchetbase_Mod : (n_ratchetbase_Mod = yieldF) = False := eq_false (by decide)
@[simp] theorem y_ratchetbase_Within : (n_ratchetbase_Within = yieldF) = False := eq_false (by decide)
@[simp] theorem y_timing_PeriodOf : (n_timing_PeriodOf = yieldF) = False := eq_false (by decide)
@[simp] theorem y_timing_HoldsIn : (n_timing_HoldsIn = yieldF) = False := eq_false (by decide)
@[simp] theorem y_ratchetref28_RegistersErr : (n_ratchetref28_RegistersErr = yieldF) = False := eq_false (by decide)
@[simp] theorem y_ratchetref28_Holds : (n_ratchetref28_Holds = yieldF) = False := eq_false (by decide)
@[simp] theorem y_ratchetref28_Period : (n_ratchetref28_Period = yieldF) = False := eq_false (by decide)
@[simp] theorem y_ratchetlaw28_Library : (n_ratchetlaw28_Library = yieldF) = False := eq_false (by decide)
@[simp] theorem y_ratchetlaw28_Net : (n_ratchetlaw28_Net = yieldF) = False := eq_false (by decide)
@[simp] theorem y_ratchetlaw28_Model : (n_ratchetlaw28_Model = yieldF) = False := eq_false (by decide)
@[simp] theorem y_timing_SlacksOf : (n_timing_SlacksOf = yieldF) = False := eq_false (by decide)
@[simp] theorem y_timing_UsedAt : (n_timing_UsedAt = yieldF) = False := eq_false (by decide)
@[simp] theorem y_ratchetref27_CopyLibrary : (n_ratchetref27_CopyLibrary = yieldF) = False := eq_false (by decide)
@[simp] theorem y_ratchetref27_CopyNet : (n_ratchetref27_CopyNet = yieldF) = False := eq_false (by decide)
@[simp] theorem y_ratchetref28_NetErr : (n_ratchetref28_NetErr = yieldF) = False := eq_false (by decide)
@[simp] theorem y_ratchetref28_ModelErr : (n_ratchetref28_ModelErr = yieldF) = False := eq_false (by decide)
@[simp] theorem y_ratchetref28_longer : (n_ratchetref28_longer = yieldF) = False := eq_false (by decide)
@[simp] theorem y_timing_openTimes : (n_timing_openTimes = yieldF) = False := eq_false (by decide)
@[simp] theorem y_timing_timed_rests : (n_timing_timed_rests = yieldF) = False := eq_false (by decide)
@[simp] theorem y_timing_net_points : (n_timing_net_points = yieldF) = False := eq_false (by decide)
@[simp] theorem y_timing_net_has : (n_timing_net_has = yieldF) = False := eq_false (by decide)
@[simp] theorem y_timing_timed_delay : (n_timing_timed_delay = yieldF) = False := eq_false (by decide)
@[simp] theorem y_timing_net_pathErr : (n_timing_net_pathErr = yieldF) = False := eq_false (by decide)
@[simp] theorem y_timing_timed_along : (n_timing_timed_along = yieldF) = False := eq_false (by decide)
@[simp] theorem y_ratchetref28_Delays : (n_ratchetref28_Delays = yieldF) = False := eq_false (by decide)
@[simp] theorem y_timing_timed_arrivals : (n_timing_timed_arrivals = yieldF) = False := eq_false (by decide)
@[simp] theorem y_ratchetbase_Has : (n_ratchetbase_Has = yieldF) = False := eq_false (by decide)
@[simp] theorem y_timing_timed_ends : (n_timing_timed_ends = yieldF) = False := eq_false (by decide)
@[simp] theorem y_ratchetref28_point : (n_ratchetref28_point = yieldF) = False := eq_false (by decide)
@[simp] theorem y_ratchetbase_Ceil : (n_ratchetbase_Ceil = yieldF) = False := eq_false (by decide)
@[simp] theorem y_timing_openRegisters : (n_timing_openRegisters = yieldF) = False := eq_false (by decide)
@[simp] theorem y_timing_first : (n_timing_first = yieldF) = False := eq_false (by decide)
@[simp] theorem y_timing_unless : (n_timing_unless = yieldF) = False := eq_false (by decide)
@[simp] theorem y_timing_greatest : (n_timing_greatest = yieldF) = False := eq_false (by decide)
@[simp] theorem y_timing_least : (n_timing_least = yieldF) = False := eq_false (by decide)
@[simp] theorem y_ratchetref28_From : (n_ratchetref28_From = yieldF) = False := eq_false (by decide)
@[simp] theorem y_ratchetref28_Arrivals : (n_ratchetref28_Arrivals = yieldF) = False := eq_false (by decide)
@[simp] theorem y_timing_timesErr : (n_timing_timesErr = yieldF) = False := eq_false (by decide)
@[simp] theorem y_timing_timed_required : (n_timing_timed_required = yieldF) = False := eq_false (by decide)
@[simp] theorem y_timing_open : (n_timing_open = yieldF) = False := eq_false (by decide)
@[simp] theorem y_timing_net_used : (n_timing_net_used = yieldF) = False := eq_false (by decide)
@[simp] theorem y_ratchetref27_NetErr : (n_ratchetref27_NetErr = yieldF) = False := eq_false (by decide)
@[simp] theorem y_timing_openModel : (n_timing_openModel = yieldF) = False := eq_false (by decide)
@[simp] theorem y_slices_Repeat_int_int : (n_slices_Repeat_int_int = yieldF) = False := eq_false (by decide)
@[simp] theorem y_timing_net_isEnd : (n_timing_net_isEnd = yieldF) = False := eq_false (by decide)
@[simp] theorem y_slices_Contains_int_int : (n_slices_Contains_int_int = yieldF) = False := eq_false (by decide)
@[simp] theorem y_timing_each_int : (n_timing_each_int = yieldF) = False := eq_false (by decide)
@[simp] theorem y_timing_net_pathErr_1 : (n_timing_net_pathErr_1 = yieldF) = False := eq_false (by decide)
@[simp] theorem y_timing_within : (n_timing_within = yieldF) = False := eq_false (by decide)
@[simp] theorem y_timing_net_isCell : (n_timing_net_isCell = yieldF) = False := eq_false (by decide)
@[simp] theorem y_ratchetref28_load : (n_ratchetref28_load = yieldF) = False := eq_false (by decide)
@[simp] theorem y_slices_Clone_int_int : (n_slices_Clone_int_int = yieldF) = False := eq_false (by decide)
@[simp] theorem y_ratchetbase_Floor : (n_ratchetbase_Floor = yieldF) = False := eq_false (by decide)
@[simp] theorem y_timing_pointOf : (n_timing_pointOf = yieldF) = False := eq_false (by decide)
@[simp] theorem y_slices_ContainsFunc_int_int : (n_slices_ContainsFunc_int_int = yieldF) = False := eq_false (by decide)
@[simp] theorem y_timing_timesErr_1 : (n_timing_timesErr_1 = yieldF) = False := eq_false (by decide)
@[simp] theorem y_timing_timed_required_1 : (n_timing_timed_required_1 = yieldF) = False := eq_false (by decide)
@[simp] theorem y_slices_Backward_api_MapPlaced_api_MapPlaced : (n_slices_Backward_api_MapPlaced_api_MapPlaced = yieldF) = False := eq_false (by decide)
@[simp] theorem y_timing_net_cell : (n_timing_net_cell = yieldF) = False := eq_false (by decide)
@[simp] theorem y_mapping_CheckNet : (n_mapping_CheckNet = yieldF) = False := eq_false (by decide)
@[simp] theorem y_timing_net_isUsed : (n_timing_net_isUsed = yieldF) = False := eq_false (by decide)
@[simp] theorem y_timing_net_values : (n_timing_net_values = yieldF) = False := eq_false (by decide)
@[simp] theorem y_ratchetref27_LibraryErr : (n_ratchetref27_LibraryErr = yieldF) = False := eq_false (by decide)
@[simp] theorem y_ratchetref27_CheckNet : (n_ratchetref27_CheckNet = yieldF) = False := eq_false (by decide)
@[simp] theorem y_timing_CheckModel : (n_timing_CheckModel = yieldF) = False := eq_false (by decide)
@[simp] theorem y_timing_openModel_1 : (n_timing_openModel_1 = yieldF) = False := eq_false (by decide)
@[simp] theorem y_bits_Mul : (n_bits_Mul = yieldF) = False := eq_false (by decide)
@[simp] theorem y_slices_Index_int_int : (n_slices_Index_int_int = yieldF) = False := eq_false (by decide)
@[simp] theorem y_ratchetbase_Bit : (n_ratchetbase_Bit = yieldF) = False := eq_false (by decide)
@[simp] theorem y_slices_IndexFunc_int_int : (n_slices_IndexFunc_int_int = yieldF) = False := eq_false (by decide)
@[simp] theorem y_slices_Backward_api_MapPlaced_api_MapPlaced_1 : (n_slices_Backward_api_MapPlaced_api_MapPlaced_1 = yieldF) = False := eq_false (by decide)
@[simp] theorem y_mapping_CheckLibrary : (n_mapping_CheckLibrary = yieldF) = False := eq_false (by decide)
@[simp] theorem y_mapping_first : (n_mapping_first = yieldF) = False := eq_false (by decide)
@[simp] theorem y_mapping_unless : (n_mapping_unless = yieldF) = False := eq_false (by decide)
@[simp] theorem y_mapping_within : (n_mapping_within = yieldF) = False := eq_false (by decide)
@[simp] theorem y_mapping_CheckNet_1 : (n_mapping_CheckNet_1 = yieldF) = False := eq_false (by decide)
@[simp] theorem y_mapping_CheckNet_1_1 : (n_mapping_CheckNet_1_1 = yieldF) = False := eq_false (by decide)
@[simp] theorem y_mapping_each_api_MapPlaced : (n_mapping_each_api_MapPlaced = yieldF) = False := eq_false (by decide)
@[simp] theorem y_mapping_CheckNet_2 : (n_mapping_CheckNet_2 = yieldF) = False := eq_false (by decide)
@[simp] theorem y_mapping_each_int : (n_mapping_each_int = yieldF) = False := eq_false (by decide)
@[simp] theorem y_mapping_CheckNet_3 : (n_mapping_CheckNet_3 = yieldF) = False := eq_false (by decide)
@[simp] theorem y_timing_net_output : (n_timing_net_output = yieldF) = False := eq_false (by decide)
@[simp] theorem y_timing_net_isUsed_1 : (n_timing_net_isUsed_1 = yieldF) = False := eq_false (by decide)
@[simp] theorem y_timing_net_values_1 : (n_timing_net_values_1 = yieldF) = False := eq_false (by decide)
@[simp] theorem y_ratchetref27_CheckLibrary : (n_ratchetref27_CheckLibrary = yieldF) = False := eq_false (by decide)
@[simp] theorem y_timing_CheckModel_1 : (n_timing_CheckModel_1 = yieldF) = False := eq_false (by decide)
@[simp] theorem y_timing_CheckModel_2 : (n_timing_CheckModel_2 = yieldF) = False := eq_false (by decide)
@[simp] theorem y_bits_Mul32 : (n_bits_Mul32 = yieldF) = False := eq_false (by decide)
@[simp] theorem y_bits_Mul64 : (n_bits_Mul64 = yieldF) = False := eq_false (by decide)
@[simp] theorem y_mapping_each_api_MapCell : (n_mapping_each_api_MapCell = yieldF) = False := eq_false (by decide)
@[simp] theorem y_mapping_CheckLibrary_1 : (n_mapping_CheckLibrary_1 = yieldF) = False := eq_false (by decide)
@[simp] theorem y_mapping_cellErr : (n_mapping_cellErr = yieldF) = False := eq_false (by decide)
@[simp] theorem y_ratchetbase_IsName : (n_ratchetbase_IsName = yieldF) = False := eq_false (by decide)
@[simp] theorem y_ratchetbase_Power : (n_ratchetbase_Power = yieldF) = False := eq_false (by decide)
@[simp] theorem y_mapping_cellErr_1 : (n_mapping_cellErr_1 = yieldF) = False := eq_false (by decide)
@[simp] theorem y_slices_ContainsFunc_api_MapCell_api_MapCell : (n_slices_ContainsFunc_api_MapCell_api_MapCell = yieldF) = False := eq_false (by decide)
@[simp] theorem y_mapping_cellErr_2 : (n_mapping_cellErr_2 = yieldF) = False := eq_false (by decide)
@[simp] theorem y_mapping_isName : (n_mapping_isName = yieldF) = False := eq_false (by decide)
@[simp] theorem y_slices_IndexFunc_api_MapCell_api_MapCell : (n_slices_IndexFunc_api_MapCell_api_MapCell = yieldF) = False := eq_false (by decide)
@[simp] theorem y_runtime_boundsError_Error : (n_runtime_boundsError_Error = yieldF) = False := eq_false (by decide)
@[simp] theorem y_runtime_boundsError_RuntimeError : (n_runtime_boundsError_RuntimeError = yieldF) = False := eq_false (by decide)
@[simp] theorem y_runtime_errorString_Error : (n_runtime_errorString_Error = yieldF) = False := eq_false (by decide)
@[simp] theorem y_runtime_errorString_RuntimeError : (n_runtime_errorString_RuntimeError = yieldF) = False := eq_false (by decide)
@[simp] theorem y_runtime_plainError_Error : (n_runtime_plainError_Error = yieldF) = False := eq_false (by decide)
@[simp] theorem y_runtime_plainError_RuntimeError : (n_runtime_plainError_RuntimeError = yieldF) = False := eq_false (by decide)
@[simp] theorem y_runtime_errorAddressString_Error : (n_runtime_errorAddressString_Error = yieldF) = False := eq_false (by decide)
@[simp] theorem y_runtime_errorAddressString_RuntimeError : (n_runtime_errorAddressString_RuntimeError = yieldF) = False := eq_false (by decide)
@[simp] theorem y_runtime_TypeAssertionError_Error : (n_runtime_TypeAssertionError_Error = yieldF) = False := eq_false (by decide)
@[simp] theorem y_runtime_TypeAssertionError_RuntimeError : (n_runtime_TypeAssertionError_RuntimeError = yieldF) = False := eq_false (by decide)
@[simp] theorem y_runtime_PanicNilError_Error : (n_runtime_PanicNilError_Error = yieldF) = False := eq_false (by decide)
@[simp] theorem y_runtime_PanicNilError_RuntimeError : (n_runtime_PanicNilError_RuntimeError = yieldF) = False := eq_false (by decide)
@[simp] theorem y_abi_Type_Align : (n_abi_Type_Align = yieldF) = False := eq_false (by decide)
@[simp] theorem y_runtime_maps_unhashableTypeError_Error : (n_runtime_maps_unhashableTypeError_Error = yieldF) = False := eq_false (by decide)
@[simp] theorem y_runtime_maps_unhashableTypeError_RuntimeError : (n_runtime_maps_unhashableTypeError_RuntimeError = yieldF) = False := eq_false (by decide)
@[simp] theorem y_timing_net_count : (n_timing_net_count = yieldF) = False := eq_false (by decide)
@[simp] theorem y_abi_Kind_String : (n_abi_Kind_String = yieldF) = False := eq_false (by decide)
def t_int : Nat := 3
def t_bool : Nat := 4
def t_L_int : Nat := 24
def t_api_Errno : Nat := 39
def t_api_Range : Nat := 61
def t_api_MapPlaced : Nat := 78
def t_api_MapCell : Nat := 107

def c_gosem_cut_init : FnIR := ⟨1,
  (.op 0 [⟨(some 0), none, .callV true (.c (.fn n_gosem_cut [])) []⟩] none),
  []⟩
def b_ratchetlaw28_TimingPaths_L0 : IR :=
 (.sq (.sq (.op 0 [⟨(some 177), none, .mv (.t 21)⟩,
   ⟨(some 178), none, .mv (.t 16)⟩,
   ⟨(some 179), none, .len false (.t 178)⟩,
   ⟨(some 180), none, .bin .lss (.t 177) (.t 179)⟩] (some [1, 2, 7, 8, 9, 14, 15, 16, 19, 21, 180]))
 (.cd (.t 180)
  .sk
  (.ex 0)))
 (.sq (.bk 1 (.sq (.fz [1, 16, 111] (.op 24 [⟨(some 183), none, .mv (.t 7)⟩,
    ⟨(some 184), none, .ld (.t 8) 3 true⟩,
    ⟨(some 185), none, .ld (.t 9) 5 true⟩,
    ⟨(some 186), none, .mv (.t 1)⟩,
    ⟨(some 187), none, .mv (.t 16)⟩,
    ⟨(some 188), none, .mv (.t 21)⟩,
    ⟨(some 189), none, .ia (.t 187) (.t 188) 1⟩,
    ⟨(some 190), none, .ld (.t 189) 1 false⟩,
    ⟨(some 191), none, .callV true (.c (.fn n_ratchetref28_Delay [])) [(.t 183), (.t 184), (.t 185), (.t 186), (.t 190)]⟩,
    ⟨(some 192), none, .mv (.t 19)⟩,
    ⟨(some 193), none, .mv (.t 16)⟩,
    ⟨(some 194), none, .mv (.t 21)⟩,
    ⟨(some 195), none, .ia (.t 193) (.t 194) 1⟩,
    ⟨(some 196), none, .ld (.t 195) 1 false⟩,
    ⟨(some 197), none, .mv (.t 16)⟩,
    ⟨(some 198), none, .mv (.t 21)⟩,
    ⟨(some 199), none, .ia (.t 197) (.t 198) 1⟩,
    ⟨(some 200), none, .ld (.t 199) 1 false⟩,
    ⟨(some 201), none, .len false (.t 200)⟩,
    ⟨(some 202), none, .bin .sub (.t 201) (.c (.int .i64 1))⟩,
    ⟨(some 203), none, .ia (.t 196) (.t 202) 1⟩,
    ⟨(some 204), none, .ld (.t 203) 1 false⟩,
    ⟨(some 205), none, .ia (.t 192) (.t 204) 1⟩,
    ⟨(some 206), none, .ld (.t 205) 1 false⟩,
    ⟨(some 207), none, .bin .gtr (.t 191) (.t 206)⟩] (some [1, 2, 7, 8, 9, 14, 15, 16, 19, 21, 207])))
  (.cd (.t 207)
   (.sq (.op 0 [⟨(some 6), none, .mv (.c (.bool false))⟩] none)
   .rt)
   .sk)))
 (.op 0 [⟨(some 181), none, .mv (.t 21)⟩,
   ⟨(some 182), none, .bin .add (.t 181) (.c (.int .i64 1))⟩,
   ⟨(some 21), none, .mv (.t 182)⟩] none)))
def c_ratchetlaw28_TimingPaths_L0 : IR := b_ratchetlaw28_TimingPaths_L0
theorem u_ratchetlaw28_TimingPaths_L0 {C : Call} {L : Loop} {π : Id} {k0 : List Id} {e : Env} {s : Sto} : evC C L π k0 c_ratchetlaw28_TimingPaths_L0 e s = evC C L π k0 b_ratchetlaw28_TimingPaths_L0 e s := rfl
def c_ratchetlaw28_TimingPaths : FnIR := ⟨232,
  (.sq (.op 0 [⟨(some 3), none, .box (.t 0) 9⟩,
    ⟨(some 6), none, .mv (.c (.bool false))⟩] none)
  (.sq (.sq (.op 0 [⟨(some 22), none, .callV true (.c (.fn n_ratchetlaw28_awake [])) []⟩,
    ⟨(some 23), none, .un .not (.t 22)⟩] none)
  (.cd (.t 23)
   (.sq (.op 0 [⟨(some 6), none, .mv (.c (.bool false))⟩] none)
   .rt)
   .sk))
  (.sq (.sq (.op 0 [⟨(some 24), none, .ld (.t 3) 9 true⟩,
    ⟨(some 25), none, .callV true (.c (.fn n_ratchetlaw28_Few [])) [(.t 24)]⟩,
    ⟨(some 26), none, .un .not (.t 25)⟩,
    ⟨(some 27), none, .mv (.t 26)⟩,
    ⟨(some 28), (some (27, false)), .mv (.t 1)⟩,
    ⟨(some 29), (some (27, false)), .len false (.t 28)⟩,
    ⟨(some 30), (some (27, false)), .bin .gtr (.t 29) (.c (.int .i64 42))⟩,
    ⟨(some 31), none, .pick (.t 27) (.c (.bool true)) (.t 30)⟩,
    ⟨(some 32), none, .mv (.t 31)⟩,
    ⟨(some 33), (some (32, false)), .mv (.t 2)⟩,
    ⟨(some 34), (some (32, false)), .len false (.t 33)⟩,
    ⟨(some 35), (some (32, false)), .bin .gtr (.t 34) (.c (.int .i64 12))⟩,
    ⟨(some 36), none, .pick (.t 32) (.c (.bool true)) (.t 35)⟩] (some [1, 2, 3, 36]))
  (.cd (.t 36)
   (.sq (.op 0 [⟨(some 6), none, .mv (.c (.bool true))⟩] none)
   .rt)
   .sk))
  (.sq (.op 0 [⟨(some 38), none, .ld (.t 3) 9 true⟩,
    ⟨(some 39), none, .callV true (.c (.fn n_ratchetlaw28_copied [])) [(.t 38)]⟩,
    ⟨(some 37), none, .mv (.t 39)⟩,
    ⟨(some 40), none, .ext (.t 37) 0⟩,
    ⟨(some 41), none, .ext (.t 37) 1⟩,
    ⟨(some 42), none, .ext (.t 37) 2⟩,
    ⟨(some 8), none, .alloc [.int .i64 0, .sl 2 (some true) [], .sl 1 (some true) []]⟩,
    ⟨(some 9), none, .alloc [.int .i64 0, .int .i64 0, .int .i64 0, .int .i64 0, .int .i64 0]⟩,
    ⟨(some 7), none, .mv (.t 40)⟩,
    ⟨none, none, .st (.t 8) (.t 41) 3⟩,
    ⟨none, none, .st (.t 9) (.t 42) 5⟩] (some [1, 2, 3, 7, 8, 9]))
  (.sq (.op 0 [⟨(some 43), none, .mv (.t 7)⟩,
    ⟨(some 44), none, .ld (.t 8) 3 true⟩,
    ⟨(some 45), none, .ld (.t 9) 5 true⟩,
    ⟨(some 46), none, .callV true (.c (.fn n_ratchetref28_AllErr [])) [(.t 43), (.t 44), (.t 45)]⟩,
    ⟨(some 10), none, .mv (.t 46)⟩] (some [1, 2, 3, 7, 8, 9, 10]))
  (.sq (.sq (.op 0 [⟨(some 47), none, .mv (.t 10)⟩,
    ⟨(some 48), none, .bin .eql (.t 47) (.c (.int .i64 0))⟩] none)
  (.cd (.t 48)
   (.op 0 [⟨(some 49), none, .fa (.t 8) 0⟩,
     ⟨(some 50), none, .ld (.t 49) 1 false⟩,
     ⟨(some 51), none, .mv (.t 1)⟩,
     ⟨(some 52), none, .callV true (.c (.fn n_ratchetref28_TimesErr [])) [(.t 50), (.t 51)]⟩,
     ⟨(some 10), none, .mv (.t 52)⟩] (some [1, 2, 3, 7, 8, 9, 10]))
   .sk))
  (.sq (.sq (.op 0 [⟨(some 53), none, .mv (.t 10)⟩,
    ⟨(some 54), none, .bin .eql (.t 53) (.c (.int .i64 0))⟩,
    ⟨(some 55), none, .mv (.t 54)⟩,
    ⟨(some 56), (some (55, true)), .ld (.t 3) 9 true⟩,
    ⟨(some 57), (some (55, true)), .callV true (.c (.fn n_ratchetlaw28_light [])) [(.t 56)]⟩,
    ⟨(some 58), (some (55, true)), .un .not (.t 57)⟩,
    ⟨(some 59), (some (55, true)), .mv (.t 58)⟩,
    ⟨(some 60), (some (59, false)), .ld (.t 8) 3 true⟩,
    ⟨(some 61), (some (59, false)), .callV false (.c (.fn n_ratchetref28_Paths [])) [(.t 60), (.c (.int .i64 200))]⟩,
    ⟨(some 62), (some (59, false)), .len false (.t 61)⟩,
    ⟨(some 63), (some (59, false)), .bin .gtr (.t 62) (.c (.int .i64 200))⟩,
    ⟨(some 64), (some (55, true)), .pick (.t 59) (.c (.bool true)) (.t 63)⟩,
    ⟨(some 65), none, .pick (.t 55) (.t 64) (.c (.bool false))⟩] (some [1, 2, 7, 8, 9, 10, 65]))
  (.cd (.t 65)
   (.sq (.op 0 [⟨(some 6), none, .mv (.c (.bool true))⟩] none)
   .rt)
   .sk))
  (.sq (.fz [1] (.op 12 [⟨(some 67), none, .mv (.t 7)⟩,
    ⟨(some 68), none, .ld (.t 8) 3 true⟩,
    ⟨(some 69), none, .ld (.t 9) 5 true⟩,
    ⟨(some 70), none, .mv (.t 1)⟩,
    ⟨(some 71), none, .callV true (.c (.fn n_ratchetbase_CopyInts [])) [(.t 70)]⟩,
    ⟨(some 72), none, .callV false (.c (.fn n_timing_CriticalPath [])) [(.t 67), (.t 68), (.t 69), (.t 71)]⟩,
    ⟨(some 66), none, .mv (.t 72)⟩,
    ⟨(some 73), none, .ext (.t 66) 0⟩,
    ⟨(some 74), none, .ext (.t 66) 1⟩,
    ⟨(some 75), none, .ext (.t 66) 2⟩,
    ⟨(some 11), none, .mv (.t 73)⟩,
    ⟨(some 12), none, .mv (.t 74)⟩,
    ⟨(some 13), none, .mv (.t 75)⟩] (some [1, 2, 7, 8, 9, 10, 11, 12, 13])))
  (.sq (.fz [1, 2] (.op 12 [⟨(some 77), none, .mv (.t 7)⟩,
    ⟨(some 78), none, .ld (.t 8) 3 true⟩,
    ⟨(some 79), none, .ld (.t 9) 5 true⟩,
    ⟨(some 80), none, .mv (.t 1)⟩,
    ⟨(some 81), none, .callV true (.c (.fn n_ratchetbase_CopyInts [])) [(.t 80)]⟩,
    ⟨(some 82), none, .mv (.t 2)⟩,
    ⟨(some 83), none, .callV true (.c (.fn n_ratchetbase_CopyInts [])) [(.t 82)]⟩,
    ⟨(some 84), none, .callV true (.c (.fn n_timing_DelayOf [])) [(.t 77), (.t 78), (.t 79), (.t 81), (.t 83)]⟩,
    ⟨(some 76), none, .mv (.t 84)⟩,
    ⟨(some 85), none, .ext (.t 76) 0⟩,
    ⟨(some 86), none, .ext (.t 76) 1⟩,
    ⟨(some 14), none, .mv (.t 85)⟩,
    ⟨(some 15), none, .mv (.t 86)⟩] (some [1, 2, 7, 8, 9, 10, 11, 12, 13, 14, 15])))
  (.sq (.sq (.op 0 [⟨(some 87), none, .mv (.t 10)⟩,
    ⟨(some 88), none, .bin .neq (.t 87) (.c (.int .i64 0))⟩] none)
  (.cd (.t 88)
   (.sq (.op 0 [⟨(some 89), none, .mv (.t 13)⟩,
     ⟨(some 90), none, .mv (.t 10)⟩,
     ⟨(some 91), none, .bin .eql (.t 89) (.t 90)⟩,
     ⟨(some 92), none, .mv (.t 91)⟩,
     ⟨(some 93), (some (92, true)), .mv (.t 15)⟩,
     ⟨(some 94), (some (92, true)), .mv (.t 10)⟩,
     ⟨(some 95), (some (92, true)), .bin .eql (.t 93) (.t 94)⟩,
     ⟨(some 96), none, .pick (.t 92) (.t 95) (.c (.bool false))⟩,
     ⟨(some 97), none, .mv (.t 96)⟩,
     ⟨(some 98), (some (97, true)), .mv (.t 11)⟩,
     ⟨(some 99), (some (97, true)), .len false (.t 98)⟩,
     ⟨(some 100), (some (97, true)), .bin .eql (.t 99) (.c (.int .i64 0))⟩,
     ⟨(some 101), none, .pick (.t 97) (.t 100) (.c (.bool false))⟩,
     ⟨(some 102), none, .mv (.t 101)⟩,
     ⟨(some 103), (some (102, true)), .mv (.t 12)⟩,
     ⟨(some 104), (some (102, true)), .bin .eql (.t 103) (.c (.int .i64 0))⟩,
     ⟨(some 105), none, .pick (.t 102) (.t 104) (.c (.bool false))⟩,
     ⟨(some 106), none, .mv (.t 105)⟩,
     ⟨(some 107), (some (106, true)), .mv (.t 14)⟩,
     ⟨(some 108), (some (106, true)), .bin .eql (.t 107) (.c (.int .i64 0))⟩,
     ⟨(some 109), none, .pick (.t 106) (.t 108) (.c (.bool false))⟩,
     ⟨(some 6), none, .mv (.t 109)⟩] (some [6]))
   .rt)
   .sk))
  (.sq (.op 0 [⟨(some 110), none, .ld (.t 8) 3 true⟩,
    ⟨(some 111), none, .callV false (.c (.fn n_ratchetref28_Paths [])) [(.t 110), (.c (.int .i64 200))]⟩,
    ⟨(some 16), none, .mv (.t 111)⟩] none)
  (.sq (.op 0 [⟨(some 113), none, .mv (.t 7)⟩,
    ⟨(some 114), none, .ld (.t 8) 3 true⟩,
    ⟨(some 115), none, .ld (.t 9) 5 true⟩,
    ⟨(some 116), none, .mv (.t 1)⟩,
    ⟨(some 117), none, .mv (.t 16)⟩,
    ⟨(some 118), none, .callV false (.c (.fn n_ratchetref28_Critical [])) [(.t 113), (.t 114), (.t 115), (.t 116), (.t 117)]⟩,
    ⟨(some 112), none, .mv (.t 118)⟩,
    ⟨(some 119), none, .ext (.t 112) 0⟩,
    ⟨(some 120), none, .ext (.t 112) 1⟩,
    ⟨(some 17), none, .mv (.t 119)⟩,
    ⟨(some 18), none, .mv (.t 120)⟩] (some [1, 2, 7, 8, 9, 11, 12, 13, 14, 15, 16, 17, 18]))
  (.sq (.sq (.op 0 [⟨(some 121), none, .mv (.t 18)⟩,
    ⟨(some 122), none, .mv (.t 121)⟩,
    ⟨(some 123), (some (122, true)), .mv (.t 13)⟩,
    ⟨(some 124), (some (122, true)), .bin .neq (.t 123) (.c (.int .i64 0))⟩,
    ⟨(some 125), (some (122, true)), .mv (.t 124)⟩,
    ⟨(some 126), (some (125, false)), .mv (.t 11)⟩,
    ⟨(some 127), (some (125, false)), .mv (.t 17)⟩,
    ⟨(some 128), (some (125, false)), .callV true (.c (.fn n_ratchetbase_Ints [])) [(.t 126), (.t 127)]⟩,
    ⟨(some 129), (some (125, false)), .un .not (.t 128)⟩,
    ⟨(some 130), (some (122, true)), .pick (.t 125) (.c (.bool true)) (.t 129)⟩,
    ⟨(some 131), (some (122, true)), .mv (.t 130)⟩,
    ⟨(some 132), (some (131, false)), .mv (.t 12)⟩,
    ⟨(some 133), (some (131, false)), .mv (.t 7)⟩,
    ⟨(some 134), (some (131, false)), .ld (.t 8) 3 true⟩,
    ⟨(some 135), (some (131, false)), .ld (.t 9) 5 true⟩,
    ⟨(some 136), (some (131, false)), .mv (.t 1)⟩,
    ⟨(some 137), (some (131, false)), .mv (.t 17)⟩,
    ⟨(some 138), (some (131, false)), .callV true (.c (.fn n_ratchetref28_Delay [])) [(.t 133), (.t 134), (.t 135), (.t 136), (.t 137)]⟩,
    ⟨(some 139), (some (131, false)), .bin .neq (.t 132) (.t 138)⟩,
    ⟨(some 140), (some (122, true)), .pick (.t 131) (.c (.bool true)) (.t 139)⟩,
    ⟨(some 141), none, .pick (.t 122) (.t 140) (.c (.bool false))⟩,
    ⟨(some 142), none, .mv (.t 141)⟩,
    ⟨(some 143), (some (142, false)), .mv (.t 18)⟩,
    ⟨(some 144), (some (142, false)), .un .not (.t 143)⟩,
    ⟨(some 145), (some (142, false)), .mv (.t 144)⟩,
    ⟨(some 146), (some (145, true)), .mv (.t 13)⟩,
    ⟨(some 147), (some (145, true)), .bin .neq (.t 146) (.c (.int .i64 12))⟩,
    ⟨(some 148), (some (145, true)), .mv (.t 147)⟩,
    ⟨(some 149), (some (148, false)), .mv (.t 11)⟩,
    ⟨(some 150), (some (148, false)), .len false (.t 149)⟩,
    ⟨(some 151), (some (148, false)), .bin .neq (.t 150) (.c (.int .i64 0))⟩,
    ⟨(some 152), (some (145, true)), .pick (.t 148) (.c (.bool true)) (.t 151)⟩,
    ⟨(some 153), (some (145, true)), .mv (.t 152)⟩,
    ⟨(some 154), (some (153, false)), .mv (.t 12)⟩,
    ⟨(some 155), (some (153, false)), .bin .neq (.t 154) (.c (.int .i64 0))⟩,
    ⟨(some 156), (some (145, true)), .pick (.t 153) (.c (.bool true)) (.t 155)⟩,
    ⟨(some 157), (some (142, false)), .pick (.t 145) (.t 156) (.c (.bool false))⟩,
    ⟨(some 158), none, .pick (.t 142) (.c (.bool true)) (.t 157)⟩] (some [1, 2, 7, 8, 9, 14, 15, 16, 158]))
  (.cd (.t 158)
   (.sq (.op 0 [⟨(some 6), none, .mv (.c (.bool false))⟩] none)
   .rt)
   .sk))
  (.sq (.fz [1] (.op 10 [⟨(some 160), none, .mv (.t 7)⟩,
    ⟨(some 161), none, .ld (.t 8) 3 true⟩,
    ⟨(some 162), none, .ld (.t 9) 5 true⟩,
    ⟨(some 163), none, .mv (.t 1)⟩,
    ⟨(some 164), none, .callV true (.c (.fn n_ratchetbase_CopyInts [])) [(.t 163)]⟩,
    ⟨(some 165), none, .callV false (.c (.fn n_timing_ArrivalsOf [])) [(.t 160), (.t 161), (.t 162), (.t 164)]⟩,
    ⟨(some 159), none, .mv (.t 165)⟩,
    ⟨(some 166), none, .ext (.t 159) 0⟩,
    ⟨(some 167), none, .ext (.t 159) 1⟩,
    ⟨(some 19), none, .mv (.t 166)⟩,
    ⟨(some 20), none, .mv (.t 167)⟩] (some [1, 2, 7, 8, 9, 14, 15, 16, 19, 20])))
  (.sq (.sq (.op 0 [⟨(some 168), none, .mv (.t 20)⟩,
    ⟨(some 169), none, .bin .neq (.t 168) (.c (.int .i64 0))⟩,
    ⟨(some 170), none, .mv (.t 169)⟩,
    ⟨(some 171), (some (170, false)), .mv (.t 19)⟩,
    ⟨(some 172), (some (170, false)), .len false (.t 171)⟩,
    ⟨(some 173), (some (170, false)), .ld (.t 8) 3 true⟩,
    ⟨(some 174), (some (170, false)), .callV true (.c (.fn n_ratchetref28_Points [])) [(.t 173)]⟩,
    ⟨(some 175), (some (170, false)), .bin .neq (.t 172) (.t 174)⟩,
    ⟨(some 176), none, .pick (.t 170) (.c (.bool true)) (.t 175)⟩] (some [1, 2, 7, 8, 9, 14, 15, 16, 19, 176]))
  (.cd (.t 176)
   (.sq (.op 0 [⟨(some 6), none, .mv (.c (.bool false))⟩] none)
   .rt)
   .sk))
  (.sq (.sq (.op 0 [⟨(some 21), none, .mv (.c (.int .i64 0))⟩] none)
  (.kp [1, 2, 7, 8, 9, 14, 15] [6] (.bk 0 (.lp [] [1, 2, 7, 8, 9, 14, 15, 16, 19, 21] c_ratchetlaw28_TimingPaths_L0))))
  (.sq (.sq (.op 0 [⟨(some 208), none, .ld (.t 8) 3 true⟩,
    ⟨(some 209), none, .mv (.t 2)⟩,
    ⟨(some 210), none, .callV true (.c (.fn n_ratchetref28_PathErr [])) [(.t 208), (.t 209)]⟩,
    ⟨(some 10), none, .mv (.t 210)⟩] (some [1, 2, 7, 8, 9, 10, 14, 15]))
  (.sq (.op 0 [⟨(some 211), none, .mv (.t 10)⟩,
    ⟨(some 212), none, .bin .neq (.t 211) (.c (.int .i64 0))⟩] none)
  (.cd (.t 212)
   (.sq (.op 0 [⟨(some 213), none, .mv (.t 15)⟩,
     ⟨(some 214), none, .mv (.t 10)⟩,
     ⟨(some 215), none, .bin .eql (.t 213) (.t 214)⟩,
     ⟨(some 216), none, .mv (.t 215)⟩,
     ⟨(some 217), (some (216, true)), .mv (.t 14)⟩,
     ⟨(some 218), (some (216, true)), .bin .eql (.t 217) (.c (.int .i64 0))⟩,
     ⟨(some 219), none, .pick (.t 216) (.t 218) (.c (.bool false))⟩,
     ⟨(some 6), none, .mv (.t 219)⟩] (some [6]))
   .rt)
   .sk)))
  (.sq (.op 0 [⟨(some 220), none, .mv (.t 15)⟩,
    ⟨(some 221), none, .bin .eql (.t 220) (.c (.int .i64 0))⟩,
    ⟨(some 222), none, .mv (.t 221)⟩,
    ⟨(some 223), (some (222, true)), .mv (.t 14)⟩,
    ⟨(some 224), (some (222, true)), .mv (.t 7)⟩,
    ⟨(some 225), (some (222, true)), .ld (.t 8) 3 true⟩,
    ⟨(some 226), (some (222, true)), .ld (.t 9) 5 true⟩,
    ⟨(some 227), (some (222, true)), .mv (.t 1)⟩,
    ⟨(some 228), (some (222, true)), .mv (.t 2)⟩,
    ⟨(some 229), (some (222, true)), .callV true (.c (.fn n_ratchetref28_Delay [])) [(.t 224), (.t 225), (.t 226), (.t 227), (.t 228)]⟩,
    ⟨(some 230), (some (222, true)), .bin .eql (.t 223) (.t 229)⟩,
    ⟨(some 231), none, .pick (.t 222) (.t 230) (.c (.bool false))⟩,
    ⟨(some 6), none, .mv (.t 231)⟩] (some [6]))
  .rt)))))))))))))))))),
  [.t 6]⟩
def b_ratchetlaw28_TimingCorners_L0 : IR :=
 (.sq (.sq (.op 0 [⟨(some 130), none, .mv (.t 19)⟩,
   ⟨(some 131), none, .mv (.t 10)⟩,
   ⟨(some 132), none, .len false (.t 131)⟩,
   ⟨(some 133), none, .bin .lss (.t 130) (.t 132)⟩] (some [9, 10, 15, 17, 19, 133]))
 (.cd (.t 133)
  .sk
  (.ex 0)))
 (.sq (.bk 1 (.sq (.op 48 [⟨(some 136), none, .mv (.t 15)⟩,
    ⟨(some 137), none, .mv (.t 19)⟩,
    ⟨(some 138), none, .ia (.t 136) (.t 137) 2⟩,
    ⟨(some 139), none, .fa (.t 138) 0⟩,
    ⟨(some 140), none, .ld (.t 139) 1 false⟩,
    ⟨(some 141), none, .mv (.t 10)⟩,
    ⟨(some 142), none, .mv (.t 19)⟩,
    ⟨(some 143), none, .ia (.t 141) (.t 142) 2⟩,
    ⟨(some 144), none, .fa (.t 143) 0⟩,
    ⟨(some 145), none, .ld (.t 144) 1 false⟩,
    ⟨(some 146), none, .bin .gtr (.t 140) (.t 145)⟩,
    ⟨(some 147), none, .mv (.t 146)⟩,
    ⟨(some 148), (some (147, false)), .mv (.t 15)⟩,
    ⟨(some 149), (some (147, false)), .mv (.t 19)⟩,
    ⟨(some 150), (some (147, false)), .ia (.t 148) (.t 149) 2⟩,
    ⟨(some 151), (some (147, false)), .fa (.t 150) 1⟩,
    ⟨(some 152), (some (147, false)), .ld (.t 151) 1 false⟩,
    ⟨(some 153), (some (147, false)), .mv (.t 10)⟩,
    ⟨(some 154), (some (147, false)), .mv (.t 19)⟩,
    ⟨(some 155), (some (147, false)), .ia (.t 153) (.t 154) 2⟩,
    ⟨(some 156), (some (147, false)), .fa (.t 155) 1⟩,
    ⟨(some 157), (some (147, false)), .ld (.t 156) 1 false⟩,
    ⟨(some 158), (some (147, false)), .bin .lss (.t 152) (.t 157)⟩,
    ⟨(some 159), none, .pick (.t 147) (.c (.bool true)) (.t 158)⟩,
    ⟨(some 160), none, .mv (.t 159)⟩,
    ⟨(some 161), (some (160, false)), .fa (.t 9) 3⟩,
    ⟨(some 162), (some (160, false)), .ld (.t 161) 1 false⟩,
    ⟨(some 163), (some (160, false)), .bin .leq (.t 162) (.c (.int .i64 100))⟩,
    ⟨(some 164), (some (160, false)), .mv (.t 163)⟩,
    ⟨(some 165), (some (164, true)), .fa (.t 9) 4⟩,
    ⟨(some 166), (some (164, true)), .ld (.t 165) 1 false⟩,
    ⟨(some 167), (some (164, true)), .bin .geq (.t 166) (.c (.int .i64 100))⟩,
    ⟨(some 168), (some (160, false)), .pick (.t 164) (.t 167) (.c (.bool false))⟩,
    ⟨(some 169), (some (160, false)), .mv (.t 168)⟩,
    ⟨(some 170), (some (169, true)), .mv (.t 17)⟩,
    ⟨(some 171), (some (169, true)), .mv (.t 19)⟩,
    ⟨(some 172), (some (169, true)), .ia (.t 170) (.t 171) 1⟩,
    ⟨(some 173), (some (169, true)), .ld (.t 172) 1 false⟩,
    ⟨(some 174), (some (169, true)), .mv (.t 10)⟩,
    ⟨(some 175), (some (169, true)), .mv (.t 19)⟩,
    ⟨(some 176), (some (169, true)), .ia (.t 174) (.t 175) 2⟩,
    ⟨(some 177), (some (169, true)), .fa (.t 176) 0⟩,
    ⟨(some 178), (some (169, true)), .ld (.t 177) 1 false⟩,
    ⟨(some 179), (some (169, true)), .mv (.t 10)⟩,
    ⟨(some 180), (some (169, true)), .mv (.t 19)⟩,
    ⟨(some 181), (some (169, true)), .ia (.t 179) (.t 180) 2⟩,
    ⟨(some 182), (some (169, true)), .fa (.t 181) 1⟩,
    ⟨(some 183), (some (169, true)), .ld (.t 182) 1 false⟩,
    ⟨(some 184), (some (169, true)), .callV true (.c (.fn n_ratchetbase_Within [])) [(.t 173), (.t 178), (.t 183)]⟩,
    ⟨(some 185), (some (169, true)), .un .not (.t 184)⟩,
    ⟨(some 186), (some (160, false)), .pick (.t 169) (.t 185) (.c (.bool false))⟩,
    ⟨(some 187), none, .pick (.t 160) (.c (.bool true)) (.t 186)⟩] (some [9, 10, 15, 17, 19, 187]))
  (.cd (.t 187)
   (.sq (.op 0 [⟨(some 6), none, .mv (.c (.bool false))⟩] none)
   .rt)
   .sk)))
 (.op 0 [⟨(some 134), none, .mv (.t 19)⟩,
   ⟨(some 135), none, .bin .add (.t 134) (.c (.int .i64 1))⟩,
   ⟨(some 19), none, .mv (.t 135)⟩] none)))
def c_ratchetlaw28_TimingCorners_L0 : IR := b_ratchetlaw28_TimingCorners_L0
theorem u_ratchetlaw28_TimingCorners_L0 {C : Call} {L : Loop} {π : Id} {k0 : List Id} {e : Env} {s : Sto} : evC C L π k0 c_ratchetlaw28_TimingCorners_L0 e s = evC C L π k0 b_ratchetlaw28_TimingCorners_L0 e s := rfl
def c_ratchetlaw28_TimingCorners : FnIR := ⟨188,
  (.sq (.op 0 [⟨(some 3), none, .box (.t 0) 9⟩,
    ⟨(some 6), none, .mv (.c (.bool false))⟩] none)
  (.sq (.sq (.op 0 [⟨(some 20), none, .callV true (.c (.fn n_ratchetlaw28_awake [])) []⟩,
    ⟨(some 21), none, .un .not (.t 20)⟩] none)
  (.cd (.t 21)
   (.sq (.op 0 [⟨(some 6), none, .mv (.c (.bool false))⟩] none)
   .rt)
   .sk))
  (.sq (.sq (.op 0 [⟨(some 22), none, .ld (.t 3) 9 true⟩,
    ⟨(some 23), none, .callV true (.c (.fn n_ratchetlaw28_Few [])) [(.t 22)]⟩,
    ⟨(some 24), none, .un .not (.t 23)⟩,
    ⟨(some 25), none, .mv (.t 24)⟩,
    ⟨(some 26), (some (25, false)), .mv (.t 1)⟩,
    ⟨(some 27), (some (25, false)), .len false (.t 26)⟩,
    ⟨(some 28), (some (25, false)), .bin .gtr (.t 27) (.c (.int .i64 42))⟩,
    ⟨(some 29), none, .pick (.t 25) (.c (.bool true)) (.t 28)⟩] (some [1, 2, 3, 29]))
  (.cd (.t 29)
   (.sq (.op 0 [⟨(some 6), none, .mv (.c (.bool true))⟩] none)
   .rt)
   .sk))
  (.sq (.op 0 [⟨(some 31), none, .ld (.t 3) 9 true⟩,
    ⟨(some 32), none, .callV true (.c (.fn n_ratchetlaw28_copied [])) [(.t 31)]⟩,
    ⟨(some 30), none, .mv (.t 32)⟩,
    ⟨(some 33), none, .ext (.t 30) 0⟩,
    ⟨(some 34), none, .ext (.t 30) 1⟩,
    ⟨(some 35), none, .ext (.t 30) 2⟩,
    ⟨(some 8), none, .alloc [.int .i64 0, .sl 2 (some true) [], .sl 1 (some true) []]⟩,
    ⟨(some 9), none, .alloc [.int .i64 0, .int .i64 0, .int .i64 0, .int .i64 0, .int .i64 0]⟩,
    ⟨(some 7), none, .mv (.t 33)⟩,
    ⟨none, none, .st (.t 8) (.t 34) 3⟩,
    ⟨none, none, .st (.t 9) (.t 35) 5⟩] (some [1, 2, 7, 8, 9]))
  (.sq (.fz [1] (.op 10 [⟨(some 37), none, .mv (.t 7)⟩,
    ⟨(some 38), none, .ld (.t 8) 3 true⟩,
    ⟨(some 39), none, .ld (.t 9) 5 true⟩,
    ⟨(some 40), none, .mv (.t 1)⟩,
    ⟨(some 41), none, .callV true (.c (.fn n_ratchetbase_CopyInts [])) [(.t 40)]⟩,
    ⟨(some 42), none, .callV false (.c (.fn n_timing_RangesOf [])) [(.t 37), (.t 38), (.t 39), (.t 41)]⟩,
    ⟨(some 36), none, .mv (.t 42)⟩,
    ⟨(some 43), none, .ext (.t 36) 0⟩,
    ⟨(some 44), none, .ext (.t 36) 1⟩,
    ⟨(some 10), none, .mv (.t 43)⟩,
    ⟨(some 11), none, .mv (.t 44)⟩] (some [1, 2, 7, 8, 9, 10, 11])))
  (.sq (.op 0 [⟨(some 45), none, .mv (.t 7)⟩,
    ⟨(some 46), none, .ld (.t 8) 3 true⟩,
    ⟨(some 47), none, .ld (.t 9) 5 true⟩,
    ⟨(some 48), none, .callV true (.c (.fn n_ratchetref28_AllErr [])) [(.t 45), (.t 46), (.t 47)]⟩,
    ⟨(some 12), none, .mv (.t 48)⟩] (some [1, 2, 7, 8, 9, 10, 11, 12]))
  (.sq (.sq (.op 0 [⟨(some 49), none, .mv (.t 12)⟩,
    ⟨(some 50), none, .bin .eql (.t 49) (.c (.int .i64 0))⟩] none)
  (.cd (.t 50)
   (.op 0 [⟨(some 51), none, .fa (.t 8) 0⟩,
     ⟨(some 52), none, .ld (.t 51) 1 false⟩,
     ⟨(some 53), none, .mv (.t 1)⟩,
     ⟨(some 54), none, .callV true (.c (.fn n_ratchetref28_TimesErr [])) [(.t 52), (.t 53)]⟩,
     ⟨(some 12), none, .mv (.t 54)⟩] (some [1, 2, 7, 8, 9, 10, 11, 12]))
   .sk))
  (.sq (.sq (.op 0 [⟨(some 55), none, .mv (.t 12)⟩,
    ⟨(some 56), none, .bin .neq (.t 55) (.c (.int .i64 0))⟩] none)
  (.cd (.t 56)
   (.sq (.op 0 [⟨(some 57), none, .mv (.t 11)⟩,
     ⟨(some 58), none, .mv (.t 12)⟩,
     ⟨(some 59), none, .bin .eql (.t 57) (.t 58)⟩,
     ⟨(some 60), none, .mv (.t 59)⟩,
     ⟨(some 61), (some (60, true)), .mv (.t 10)⟩,
     ⟨(some 62), (some (60, true)), .len false (.t 61)⟩,
     ⟨(some 63), (some (60, true)), .bin .eql (.t 62) (.c (.int .i64 0))⟩,
     ⟨(some 64), none, .pick (.t 60) (.t 63) (.c (.bool false))⟩,
     ⟨(some 6), none, .mv (.t 64)⟩] (some [6]))
   .rt)
   .sk))
  (.sq (.sq (.op 0 [⟨(some 65), none, .mv (.t 11)⟩,
    ⟨(some 66), none, .bin .neq (.t 65) (.c (.int .i64 0))⟩,
    ⟨(some 67), none, .mv (.t 66)⟩,
    ⟨(some 68), (some (67, false)), .mv (.t 10)⟩,
    ⟨(some 69), (some (67, false)), .mv (.t 7)⟩,
    ⟨(some 70), (some (67, false)), .ld (.t 8) 3 true⟩,
    ⟨(some 71), (some (67, false)), .ld (.t 9) 5 true⟩,
    ⟨(some 72), (some (67, false)), .mv (.t 1)⟩,
    ⟨(some 73), (some (67, false)), .callV false (.c (.fn n_ratchetref28_Corners [])) [(.t 69), (.t 70), (.t 71), (.t 72)]⟩,
    ⟨(some 74), (some (67, false)), .callV true (.c (.fn n_ratchetbase_Ranges [])) [(.t 68), (.t 73)]⟩,
    ⟨(some 75), (some (67, false)), .un .not (.t 74)⟩,
    ⟨(some 76), none, .pick (.t 67) (.c (.bool true)) (.t 75)⟩] (some [1, 2, 7, 8, 9, 10, 76]))
  (.cd (.t 76)
   (.sq (.op 0 [⟨(some 6), none, .mv (.c (.bool false))⟩] none)
   .rt)
   .sk))
  (.sq (.op 0 [⟨(some 77), none, .ld (.t 9) 5 true⟩,
    ⟨(some 13), none, .alloc [.int .i64 0, .int .i64 0, .int .i64 0, .int .i64 0, .int .i64 0]⟩,
    ⟨none, none, .st (.t 13) (.t 77) 5⟩] none)
  (.sq (.op 0 [⟨(some 78), none, .mv (.t 2)⟩,
    ⟨(some 79), none, .callV true (.c (.fn n_ratchetbase_Mod [])) [(.t 78), (.c (.int .i64 40))]⟩,
    ⟨(some 14), none, .mv (.t 79)⟩] none)
  (.sq (.op 12 [⟨(some 80), none, .fa (.t 9) 3⟩,
    ⟨(some 81), none, .ld (.t 80) 1 false⟩,
    ⟨(some 82), none, .mv (.t 14)⟩,
    ⟨(some 83), none, .bin .sub (.t 81) (.t 82)⟩,
    ⟨(some 84), none, .mm true (.c (.int .i64 1)) (.t 83)⟩,
    ⟨(some 85), none, .fa (.t 9) 4⟩,
    ⟨(some 86), none, .ld (.t 85) 1 false⟩,
    ⟨(some 87), none, .mv (.t 14)⟩,
    ⟨(some 88), none, .bin .add (.t 86) (.t 87)⟩,
    ⟨(some 89), none, .mm false (.c (.int .i64 1000)) (.t 88)⟩,
    ⟨(some 90), none, .fa (.t 13) 3⟩,
    ⟨none, none, .st (.t 90) (.t 84) 1⟩,
    ⟨(some 91), none, .fa (.t 13) 4⟩,
    ⟨none, none, .st (.t 91) (.t 89) 1⟩] (some [1, 7, 8, 9, 10, 13]))
  (.sq (.fz [1] (.op 10 [⟨(some 93), none, .mv (.t 7)⟩,
    ⟨(some 94), none, .ld (.t 8) 3 true⟩,
    ⟨(some 95), none, .ld (.t 13) 5 true⟩,
    ⟨(some 96), none, .mv (.t 1)⟩,
    ⟨(some 97), none, .callV true (.c (.fn n_ratchetbase_CopyInts [])) [(.t 96)]⟩,
    ⟨(some 98), none, .callV false (.c (.fn n_timing_RangesOf [])) [(.t 93), (.t 94), (.t 95), (.t 97)]⟩,
    ⟨(some 92), none, .mv (.t 98)⟩,
    ⟨(some 99), none, .ext (.t 92) 0⟩,
    ⟨(some 100), none, .ext (.t 92) 1⟩,
    ⟨(some 15), none, .mv (.t 99)⟩,
    ⟨(some 16), none, .mv (.t 100)⟩] (some [1, 7, 8, 9, 10, 15, 16])))
  (.sq (.fz [1] (.op 10 [⟨(some 102), none, .mv (.t 7)⟩,
    ⟨(some 103), none, .ld (.t 8) 3 true⟩,
    ⟨(some 104), none, .ld (.t 9) 5 true⟩,
    ⟨(some 105), none, .mv (.t 1)⟩,
    ⟨(some 106), none, .callV true (.c (.fn n_ratchetbase_CopyInts [])) [(.t 105)]⟩,
    ⟨(some 107), none, .callV false (.c (.fn n_timing_ArrivalsOf [])) [(.t 102), (.t 103), (.t 104), (.t 106)]⟩,
    ⟨(some 101), none, .mv (.t 107)⟩,
    ⟨(some 108), none, .ext (.t 101) 0⟩,
    ⟨(some 109), none, .ext (.t 101) 1⟩,
    ⟨(some 17), none, .mv (.t 108)⟩,
    ⟨(some 18), none, .mv (.t 109)⟩] (some [9, 10, 15, 16, 17, 18])))
  (.sq (.sq (.op 0 [⟨(some 110), none, .mv (.t 16)⟩,
    ⟨(some 111), none, .bin .neq (.t 110) (.c (.int .i64 0))⟩,
    ⟨(some 112), none, .mv (.t 111)⟩,
    ⟨(some 113), (some (112, false)), .mv (.t 18)⟩,
    ⟨(some 114), (some (112, false)), .bin .neq (.t 113) (.c (.int .i64 0))⟩,
    ⟨(some 115), none, .pick (.t 112) (.c (.bool true)) (.t 114)⟩,
    ⟨(some 116), none, .mv (.t 115)⟩,
    ⟨(some 117), (some (116, false)), .mv (.t 15)⟩,
    ⟨(some 118), (some (116, false)), .len false (.t 117)⟩,
    ⟨(some 119), (some (116, false)), .mv (.t 10)⟩,
    ⟨(some 120), (some (116, false)), .len false (.t 119)⟩,
    ⟨(some 121), (some (116, false)), .bin .neq (.t 118) (.t 120)⟩,
    ⟨(some 122), none, .pick (.t 116) (.c (.bool true)) (.t 121)⟩,
    ⟨(some 123), none, .mv (.t 122)⟩,
    ⟨(some 124), (some (123, false)), .mv (.t 17)⟩,
    ⟨(some 125), (some (123, false)), .len false (.t 124)⟩,
    ⟨(some 126), (some (123, false)), .mv (.t 10)⟩,
    ⟨(some 127), (some (123, false)), .len false (.t 126)⟩,
    ⟨(some 128), (some (123, false)), .bin .neq (.t 125) (.t 127)⟩,
    ⟨(some 129), none, .pick (.t 123) (.c (.bool true)) (.t 128)⟩] (some [9, 10, 15, 17, 129]))
  (.cd (.t 129)
   (.sq (.op 0 [⟨(some 6), none, .mv (.c (.bool false))⟩] none)
   .rt)
   .sk))
  (.sq (.sq (.op 0 [⟨(some 19), none, .mv (.c (.int .i64 0))⟩] none)
  (.kp [] [6] (.bk 0 (.lp [] [9, 10, 15, 17, 19] c_ratchetlaw28_TimingCorners_L0))))
  (.sq (.op 0 [⟨(some 6), none, .mv (.c (.bool true))⟩] none)
  .rt))))))))))))))))),
  [.t 6]⟩
def b_ratchetlaw28_TimingRegisters_L0 : IR :=
 (.sq (.sq (.op 0 [⟨(some 102), none, .mv (.t 16)⟩,
   ⟨(some 103), none, .mv (.t 12)⟩,
   ⟨(some 104), none, .len false (.t 103)⟩,
   ⟨(some 105), none, .bin .lss (.t 102) (.t 104)⟩] (some [1, 2, 7, 8, 9, 10, 11, 12, 15, 16, 105]))
 (.cd (.t 105)
  .sk
  (.ex 0)))
 (.sq (.bk 1 (.sq (.op 8 [⟨(some 108), none, .mv (.t 12)⟩,
    ⟨(some 109), none, .mv (.t 16)⟩,
    ⟨(some 110), none, .ia (.t 108) (.t 109) 1⟩,
    ⟨(some 111), none, .ld (.t 110) 1 false⟩,
    ⟨(some 112), none, .mv (.t 15)⟩,
    ⟨(some 113), none, .mv (.t 16)⟩,
    ⟨(some 114), none, .ia (.t 112) (.t 113) 1⟩,
    ⟨(some 115), none, .ld (.t 114) 1 false⟩,
    ⟨(some 116), none, .beq true (.t 111) (.t 115)⟩] (some [1, 2, 7, 8, 9, 10, 11, 12, 15, 16, 116]))
  (.cd (.t 116)
   (.sq (.op 0 [⟨(some 6), none, .mv (.c (.bool false))⟩] none)
   .rt)
   .sk)))
 (.op 0 [⟨(some 106), none, .mv (.t 16)⟩,
   ⟨(some 107), none, .bin .add (.t 106) (.c (.int .i64 1))⟩,
   ⟨(some 16), none, .mv (.t 107)⟩] none)))
def c_ratchetlaw28_TimingRegisters_L0 : IR := b_ratchetlaw28_TimingRegisters_L0
theorem u_ratchetlaw28_TimingRegisters_L0 {C : Call} {L : Loop} {π : Id} {k0 : List Id} {e : Env} {s : Sto} : evC C L π k0 c_ratchetlaw28_TimingRegisters_L0 e s = evC C L π k0 b_ratchetlaw28_TimingRegisters_L0 e s := rfl
def c_ratchetlaw28_TimingRegisters : FnIR := ⟨137,
  (.sq (.op 0 [⟨(some 3), none, .box (.t 0) 9⟩,
    ⟨(some 6), none, .mv (.c (.bool false))⟩] none)
  (.sq (.sq (.op 0 [⟨(some 17), none, .callV true (.c (.fn n_ratchetlaw28_awake [])) []⟩,
    ⟨(some 18), none, .un .not (.t 17)⟩] none)
  (.cd (.t 18)
   (.sq (.op 0 [⟨(some 6), none, .mv (.c (.bool false))⟩] none)
   .rt)
   .sk))
  (.sq (.sq (.op 0 [⟨(some 19), none, .ld (.t 3) 9 true⟩,
    ⟨(some 20), none, .callV true (.c (.fn n_ratchetlaw28_Few [])) [(.t 19)]⟩,
    ⟨(some 21), none, .un .not (.t 20)⟩,
    ⟨(some 22), none, .mv (.t 21)⟩,
    ⟨(some 23), (some (22, false)), .mv (.t 2)⟩,
    ⟨(some 24), (some (22, false)), .len false (.t 23)⟩,
    ⟨(some 25), (some (22, false)), .bin .gtr (.t 24) (.c (.int .i64 42))⟩,
    ⟨(some 26), none, .pick (.t 22) (.c (.bool true)) (.t 25)⟩] (some [1, 2, 3, 26]))
  (.cd (.t 26)
   (.sq (.op 0 [⟨(some 6), none, .mv (.c (.bool true))⟩] none)
   .rt)
   .sk))
  (.sq (.op 0 [⟨(some 28), none, .ld (.t 3) 9 true⟩,
    ⟨(some 29), none, .callV true (.c (.fn n_ratchetlaw28_copied [])) [(.t 28)]⟩,
    ⟨(some 27), none, .mv (.t 29)⟩,
    ⟨(some 30), none, .ext (.t 27) 0⟩,
    ⟨(some 31), none, .ext (.t 27) 1⟩,
    ⟨(some 32), none, .ext (.t 27) 2⟩,
    ⟨(some 8), none, .alloc [.int .i64 0, .sl 2 (some true) [], .sl 1 (some true) []]⟩,
    ⟨(some 9), none, .alloc [.int .i64 0, .int .i64 0, .int .i64 0, .int .i64 0, .int .i64 0]⟩,
    ⟨(some 7), none, .mv (.t 30)⟩,
    ⟨none, none, .st (.t 8) (.t 31) 3⟩,
    ⟨none, none, .st (.t 9) (.t 32) 5⟩] (some [1, 2, 7, 8, 9]))
  (.sq (.fz [2] (.op 11 [⟨(some 34), none, .mv (.t 7)⟩,
    ⟨(some 35), none, .ld (.t 8) 3 true⟩,
    ⟨(some 36), none, .ld (.t 9) 5 true⟩,
    ⟨(some 37), none, .mv (.t 1)⟩,
    ⟨(some 38), none, .mv (.t 2)⟩,
    ⟨(some 39), none, .callV true (.c (.fn n_ratchetbase_CopyInts [])) [(.t 38)]⟩,
    ⟨(some 40), none, .callV true (.c (.fn n_timing_PeriodOf [])) [(.t 34), (.t 35), (.t 36), (.t 37), (.t 39)]⟩,
    ⟨(some 33), none, .mv (.t 40)⟩,
    ⟨(some 41), none, .ext (.t 33) 0⟩,
    ⟨(some 42), none, .ext (.t 33) 1⟩,
    ⟨(some 10), none, .mv (.t 41)⟩,
    ⟨(some 11), none, .mv (.t 42)⟩] (some [1, 2, 7, 8, 9, 10, 11])))
  (.sq (.fz [2] (.op 11 [⟨(some 44), none, .mv (.t 7)⟩,
    ⟨(some 45), none, .ld (.t 8) 3 true⟩,
    ⟨(some 46), none, .ld (.t 9) 5 true⟩,
    ⟨(some 47), none, .mv (.t 1)⟩,
    ⟨(some 48), none, .mv (.t 2)⟩,
    ⟨(some 49), none, .callV true (.c (.fn n_ratchetbase_CopyInts [])) [(.t 48)]⟩,
    ⟨(some 50), none, .callV false (.c (.fn n_timing_HoldsIn [])) [(.t 44), (.t 45), (.t 46), (.t 47), (.t 49)]⟩,
    ⟨(some 43), none, .mv (.t 50)⟩,
    ⟨(some 51), none, .ext (.t 43) 0⟩,
    ⟨(some 52), none, .ext (.t 43) 1⟩,
    ⟨(some 12), none, .mv (.t 51)⟩,
    ⟨(some 13), none, .mv (.t 52)⟩] (some [1, 2, 7, 8, 9, 10, 11, 12, 13])))
  (.sq (.op 0 [⟨(some 53), none, .mv (.t 7)⟩,
    ⟨(some 54), none, .ld (.t 8) 3 true⟩,
    ⟨(some 55), none, .ld (.t 9) 5 true⟩,
    ⟨(some 56), none, .callV true (.c (.fn n_ratchetref28_AllErr [])) [(.t 53), (.t 54), (.t 55)]⟩,
    ⟨(some 14), none, .mv (.t 56)⟩] (some [1, 2, 7, 8, 9, 10, 11, 12, 13, 14]))
  (.sq (.sq (.op 0 [⟨(some 57), none, .mv (.t 14)⟩,
    ⟨(some 58), none, .bin .eql (.t 57) (.c (.int .i64 0))⟩] none)
  (.cd (.t 58)
   (.op 0 [⟨(some 59), none, .ld (.t 8) 3 true⟩,
     ⟨(some 60), none, .mv (.t 1)⟩,
     ⟨(some 61), none, .callV true (.c (.fn n_ratchetref28_RegistersErr [])) [(.t 59), (.t 60)]⟩,
     ⟨(some 14), none, .mv (.t 61)⟩] (some [1, 2, 7, 8, 9, 10, 11, 12, 13, 14]))
   .sk))
  (.sq (.sq (.op 0 [⟨(some 62), none, .mv (.t 14)⟩,
    ⟨(some 63), none, .bin .eql (.t 62) (.c (.int .i64 0))⟩] none)
  (.cd (.t 63)
   (.op 0 [⟨(some 64), none, .fa (.t 8) 0⟩,
     ⟨(some 65), none, .ld (.t 64) 1 false⟩,
     ⟨(some 66), none, .mv (.t 2)⟩,
     ⟨(some 67), none, .callV true (.c (.fn n_ratchetref28_TimesErr [])) [(.t 65), (.t 66)]⟩,
     ⟨(some 14), none, .mv (.t 67)⟩] (some [1, 2, 7, 8, 9, 10, 11, 12, 13, 14]))
   .sk))
  (.sq (.sq (.op 0 [⟨(some 68), none, .mv (.t 14)⟩,
    ⟨(some 69), none, .bin .neq (.t 68) (.c (.int .i64 0))⟩] none)
  (.cd (.t 69)
   (.sq (.op 0 [⟨(some 70), none, .mv (.t 11)⟩,
     ⟨(some 71), none, .mv (.t 14)⟩,
     ⟨(some 72), none, .bin .eql (.t 70) (.t 71)⟩,
     ⟨(some 73), none, .mv (.t 72)⟩,
     ⟨(some 74), (some (73, true)), .mv (.t 13)⟩,
     ⟨(some 75), (some (73, true)), .mv (.t 14)⟩,
     ⟨(some 76), (some (73, true)), .bin .eql (.t 74) (.t 75)⟩,
     ⟨(some 77), none, .pick (.t 73) (.t 76) (.c (.bool false))⟩,
     ⟨(some 78), none, .mv (.t 77)⟩,
     ⟨(some 79), (some (78, true)), .mv (.t 10)⟩,
     ⟨(some 80), (some (78, true)), .bin .eql (.t 79) (.c (.int .i64 0))⟩,
     ⟨(some 81), none, .pick (.t 78) (.t 80) (.c (.bool false))⟩,
     ⟨(some 82), none, .mv (.t 81)⟩,
     ⟨(some 83), (some (82, true)), .mv (.t 12)⟩,
     ⟨(some 84), (some (82, true)), .len false (.t 83)⟩,
     ⟨(some 85), (some (82, true)), .bin .eql (.t 84) (.c (.int .i64 0))⟩,
     ⟨(some 86), none, .pick (.t 82) (.t 85) (.c (.bool false))⟩,
     ⟨(some 6), none, .mv (.t 86)⟩] (some [6]))
   .rt)
   .sk))
  (.sq (.op 0 [⟨(some 87), none, .mv (.t 7)⟩,
    ⟨(some 88), none, .ld (.t 8) 3 true⟩,
    ⟨(some 89), none, .ld (.t 9) 5 true⟩,
    ⟨(some 90), none, .mv (.t 1)⟩,
    ⟨(some 91), none, .mv (.t 2)⟩,
    ⟨(some 92), none, .callV false (.c (.fn n_ratchetref28_Holds [])) [(.t 87), (.t 88), (.t 89), (.t 90), (.t 91)]⟩,
    ⟨(some 15), none, .mv (.t 92)⟩] (some [1, 2, 7, 8, 9, 10, 11, 12, 13, 15]))
  (.sq (.sq (.op 0 [⟨(some 93), none, .mv (.t 13)⟩,
    ⟨(some 94), none, .bin .neq (.t 93) (.c (.int .i64 0))⟩,
    ⟨(some 95), none, .mv (.t 94)⟩,
    ⟨(some 96), (some (95, false)), .mv (.t 12)⟩,
    ⟨(some 97), (some (95, false)), .len false (.t 96)⟩,
    ⟨(some 98), (some (95, false)), .mv (.t 15)⟩,
    ⟨(some 99), (some (95, false)), .len false (.t 98)⟩,
    ⟨(some 100), (some (95, false)), .bin .neq (.t 97) (.t 99)⟩,
    ⟨(some 101), none, .pick (.t 95) (.c (.bool true)) (.t 100)⟩] (some [1, 2, 7, 8, 9, 10, 11, 12, 15, 101]))
  (.cd (.t 101)
   (.sq (.op 0 [⟨(some 6), none, .mv (.c (.bool false))⟩] none)
   .rt)
   .sk))
  (.sq (.sq (.op 0 [⟨(some 16), none, .mv (.c (.int .i64 0))⟩] none)
  (.kp [1, 2, 7, 8, 9, 10, 11] [6] (.bk 0 (.lp [] [1, 2, 7, 8, 9, 10, 11, 12, 15, 16] c_ratchetlaw28_TimingRegisters_L0))))
  (.sq (.sq (.op 0 [⟨(some 117), none, .mv (.t 1)⟩,
    ⟨(some 118), none, .bin .eql (.t 117) (.c (.int .i64 0))⟩] none)
  (.cd (.t 118)
   (.sq (.op 0 [⟨(some 119), none, .mv (.t 11)⟩,
     ⟨(some 120), none, .bin .eql (.t 119) (.c (.int .i64 12))⟩,
     ⟨(some 121), none, .mv (.t 120)⟩,
     ⟨(some 122), (some (121, true)), .mv (.t 10)⟩,
     ⟨(some 123), (some (121, true)), .bin .eql (.t 122) (.c (.int .i64 0))⟩,
     ⟨(some 124), none, .pick (.t 121) (.t 123) (.c (.bool false))⟩,
     ⟨(some 6), none, .mv (.t 124)⟩] (some [6]))
   .rt)
   .sk))
  (.sq (.op 0 [⟨(some 125), none, .mv (.t 11)⟩,
    ⟨(some 126), none, .bin .eql (.t 125) (.c (.int .i64 0))⟩,
    ⟨(some 127), none, .mv (.t 126)⟩,
    ⟨(some 128), (some (127, true)), .mv (.t 10)⟩,
    ⟨(some 129), (some (127, true)), .mv (.t 7)⟩,
    ⟨(some 130), (some (127, true)), .ld (.t 8) 3 true⟩,
    ⟨(some 131), (some (127, true)), .ld (.t 9) 5 true⟩,
    ⟨(some 132), (some (127, true)), .mv (.t 1)⟩,
    ⟨(some 133), (some (127, true)), .mv (.t 2)⟩,
    ⟨(some 134), (some (127, true)), .callV true (.c (.fn n_ratchetref28_Period [])) [(.t 129), (.t 130), (.t 131), (.t 132), (.t 133)]⟩,
    ⟨(some 135), (some (127, true)), .bin .eql (.t 128) (.t 134)⟩,
    ⟨(some 136), none, .pick (.t 127) (.t 135) (.c (.bool false))⟩,
    ⟨(some 6), none, .mv (.t 136)⟩] (some [6]))
  .rt))))))))))))))),
  [.t 6]⟩
def c_ratchetlaw28_awake : FnIR := ⟨81,
  (.sq (.op 0 [⟨(some 0), none, .mv (.c (.bool false))⟩] none)
  (.sq (.op 0 [⟨(some 11), none, .callV false (.c (.fn n_ratchetlaw28_Library [])) []⟩,
    ⟨(some 12), none, .callV false (.c (.fn n_ratchetlaw28_Net [])) []⟩,
    ⟨(some 13), none, .callV true (.c (.fn n_ratchetlaw28_Model [])) []⟩,
    ⟨(some 14), none, .bsl t_int 1 false [.int .i64 0] 2 [(0, (.c (.int .i64 0))), (1, (.c (.int .i64 0)))]⟩,
    ⟨(some 15), none, .callV false (.c (.fn n_timing_ArrivalsOf [])) [(.t 11), (.t 12), (.t 13), (.t 14)]⟩,
    ⟨(some 10), none, .mv (.t 15)⟩,
    ⟨(some 16), none, .ext (.t 10) 0⟩,
    ⟨(some 17), none, .ext (.t 10) 1⟩,
    ⟨(some 1), none, .mv (.t 16)⟩,
    ⟨(some 2), none, .mv (.t 17)⟩] (some [1, 2]))
  (.sq (.op 0 [⟨(some 19), none, .callV false (.c (.fn n_ratchetlaw28_Library [])) []⟩,
    ⟨(some 20), none, .callV false (.c (.fn n_ratchetlaw28_Net [])) []⟩,
    ⟨(some 21), none, .callV true (.c (.fn n_ratchetlaw28_Model [])) []⟩,
    ⟨(some 22), none, .bsl t_int 1 false [.int .i64 0] 2 [(0, (.c (.int .i64 0))), (1, (.c (.int .i64 0)))]⟩,
    ⟨(some 23), none, .bsl t_int 1 false [.int .i64 0] 1 [(0, (.c (.int .i64 10)))]⟩,
    ⟨(some 24), none, .callV false (.c (.fn n_timing_SlacksOf [])) [(.t 19), (.t 20), (.t 21), (.t 22), (.t 23)]⟩,
    ⟨(some 18), none, .mv (.t 24)⟩,
    ⟨(some 25), none, .ext (.t 18) 0⟩,
    ⟨(some 26), none, .ext (.t 18) 1⟩,
    ⟨(some 3), none, .mv (.t 25)⟩,
    ⟨(some 4), none, .mv (.t 26)⟩] (some [1, 2, 3, 4]))
  (.sq (.op 0 [⟨(some 28), none, .callV false (.c (.fn n_ratchetlaw28_Library [])) []⟩,
    ⟨(some 29), none, .callV false (.c (.fn n_ratchetlaw28_Net [])) []⟩,
    ⟨(some 30), none, .callV true (.c (.fn n_ratchetlaw28_Model [])) []⟩,
    ⟨(some 31), none, .bsl t_int 1 false [.int .i64 0] 2 [(0, (.c (.int .i64 0))), (1, (.c (.int .i64 0)))]⟩,
    ⟨(some 32), none, .callV false (.c (.fn n_timing_CriticalPath [])) [(.t 28), (.t 29), (.t 30), (.t 31)]⟩,
    ⟨(some 27), none, .mv (.t 32)⟩,
    ⟨(some 33), none, .ext (.t 27) 0⟩,
    ⟨(some 34), none, .ext (.t 27) 1⟩,
    ⟨(some 35), none, .ext (.t 27) 2⟩,
    ⟨(some 5), none, .mv (.t 33)⟩,
    ⟨(some 6), none, .mv (.t 34)⟩,
    ⟨(some 7), none, .mv (.t 35)⟩] (some [1, 2, 3, 4, 5, 6, 7]))
  (.sq (.op 0 [⟨(some 37), none, .callV false (.c (.fn n_ratchetlaw28_Library [])) []⟩,
    ⟨(some 38), none, .callV false (.c (.fn n_ratchetlaw28_Net [])) []⟩,
    ⟨(some 39), none, .bsl t_int 1 false [.int .i64 0] 4 [(0, (.c (.int .i64 1))), (1, (.c (.int .i64 2))), (2, (.c (.int .i64 3))), (3, (.c (.int .i64 4)))]⟩,
    ⟨(some 40), none, .callV false (.c (.fn n_timing_UsedAt [])) [(.t 37), (.t 38), (.t 39)]⟩,
    ⟨(some 36), none, .mv (.t 40)⟩,
    ⟨(some 41), none, .ext (.t 36) 0⟩,
    ⟨(some 42), none, .ext (.t 36) 1⟩,
    ⟨(some 8), none, .mv (.t 41)⟩,
    ⟨(some 9), none, .mv (.t 42)⟩] (some [1, 2, 3, 4, 5, 6, 7, 8, 9]))
  (.sq (.op 0 [⟨(some 43), none, .mv (.t 2)⟩,
    ⟨(some 44), none, .bin .eql (.t 43) (.c (.int .i64 0))⟩,
    ⟨(some 45), none, .mv (.t 44)⟩,
    ⟨(some 46), (some (45, true)), .mv (.t 1)⟩,
    ⟨(some 47), (some (45, true)), .bsl t_int 1 false [.int .i64 0] 5 [(0, (.c (.int .i64 0))), (1, (.c (.int .i64 0))), (2, (.c (.int .i64 2))), (3, (.c (.int .i64 4))), (4, (.c (.int .i64 6)))]⟩,
    ⟨(some 48), (some (45, true)), .callV true (.c (.fn n_ratchetbase_Ints [])) [(.t 46), (.t 47)]⟩,
    ⟨(some 49), none, .pick (.t 45) (.t 48) (.c (.bool false))⟩,
    ⟨(some 50), none, .mv (.t 49)⟩,
    ⟨(some 51), (some (50, true)), .mv (.t 4)⟩,
    ⟨(some 52), (some (50, true)), .bin .eql (.t 51) (.c (.int .i64 0))⟩,
    ⟨(some 53), none, .pick (.t 50) (.t 52) (.c (.bool false))⟩,
    ⟨(some 54), none, .mv (.t 53)⟩,
    ⟨(some 55), (some (54, true)), .mv (.t 3)⟩,
    ⟨(some 56), (some (54, true)), .bsl t_int 1 false [.int .i64 0] 5 [(0, (.c (.int .i64 4))), (1, (.c (.int .i64 4))), (2, (.c (.int .i64 4))), (3, (.c (.int .i64 4))), (4, (.c (.int .i64 4)))]⟩,
    ⟨(some 57), (some (54, true)), .callV true (.c (.fn n_ratchetbase_Ints [])) [(.t 55), (.t 56)]⟩,
    ⟨(some 58), none, .pick (.t 54) (.t 57) (.c (.bool false))⟩,
    ⟨(some 59), none, .mv (.t 58)⟩,
    ⟨(some 60), (some (59, true)), .mv (.t 7)⟩,
    ⟨(some 61), (some (59, true)), .bin .eql (.t 60) (.c (.int .i64 0))⟩,
    ⟨(some 62), none, .pick (.t 59) (.t 61) (.c (.bool false))⟩,
    ⟨(some 63), none, .mv (.t 62)⟩,
    ⟨(some 64), (some (63, true)), .mv (.t 6)⟩,
    ⟨(some 65), (some (63, true)), .bin .eql (.t 64) (.c (.int .i64 6))⟩,
    ⟨(some 66), none, .pick (.t 63) (.t 65) (.c (.bool false))⟩,
    ⟨(some 67), none, .mv (.t 66)⟩,
    ⟨(some 68), (some (67, true)), .mv (.t 5)⟩,
    ⟨(some 69), (some (67, true)), .bsl t_int 1 false [.int .i64 0] 4 [(0, (.c (.int .i64 0))), (1, (.c (.int .i64 2))), (2, (.c (.int .i64 3))), (3, (.c (.int .i64 4)))]⟩,
    ⟨(some 70), (some (67, true)), .callV true (.c (.fn n_ratchetbase_Ints [])) [(.t 68), (.t 69)]⟩,
    ⟨(some 71), none, .pick (.t 67) (.t 70) (.c (.bool false))⟩,
    ⟨(some 72), none, .mv (.t 71)⟩,
    ⟨(some 73), (some (72, true)), .mv (.t 9)⟩,
    ⟨(some 74), (some (72, true)), .bin .eql (.t 73) (.c (.int .i64 0))⟩,
    ⟨(some 75), none, .pick (.t 72) (.t 74) (.c (.bool false))⟩,
    ⟨(some 76), none, .mv (.t 75)⟩,
    ⟨(some 77), (some (76, true)), .mv (.t 8)⟩,
    ⟨(some 78), (some (76, true)), .bsl t_int 1 false [.int .i64 0] 2 [(0, (.c (.int .i64 1))), (1, (.c (.int .i64 0)))]⟩,
    ⟨(some 79), (some (76, true)), .callV true (.c (.fn n_ratchetbase_Ints [])) [(.t 77), (.t 78)]⟩,
    ⟨(some 80), none, .pick (.t 76) (.t 79) (.c (.bool false))⟩,
    ⟨(some 0), none, .mv (.t 80)⟩] (some [0]))
  .rt)))))),
  [.t 0]⟩
def b_ratchetlaw28_Few_L0 : IR :=
 (.sq (.sq (.op 0 [⟨(some 22), none, .mv (.t 3)⟩,
   ⟨(some 23), none, .fa (.t 1) 1⟩,
   ⟨(some 24), none, .fa (.t 23) 1⟩,
   ⟨(some 25), none, .ld (.t 24) 1 false⟩,
   ⟨(some 26), none, .len false (.t 25)⟩,
   ⟨(some 27), none, .bin .lss (.t 22) (.t 26)⟩] (some [1, 3, 27]))
 (.cd (.t 27)
  .sk
  (.ex 0)))
 (.sq (.bk 1 (.sq (.op 0 [⟨(some 30), none, .fa (.t 1) 1⟩,
    ⟨(some 31), none, .fa (.t 30) 1⟩,
    ⟨(some 32), none, .ld (.t 31) 1 false⟩,
    ⟨(some 33), none, .mv (.t 3)⟩,
    ⟨(some 34), none, .ia (.t 32) (.t 33) 2⟩,
    ⟨(some 35), none, .fa (.t 34) 1⟩,
    ⟨(some 36), none, .ld (.t 35) 1 false⟩,
    ⟨(some 37), none, .len false (.t 36)⟩,
    ⟨(some 38), none, .bin .gtr (.t 37) (.c (.int .i64 5))⟩] (some [1, 3, 38]))
  (.cd (.t 38)
   (.sq (.op 0 [⟨(some 2), none, .mv (.c (.bool false))⟩] none)
   .rt)
   .sk)))
 (.op 0 [⟨(some 28), none, .mv (.t 3)⟩,
   ⟨(some 29), none, .bin .add (.t 28) (.c (.int .i64 1))⟩,
   ⟨(some 3), none, .mv (.t 29)⟩] none)))
def c_ratchetlaw28_Few_L0 : IR := b_ratchetlaw28_Few_L0
theorem u_ratchetlaw28_Few_L0 {C : Call} {L : Loop} {π : Id} {k0 : List Id} {e : Env} {s : Sto} : evC C L π k0 c_ratchetlaw28_Few_L0 e s = evC C L π k0 b_ratchetlaw28_Few_L0 e s := rfl
def c_ratchetlaw28_Few : FnIR := ⟨39,
  (.sq (.op 0 [⟨(some 1), none, .box (.t 0) 9⟩,
    ⟨(some 2), none, .mv (.c (.bool false))⟩] none)
  (.sq (.sq (.op 0 [⟨(some 4), none, .fa (.t 1) 0⟩,
    ⟨(some 5), none, .ld (.t 4) 1 false⟩,
    ⟨(some 6), none, .len false (.t 5)⟩,
    ⟨(some 7), none, .bin .gtr (.t 6) (.c (.int .i64 18))⟩,
    ⟨(some 8), none, .mv (.t 7)⟩,
    ⟨(some 9), (some (8, false)), .fa (.t 1) 1⟩,
    ⟨(some 10), (some (8, false)), .fa (.t 9) 1⟩,
    ⟨(some 11), (some (8, false)), .ld (.t 10) 1 false⟩,
    ⟨(some 12), (some (8, false)), .len false (.t 11)⟩,
    ⟨(some 13), (some (8, false)), .bin .gtr (.t 12) (.c (.int .i64 62))⟩,
    ⟨(some 14), none, .pick (.t 8) (.c (.bool true)) (.t 13)⟩,
    ⟨(some 15), none, .mv (.t 14)⟩,
    ⟨(some 16), (some (15, false)), .fa (.t 1) 1⟩,
    ⟨(some 17), (some (15, false)), .fa (.t 16) 2⟩,
    ⟨(some 18), (some (15, false)), .ld (.t 17) 1 false⟩,
    ⟨(some 19), (some (15, false)), .len false (.t 18)⟩,
    ⟨(some 20), (some (15, false)), .bin .gtr (.t 19) (.c (.int .i64 70))⟩,
    ⟨(some 21), none, .pick (.t 15) (.c (.bool true)) (.t 20)⟩] (some [1, 21]))
  (.cd (.t 21)
   (.sq (.op 0 [⟨(some 2), none, .mv (.c (.bool false))⟩] none)
   .rt)
   .sk))
  (.sq (.sq (.op 0 [⟨(some 3), none, .mv (.c (.int .i64 0))⟩] none)
  (.kp [] [2] (.bk 0 (.lp [] [1, 3] c_ratchetlaw28_Few_L0))))
  (.sq (.op 0 [⟨(some 2), none, .mv (.c (.bool true))⟩] none)
  .rt)))),
  [.t 2]⟩
def c_ratchetlaw28_copied : FnIR := ⟨13,
  (.sq (.op 0 [⟨(some 1), none, .box (.t 0) 9⟩,
    ⟨(some 2), none, .mv (.c (.sl 5 (some true) []))⟩,
    ⟨(some 3), none, .alloc [.int .i64 0, .sl 2 (some true) [], .sl 1 (some true) []]⟩,
    ⟨(some 4), none, .alloc [.int .i64 0, .int .i64 0, .int .i64 0, .int .i64 0, .int .i64 0]⟩] (some [1, 3, 4]))
  (.sq (.op 10 [⟨(some 5), none, .fa (.t 1) 0⟩,
    ⟨(some 6), none, .ld (.t 5) 1 false⟩,
    ⟨(some 7), none, .callV false (.c (.fn n_ratchetref27_CopyLibrary [])) [(.t 6)]⟩,
    ⟨(some 8), none, .fa (.t 1) 1⟩,
    ⟨(some 9), none, .ld (.t 8) 3 true⟩,
    ⟨(some 10), none, .callV false (.c (.fn n_ratchetref27_CopyNet [])) [(.t 9)]⟩,
    ⟨(some 11), none, .fa (.t 1) 4⟩,
    ⟨(some 12), none, .ld (.t 11) 5 true⟩,
    ⟨(some 2), none, .mv (.t 7)⟩,
    ⟨none, none, .st (.t 3) (.t 10) 3⟩,
    ⟨none, none, .st (.t 4) (.t 12) 5⟩] (some [2, 3, 4]))
  .rt)),
  [.t 2, .c 3 3 true, .c 4 5 true]⟩
def c_ratchetref28_AllErr : FnIR := ⟨16,
  (.sq (.op 0 [⟨(some 4), none, .box (.t 1) 3⟩,
    ⟨(some 5), none, .box (.t 2) 5⟩,
    ⟨(some 6), none, .mv (.c (.int .i64 0))⟩] none)
  (.sq (.sq (.op 0 [⟨(some 8), none, .mv (.t 0)⟩,
    ⟨(some 9), none, .ld (.t 4) 3 true⟩,
    ⟨(some 10), none, .callV true (.c (.fn n_ratchetref28_NetErr [])) [(.t 8), (.t 9)]⟩,
    ⟨(some 7), none, .mv (.t 10)⟩] (some [5, 7]))
  (.sq (.op 0 [⟨(some 11), none, .mv (.t 7)⟩,
    ⟨(some 12), none, .bin .neq (.t 11) (.c (.int .i64 0))⟩] none)
  (.cd (.t 12)
   (.sq (.op 0 [⟨(some 13), none, .mv (.t 7)⟩,
     ⟨(some 6), none, .mv (.t 13)⟩] none)
   .rt)
   .sk)))
  (.sq (.op 0 [⟨(some 14), none, .ld (.t 5) 5 true⟩,
    ⟨(some 15), none, .callV true (.c (.fn n_ratchetref28_ModelErr [])) [(.t 14)]⟩,
    ⟨(some 6), none, .mv (.t 15)⟩] none)
  .rt))),
  [.t 6]⟩
def b_ratchetref28_TimesErr_L0 : IR :=
 (.sq (.sq (.op 0 [⟨(some 10), none, .mv (.t 5)⟩,
   ⟨(some 11), none, .mv (.t 1)⟩,
   ⟨(some 12), none, .len false (.t 11)⟩,
   ⟨(some 13), none, .bin .lss (.t 10) (.t 12)⟩] (some [1, 5, 13]))
 (.cd (.t 13)
  .sk
  (.ex 0)))
 (.sq (.bk 1 (.sq (.op 0 [⟨(some 16), none, .mv (.t 1)⟩,
    ⟨(some 17), none, .mv (.t 5)⟩,
    ⟨(some 18), none, .ia (.t 16) (.t 17) 1⟩,
    ⟨(some 19), none, .ld (.t 18) 1 false⟩,
    ⟨(some 20), none, .callV true (.c (.fn n_ratchetbase_Within [])) [(.t 19), (.c (.int .i64 0)), (.c (.int .i64 1000000))]⟩,
    ⟨(some 21), none, .un .not (.t 20)⟩] (some [1, 5, 21]))
  (.cd (.t 21)
   (.sq (.op 0 [⟨(some 4), none, .mv (.c (.int .i64 2))⟩] none)
   .rt)
   .sk)))
 (.op 0 [⟨(some 14), none, .mv (.t 5)⟩,
   ⟨(some 15), none, .bin .add (.t 14) (.c (.int .i64 1))⟩,
   ⟨(some 5), none, .mv (.t 15)⟩] none)))
def c_ratchetref28_TimesErr_L0 : IR := b_ratchetref28_TimesErr_L0
theorem u_ratchetref28_TimesErr_L0 {C : Call} {L : Loop} {π : Id} {k0 : List Id} {e : Env} {s : Sto} : evC C L π k0 c_ratchetref28_TimesErr_L0 e s = evC C L π k0 b_ratchetref28_TimesErr_L0 e s := rfl
def c_ratchetref28_TimesErr : FnIR := ⟨22,
  (.sq (.op 0 [⟨(some 4), none, .mv (.c (.int .i64 0))⟩] none)
  (.sq (.sq (.op 0 [⟨(some 6), none, .mv (.t 1)⟩,
    ⟨(some 7), none, .len false (.t 6)⟩,
    ⟨(some 8), none, .mv (.t 0)⟩,
    ⟨(some 9), none, .bin .neq (.t 7) (.t 8)⟩] (some [1, 9]))
  (.cd (.t 9)
   (.sq (.op 0 [⟨(some 4), none, .mv (.c (.int .i64 10))⟩] none)
   .rt)
   .sk))
  (.sq (.sq (.op 0 [⟨(some 5), none, .mv (.c (.int .i64 0))⟩] none)
  (.kp [] [4] (.bk 0 (.lp [] [1, 5] c_ratchetref28_TimesErr_L0))))
  (.sq (.op 0 [⟨(some 4), none, .mv (.c (.int .i64 0))⟩] none)
  .rt)))),
  [.t 4]⟩
def c_ratchetlaw28_light : FnIR := ⟨8,
  (.sq (.op 0 [⟨(some 1), none, .box (.t 0) 9⟩,
    ⟨(some 2), none, .mv (.c (.bool false))⟩] none)
  (.sq (.op 0 [⟨(some 3), none, .fa (.t 1) 1⟩,
    ⟨(some 4), none, .fa (.t 3) 1⟩,
    ⟨(some 5), none, .ld (.t 4) 1 false⟩,
    ⟨(some 6), none, .len false (.t 5)⟩,
    ⟨(some 7), none, .bin .leq (.t 6) (.c (.int .i64 9))⟩,
    ⟨(some 2), none, .mv (.t 7)⟩] (some [2]))
  .rt)),
  [.t 2]⟩
def b_ratchetref28_Paths_L0 : IR :=
 (.sq (.sq (.op 0 [⟨(some 7), none, .mv (.t 6)⟩,
   ⟨(some 8), none, .fa (.t 2) 0⟩,
   ⟨(some 9), none, .ld (.t 8) 1 false⟩,
   ⟨(some 10), none, .bin .lss (.t 7) (.t 9)⟩] (some [1, 2, 5, 6, 10]))
 (.cd (.t 10)
  .sk
  (.ex 0)))
 (.sq (.bk 1 (.op 0 [⟨(some 13), none, .ld (.t 2) 3 true⟩,
    ⟨(some 14), none, .mv (.t 6)⟩,
    ⟨(some 15), none, .bsl t_int 1 false [.int .i64 0] 1 [(0, (.t 14))]⟩,
    ⟨(some 16), none, .mv (.t 5)⟩,
    ⟨(some 17), none, .mv (.t 1)⟩,
    ⟨(some 18), none, .callS (.c (.fn n_ratchetref28_longer [])) [(.t 13), (.t 15), (.t 16), (.t 17)]⟩,
    ⟨(some 5), none, .mv (.t 18)⟩] (some [1, 2, 5, 6])))
 (.op 0 [⟨(some 11), none, .mv (.t 6)⟩,
   ⟨(some 12), none, .bin .add (.t 11) (.c (.int .i64 1))⟩,
   ⟨(some 6), none, .mv (.t 12)⟩] none)))
def c_ratchetref28_Paths_L0 : IR := b_ratchetref28_Paths_L0
theorem u_ratchetref28_Paths_L0 {C : Call} {L : Loop} {π : Id} {k0 : List Id} {e : Env} {s : Sto} : evC C L π k0 c_ratchetref28_Paths_L0 e s = evC C L π k0 b_ratchetref28_Paths_L0 e s := rfl
def c_ratchetref28_Paths : FnIR := ⟨20,
  (.sq (.op 0 [⟨(some 2), none, .box (.t 0) 3⟩,
    ⟨(some 4), none, .mv (.c (.sl 1 (some true) []))⟩] none)
  (.sq (.op 0 [⟨(some 5), none, .mv (.c (.sl 1 (some true) []))⟩] none)
  (.sq (.sq (.op 0 [⟨(some 6), none, .mv (.c (.int .i64 0))⟩] none)
  (.kp [5] [4] (.bk 0 (.lp [(t_L_int, .inl 5)] [1, 2, 5, 6] c_ratchetref28_Paths_L0))))
  (.sq (.op 0 [⟨(some 19), none, .mv (.t 5)⟩,
    ⟨(some 4), none, .mv (.t 19)⟩] none)
  .rt)))),
  [.t 4]⟩
def b_timing_CriticalPath_L0 : IR :=
 (.sq (.op 0 [⟨(some 37), none, .bin .lss (.t 36) (.t 35)⟩] none)
 (.sq (.cd (.t 37)
  .sk
  (.ex 0))
 (.sq (.bk 1 (.sq (.op 0 [⟨(some 38), none, .mv (.t 36)⟩,
    ⟨(some 39), none, .ia (.t 34) (.t 36) 1⟩,
    ⟨(some 40), none, .ld (.t 39) 1 false⟩,
    ⟨(some 16), none, .mv (.t 38)⟩,
    ⟨(some 17), none, .mv (.t 40)⟩] (some [11, 13, 14, 15, 16, 17, 34, 35, 36]))
  (.sq (.op 0 [⟨(some 41), none, .mv (.t 13)⟩,
    ⟨(some 42), none, .mv (.t 16)⟩,
    ⟨(some 43), none, .ia (.t 41) (.t 42) 1⟩,
    ⟨(some 44), none, .ld (.t 43) 1 false⟩,
    ⟨(some 45), none, .bin .neq (.t 44) (.c (.int .i64 (-1)))⟩,
    ⟨(some 46), none, .mv (.t 45)⟩,
    ⟨(some 47), (some (46, true)), .mv (.t 17)⟩,
    ⟨(some 48), (some (46, true)), .mv (.t 13)⟩,
    ⟨(some 49), (some (46, true)), .mv (.t 16)⟩,
    ⟨(some 50), (some (46, true)), .ia (.t 48) (.t 49) 1⟩,
    ⟨(some 51), (some (46, true)), .ld (.t 50) 1 false⟩,
    ⟨(some 52), (some (46, true)), .bin .add (.t 47) (.t 51)⟩,
    ⟨(some 53), (some (46, true)), .mv (.t 15)⟩,
    ⟨(some 54), (some (46, true)), .bin .gtr (.t 52) (.t 53)⟩,
    ⟨(some 55), none, .pick (.t 46) (.t 54) (.c (.bool false))⟩] (some [11, 13, 14, 15, 16, 17, 34, 35, 36, 55]))
  (.cd (.t 55)
   (.op 8 [⟨(some 56), none, .mv (.t 16)⟩,
     ⟨(some 57), none, .mv (.t 17)⟩,
     ⟨(some 58), none, .mv (.t 13)⟩,
     ⟨(some 59), none, .mv (.t 16)⟩,
     ⟨(some 60), none, .ia (.t 58) (.t 59) 1⟩,
     ⟨(some 61), none, .ld (.t 60) 1 false⟩,
     ⟨(some 62), none, .bin .add (.t 57) (.t 61)⟩,
     ⟨(some 14), none, .mv (.t 56)⟩,
     ⟨(some 15), none, .mv (.t 62)⟩] (some [11, 13, 14, 15, 34, 35, 36]))
   .sk))))
 (.op 0 [⟨(some 63), none, .bin .add (.t 36) (.c (.int .i64 1))⟩,
   ⟨(some 36), none, .mv (.t 63)⟩] none))))
def c_timing_CriticalPath_L0 : IR := b_timing_CriticalPath_L0
theorem u_timing_CriticalPath_L0 {C : Call} {L : Loop} {π : Id} {k0 : List Id} {e : Env} {s : Sto} : evC C L π k0 c_timing_CriticalPath_L0 e s = evC C L π k0 b_timing_CriticalPath_L0 e s := rfl
def b_timing_CriticalPath_L2 : IR :=
 (.sq (.sq (.op 0 [⟨(some 78), none, .mv (.t 20)⟩,
   ⟨(some 79), none, .fa (.t 11) 0⟩,
   ⟨(some 80), none, .ld (.t 79) 4 true⟩,
   ⟨(some 81), none, .callV true (.c (.fn n_timing_net_points [])) [(.t 80)]⟩,
   ⟨(some 82), none, .bin .lss (.t 78) (.t 81)⟩] (some [11, 13, 15, 18, 19, 20, 82]))
 (.cd (.t 82)
  .sk
  (.ex 4)))
 (.sq (.bk 5 (.sq (.op 30 [⟨(some 85), none, .mv (.t 20)⟩,
    ⟨(some 86), none, .mv (.t 19)⟩,
    ⟨(some 87), none, .bin .gtr (.t 85) (.t 86)⟩,
    ⟨(some 88), none, .mv (.t 87)⟩,
    ⟨(some 89), (some (88, true)), .fa (.t 11) 0⟩,
    ⟨(some 90), (some (88, true)), .ld (.t 89) 4 true⟩,
    ⟨(some 91), (some (88, true)), .mv (.t 20)⟩,
    ⟨(some 92), (some (88, true)), .mv (.t 19)⟩,
    ⟨(some 93), (some (88, true)), .callV true (.c (.fn n_timing_net_has [])) [(.t 90), (.t 91), (.t 92)]⟩,
    ⟨(some 94), none, .pick (.t 88) (.t 93) (.c (.bool false))⟩,
    ⟨(some 95), none, .mv (.t 94)⟩,
    ⟨(some 96), (some (95, true)), .mv (.t 13)⟩,
    ⟨(some 97), (some (95, true)), .mv (.t 20)⟩,
    ⟨(some 98), (some (95, true)), .ia (.t 96) (.t 97) 1⟩,
    ⟨(some 99), (some (95, true)), .ld (.t 98) 1 false⟩,
    ⟨(some 100), (some (95, true)), .bin .neq (.t 99) (.c (.int .i64 (-1)))⟩,
    ⟨(some 101), none, .pick (.t 95) (.t 100) (.c (.bool false))⟩,
    ⟨(some 102), none, .mv (.t 101)⟩,
    ⟨(some 103), (some (102, true)), .ld (.t 11) 10 true⟩,
    ⟨(some 104), (some (102, true)), .mv (.t 20)⟩,
    ⟨(some 105), (some (102, true)), .callV true (.c (.fn n_timing_timed_delay [])) [(.t 103), (.t 104)]⟩,
    ⟨(some 106), (some (102, true)), .mv (.t 13)⟩,
    ⟨(some 107), (some (102, true)), .mv (.t 20)⟩,
    ⟨(some 108), (some (102, true)), .ia (.t 106) (.t 107) 1⟩,
    ⟨(some 109), (some (102, true)), .ld (.t 108) 1 false⟩,
    ⟨(some 110), (some (102, true)), .bin .add (.t 105) (.t 109)⟩,
    ⟨(some 111), (some (102, true)), .mv (.t 13)⟩,
    ⟨(some 112), (some (102, true)), .mv (.t 19)⟩,
    ⟨(some 113), (some (102, true)), .ia (.t 111) (.t 112) 1⟩,
    ⟨(some 114), (some (102, true)), .ld (.t 113) 1 false⟩,
    ⟨(some 115), (some (102, true)), .bin .eql (.t 110) (.t 114)⟩,
    ⟨(some 116), none, .pick (.t 102) (.t 115) (.c (.bool false))⟩] (some [11, 13, 15, 18, 19, 20, 116]))
  (.cd (.t 116)
   (.sq (.op 0 [⟨(some 117), none, .mv (.t 18)⟩,
     ⟨(some 118), none, .mv (.t 20)⟩,
     ⟨(some 119), none, .bsl t_int 1 false [.int .i64 0] 1 [(0, (.t 118))]⟩,
     ⟨(some 120), none, .app (.t 117) (.t 119) t_int 1⟩,
     ⟨(some 18), none, .mv (.t 120)⟩] (some [11, 13, 15, 18, 20]))
   (.sq (.op 0 [⟨(some 121), none, .mv (.t 20)⟩,
     ⟨(some 19), none, .mv (.t 121)⟩] none)
   (.ex 4)))
   .sk)))
 (.op 0 [⟨(some 83), none, .mv (.t 20)⟩,
   ⟨(some 84), none, .bin .add (.t 83) (.c (.int .i64 1))⟩,
   ⟨(some 20), none, .mv (.t 84)⟩] none)))
def c_timing_CriticalPath_L2 : IR := b_timing_CriticalPath_L2
theorem u_timing_CriticalPath_L2 {C : Call} {L : Loop} {π : Id} {k0 : List Id} {e : Env} {s : Sto} : evC C L π k0 c_timing_CriticalPath_L2 e s = evC C L π k0 b_timing_CriticalPath_L2 e s := rfl
def b_timing_CriticalPath_L1 : IR :=
 (.sq (.sq (.op 0 [⟨(some 69), none, .mv (.t 13)⟩,
   ⟨(some 70), none, .mv (.t 19)⟩,
   ⟨(some 71), none, .ia (.t 69) (.t 70) 1⟩,
   ⟨(some 72), none, .ld (.t 71) 1 false⟩,
   ⟨(some 73), none, .bin .gtr (.t 72) (.c (.int .i64 0))⟩] (some [11, 13, 15, 18, 19, 73]))
 (.cd (.t 73)
  .sk
  (.ex 2)))
 (.bk 3 (.sq (.op 0 [⟨(some 74), none, .fa (.t 11) 0⟩,
    ⟨(some 75), none, .fa (.t 74) 0⟩,
    ⟨(some 76), none, .fa (.t 75) 0⟩,
    ⟨(some 77), none, .ld (.t 76) 1 false⟩,
    ⟨(some 20), none, .mv (.t 77)⟩] (some [11, 13, 15, 18, 19, 20]))
  (.kp [11, 13, 15, 18, 19] [8, 9, 10] (.bk 4 (.lp [(t_int, .inl 18)] [11, 13, 15, 18, 19, 20] c_timing_CriticalPath_L2))))))
def c_timing_CriticalPath_L1 : IR := b_timing_CriticalPath_L1
theorem u_timing_CriticalPath_L1 {C : Call} {L : Loop} {π : Id} {k0 : List Id} {e : Env} {s : Sto} : evC C L π k0 c_timing_CriticalPath_L1 e s = evC C L π k0 b_timing_CriticalPath_L1 e s := rfl
def c_timing_CriticalPath : FnIR := ⟨124,
  (.sq (.op 0 [⟨(some 5), none, .box (.t 1) 3⟩,
    ⟨(some 6), none, .box (.t 2) 5⟩,
    ⟨(some 8), none, .mv (.c (.sl 1 (some true) []))⟩,
    ⟨(some 9), none, .mv (.c (.int .i64 0))⟩,
    ⟨(some 10), none, .mv (.c (.int .i64 0))⟩] (some [0, 3, 5, 6]))
  (.sq (.op 0 [⟨(some 22), none, .mv (.t 0)⟩,
    ⟨(some 23), none, .ld (.t 5) 3 true⟩,
    ⟨(some 24), none, .ld (.t 6) 5 true⟩,
    ⟨(some 25), none, .mv (.t 3)⟩,
    ⟨(some 26), none, .callV false (.c (.fn n_timing_openTimes [])) [(.t 22), (.t 23), (.t 24), (.t 25)]⟩,
    ⟨(some 21), none, .mv (.t 26)⟩,
    ⟨(some 27), none, .ext (.t 21) 0⟩,
    ⟨(some 28), none, .ext (.t 21) 1⟩,
    ⟨(some 11), none, .alloc [.int .i64 0, .sl 2 (some true) [], .sl 1 (some true) [], .sl 5 (some true) [], .int .i64 0, .int .i64 0, .int .i64 0, .int .i64 0, .int .i64 0, .sl 1 (some true) []]⟩,
    ⟨none, none, .st (.t 11) (.t 27) 10⟩,
    ⟨(some 12), none, .mv (.t 28)⟩] (some [3, 11, 12]))
  (.sq (.sq (.op 0 [⟨(some 29), none, .mv (.t 12)⟩,
    ⟨(some 30), none, .bin .neq (.t 29) (.c (.int .i64 0))⟩] none)
  (.cd (.t 30)
   (.sq (.op 0 [⟨(some 31), none, .mv (.t 12)⟩,
     ⟨(some 8), none, .mv (.c (.sl 1 (some true) []))⟩,
     ⟨(some 9), none, .mv (.c (.int .i64 0))⟩,
     ⟨(some 10), none, .mv (.t 31)⟩] (some [8, 9, 10]))
   .rt)
   .sk))
  (.sq (.op 0 [⟨(some 32), none, .ld (.t 11) 10 true⟩,
    ⟨(some 33), none, .callV false (.c (.fn n_timing_timed_rests [])) [(.t 32)]⟩,
    ⟨(some 13), none, .mv (.t 33)⟩] none)
  (.sq (.op 0 [⟨(some 14), none, .mv (.c (.int .i64 0))⟩,
    ⟨(some 15), none, .mv (.c (.int .i64 (-1)))⟩] none)
  (.sq (.sq (.op 0 [⟨(some 34), none, .mv (.t 3)⟩,
    ⟨(some 35), none, .len false (.t 34)⟩,
    ⟨(some 36), none, .mv (.c (.int .i64 0))⟩] none)
  (.kp [11, 13, 14, 15] [8, 9, 10] (.bk 0 (.lp [] [11, 13, 14, 15, 34, 35, 36] c_timing_CriticalPath_L0))))
  (.sq (.sq (.op 0 [⟨(some 64), none, .mv (.t 15)⟩,
    ⟨(some 65), none, .bin .eql (.t 64) (.c (.int .i64 (-1)))⟩] none)
  (.cd (.t 65)
   (.sq (.op 0 [⟨(some 8), none, .mv (.c (.sl 1 (some true) []))⟩,
     ⟨(some 9), none, .mv (.c (.int .i64 0))⟩,
     ⟨(some 10), none, .mv (.c (.int .i64 12))⟩] none)
   .rt)
   .sk))
  (.sq (.op 0 [⟨(some 66), none, .mv (.t 14)⟩,
    ⟨(some 67), none, .bsl t_int 1 false [.int .i64 0] 1 [(0, (.t 66))]⟩,
    ⟨(some 18), none, .mv (.t 67)⟩] none)
  (.sq (.sq (.op 0 [⟨(some 68), none, .mv (.t 14)⟩,
    ⟨(some 19), none, .mv (.t 68)⟩] none)
  (.kp [15, 18] [8, 9, 10] (.bk 2 (.lp [(t_int, .inl 18)] [11, 13, 15, 18, 19] c_timing_CriticalPath_L1))))
  (.sq (.op 0 [⟨(some 122), none, .mv (.t 18)⟩,
    ⟨(some 123), none, .mv (.t 15)⟩,
    ⟨(some 8), none, .mv (.t 122)⟩,
    ⟨(some 9), none, .mv (.t 123)⟩,
    ⟨(some 10), none, .mv (.c (.int .i64 0))⟩] (some [8, 9, 10]))
  .rt)))))))))),
  [.t 8, .t 9, .t 10]⟩
def c_ratchetbase_CopyInts : FnIR := ⟨6,
  (.sq (.op 0 [⟨(some 2), none, .mv (.c (.sl 1 (some true) []))⟩] none)
  (.sq (.op 0 [⟨(some 3), none, .bsl t_int 1 false [.int .i64 0] 0 []⟩,
    ⟨(some 4), none, .mv (.t 0)⟩,
    ⟨(some 5), none, .app (.t 3) (.t 4) t_int 1⟩,
    ⟨(some 2), none, .mv (.t 5)⟩] (some [2]))
  .rt)),
  [.t 2]⟩
def c_timing_DelayOf : FnIR := ⟨35,
  (.sq (.op 0 [⟨(some 6), none, .box (.t 1) 3⟩,
    ⟨(some 7), none, .box (.t 2) 5⟩,
    ⟨(some 10), none, .mv (.c (.int .i64 0))⟩,
    ⟨(some 11), none, .mv (.c (.int .i64 0))⟩] (some [0, 3, 4, 6, 7]))
  (.sq (.op 0 [⟨(some 15), none, .mv (.t 0)⟩,
    ⟨(some 16), none, .ld (.t 6) 3 true⟩,
    ⟨(some 17), none, .ld (.t 7) 5 true⟩,
    ⟨(some 18), none, .mv (.t 3)⟩,
    ⟨(some 19), none, .callV false (.c (.fn n_timing_openTimes [])) [(.t 15), (.t 16), (.t 17), (.t 18)]⟩,
    ⟨(some 14), none, .mv (.t 19)⟩,
    ⟨(some 20), none, .ext (.t 14) 0⟩,
    ⟨(some 21), none, .ext (.t 14) 1⟩,
    ⟨(some 12), none, .alloc [.int .i64 0, .sl 2 (some true) [], .sl 1 (some true) [], .sl 5 (some true) [], .int .i64 0, .int .i64 0, .int .i64 0, .int .i64 0, .int .i64 0, .sl 1 (some true) []]⟩,
    ⟨none, none, .st (.t 12) (.t 20) 10⟩,
    ⟨(some 13), none, .mv (.t 21)⟩] (some [3, 4, 12, 13]))
  (.sq (.sq (.op 0 [⟨(some 22), none, .mv (.t 13)⟩,
    ⟨(some 23), none, .bin .eql (.t 22) (.c (.int .i64 0))⟩] none)
  (.cd (.t 23)
   (.op 0 [⟨(some 24), none, .fa (.t 12) 0⟩,
     ⟨(some 25), none, .ld (.t 24) 4 true⟩,
     ⟨(some 26), none, .mv (.t 4)⟩,
     ⟨(some 27), none, .callV true (.c (.fn n_timing_net_pathErr [])) [(.t 25), (.t 26)]⟩,
     ⟨(some 13), none, .mv (.t 27)⟩] (some [3, 4, 12, 13]))
   .sk))
  (.sq (.sq (.op 0 [⟨(some 28), none, .mv (.t 13)⟩,
    ⟨(some 29), none, .bin .neq (.t 28) (.c (.int .i64 0))⟩] none)
  (.cd (.t 29)
   (.sq (.op 0 [⟨(some 30), none, .mv (.t 13)⟩,
     ⟨(some 10), none, .mv (.c (.int .i64 0))⟩,
     ⟨(some 11), none, .mv (.t 30)⟩] none)
   .rt)
   .sk))
  (.sq (.op 0 [⟨(some 31), none, .ld (.t 12) 10 true⟩,
    ⟨(some 32), none, .mv (.t 3)⟩,
    ⟨(some 33), none, .mv (.t 4)⟩,
    ⟨(some 34), none, .callV true (.c (.fn n_timing_timed_along [])) [(.t 31), (.t 32), (.t 33)]⟩,
    ⟨(some 10), none, .mv (.t 34)⟩,
    ⟨(some 11), none, .mv (.c (.int .i64 0))⟩] (some [10, 11]))
  .rt))))),
  [.t 10, .t 11]⟩
def b_ratchetref28_Critical_L0 : IR :=
 (.sq (.sq (.op 0 [⟨(some 14), none, .mv (.t 13)⟩,
   ⟨(some 15), none, .mv (.t 4)⟩,
   ⟨(some 16), none, .len false (.t 15)⟩,
   ⟨(some 17), none, .bin .lss (.t 14) (.t 16)⟩] (some [0, 3, 4, 6, 7, 12, 13, 17]))
 (.cd (.t 17)
  .sk
  (.ex 0)))
 (.sq (.bk 1 (.sq (.fz [0, 3, 4] (.op 17 [⟨(some 20), none, .mv (.t 12)⟩,
    ⟨(some 21), none, .isnil true false (.t 20)⟩,
    ⟨(some 22), none, .mv (.t 21)⟩,
    ⟨(some 23), (some (22, false)), .mv (.t 0)⟩,
    ⟨(some 24), (some (22, false)), .ld (.t 6) 3 true⟩,
    ⟨(some 25), (some (22, false)), .ld (.t 7) 5 true⟩,
    ⟨(some 26), (some (22, false)), .mv (.t 3)⟩,
    ⟨(some 27), (some (22, false)), .mv (.t 4)⟩,
    ⟨(some 28), (some (22, false)), .mv (.t 13)⟩,
    ⟨(some 29), (some (22, false)), .ia (.t 27) (.t 28) 1⟩,
    ⟨(some 30), (some (22, false)), .ld (.t 29) 1 false⟩,
    ⟨(some 31), (some (22, false)), .callV true (.c (.fn n_ratchetref28_Delay [])) [(.t 23), (.t 24), (.t 25), (.t 26), (.t 30)]⟩,
    ⟨(some 32), (some (22, false)), .mv (.t 0)⟩,
    ⟨(some 33), (some (22, false)), .ld (.t 6) 3 true⟩,
    ⟨(some 34), (some (22, false)), .ld (.t 7) 5 true⟩,
    ⟨(some 35), (some (22, false)), .mv (.t 3)⟩,
    ⟨(some 36), (some (22, false)), .mv (.t 12)⟩,
    ⟨(some 37), (some (22, false)), .callV true (.c (.fn n_ratchetref28_Delay [])) [(.t 32), (.t 33), (.t 34), (.t 35), (.t 36)]⟩,
    ⟨(some 38), (some (22, false)), .bin .gtr (.t 31) (.t 37)⟩,
    ⟨(some 39), none, .pick (.t 22) (.c (.bool true)) (.t 38)⟩] (some [0, 3, 4, 6, 7, 12, 13, 39])))
  (.cd (.t 39)
   (.op 0 [⟨(some 40), none, .mv (.t 4)⟩,
     ⟨(some 41), none, .mv (.t 13)⟩,
     ⟨(some 42), none, .ia (.t 40) (.t 41) 1⟩,
     ⟨(some 43), none, .ld (.t 42) 1 false⟩,
     ⟨(some 12), none, .mv (.t 43)⟩] (some [0, 3, 4, 6, 7, 12, 13]))
   .sk)))
 (.op 0 [⟨(some 18), none, .mv (.t 13)⟩,
   ⟨(some 19), none, .bin .add (.t 18) (.c (.int .i64 1))⟩,
   ⟨(some 13), none, .mv (.t 19)⟩] none)))
def c_ratchetref28_Critical_L0 : IR := b_ratchetref28_Critical_L0
theorem u_ratchetref28_Critical_L0 {C : Call} {L : Loop} {π : Id} {k0 : List Id} {e : Env} {s : Sto} : evC C L π k0 c_ratchetref28_Critical_L0 e s = evC C L π k0 b_ratchetref28_Critical_L0 e s := rfl
def c_ratchetref28_Critical : FnIR := ⟨47,
  (.sq (.op 0 [⟨(some 6), none, .box (.t 1) 3⟩,
    ⟨(some 7), none, .box (.t 2) 5⟩,
    ⟨(some 10), none, .mv (.c (.sl 1 (some true) []))⟩,
    ⟨(some 11), none, .mv (.c (.bool false))⟩] (some [0, 3, 4, 6, 7]))
  (.sq (.op 0 [⟨(some 12), none, .mv (.c (.sl 1 (some true) []))⟩] none)
  (.sq (.sq (.op 0 [⟨(some 13), none, .mv (.c (.int .i64 0))⟩] none)
  (.kp [12] [10, 11] (.bk 0 (.lp [] [0, 3, 4, 6, 7, 12, 13] c_ratchetref28_Critical_L0))))
  (.sq (.op 0 [⟨(some 44), none, .mv (.t 12)⟩,
    ⟨(some 45), none, .mv (.t 12)⟩,
    ⟨(some 46), none, .isnil true true (.t 45)⟩,
    ⟨(some 10), none, .mv (.t 44)⟩,
    ⟨(some 11), none, .mv (.t 46)⟩] (some [10, 11]))
  .rt)))),
  [.t 10, .t 11]⟩
def b_ratchetbase_Ints_L0 : IR :=
 (.sq (.sq (.op 0 [⟨(some 11), none, .mv (.t 5)⟩,
   ⟨(some 12), none, .mv (.t 0)⟩,
   ⟨(some 13), none, .len false (.t 12)⟩,
   ⟨(some 14), none, .bin .lss (.t 11) (.t 13)⟩] (some [0, 1, 5, 14]))
 (.cd (.t 14)
  .sk
  (.ex 0)))
 (.sq (.bk 1 (.sq (.op 8 [⟨(some 17), none, .mv (.t 0)⟩,
    ⟨(some 18), none, .mv (.t 5)⟩,
    ⟨(some 19), none, .ia (.t 17) (.t 18) 1⟩,
    ⟨(some 20), none, .ld (.t 19) 1 false⟩,
    ⟨(some 21), none, .mv (.t 1)⟩,
    ⟨(some 22), none, .mv (.t 5)⟩,
    ⟨(some 23), none, .ia (.t 21) (.t 22) 1⟩,
    ⟨(some 24), none, .ld (.t 23) 1 false⟩,
    ⟨(some 25), none, .bin .neq (.t 20) (.t 24)⟩] (some [0, 1, 5, 25]))
  (.cd (.t 25)
   (.sq (.op 0 [⟨(some 4), none, .mv (.c (.bool false))⟩] none)
   .rt)
   .sk)))
 (.op 0 [⟨(some 15), none, .mv (.t 5)⟩,
   ⟨(some 16), none, .bin .add (.t 15) (.c (.int .i64 1))⟩,
   ⟨(some 5), none, .mv (.t 16)⟩] none)))
def c_ratchetbase_Ints_L0 : IR := b_ratchetbase_Ints_L0
theorem u_ratchetbase_Ints_L0 {C : Call} {L : Loop} {π : Id} {k0 : List Id} {e : Env} {s : Sto} : evC C L π k0 c_ratchetbase_Ints_L0 e s = evC C L π k0 b_ratchetbase_Ints_L0 e s := rfl
def c_ratchetbase_Ints : FnIR := ⟨26,
  (.sq (.op 0 [⟨(some 4), none, .mv (.c (.bool false))⟩] none)
  (.sq (.sq (.op 0 [⟨(some 6), none, .mv (.t 0)⟩,
    ⟨(some 7), none, .len false (.t 6)⟩,
    ⟨(some 8), none, .mv (.t 1)⟩,
    ⟨(some 9), none, .len false (.t 8)⟩,
    ⟨(some 10), none, .bin .neq (.t 7) (.t 9)⟩] (some [0, 1, 10]))
  (.cd (.t 10)
   (.sq (.op 0 [⟨(some 4), none, .mv (.c (.bool false))⟩] none)
   .rt)
   .sk))
  (.sq (.sq (.op 0 [⟨(some 5), none, .mv (.c (.int .i64 0))⟩] none)
  (.kp [] [4] (.bk 0 (.lp [] [0, 1, 5] c_ratchetbase_Ints_L0))))
  (.sq (.op 0 [⟨(some 4), none, .mv (.c (.bool true))⟩] none)
  .rt)))),
  [.t 4]⟩
def b_ratchetref28_Delay_L0 : IR :=
 (.sq (.sq (.op 0 [⟨(some 24), none, .mv (.t 13)⟩,
   ⟨(some 25), none, .mv (.t 4)⟩,
   ⟨(some 26), none, .len false (.t 25)⟩,
   ⟨(some 27), none, .bin .lss (.t 24) (.t 26)⟩] (some [4, 6, 11, 12, 13, 27]))
 (.cd (.t 27)
  .sk
  (.ex 0)))
 (.sq (.bk 1 (.op 8 [⟨(some 30), none, .mv (.t 11)⟩,
    ⟨(some 31), none, .mv (.t 12)⟩,
    ⟨(some 32), none, .mv (.t 4)⟩,
    ⟨(some 33), none, .mv (.t 13)⟩,
    ⟨(some 34), none, .ia (.t 32) (.t 33) 1⟩,
    ⟨(some 35), none, .ld (.t 34) 1 false⟩,
    ⟨(some 36), none, .fa (.t 6) 0⟩,
    ⟨(some 37), none, .ld (.t 36) 1 false⟩,
    ⟨(some 38), none, .bin .sub (.t 35) (.t 37)⟩,
    ⟨(some 39), none, .ia (.t 31) (.t 38) 1⟩,
    ⟨(some 40), none, .ld (.t 39) 1 false⟩,
    ⟨(some 41), none, .bin .add (.t 30) (.t 40)⟩,
    ⟨(some 11), none, .mv (.t 41)⟩] (some [4, 6, 11, 12, 13])))
 (.op 0 [⟨(some 28), none, .mv (.t 13)⟩,
   ⟨(some 29), none, .bin .add (.t 28) (.c (.int .i64 1))⟩,
   ⟨(some 13), none, .mv (.t 29)⟩] none)))
def c_ratchetref28_Delay_L0 : IR := b_ratchetref28_Delay_L0
theorem u_ratchetref28_Delay_L0 {C : Call} {L : Loop} {π : Id} {k0 : List Id} {e : Env} {s : Sto} : evC C L π k0 c_ratchetref28_Delay_L0 e s = evC C L π k0 b_ratchetref28_Delay_L0 e s := rfl
def c_ratchetref28_Delay : FnIR := ⟨43,
  (.sq (.op 0 [⟨(some 6), none, .box (.t 1) 3⟩,
    ⟨(some 7), none, .box (.t 2) 5⟩,
    ⟨(some 10), none, .mv (.c (.int .i64 0))⟩] none)
  (.sq (.op 0 [⟨(some 14), none, .mv (.t 3)⟩,
    ⟨(some 15), none, .mv (.t 4)⟩,
    ⟨(some 16), none, .ia (.t 15) (.c (.int .i64 0)) 1⟩,
    ⟨(some 17), none, .ld (.t 16) 1 false⟩,
    ⟨(some 18), none, .ia (.t 14) (.t 17) 1⟩,
    ⟨(some 19), none, .ld (.t 18) 1 false⟩,
    ⟨(some 11), none, .mv (.t 19)⟩] (some [0, 4, 6, 7, 11]))
  (.sq (.op 0 [⟨(some 20), none, .mv (.t 0)⟩,
    ⟨(some 21), none, .ld (.t 6) 3 true⟩,
    ⟨(some 22), none, .ld (.t 7) 5 true⟩,
    ⟨(some 23), none, .callV false (.c (.fn n_ratchetref28_Delays [])) [(.t 20), (.t 21), (.t 22)]⟩,
    ⟨(some 12), none, .mv (.t 23)⟩] (some [4, 6, 11, 12]))
  (.sq (.sq (.op 0 [⟨(some 13), none, .mv (.c (.int .i64 1))⟩] none)
  (.kp [11] [10] (.bk 0 (.lp [] [4, 6, 11, 12, 13] c_ratchetref28_Delay_L0))))
  (.sq (.op 0 [⟨(some 42), none, .mv (.t 11)⟩,
    ⟨(some 10), none, .mv (.t 42)⟩] none)
  .rt))))),
  [.t 10]⟩
def c_timing_ArrivalsOf : FnIR := ⟨26,
  (.sq (.op 0 [⟨(some 5), none, .box (.t 1) 3⟩,
    ⟨(some 6), none, .box (.t 2) 5⟩,
    ⟨(some 8), none, .mv (.c (.sl 1 (some true) []))⟩,
    ⟨(some 9), none, .mv (.c (.int .i64 0))⟩] (some [0, 3, 5, 6]))
  (.sq (.op 0 [⟨(some 13), none, .mv (.t 0)⟩,
    ⟨(some 14), none, .ld (.t 5) 3 true⟩,
    ⟨(some 15), none, .ld (.t 6) 5 true⟩,
    ⟨(some 16), none, .mv (.t 3)⟩,
    ⟨(some 17), none, .callV false (.c (.fn n_timing_openTimes [])) [(.t 13), (.t 14), (.t 15), (.t 16)]⟩,
    ⟨(some 12), none, .mv (.t 17)⟩,
    ⟨(some 18), none, .ext (.t 12) 0⟩,
    ⟨(some 19), none, .ext (.t 12) 1⟩,
    ⟨(some 10), none, .alloc [.int .i64 0, .sl 2 (some true) [], .sl 1 (some true) [], .sl 5 (some true) [], .int .i64 0, .int .i64 0, .int .i64 0, .int .i64 0, .int .i64 0, .sl 1 (some true) []]⟩,
    ⟨none, none, .st (.t 10) (.t 18) 10⟩,
    ⟨(some 11), none, .mv (.t 19)⟩] (some [3, 10, 11]))
  (.sq (.sq (.op 0 [⟨(some 20), none, .mv (.t 11)⟩,
    ⟨(some 21), none, .bin .neq (.t 20) (.c (.int .i64 0))⟩] none)
  (.cd (.t 21)
   (.sq (.op 0 [⟨(some 22), none, .mv (.t 11)⟩,
     ⟨(some 8), none, .mv (.c (.sl 1 (some true) []))⟩,
     ⟨(some 9), none, .mv (.t 22)⟩] none)
   .rt)
   .sk))
  (.sq (.op 0 [⟨(some 23), none, .ld (.t 10) 10 true⟩,
    ⟨(some 24), none, .mv (.t 3)⟩,
    ⟨(some 25), none, .callV false (.c (.fn n_timing_timed_arrivals [])) [(.t 23), (.t 24)]⟩,
    ⟨(some 8), none, .mv (.t 25)⟩,
    ⟨(some 9), none, .mv (.c (.int .i64 0))⟩] (some [8, 9]))
  .rt)))),
  [.t 8, .t 9]⟩
def c_ratchetref28_Points : FnIR := ⟨9,
  (.sq (.op 0 [⟨(some 1), none, .box (.t 0) 3⟩,
    ⟨(some 2), none, .mv (.c (.int .i64 0))⟩] none)
  (.sq (.op 0 [⟨(some 3), none, .fa (.t 1) 0⟩,
    ⟨(some 4), none, .ld (.t 3) 1 false⟩,
    ⟨(some 5), none, .fa (.t 1) 1⟩,
    ⟨(some 6), none, .ld (.t 5) 1 false⟩,
    ⟨(some 7), none, .len false (.t 6)⟩,
    ⟨(some 8), none, .bin .add (.t 4) (.t 7)⟩,
    ⟨(some 2), none, .mv (.t 8)⟩] (some [2]))
  .rt)),
  [.t 2]⟩
def b_ratchetref28_PathErr_L0 : IR :=
 (.sq (.sq (.op 0 [⟨(some 9), none, .mv (.t 5)⟩,
   ⟨(some 10), none, .mv (.t 1)⟩,
   ⟨(some 11), none, .len false (.t 10)⟩,
   ⟨(some 12), none, .bin .lss (.t 9) (.t 11)⟩] (some [1, 2, 5, 12]))
 (.cd (.t 12)
  .sk
  (.ex 0)))
 (.sq (.bk 1 (.sq (.sq (.op 26 [⟨(some 15), none, .mv (.t 5)⟩,
    ⟨(some 16), none, .bin .eql (.t 15) (.c (.int .i64 0))⟩,
    ⟨(some 17), none, .mv (.t 16)⟩,
    ⟨(some 18), (some (17, true)), .mv (.t 1)⟩,
    ⟨(some 19), (some (17, true)), .mv (.t 5)⟩,
    ⟨(some 20), (some (17, true)), .ia (.t 18) (.t 19) 1⟩,
    ⟨(some 21), (some (17, true)), .ld (.t 20) 1 false⟩,
    ⟨(some 22), (some (17, true)), .fa (.t 2) 0⟩,
    ⟨(some 23), (some (17, true)), .ld (.t 22) 1 false⟩,
    ⟨(some 24), (some (17, true)), .bin .sub (.t 23) (.c (.int .i64 1))⟩,
    ⟨(some 25), (some (17, true)), .callV true (.c (.fn n_ratchetbase_Within [])) [(.t 21), (.c (.int .i64 0)), (.t 24)]⟩,
    ⟨(some 26), (some (17, true)), .un .not (.t 25)⟩,
    ⟨(some 27), none, .pick (.t 17) (.t 26) (.c (.bool false))⟩,
    ⟨(some 28), none, .mv (.t 27)⟩,
    ⟨(some 29), (some (28, false)), .mv (.t 5)⟩,
    ⟨(some 30), (some (28, false)), .bin .gtr (.t 29) (.c (.int .i64 0))⟩,
    ⟨(some 31), (some (28, false)), .mv (.t 30)⟩,
    ⟨(some 32), (some (31, true)), .mv (.t 1)⟩,
    ⟨(some 33), (some (31, true)), .mv (.t 5)⟩,
    ⟨(some 34), (some (31, true)), .ia (.t 32) (.t 33) 1⟩,
    ⟨(some 35), (some (31, true)), .ld (.t 34) 1 false⟩,
    ⟨(some 36), (some (31, true)), .fa (.t 2) 0⟩,
    ⟨(some 37), (some (31, true)), .ld (.t 36) 1 false⟩,
    ⟨(some 38), (some (31, true)), .ld (.t 2) 3 true⟩,
    ⟨(some 39), (some (31, true)), .callV true (.c (.fn n_ratchetref28_Points [])) [(.t 38)]⟩,
    ⟨(some 40), (some (31, true)), .bin .sub (.t 39) (.c (.int .i64 1))⟩,
    ⟨(some 41), (some (31, true)), .callV true (.c (.fn n_ratchetbase_Within [])) [(.t 35), (.t 37), (.t 40)]⟩,
    ⟨(some 42), (some (31, true)), .un .not (.t 41)⟩,
    ⟨(some 43), (some (28, false)), .pick (.t 31) (.t 42) (.c (.bool false))⟩,
    ⟨(some 44), none, .pick (.t 28) (.c (.bool true)) (.t 43)⟩] (some [1, 2, 5, 44]))
  (.cd (.t 44)
   (.sq (.op 0 [⟨(some 4), none, .mv (.c (.int .i64 6))⟩] none)
   .rt)
   .sk))
  (.sq (.op 21 [⟨(some 45), none, .mv (.t 5)⟩,
    ⟨(some 46), none, .bin .gtr (.t 45) (.c (.int .i64 0))⟩,
    ⟨(some 47), none, .mv (.t 46)⟩,
    ⟨(some 48), (some (47, true)), .fa (.t 2) 1⟩,
    ⟨(some 49), (some (47, true)), .ld (.t 48) 1 false⟩,
    ⟨(some 50), (some (47, true)), .mv (.t 1)⟩,
    ⟨(some 51), (some (47, true)), .mv (.t 5)⟩,
    ⟨(some 52), (some (47, true)), .ia (.t 50) (.t 51) 1⟩,
    ⟨(some 53), (some (47, true)), .ld (.t 52) 1 false⟩,
    ⟨(some 54), (some (47, true)), .fa (.t 2) 0⟩,
    ⟨(some 55), (some (47, true)), .ld (.t 54) 1 false⟩,
    ⟨(some 56), (some (47, true)), .bin .sub (.t 53) (.t 55)⟩,
    ⟨(some 57), (some (47, true)), .ia (.t 49) (.t 56) 2⟩,
    ⟨(some 58), (some (47, true)), .fa (.t 57) 1⟩,
    ⟨(some 59), (some (47, true)), .ld (.t 58) 1 false⟩,
    ⟨(some 60), (some (47, true)), .mv (.t 1)⟩,
    ⟨(some 61), (some (47, true)), .mv (.t 5)⟩,
    ⟨(some 62), (some (47, true)), .bin .sub (.t 61) (.c (.int .i64 1))⟩,
    ⟨(some 63), (some (47, true)), .ia (.t 60) (.t 62) 1⟩,
    ⟨(some 64), (some (47, true)), .ld (.t 63) 1 false⟩,
    ⟨(some 65), (some (47, true)), .bin .add (.t 64) (.c (.int .i64 2))⟩,
    ⟨(some 66), (some (47, true)), .callV true (.c (.fn n_ratchetbase_Has [])) [(.t 59), (.t 65)]⟩,
    ⟨(some 67), (some (47, true)), .un .not (.t 66)⟩,
    ⟨(some 68), none, .pick (.t 47) (.t 67) (.c (.bool false))⟩] (some [1, 2, 5, 68]))
  (.cd (.t 68)
   (.sq (.op 0 [⟨(some 4), none, .mv (.c (.int .i64 14))⟩] none)
   .rt)
   .sk))))
 (.op 0 [⟨(some 13), none, .mv (.t 5)⟩,
   ⟨(some 14), none, .bin .add (.t 13) (.c (.int .i64 1))⟩,
   ⟨(some 5), none, .mv (.t 14)⟩] none)))
def c_ratchetref28_PathErr_L0 : IR := b_ratchetref28_PathErr_L0
theorem u_ratchetref28_PathErr_L0 {C : Call} {L : Loop} {π : Id} {k0 : List Id} {e : Env} {s : Sto} : evC C L π k0 c_ratchetref28_PathErr_L0 e s = evC C L π k0 b_ratchetref28_PathErr_L0 e s := rfl
def c_ratchetref28_PathErr : FnIR := ⟨80,
  (.sq (.op 0 [⟨(some 2), none, .box (.t 0) 3⟩,
    ⟨(some 4), none, .mv (.c (.int .i64 0))⟩] none)
  (.sq (.sq (.op 0 [⟨(some 6), none, .mv (.t 1)⟩,
    ⟨(some 7), none, .len false (.t 6)⟩,
    ⟨(some 8), none, .bin .eql (.t 7) (.c (.int .i64 0))⟩] none)
  (.cd (.t 8)
   (.sq (.op 0 [⟨(some 4), none, .mv (.c (.int .i64 10))⟩] none)
   .rt)
   .sk))
  (.sq (.sq (.op 0 [⟨(some 5), none, .mv (.c (.int .i64 0))⟩] none)
  (.kp [1, 2] [4] (.bk 0 (.lp [] [1, 2, 5] c_ratchetref28_PathErr_L0))))
  (.sq (.sq (.op 9 [⟨(some 69), none, .fa (.t 2) 2⟩,
    ⟨(some 70), none, .ld (.t 69) 1 false⟩,
    ⟨(some 71), none, .mv (.t 1)⟩,
    ⟨(some 72), none, .mv (.t 1)⟩,
    ⟨(some 73), none, .len false (.t 72)⟩,
    ⟨(some 74), none, .bin .sub (.t 73) (.c (.int .i64 1))⟩,
    ⟨(some 75), none, .ia (.t 71) (.t 74) 1⟩,
    ⟨(some 76), none, .ld (.t 75) 1 false⟩,
    ⟨(some 77), none, .bin .add (.t 76) (.c (.int .i64 2))⟩,
    ⟨(some 78), none, .callV true (.c (.fn n_ratchetbase_Has [])) [(.t 70), (.t 77)]⟩,
    ⟨(some 79), none, .un .not (.t 78)⟩] (some [79]))
  (.cd (.t 79)
   (.sq (.op 0 [⟨(some 4), none, .mv (.c (.int .i64 21))⟩] none)
   .rt)
   .sk))
  (.sq (.op 0 [⟨(some 4), none, .mv (.c (.int .i64 0))⟩] none)
  .rt))))),
  [.t 4]⟩
def b_timing_RangesOf_L0 : IR :=
 (.sq (.op 0 [⟨(some 36), none, .bin .lss (.t 35) (.t 34)⟩] none)
 (.sq (.cd (.t 36)
  .sk
  (.ex 0))
 (.sq (.bk 1 (.sq (.op 0 [⟨(some 37), none, .mv (.t 35)⟩,
    ⟨(some 15), none, .mv (.t 37)⟩] none)
  (.op 9 [⟨(some 38), none, .mv (.t 14)⟩,
    ⟨(some 39), none, .mv (.t 12)⟩,
    ⟨(some 40), none, .mv (.t 15)⟩,
    ⟨(some 41), none, .ia (.t 39) (.t 40) 1⟩,
    ⟨(some 42), none, .ld (.t 41) 1 false⟩,
    ⟨(some 43), none, .mv (.t 13)⟩,
    ⟨(some 44), none, .mv (.t 15)⟩,
    ⟨(some 45), none, .ia (.t 43) (.t 44) 1⟩,
    ⟨(some 46), none, .ld (.t 45) 1 false⟩,
    ⟨(some 47), none, .build [.int .i64 0, .int .i64 0] [(0, 1, (.t 42)), (1, 1, (.t 46))]⟩,
    ⟨(some 48), none, .bsl t_api_Range 2 true [.int .i64 0, .int .i64 0] 1 [(0, (.t 47))]⟩,
    ⟨(some 49), none, .app (.t 38) (.t 48) t_api_Range 2⟩,
    ⟨(some 14), none, .mv (.t 49)⟩] (some [12, 13, 14, 34, 35]))))
 (.op 0 [⟨(some 50), none, .bin .add (.t 35) (.c (.int .i64 1))⟩,
   ⟨(some 35), none, .mv (.t 50)⟩] none))))
def c_timing_RangesOf_L0 : IR := b_timing_RangesOf_L0
theorem u_timing_RangesOf_L0 {C : Call} {L : Loop} {π : Id} {k0 : List Id} {e : Env} {s : Sto} : evC C L π k0 c_timing_RangesOf_L0 e s = evC C L π k0 b_timing_RangesOf_L0 e s := rfl
def c_timing_RangesOf : FnIR := ⟨52,
  (.sq (.op 0 [⟨(some 5), none, .box (.t 1) 3⟩,
    ⟨(some 6), none, .box (.t 2) 5⟩,
    ⟨(some 8), none, .mv (.c (.sl 2 (some true) []))⟩,
    ⟨(some 9), none, .mv (.c (.int .i64 0))⟩] (some [0, 3, 5, 6]))
  (.sq (.op 0 [⟨(some 17), none, .mv (.t 0)⟩,
    ⟨(some 18), none, .ld (.t 5) 3 true⟩,
    ⟨(some 19), none, .ld (.t 6) 5 true⟩,
    ⟨(some 20), none, .mv (.t 3)⟩,
    ⟨(some 21), none, .callV false (.c (.fn n_timing_openTimes [])) [(.t 17), (.t 18), (.t 19), (.t 20)]⟩,
    ⟨(some 16), none, .mv (.t 21)⟩,
    ⟨(some 22), none, .ext (.t 16) 0⟩,
    ⟨(some 23), none, .ext (.t 16) 1⟩,
    ⟨(some 10), none, .alloc [.int .i64 0, .sl 2 (some true) [], .sl 1 (some true) [], .sl 5 (some true) [], .int .i64 0, .int .i64 0, .int .i64 0, .int .i64 0, .int .i64 0, .sl 1 (some true) []]⟩,
    ⟨none, none, .st (.t 10) (.t 22) 10⟩,
    ⟨(some 11), none, .mv (.t 23)⟩] (some [3, 10, 11]))
  (.sq (.sq (.op 0 [⟨(some 24), none, .mv (.t 11)⟩,
    ⟨(some 25), none, .bin .neq (.t 24) (.c (.int .i64 0))⟩] none)
  (.cd (.t 25)
   (.sq (.op 0 [⟨(some 26), none, .mv (.t 11)⟩,
     ⟨(some 8), none, .mv (.c (.sl 2 (some true) []))⟩,
     ⟨(some 9), none, .mv (.t 26)⟩] none)
   .rt)
   .sk))
  (.sq (.op 0 [⟨(some 28), none, .ld (.t 10) 10 true⟩,
    ⟨(some 29), none, .mv (.t 3)⟩,
    ⟨(some 30), none, .callV false (.c (.fn n_timing_timed_ends [])) [(.t 28), (.t 29)]⟩,
    ⟨(some 27), none, .mv (.t 30)⟩,
    ⟨(some 31), none, .ext (.t 27) 0⟩,
    ⟨(some 32), none, .ext (.t 27) 1⟩,
    ⟨(some 12), none, .mv (.t 31)⟩,
    ⟨(some 13), none, .mv (.t 32)⟩] (some [12, 13]))
  (.sq (.op 0 [⟨(some 14), none, .mv (.c (.sl 2 (some true) []))⟩] none)
  (.sq (.sq (.op 0 [⟨(some 33), none, .mv (.t 12)⟩,
    ⟨(some 34), none, .len false (.t 33)⟩,
    ⟨(some 35), none, .mv (.c (.int .i64 0))⟩] none)
  (.kp [14] [8, 9] (.bk 0 (.lp [(t_api_Range, .inl 14)] [12, 13, 14, 34, 35] c_timing_RangesOf_L0))))
  (.sq (.op 0 [⟨(some 51), none, .mv (.t 14)⟩,
    ⟨(some 8), none, .mv (.t 51)⟩,
    ⟨(some 9), none, .mv (.c (.int .i64 0))⟩] none)
  .rt))))))),
  [.t 8, .t 9]⟩
def b_ratchetbase_Ranges_L0 : IR :=
 (.sq (.sq (.op 0 [⟨(some 11), none, .mv (.t 5)⟩,
   ⟨(some 12), none, .mv (.t 0)⟩,
   ⟨(some 13), none, .len false (.t 12)⟩,
   ⟨(some 14), none, .bin .lss (.t 11) (.t 13)⟩] (some [0, 1, 5, 14]))
 (.cd (.t 14)
  .sk
  (.ex 0)))
 (.sq (.bk 1 (.sq (.op 8 [⟨(some 17), none, .mv (.t 0)⟩,
    ⟨(some 18), none, .mv (.t 5)⟩,
    ⟨(some 19), none, .ia (.t 17) (.t 18) 2⟩,
    ⟨(some 20), none, .ld (.t 19) 2 true⟩,
    ⟨(some 21), none, .mv (.t 1)⟩,
    ⟨(some 22), none, .mv (.t 5)⟩,
    ⟨(some 23), none, .ia (.t 21) (.t 22) 2⟩,
    ⟨(some 24), none, .ld (.t 23) 2 true⟩,
    ⟨(some 25), none, .aeq true 2 (.t 20) (.t 24)⟩] (some [0, 1, 5, 25]))
  (.cd (.t 25)
   (.sq (.op 0 [⟨(some 4), none, .mv (.c (.bool false))⟩] none)
   .rt)
   .sk)))
 (.op 0 [⟨(some 15), none, .mv (.t 5)⟩,
   ⟨(some 16), none, .bin .add (.t 15) (.c (.int .i64 1))⟩,
   ⟨(some 5), none, .mv (.t 16)⟩] none)))
def c_ratchetbase_Ranges_L0 : IR := b_ratchetbase_Ranges_L0
theorem u_ratchetbase_Ranges_L0 {C : Call} {L : Loop} {π : Id} {k0 : List Id} {e : Env} {s : Sto} : evC C L π k0 c_ratchetbase_Ranges_L0 e s = evC C L π k0 b_ratchetbase_Ranges_L0 e s := rfl
def c_ratchetbase_Ranges : FnIR := ⟨26,
  (.sq (.op 0 [⟨(some 4), none, .mv (.c (.bool false))⟩] none)
  (.sq (.sq (.op 0 [⟨(some 6), none, .mv (.t 0)⟩,
    ⟨(some 7), none, .len false (.t 6)⟩,
    ⟨(some 8), none, .mv (.t 1)⟩,
    ⟨(some 9), none, .len false (.t 8)⟩,
    ⟨(some 10), none, .bin .neq (.t 7) (.t 9)⟩] (some [0, 1, 10]))
  (.cd (.t 10)
   (.sq (.op 0 [⟨(some 4), none, .mv (.c (.bool false))⟩] none)
   .rt)
   .sk))
  (.sq (.sq (.op 0 [⟨(some 5), none, .mv (.c (.int .i64 0))⟩] none)
  (.kp [] [4] (.bk 0 (.lp [] [0, 1, 5] c_ratchetbase_Ranges_L0))))
  (.sq (.op 0 [⟨(some 4), none, .mv (.c (.bool true))⟩] none)
  .rt)))),
  [.t 4]⟩
def b_ratchetref28_Corners_L0 : IR :=
 (.sq (.sq (.op 0 [⟨(some 18), none, .mv (.t 10)⟩,
   ⟨(some 19), none, .mv (.t 3)⟩,
   ⟨(some 20), none, .len false (.t 19)⟩,
   ⟨(some 21), none, .bin .lss (.t 18) (.t 20)⟩] (some [0, 3, 5, 6, 9, 10, 21]))
 (.cd (.t 21)
  .sk
  (.ex 0)))
 (.sq (.bk 1 (.op 9 [⟨(some 24), none, .mv (.t 9)⟩,
    ⟨(some 25), none, .mv (.t 3)⟩,
    ⟨(some 26), none, .mv (.t 10)⟩,
    ⟨(some 27), none, .ia (.t 25) (.t 26) 1⟩,
    ⟨(some 28), none, .ld (.t 27) 1 false⟩,
    ⟨(some 29), none, .mv (.t 3)⟩,
    ⟨(some 30), none, .mv (.t 10)⟩,
    ⟨(some 31), none, .ia (.t 29) (.t 30) 1⟩,
    ⟨(some 32), none, .ld (.t 31) 1 false⟩,
    ⟨(some 33), none, .build [.int .i64 0, .int .i64 0] [(0, 1, (.t 28)), (1, 1, (.t 32))]⟩,
    ⟨(some 34), none, .bsl t_api_Range 2 true [.int .i64 0, .int .i64 0] 1 [(0, (.t 33))]⟩,
    ⟨(some 35), none, .app (.t 24) (.t 34) t_api_Range 2⟩,
    ⟨(some 9), none, .mv (.t 35)⟩] (some [0, 3, 5, 6, 9, 10])))
 (.op 0 [⟨(some 22), none, .mv (.t 10)⟩,
   ⟨(some 23), none, .bin .add (.t 22) (.c (.int .i64 1))⟩,
   ⟨(some 10), none, .mv (.t 23)⟩] none)))
def c_ratchetref28_Corners_L0 : IR := b_ratchetref28_Corners_L0
theorem u_ratchetref28_Corners_L0 {C : Call} {L : Loop} {π : Id} {k0 : List Id} {e : Env} {s : Sto} : evC C L π k0 c_ratchetref28_Corners_L0 e s = evC C L π k0 b_ratchetref28_Corners_L0 e s := rfl
def b_ratchetref28_Corners_L2 : IR :=
 (.sq (.sq (.op 0 [⟨(some 47), none, .mv (.t 16)⟩,
   ⟨(some 48), none, .fa (.t 5) 1⟩,
   ⟨(some 49), none, .ld (.t 48) 1 false⟩,
   ⟨(some 50), none, .mv (.t 12)⟩,
   ⟨(some 51), none, .ia (.t 49) (.t 50) 2⟩,
   ⟨(some 52), none, .fa (.t 51) 1⟩,
   ⟨(some 53), none, .ld (.t 52) 1 false⟩,
   ⟨(some 54), none, .len false (.t 53)⟩,
   ⟨(some 55), none, .bin .lss (.t 47) (.t 54)⟩] (some [5, 6, 9, 11, 12, 13, 14, 15, 16, 55]))
 (.cd (.t 55)
  .sk
  (.ex 4)))
 (.sq (.bk 5 (.sq (.op 0 [⟨(some 58), none, .fa (.t 5) 1⟩,
    ⟨(some 59), none, .ld (.t 58) 1 false⟩,
    ⟨(some 60), none, .mv (.t 12)⟩,
    ⟨(some 61), none, .ia (.t 59) (.t 60) 2⟩,
    ⟨(some 62), none, .fa (.t 61) 1⟩,
    ⟨(some 63), none, .ld (.t 62) 1 false⟩,
    ⟨(some 64), none, .mv (.t 16)⟩,
    ⟨(some 65), none, .ia (.t 63) (.t 64) 1⟩,
    ⟨(some 66), none, .ld (.t 65) 1 false⟩,
    ⟨(some 67), none, .callV true (.c (.fn n_ratchetref28_point [])) [(.t 66)]⟩,
    ⟨(some 17), none, .mv (.t 67)⟩] (some [5, 6, 9, 11, 12, 13, 14, 15, 16, 17]))
  (.sq (.sq (.op 0 [⟨(some 68), none, .mv (.t 17)⟩,
    ⟨(some 69), none, .bin .lss (.t 68) (.c (.int .i64 0))⟩] none)
  (.cd (.t 69)
   (.ex 5)
   .sk))
  (.sq (.sq (.op 0 [⟨(some 70), none, .mv (.t 15)⟩,
    ⟨(some 71), none, .un .not (.t 70)⟩,
    ⟨(some 72), none, .mv (.t 71)⟩,
    ⟨(some 73), (some (72, false)), .mv (.t 9)⟩,
    ⟨(some 74), (some (72, false)), .mv (.t 17)⟩,
    ⟨(some 75), (some (72, false)), .ia (.t 73) (.t 74) 2⟩,
    ⟨(some 76), (some (72, false)), .fa (.t 75) 0⟩,
    ⟨(some 77), (some (72, false)), .ld (.t 76) 1 false⟩,
    ⟨(some 78), (some (72, false)), .mv (.t 13)⟩,
    ⟨(some 79), (some (72, false)), .bin .lss (.t 77) (.t 78)⟩,
    ⟨(some 80), none, .pick (.t 72) (.c (.bool true)) (.t 79)⟩] (some [5, 6, 9, 11, 12, 13, 14, 16, 17, 80]))
  (.cd (.t 80)
   (.op 0 [⟨(some 81), none, .mv (.t 9)⟩,
     ⟨(some 82), none, .mv (.t 17)⟩,
     ⟨(some 83), none, .ia (.t 81) (.t 82) 2⟩,
     ⟨(some 84), none, .fa (.t 83) 0⟩,
     ⟨(some 85), none, .ld (.t 84) 1 false⟩,
     ⟨(some 13), none, .mv (.t 85)⟩] (some [5, 6, 9, 11, 12, 13, 14, 16, 17]))
   .sk))
  (.sq (.op 0 [⟨(some 86), none, .mv (.t 14)⟩,
    ⟨(some 87), none, .mv (.t 9)⟩,
    ⟨(some 88), none, .mv (.t 17)⟩,
    ⟨(some 89), none, .ia (.t 87) (.t 88) 2⟩,
    ⟨(some 90), none, .fa (.t 89) 1⟩,
    ⟨(some 91), none, .ld (.t 90) 1 false⟩,
    ⟨(some 92), none, .mm true (.t 86) (.t 91)⟩,
    ⟨(some 14), none, .mv (.t 92)⟩] (some [5, 6, 9, 11, 12, 13, 14, 16]))
  (.op 0 [⟨(some 15), none, .mv (.c (.bool true))⟩] none))))))
 (.op 0 [⟨(some 56), none, .mv (.t 16)⟩,
   ⟨(some 57), none, .bin .add (.t 56) (.c (.int .i64 1))⟩,
   ⟨(some 16), none, .mv (.t 57)⟩] none)))
def c_ratchetref28_Corners_L2 : IR := b_ratchetref28_Corners_L2
theorem u_ratchetref28_Corners_L2 {C : Call} {L : Loop} {π : Id} {k0 : List Id} {e : Env} {s : Sto} : evC C L π k0 c_ratchetref28_Corners_L2 e s = evC C L π k0 b_ratchetref28_Corners_L2 e s := rfl
def b_ratchetref28_Corners_L1 : IR :=
 (.sq (.sq (.op 0 [⟨(some 40), none, .mv (.t 12)⟩,
   ⟨(some 41), none, .fa (.t 5) 1⟩,
   ⟨(some 42), none, .ld (.t 41) 1 false⟩,
   ⟨(some 43), none, .len false (.t 42)⟩,
   ⟨(some 44), none, .bin .lss (.t 40) (.t 43)⟩] (some [5, 6, 9, 11, 12, 44]))
 (.cd (.t 44)
  .sk
  (.ex 2)))
 (.sq (.bk 3 (.sq (.op 0 [⟨(some 13), none, .mv (.c (.int .i64 0))⟩,
    ⟨(some 14), none, .mv (.c (.int .i64 0))⟩,
    ⟨(some 15), none, .mv (.c (.bool false))⟩] none)
  (.sq (.sq (.op 0 [⟨(some 16), none, .mv (.c (.int .i64 0))⟩] none)
  (.kp [5, 6, 9, 11, 12, 13, 14] [8] (.bk 4 (.lp [] [5, 6, 9, 11, 12, 13, 14, 15, 16] c_ratchetref28_Corners_L2))))
  (.op 21 [⟨(some 93), none, .mv (.t 9)⟩,
    ⟨(some 94), none, .mv (.t 13)⟩,
    ⟨(some 95), none, .mv (.t 11)⟩,
    ⟨(some 96), none, .mv (.t 12)⟩,
    ⟨(some 97), none, .ia (.t 95) (.t 96) 1⟩,
    ⟨(some 98), none, .ld (.t 97) 1 false⟩,
    ⟨(some 99), none, .fa (.t 6) 3⟩,
    ⟨(some 100), none, .ld (.t 99) 1 false⟩,
    ⟨(some 101), none, .bin .mul (.t 98) (.t 100)⟩,
    ⟨(some 102), none, .bin .quo (.t 101) (.c (.int .i64 100))⟩,
    ⟨(some 103), none, .bin .add (.t 94) (.t 102)⟩,
    ⟨(some 104), none, .mv (.t 14)⟩,
    ⟨(some 105), none, .mv (.t 11)⟩,
    ⟨(some 106), none, .mv (.t 12)⟩,
    ⟨(some 107), none, .ia (.t 105) (.t 106) 1⟩,
    ⟨(some 108), none, .ld (.t 107) 1 false⟩,
    ⟨(some 109), none, .fa (.t 6) 4⟩,
    ⟨(some 110), none, .ld (.t 109) 1 false⟩,
    ⟨(some 111), none, .bin .mul (.t 108) (.t 110)⟩,
    ⟨(some 112), none, .callV true (.c (.fn n_ratchetbase_Ceil [])) [(.t 111), (.c (.int .i64 100))]⟩,
    ⟨(some 113), none, .bin .add (.t 104) (.t 112)⟩,
    ⟨(some 114), none, .build [.int .i64 0, .int .i64 0] [(0, 1, (.t 103)), (1, 1, (.t 113))]⟩,
    ⟨(some 115), none, .bsl t_api_Range 2 true [.int .i64 0, .int .i64 0] 1 [(0, (.t 114))]⟩,
    ⟨(some 116), none, .app (.t 93) (.t 115) t_api_Range 2⟩,
    ⟨(some 9), none, .mv (.t 116)⟩] (some [5, 6, 9, 11, 12])))))
 (.op 0 [⟨(some 45), none, .mv (.t 12)⟩,
   ⟨(some 46), none, .bin .add (.t 45) (.c (.int .i64 1))⟩,
   ⟨(some 12), none, .mv (.t 46)⟩] none)))
def c_ratchetref28_Corners_L1 : IR := b_ratchetref28_Corners_L1
theorem u_ratchetref28_Corners_L1 {C : Call} {L : Loop} {π : Id} {k0 : List Id} {e : Env} {s : Sto} : evC C L π k0 c_ratchetref28_Corners_L1 e s = evC C L π k0 b_ratchetref28_Corners_L1 e s := rfl
def c_ratchetref28_Corners : FnIR := ⟨118,
  (.sq (.op 0 [⟨(some 5), none, .box (.t 1) 3⟩,
    ⟨(some 6), none, .box (.t 2) 5⟩,
    ⟨(some 8), none, .mv (.c (.sl 2 (some true) []))⟩] none)
  (.sq (.op 0 [⟨(some 9), none, .mv (.c (.sl 2 (some true) []))⟩] none)
  (.sq (.sq (.op 0 [⟨(some 10), none, .mv (.c (.int .i64 0))⟩] none)
  (.kp [0, 5, 6, 9] [8] (.bk 0 (.lp [(t_api_Range, .inl 9)] [0, 3, 5, 6, 9, 10] c_ratchetref28_Corners_L0))))
  (.sq (.op 0 [⟨(some 36), none, .mv (.t 0)⟩,
    ⟨(some 37), none, .ld (.t 5) 3 true⟩,
    ⟨(some 38), none, .ld (.t 6) 5 true⟩,
    ⟨(some 39), none, .callV false (.c (.fn n_ratchetref28_Delays [])) [(.t 36), (.t 37), (.t 38)]⟩,
    ⟨(some 11), none, .mv (.t 39)⟩] (some [5, 6, 9, 11]))
  (.sq (.sq (.op 0 [⟨(some 12), none, .mv (.c (.int .i64 0))⟩] none)
  (.kp [9] [8] (.bk 2 (.lp [(t_api_Range, .inl 9)] [5, 6, 9, 11, 12] c_ratchetref28_Corners_L1))))
  (.sq (.op 0 [⟨(some 117), none, .mv (.t 9)⟩,
    ⟨(some 8), none, .mv (.t 117)⟩] none)
  .rt)))))),
  [.t 8]⟩
def c_ratchetbase_Mod : FnIR := ⟨14,
  (.sq (.op 0 [⟨(some 4), none, .mv (.c (.int .i64 0))⟩] none)
  (.sq (.op 0 [⟨(some 5), none, .mv (.t 0)⟩,
    ⟨(some 6), none, .mv (.t 1)⟩,
    ⟨(some 7), none, .bin .rem (.t 5) (.t 6)⟩,
    ⟨(some 0), none, .mv (.t 7)⟩] (some [0, 1]))
  (.sq (.sq (.op 0 [⟨(some 8), none, .mv (.t 0)⟩,
    ⟨(some 9), none, .bin .lss (.t 8) (.c (.int .i64 0))⟩] none)
  (.cd (.t 9)
   (.op 0 [⟨(some 10), none, .mv (.t 0)⟩,
     ⟨(some 11), none, .mv (.t 1)⟩,
     ⟨(some 12), none, .bin .add (.t 10) (.t 11)⟩,
     ⟨(some 0), none, .mv (.t 12)⟩] (some [0]))
   .sk))
  (.sq (.op 0 [⟨(some 13), none, .mv (.t 0)⟩,
    ⟨(some 4), none, .mv (.t 13)⟩] none)
  .rt)))),
  [.t 4]⟩
def c_ratchetbase_Within : FnIR := ⟨15,
  (.sq (.op 0 [⟨(some 6), none, .mv (.c (.bool false))⟩] none)
  (.sq (.op 0 [⟨(some 7), none, .mv (.t 1)⟩,
    ⟨(some 8), none, .mv (.t 0)⟩,
    ⟨(some 9), none, .bin .leq (.t 7) (.t 8)⟩,
    ⟨(some 10), none, .mv (.t 9)⟩,
    ⟨(some 11), (some (10, true)), .mv (.t 0)⟩,
    ⟨(some 12), (some (10, true)), .mv (.t 2)⟩,
    ⟨(some 13), (some (10, true)), .bin .leq (.t 11) (.t 12)⟩,
    ⟨(some 14), none, .pick (.t 10) (.t 13) (.c (.bool false))⟩,
    ⟨(some 6), none, .mv (.t 14)⟩] (some [6]))
  .rt)),
  [.t 6]⟩
def c_timing_PeriodOf : FnIR := ⟨45,
  (.sq (.op 0 [⟨(some 6), none, .box (.t 1) 3⟩,
    ⟨(some 7), none, .box (.t 2) 5⟩,
    ⟨(some 10), none, .mv (.c (.int .i64 0))⟩,
    ⟨(some 11), none, .mv (.c (.int .i64 0))⟩] (some [0, 3, 4, 6, 7]))
  (.sq (.op 0 [⟨(some 16), none, .mv (.t 0)⟩,
    ⟨(some 17), none, .ld (.t 6) 3 true⟩,
    ⟨(some 18), none, .ld (.t 7) 5 true⟩,
    ⟨(some 19), none, .mv (.t 3)⟩,
    ⟨(some 20), none, .mv (.t 4)⟩,
    ⟨(some 21), none, .callV true (.c (.fn n_timing_openRegisters [])) [(.t 16), (.t 17), (.t 18), (.t 19), (.t 20)]⟩,
    ⟨(some 15), none, .mv (.t 21)⟩,
    ⟨(some 22), none, .ext (.t 15) 0⟩,
    ⟨(some 23), none, .ext (.t 15) 1⟩,
    ⟨(some 24), none, .ext (.t 15) 2⟩,
    ⟨(some 12), none, .alloc [.int .i64 0, .sl 2 (some true) [], .sl 1 (some true) [], .sl 5 (some true) [], .int .i64 0, .int .i64 0, .int .i64 0, .int .i64 0, .int .i64 0, .sl 1 (some true) []]⟩,
    ⟨none, none, .st (.t 12) (.t 22) 10⟩,
    ⟨(some 13), none, .mv (.t 23)⟩,
    ⟨(some 14), none, .mv (.t 24)⟩] (some [3, 6, 7, 12, 13, 14]))
  (.sq (.sq (.op 0 [⟨(some 25), none, .mv (.t 14)⟩,
    ⟨(some 26), none, .mv (.t 3)⟩,
    ⟨(some 27), none, .bin .neq (.t 26) (.c (.int .i64 0))⟩,
    ⟨(some 28), none, .callV true (.c (.fn n_timing_unless [])) [(.t 27), (.c (.int .i64 12))]⟩,
    ⟨(some 29), none, .bsl t_api_Errno 1 false [.int .i64 0] 2 [(0, (.t 25)), (1, (.t 28))]⟩,
    ⟨(some 30), none, .callV true (.c (.fn n_timing_first [])) [(.t 29)]⟩,
    ⟨(some 14), none, .mv (.t 30)⟩] (some [3, 6, 7, 12, 13, 14]))
  (.sq (.op 0 [⟨(some 31), none, .mv (.t 14)⟩,
    ⟨(some 32), none, .bin .neq (.t 31) (.c (.int .i64 0))⟩] none)
  (.cd (.t 32)
   (.sq (.op 0 [⟨(some 33), none, .mv (.t 14)⟩,
     ⟨(some 10), none, .mv (.c (.int .i64 0))⟩,
     ⟨(some 11), none, .mv (.t 33)⟩] none)
   .rt)
   .sk)))
  (.sq (.op 10 [⟨(some 34), none, .fa (.t 6) 2⟩,
    ⟨(some 35), none, .ld (.t 34) 1 false⟩,
    ⟨(some 36), none, .mv (.t 3)⟩,
    ⟨(some 37), none, .slc false (.t 35) none (some (.t 36)) 1⟩,
    ⟨(some 38), none, .ld (.t 12) 10 true⟩,
    ⟨(some 39), none, .mv (.t 13)⟩,
    ⟨(some 40), none, .callV true (.c (.fn n_timing_timed_arrivals [])) [(.t 38), (.t 39)]⟩,
    ⟨(some 41), none, .callV true (.c (.fn n_timing_greatest [])) [(.t 37), (.t 40)]⟩,
    ⟨(some 42), none, .fa (.t 7) 1⟩,
    ⟨(some 43), none, .ld (.t 42) 1 false⟩,
    ⟨(some 44), none, .bin .add (.t 41) (.t 43)⟩,
    ⟨(some 10), none, .mv (.t 44)⟩,
    ⟨(some 11), none, .mv (.c (.int .i64 0))⟩] (some [10, 11]))
  .rt)))),
  [.t 10, .t 11]⟩
def b_timing_HoldsIn_L0 : IR :=
 (.sq (.op 0 [⟨(some 45), none, .bin .lss (.t 44) (.t 43)⟩] none)
 (.sq (.cd (.t 45)
  .sk
  (.ex 0))
 (.sq (.bk 1 (.sq (.op 0 [⟨(some 46), none, .ia (.t 42) (.t 44) 1⟩,
    ⟨(some 47), none, .ld (.t 46) 1 false⟩,
    ⟨(some 19), none, .mv (.t 47)⟩] none)
  (.op 7 [⟨(some 48), none, .mv (.t 17)⟩,
    ⟨(some 49), none, .mv (.t 19)⟩,
    ⟨(some 50), none, .bsl t_int 1 false [.int .i64 0] 1 [(0, (.t 49))]⟩,
    ⟨(some 51), none, .mv (.t 15)⟩,
    ⟨(some 52), none, .callV true (.c (.fn n_timing_least [])) [(.t 50), (.t 51)]⟩,
    ⟨(some 53), none, .fa (.t 7) 2⟩,
    ⟨(some 54), none, .ld (.t 53) 1 false⟩,
    ⟨(some 55), none, .bin .geq (.t 52) (.t 54)⟩,
    ⟨(some 56), none, .bsl t_bool 1 false [.bool false] 1 [(0, (.t 55))]⟩,
    ⟨(some 57), none, .app (.t 48) (.t 56) t_bool 1⟩,
    ⟨(some 17), none, .mv (.t 57)⟩] (some [7, 15, 17, 42, 43, 44]))))
 (.op 0 [⟨(some 58), none, .bin .add (.t 44) (.c (.int .i64 1))⟩,
   ⟨(some 44), none, .mv (.t 58)⟩] none))))
def c_timing_HoldsIn_L0 : IR := b_timing_HoldsIn_L0
theorem u_timing_HoldsIn_L0 {C : Call} {L : Loop} {π : Id} {k0 : List Id} {e : Env} {s : Sto} : evC C L π k0 c_timing_HoldsIn_L0 e s = evC C L π k0 b_timing_HoldsIn_L0 e s := rfl
def c_timing_HoldsIn : FnIR := ⟨60,
  (.sq (.op 0 [⟨(some 6), none, .box (.t 1) 3⟩,
    ⟨(some 7), none, .box (.t 2) 5⟩,
    ⟨(some 10), none, .mv (.c (.sl 1 (some true) []))⟩,
    ⟨(some 11), none, .mv (.c (.int .i64 0))⟩] (some [0, 3, 4, 6, 7]))
  (.sq (.op 0 [⟨(some 21), none, .mv (.t 0)⟩,
    ⟨(some 22), none, .ld (.t 6) 3 true⟩,
    ⟨(some 23), none, .ld (.t 7) 5 true⟩,
    ⟨(some 24), none, .mv (.t 3)⟩,
    ⟨(some 25), none, .mv (.t 4)⟩,
    ⟨(some 26), none, .callV true (.c (.fn n_timing_openRegisters [])) [(.t 21), (.t 22), (.t 23), (.t 24), (.t 25)]⟩,
    ⟨(some 20), none, .mv (.t 26)⟩,
    ⟨(some 27), none, .ext (.t 20) 0⟩,
    ⟨(some 28), none, .ext (.t 20) 1⟩,
    ⟨(some 29), none, .ext (.t 20) 2⟩,
    ⟨(some 12), none, .alloc [.int .i64 0, .sl 2 (some true) [], .sl 1 (some true) [], .sl 5 (some true) [], .int .i64 0, .int .i64 0, .int .i64 0, .int .i64 0, .int .i64 0, .sl 1 (some true) []]⟩,
    ⟨none, none, .st (.t 12) (.t 27) 10⟩,
    ⟨(some 13), none, .mv (.t 28)⟩,
    ⟨(some 14), none, .mv (.t 29)⟩] (some [3, 6, 7, 12, 13, 14]))
  (.sq (.sq (.op 0 [⟨(some 30), none, .mv (.t 14)⟩,
    ⟨(some 31), none, .bin .neq (.t 30) (.c (.int .i64 0))⟩] none)
  (.cd (.t 31)
   (.sq (.op 0 [⟨(some 32), none, .mv (.t 14)⟩,
     ⟨(some 10), none, .mv (.c (.sl 1 (some true) []))⟩,
     ⟨(some 11), none, .mv (.t 32)⟩] none)
   .rt)
   .sk))
  (.sq (.op 0 [⟨(some 34), none, .ld (.t 12) 10 true⟩,
    ⟨(some 35), none, .mv (.t 13)⟩,
    ⟨(some 36), none, .callV false (.c (.fn n_timing_timed_ends [])) [(.t 34), (.t 35)]⟩,
    ⟨(some 33), none, .mv (.t 36)⟩,
    ⟨(some 37), none, .ext (.t 33) 0⟩,
    ⟨(some 38), none, .ext (.t 33) 1⟩,
    ⟨(some 15), none, .mv (.t 37)⟩,
    ⟨(some 16), none, .mv (.t 38)⟩] (some [3, 6, 7, 15]))
  (.sq (.op 0 [⟨(some 17), none, .mv (.c (.sl 1 (some true) []))⟩] none)
  (.sq (.sq (.op 0 [⟨(some 39), none, .fa (.t 6) 2⟩,
    ⟨(some 40), none, .ld (.t 39) 1 false⟩,
    ⟨(some 41), none, .mv (.t 3)⟩,
    ⟨(some 42), none, .slc false (.t 40) none (some (.t 41)) 1⟩,
    ⟨(some 43), none, .len false (.t 42)⟩,
    ⟨(some 44), none, .mv (.c (.int .i64 0))⟩] (some [7, 15, 17, 42, 43, 44]))
  (.kp [17] [10, 11] (.bk 0 (.lp [(t_bool, .inl 17)] [7, 15, 17, 42, 43, 44] c_timing_HoldsIn_L0))))
  (.sq (.op 0 [⟨(some 59), none, .mv (.t 17)⟩,
    ⟨(some 10), none, .mv (.t 59)⟩,
    ⟨(some 11), none, .mv (.c (.int .i64 0))⟩] none)
  .rt))))))),
  [.t 10, .t 11]⟩
def c_ratchetref28_RegistersErr : FnIR := ⟨17,
  (.sq (.op 0 [⟨(some 2), none, .box (.t 0) 3⟩,
    ⟨(some 4), none, .mv (.c (.int .i64 0))⟩] none)
  (.sq (.sq (.op 0 [⟨(some 5), none, .mv (.t 1)⟩,
    ⟨(some 6), none, .fa (.t 2) 0⟩,
    ⟨(some 7), none, .ld (.t 6) 1 false⟩,
    ⟨(some 8), none, .callV true (.c (.fn n_ratchetbase_Within [])) [(.t 5), (.c (.int .i64 0)), (.t 7)]⟩,
    ⟨(some 9), none, .un .not (.t 8)⟩,
    ⟨(some 10), none, .mv (.t 9)⟩,
    ⟨(some 11), (some (10, false)), .mv (.t 1)⟩,
    ⟨(some 12), (some (10, false)), .fa (.t 2) 2⟩,
    ⟨(some 13), (some (10, false)), .ld (.t 12) 1 false⟩,
    ⟨(some 14), (some (10, false)), .len false (.t 13)⟩,
    ⟨(some 15), (some (10, false)), .bin .gtr (.t 11) (.t 14)⟩,
    ⟨(some 16), none, .pick (.t 10) (.c (.bool true)) (.t 15)⟩] (some [16]))
  (.cd (.t 16)
   (.sq (.op 0 [⟨(some 4), none, .mv (.c (.int .i64 2))⟩] none)
   .rt)
   .sk))
  (.sq (.op 0 [⟨(some 4), none, .mv (.c (.int .i64 0))⟩] none)
  .rt))),
  [.t 4]⟩
def b_ratchetref28_Holds_L0 : IR :=
 (.sq (.sq (.op 0 [⟨(some 23), none, .mv (.t 13)⟩,
   ⟨(some 24), none, .mv (.t 3)⟩,
   ⟨(some 25), none, .bin .lss (.t 23) (.t 24)⟩] none)
 (.cd (.t 25)
  .sk
  (.ex 0)))
 (.sq (.bk 1 (.sq (.op 0 [⟨(some 14), none, .mv (.c (.int .i64 0))⟩] none)
  (.sq (.sq (.op 0 [⟨(some 28), none, .fa (.t 6) 2⟩,
    ⟨(some 29), none, .ld (.t 28) 1 false⟩,
    ⟨(some 30), none, .mv (.t 13)⟩,
    ⟨(some 31), none, .ia (.t 29) (.t 30) 1⟩,
    ⟨(some 32), none, .ld (.t 31) 1 false⟩,
    ⟨(some 33), none, .callV true (.c (.fn n_ratchetref28_point [])) [(.t 32)]⟩,
    ⟨(some 15), none, .mv (.t 33)⟩] (some [3, 6, 7, 11, 12, 13, 14, 15]))
  (.sq (.op 0 [⟨(some 34), none, .mv (.t 15)⟩,
    ⟨(some 35), none, .bin .geq (.t 34) (.c (.int .i64 0))⟩] none)
  (.cd (.t 35)
   (.op 0 [⟨(some 36), none, .mv (.t 11)⟩,
     ⟨(some 37), none, .mv (.t 15)⟩,
     ⟨(some 38), none, .ia (.t 36) (.t 37) 2⟩,
     ⟨(some 39), none, .fa (.t 38) 0⟩,
     ⟨(some 40), none, .ld (.t 39) 1 false⟩,
     ⟨(some 14), none, .mv (.t 40)⟩] (some [3, 6, 7, 11, 12, 13, 14]))
   .sk)))
  (.op 0 [⟨(some 41), none, .mv (.t 12)⟩,
    ⟨(some 42), none, .mv (.t 14)⟩,
    ⟨(some 43), none, .fa (.t 7) 2⟩,
    ⟨(some 44), none, .ld (.t 43) 1 false⟩,
    ⟨(some 45), none, .bin .geq (.t 42) (.t 44)⟩,
    ⟨(some 46), none, .bsl t_bool 1 false [.bool false] 1 [(0, (.t 45))]⟩,
    ⟨(some 47), none, .app (.t 41) (.t 46) t_bool 1⟩,
    ⟨(some 12), none, .mv (.t 47)⟩] (some [3, 6, 7, 11, 12, 13])))))
 (.op 0 [⟨(some 26), none, .mv (.t 13)⟩,
   ⟨(some 27), none, .bin .add (.t 26) (.c (.int .i64 1))⟩,
   ⟨(some 13), none, .mv (.t 27)⟩] none)))
def c_ratchetref28_Holds_L0 : IR := b_ratchetref28_Holds_L0
theorem u_ratchetref28_Holds_L0 {C : Call} {L : Loop} {π : Id} {k0 : List Id} {e : Env} {s : Sto} : evC C L π k0 c_ratchetref28_Holds_L0 e s = evC C L π k0 b_ratchetref28_Holds_L0 e s := rfl
def c_ratchetref28_Holds : FnIR := ⟨49,
  (.sq (.op 0 [⟨(some 6), none, .box (.t 1) 3⟩,
    ⟨(some 7), none, .box (.t 2) 5⟩,
    ⟨(some 10), none, .mv (.c (.sl 1 (some true) []))⟩] none)
  (.sq (.fz [4] (.op 6 [⟨(some 16), none, .mv (.t 0)⟩,
    ⟨(some 17), none, .ld (.t 6) 3 true⟩,
    ⟨(some 18), none, .ld (.t 7) 5 true⟩,
    ⟨(some 19), none, .mv (.t 3)⟩,
    ⟨(some 20), none, .mv (.t 4)⟩,
    ⟨(some 21), none, .callV false (.c (.fn n_ratchetref28_From [])) [(.t 19), (.t 20)]⟩,
    ⟨(some 22), none, .callV false (.c (.fn n_ratchetref28_Corners [])) [(.t 16), (.t 17), (.t 18), (.t 21)]⟩,
    ⟨(some 11), none, .mv (.t 22)⟩] (some [3, 6, 7, 11])))
  (.sq (.op 0 [⟨(some 12), none, .mv (.c (.sl 1 (some true) []))⟩] none)
  (.sq (.sq (.op 0 [⟨(some 13), none, .mv (.c (.int .i64 0))⟩] none)
  (.kp [12] [10] (.bk 0 (.lp [(t_bool, .inl 12)] [3, 6, 7, 11, 12, 13] c_ratchetref28_Holds_L0))))
  (.sq (.op 0 [⟨(some 48), none, .mv (.t 12)⟩,
    ⟨(some 10), none, .mv (.t 48)⟩] none)
  .rt))))),
  [.t 10]⟩
def b_ratchetref28_Period_L0 : IR :=
 (.sq (.sq (.op 0 [⟨(some 22), none, .mv (.t 13)⟩,
   ⟨(some 23), none, .mv (.t 3)⟩,
   ⟨(some 24), none, .bin .lss (.t 22) (.t 23)⟩] none)
 (.cd (.t 24)
  .sk
  (.ex 0)))
 (.sq (.bk 1 (.sq (.op 0 [⟨(some 27), none, .fa (.t 6) 2⟩,
    ⟨(some 28), none, .ld (.t 27) 1 false⟩,
    ⟨(some 29), none, .mv (.t 13)⟩,
    ⟨(some 30), none, .ia (.t 28) (.t 29) 1⟩,
    ⟨(some 31), none, .ld (.t 30) 1 false⟩,
    ⟨(some 32), none, .callV true (.c (.fn n_ratchetref28_point [])) [(.t 31)]⟩,
    ⟨(some 14), none, .mv (.t 32)⟩] (some [3, 6, 7, 11, 12, 13, 14]))
  (.sq (.op 0 [⟨(some 33), none, .mv (.t 14)⟩,
    ⟨(some 34), none, .bin .geq (.t 33) (.c (.int .i64 0))⟩] none)
  (.cd (.t 34)
   (.op 0 [⟨(some 35), none, .mv (.t 12)⟩,
     ⟨(some 36), none, .mv (.t 11)⟩,
     ⟨(some 37), none, .mv (.t 14)⟩,
     ⟨(some 38), none, .ia (.t 36) (.t 37) 1⟩,
     ⟨(some 39), none, .ld (.t 38) 1 false⟩,
     ⟨(some 40), none, .mm true (.t 35) (.t 39)⟩,
     ⟨(some 12), none, .mv (.t 40)⟩] (some [3, 6, 7, 11, 12, 13]))
   .sk))))
 (.op 0 [⟨(some 25), none, .mv (.t 13)⟩,
   ⟨(some 26), none, .bin .add (.t 25) (.c (.int .i64 1))⟩,
   ⟨(some 13), none, .mv (.t 26)⟩] none)))
def c_ratchetref28_Period_L0 : IR := b_ratchetref28_Period_L0
theorem u_ratchetref28_Period_L0 {C : Call} {L : Loop} {π : Id} {k0 : List Id} {e : Env} {s : Sto} : evC C L π k0 c_ratchetref28_Period_L0 e s = evC C L π k0 b_ratchetref28_Period_L0 e s := rfl
def c_ratchetref28_Period : FnIR := ⟨45,
  (.sq (.op 0 [⟨(some 6), none, .box (.t 1) 3⟩,
    ⟨(some 7), none, .box (.t 2) 5⟩,
    ⟨(some 10), none, .mv (.c (.int .i64 0))⟩] none)
  (.sq (.fz [4] (.op 6 [⟨(some 15), none, .mv (.t 0)⟩,
    ⟨(some 16), none, .ld (.t 6) 3 true⟩,
    ⟨(some 17), none, .ld (.t 7) 5 true⟩,
    ⟨(some 18), none, .mv (.t 3)⟩,
    ⟨(some 19), none, .mv (.t 4)⟩,
    ⟨(some 20), none, .callV false (.c (.fn n_ratchetref28_From [])) [(.t 18), (.t 19)]⟩,
    ⟨(some 21), none, .callV false (.c (.fn n_ratchetref28_Arrivals [])) [(.t 15), (.t 16), (.t 17), (.t 20)]⟩,
    ⟨(some 11), none, .mv (.t 21)⟩] (some [3, 6, 7, 11])))
  (.sq (.op 0 [⟨(some 12), none, .mv (.c (.int .i64 0))⟩] none)
  (.sq (.sq (.op 0 [⟨(some 13), none, .mv (.c (.int .i64 0))⟩] none)
  (.kp [7, 12] [10] (.bk 0 (.lp [] [3, 6, 7, 11, 12, 13] c_ratchetref28_Period_L0))))
  (.sq (.op 0 [⟨(some 41), none, .mv (.t 12)⟩,
    ⟨(some 42), none, .fa (.t 7) 1⟩,
    ⟨(some 43), none, .ld (.t 42) 1 false⟩,
    ⟨(some 44), none, .bin .add (.t 41) (.t 43)⟩,
    ⟨(some 10), none, .mv (.t 44)⟩] (some [10]))
  .rt))))),
  [.t 10]⟩
def c_ratchetlaw28_Library : FnIR := ⟨6,
  (.sq (.op 0 [⟨(some 0), none, .mv (.c (.sl 5 (some true) []))⟩] none)
  (.sq (.op 0 [⟨(some 1), none, .build [.str ⟨#[]⟩, .int .i64 0, .int .i64 0, .int .i64 0, .int .i64 0] [(0, 1, (.c (.str ⟨#[105, 110, 118]⟩))), (1, 1, (.c (.int .i64 1))), (2, 1, (.c (.int .i64 1))), (3, 1, (.c (.int .i64 1))), (4, 1, (.c (.int .i64 1)))]⟩,
    ⟨(some 2), none, .build [.str ⟨#[]⟩, .int .i64 0, .int .i64 0, .int .i64 0, .int .i64 0] [(0, 1, (.c (.str ⟨#[110, 97, 110, 100]⟩))), (1, 1, (.c (.int .i64 2))), (2, 1, (.c (.int .i64 7))), (3, 1, (.c (.int .i64 2))), (4, 1, (.c (.int .i64 1)))]⟩,
    ⟨(some 3), none, .build [.str ⟨#[]⟩, .int .i64 0, .int .i64 0, .int .i64 0, .int .i64 0] [(0, 1, (.c (.str ⟨#[97, 110, 100]⟩))), (1, 1, (.c (.int .i64 2))), (2, 1, (.c (.int .i64 8))), (3, 1, (.c (.int .i64 3))), (4, 1, (.c (.int .i64 1)))]⟩,
    ⟨(some 4), none, .build [.str ⟨#[]⟩, .int .i64 0, .int .i64 0, .int .i64 0, .int .i64 0] [(0, 1, (.c (.str ⟨#[120, 111, 114]⟩))), (1, 1, (.c (.int .i64 2))), (2, 1, (.c (.int .i64 6))), (3, 1, (.c (.int .i64 5))), (4, 1, (.c (.int .i64 1)))]⟩,
    ⟨(some 5), none, .bsl t_api_MapCell 5 true [.str ⟨#[]⟩, .int .i64 0, .int .i64 0, .int .i64 0, .int .i64 0] 4 [(0, (.t 1)), (1, (.t 2)), (2, (.t 3)), (3, (.t 4))]⟩,
    ⟨(some 0), none, .mv (.t 5)⟩] (some [0]))
  .rt)),
  [.t 0]⟩
def c_ratchetlaw28_Net : FnIR := ⟨10,
  (.sq (.op 0 [⟨(some 0), none, .alloc [.int .i64 0, .sl 2 (some true) [], .sl 1 (some true) []]⟩] none)
  (.sq (.op 0 [⟨(some 1), none, .bsl t_int 1 false [.int .i64 0] 2 [(0, (.c (.int .i64 2))), (1, (.c (.int .i64 3)))]⟩,
    ⟨(some 2), none, .build [.int .i64 0, .sl 1 (some true) []] [(0, 1, (.c (.int .i64 1))), (1, 1, (.t 1))]⟩,
    ⟨(some 3), none, .bsl t_int 1 false [.int .i64 0] 1 [(0, (.c (.int .i64 4)))]⟩,
    ⟨(some 4), none, .build [.int .i64 0, .sl 1 (some true) []] [(0, 1, (.c (.int .i64 0))), (1, 1, (.t 3))]⟩,
    ⟨(some 5), none, .bsl t_int 1 false [.int .i64 0] 2 [(0, (.c (.int .i64 5))), (1, (.c (.int .i64 2)))]⟩,
    ⟨(some 6), none, .build [.int .i64 0, .sl 1 (some true) []] [(0, 1, (.c (.int .i64 1))), (1, 1, (.t 5))]⟩,
    ⟨(some 7), none, .bsl t_api_MapPlaced 2 true [.int .i64 0, .sl 1 (some true) []] 3 [(0, (.t 2)), (1, (.t 4)), (2, (.t 6))]⟩,
    ⟨(some 8), none, .bsl t_int 1 false [.int .i64 0] 1 [(0, (.c (.int .i64 6)))]⟩,
    ⟨(some 9), none, .build [.int .i64 0, .sl 2 (some true) [], .sl 1 (some true) []] [(0, 1, (.c (.int .i64 2))), (1, 1, (.t 7)), (2, 1, (.t 8))]⟩,
    ⟨none, none, .st (.t 0) (.t 9) 3⟩] (some [0]))
  .rt)),
  [.c 0 3 true]⟩
def c_ratchetlaw28_Model : FnIR := ⟨2,
  (.sq (.op 0 [⟨(some 0), none, .alloc [.int .i64 0, .int .i64 0, .int .i64 0, .int .i64 0, .int .i64 0]⟩] none)
  (.sq (.op 0 [⟨(some 1), none, .build [.int .i64 0, .int .i64 0, .int .i64 0, .int .i64 0, .int .i64 0] [(0, 1, (.c (.int .i64 1))), (1, 1, (.c (.int .i64 2))), (2, 1, (.c (.int .i64 1))), (3, 1, (.c (.int .i64 50))), (4, 1, (.c (.int .i64 150)))]⟩,
    ⟨none, none, .st (.t 0) (.t 1) 5⟩] none)
  .rt)),
  [.c 0 5 true]⟩
def b_timing_SlacksOf_L0 : IR :=
 (.sq (.op 0 [⟨(some 44), none, .bin .lss (.t 43) (.t 42)⟩] none)
 (.sq (.cd (.t 44)
  .sk
  (.ex 0))
 (.sq (.bk 1 (.sq (.op 0 [⟨(some 45), none, .mv (.t 43)⟩,
    ⟨(some 46), none, .ia (.t 41) (.t 43) 1⟩,
    ⟨(some 47), none, .ld (.t 46) 1 false⟩,
    ⟨(some 15), none, .mv (.t 45)⟩,
    ⟨(some 16), none, .mv (.t 47)⟩] (some [14, 15, 16, 41, 42, 43]))
  (.sq (.op 0 [⟨(some 48), none, .mv (.t 14)⟩,
    ⟨(some 49), none, .mv (.t 15)⟩,
    ⟨(some 50), none, .ia (.t 48) (.t 49) 1⟩,
    ⟨(some 51), none, .ld (.t 50) 1 false⟩,
    ⟨(some 52), none, .bin .neq (.t 51) (.c (.int .i64 (-1000000000)))⟩] (some [14, 15, 16, 41, 42, 43, 52]))
  (.cd (.t 52)
   (.op 0 [⟨(some 53), none, .mv (.t 14)⟩,
     ⟨(some 54), none, .mv (.t 15)⟩,
     ⟨(some 55), none, .ia (.t 53) (.t 54) 1⟩,
     ⟨(some 56), none, .ld (.t 55) 1 false⟩,
     ⟨(some 57), none, .mv (.t 16)⟩,
     ⟨(some 58), none, .bin .sub (.t 56) (.t 57)⟩,
     ⟨(some 59), none, .ia (.t 53) (.t 54) 1⟩,
     ⟨none, none, .st (.t 59) (.t 58) 1⟩] (some [14, 41, 42, 43]))
   .sk))))
 (.op 0 [⟨(some 60), none, .bin .add (.t 43) (.c (.int .i64 1))⟩,
   ⟨(some 43), none, .mv (.t 60)⟩] none))))
def c_timing_SlacksOf_L0 : IR := b_timing_SlacksOf_L0
theorem u_timing_SlacksOf_L0 {C : Call} {L : Loop} {π : Id} {k0 : List Id} {e : Env} {s : Sto} : evC C L π k0 c_timing_SlacksOf_L0 e s = evC C L π k0 b_timing_SlacksOf_L0 e s := rfl
def c_timing_SlacksOf : FnIR := ⟨62,
  (.sq (.op 0 [⟨(some 6), none, .box (.t 1) 3⟩,
    ⟨(some 7), none, .box (.t 2) 5⟩,
    ⟨(some 10), none, .mv (.c (.sl 1 (some true) []))⟩,
    ⟨(some 11), none, .mv (.c (.int .i64 0))⟩] (some [0, 3, 4, 6, 7]))
  (.sq (.op 0 [⟨(some 18), none, .mv (.t 0)⟩,
    ⟨(some 19), none, .ld (.t 6) 3 true⟩,
    ⟨(some 20), none, .ld (.t 7) 5 true⟩,
    ⟨(some 21), none, .mv (.t 3)⟩,
    ⟨(some 22), none, .callV false (.c (.fn n_timing_openTimes [])) [(.t 18), (.t 19), (.t 20), (.t 21)]⟩,
    ⟨(some 17), none, .mv (.t 22)⟩,
    ⟨(some 23), none, .ext (.t 17) 0⟩,
    ⟨(some 24), none, .ext (.t 17) 1⟩,
    ⟨(some 12), none, .alloc [.int .i64 0, .sl 2 (some true) [], .sl 1 (some true) [], .sl 5 (some true) [], .int .i64 0, .int .i64 0, .int .i64 0, .int .i64 0, .int .i64 0, .sl 1 (some true) []]⟩,
    ⟨none, none, .st (.t 12) (.t 23) 10⟩,
    ⟨(some 13), none, .mv (.t 24)⟩] (some [3, 4, 6, 12, 13]))
  (.sq (.sq (.op 0 [⟨(some 25), none, .mv (.t 13)⟩,
    ⟨(some 26), none, .mv (.t 4)⟩,
    ⟨(some 27), none, .fa (.t 6) 2⟩,
    ⟨(some 28), none, .ld (.t 27) 1 false⟩,
    ⟨(some 29), none, .len false (.t 28)⟩,
    ⟨(some 30), none, .callV true (.c (.fn n_timing_timesErr [])) [(.t 26), (.t 29)]⟩,
    ⟨(some 31), none, .bsl t_api_Errno 1 false [.int .i64 0] 2 [(0, (.t 25)), (1, (.t 30))]⟩,
    ⟨(some 32), none, .callV true (.c (.fn n_timing_first [])) [(.t 31)]⟩,
    ⟨(some 13), none, .mv (.t 32)⟩] (some [3, 4, 12, 13]))
  (.sq (.op 0 [⟨(some 33), none, .mv (.t 13)⟩,
    ⟨(some 34), none, .bin .neq (.t 33) (.c (.int .i64 0))⟩] none)
  (.cd (.t 34)
   (.sq (.op 0 [⟨(some 35), none, .mv (.t 13)⟩,
     ⟨(some 10), none, .mv (.c (.sl 1 (some true) []))⟩,
     ⟨(some 11), none, .mv (.t 35)⟩] none)
   .rt)
   .sk)))
  (.sq (.op 0 [⟨(some 36), none, .ld (.t 12) 10 true⟩,
    ⟨(some 37), none, .mv (.t 4)⟩,
    ⟨(some 38), none, .callV false (.c (.fn n_timing_timed_required [])) [(.t 36), (.t 37)]⟩,
    ⟨(some 14), none, .mv (.t 38)⟩] (some [3, 12, 14]))
  (.sq (.sq (.op 0 [⟨(some 39), none, .ld (.t 12) 10 true⟩,
    ⟨(some 40), none, .mv (.t 3)⟩,
    ⟨(some 41), none, .callV false (.c (.fn n_timing_timed_arrivals [])) [(.t 39), (.t 40)]⟩,
    ⟨(some 42), none, .len false (.t 41)⟩,
    ⟨(some 43), none, .mv (.c (.int .i64 0))⟩] (some [14, 41, 42, 43]))
  (.kp [14] [10, 11] (.bk 0 (.lp [] [14, 41, 42, 43] c_timing_SlacksOf_L0))))
  (.sq (.op 0 [⟨(some 61), none, .mv (.t 14)⟩,
    ⟨(some 10), none, .mv (.t 61)⟩,
    ⟨(some 11), none, .mv (.c (.int .i64 0))⟩] none)
  .rt)))))),
  [.t 10, .t 11]⟩
def c_timing_UsedAt : FnIR := ⟨39,
  (.sq (.op 0 [⟨(some 4), none, .box (.t 1) 3⟩,
    ⟨(some 6), none, .mv (.c (.sl 1 (some true) []))⟩,
    ⟨(some 7), none, .mv (.c (.int .i64 0))⟩] none)
  (.sq (.op 0 [⟨(some 12), none, .mv (.t 0)⟩,
    ⟨(some 13), none, .ld (.t 4) 3 true⟩,
    ⟨(some 14), none, .callV false (.c (.fn n_timing_open [])) [(.t 12), (.t 13)]⟩,
    ⟨(some 11), none, .mv (.t 14)⟩,
    ⟨(some 15), none, .ext (.t 11) 0⟩,
    ⟨(some 16), none, .ext (.t 11) 1⟩,
    ⟨(some 8), none, .alloc [.int .i64 0, .sl 2 (some true) [], .sl 1 (some true) [], .sl 5 (some true) []]⟩,
    ⟨none, none, .st (.t 8) (.t 15) 4⟩,
    ⟨(some 9), none, .mv (.t 16)⟩] (some [2, 4, 8, 9]))
  (.sq (.sq (.op 0 [⟨(some 17), none, .mv (.t 9)⟩,
    ⟨(some 18), none, .bin .eql (.t 17) (.c (.int .i64 0))⟩] none)
  (.cd (.t 18)
   (.op 0 [⟨(some 19), none, .ld (.t 8) 4 true⟩,
     ⟨(some 20), none, .mv (.t 2)⟩,
     ⟨(some 21), none, .callV true (.c (.fn n_timing_net_pathErr [])) [(.t 19), (.t 20)]⟩,
     ⟨(some 9), none, .mv (.t 21)⟩] (some [2, 4, 8, 9]))
   .sk))
  (.sq (.sq (.op 0 [⟨(some 22), none, .mv (.t 9)⟩,
    ⟨(some 23), none, .fa (.t 4) 0⟩,
    ⟨(some 24), none, .ld (.t 23) 1 false⟩,
    ⟨(some 25), none, .bin .leq (.t 24) (.c (.int .i64 10))⟩,
    ⟨(some 26), none, .callV true (.c (.fn n_timing_unless [])) [(.t 25), (.c (.int .i64 8))]⟩,
    ⟨(some 27), none, .bsl t_api_Errno 1 false [.int .i64 0] 2 [(0, (.t 22)), (1, (.t 26))]⟩,
    ⟨(some 28), none, .callV true (.c (.fn n_timing_first [])) [(.t 27)]⟩,
    ⟨(some 9), none, .mv (.t 28)⟩] (some [2, 8, 9]))
  (.sq (.op 0 [⟨(some 29), none, .mv (.t 9)⟩,
    ⟨(some 30), none, .bin .neq (.t 29) (.c (.int .i64 0))⟩] none)
  (.cd (.t 30)
   (.sq (.op 0 [⟨(some 31), none, .mv (.t 9)⟩,
     ⟨(some 6), none, .mv (.c (.sl 1 (some true) []))⟩,
     ⟨(some 7), none, .mv (.t 31)⟩] none)
   .rt)
   .sk)))
  (.sq (.op 0 [⟨(some 32), none, .ld (.t 8) 4 true⟩,
    ⟨(some 33), none, .mv (.t 2)⟩,
    ⟨(some 34), none, .callV false (.c (.fn n_timing_net_used [])) [(.t 32), (.t 33)]⟩,
    ⟨(some 10), none, .mv (.t 34)⟩] (some [10]))
  (.sq (.op 0 [⟨(some 35), none, .mv (.t 10)⟩,
    ⟨(some 36), none, .mv (.t 10)⟩,
    ⟨(some 37), none, .isnil true true (.t 36)⟩,
    ⟨(some 38), none, .callV true (.c (.fn n_timing_unless [])) [(.t 37), (.c (.int .i64 12))]⟩,
    ⟨(some 6), none, .mv (.t 35)⟩,
    ⟨(some 7), none, .mv (.t 38)⟩] (some [6, 7]))
  .rt)))))),
  [.t 6, .t 7]⟩
def c_ratchetref27_CopyLibrary : FnIR := ⟨6,
  (.sq (.op 0 [⟨(some 2), none, .mv (.c (.sl 5 (some true) []))⟩] none)
  (.sq (.op 0 [⟨(some 3), none, .bsl t_api_MapCell 5 true [.str ⟨#[]⟩, .int .i64 0, .int .i64 0, .int .i64 0, .int .i64 0] 0 []⟩,
    ⟨(some 4), none, .mv (.t 0)⟩,
    ⟨(some 5), none, .app (.t 3) (.t 4) t_api_MapCell 5⟩,
    ⟨(some 2), none, .mv (.t 5)⟩] (some [2]))
  .rt)),
  [.t 2]⟩
def b_ratchetref27_CopyNet_L0 : IR :=
 (.sq (.sq (.op 0 [⟨(some 11), none, .mv (.t 4)⟩,
   ⟨(some 12), none, .fa (.t 1) 1⟩,
   ⟨(some 13), none, .ld (.t 12) 1 false⟩,
   ⟨(some 14), none, .len false (.t 13)⟩,
   ⟨(some 15), none, .bin .lss (.t 11) (.t 14)⟩] (some [1, 2, 3, 4, 15]))
 (.cd (.t 15)
  .sk
  (.ex 0)))
 (.sq (.bk 1 (.op 17 [⟨(some 18), none, .fa (.t 3) 1⟩,
    ⟨(some 19), none, .ld (.t 18) 1 false⟩,
    ⟨(some 20), none, .fa (.t 1) 1⟩,
    ⟨(some 21), none, .ld (.t 20) 1 false⟩,
    ⟨(some 22), none, .mv (.t 4)⟩,
    ⟨(some 23), none, .ia (.t 21) (.t 22) 2⟩,
    ⟨(some 24), none, .fa (.t 23) 0⟩,
    ⟨(some 25), none, .ld (.t 24) 1 false⟩,
    ⟨(some 26), none, .fa (.t 1) 1⟩,
    ⟨(some 27), none, .ld (.t 26) 1 false⟩,
    ⟨(some 28), none, .mv (.t 4)⟩,
    ⟨(some 29), none, .ia (.t 27) (.t 28) 2⟩,
    ⟨(some 30), none, .fa (.t 29) 1⟩,
    ⟨(some 31), none, .ld (.t 30) 1 false⟩,
    ⟨(some 32), none, .callV true (.c (.fn n_ratchetbase_CopyInts [])) [(.t 31)]⟩,
    ⟨(some 33), none, .build [.int .i64 0, .sl 1 (some true) []] [(0, 1, (.t 25)), (1, 1, (.t 32))]⟩,
    ⟨(some 34), none, .bsl t_api_MapPlaced 2 true [.int .i64 0, .sl 1 (some true) []] 1 [(0, (.t 33))]⟩,
    ⟨(some 35), none, .app (.t 19) (.t 34) t_api_MapPlaced 2⟩,
    ⟨(some 36), none, .fa (.t 3) 1⟩,
    ⟨none, none, .st (.t 36) (.t 35) 1⟩] (some [1, 2, 3, 4])))
 (.op 0 [⟨(some 16), none, .mv (.t 4)⟩,
   ⟨(some 17), none, .bin .add (.t 16) (.c (.int .i64 1))⟩,
   ⟨(some 4), none, .mv (.t 17)⟩] none)))
def c_ratchetref27_CopyNet_L0 : IR := b_ratchetref27_CopyNet_L0
theorem u_ratchetref27_CopyNet_L0 {C : Call} {L : Loop} {π : Id} {k0 : List Id} {e : Env} {s : Sto} : evC C L π k0 c_ratchetref27_CopyNet_L0 e s = evC C L π k0 b_ratchetref27_CopyNet_L0 e s := rfl
def c_ratchetref27_CopyNet : FnIR := ⟨38,
  (.sq (.op 0 [⟨(some 1), none, .box (.t 0) 3⟩,
    ⟨(some 2), none, .alloc [.int .i64 0, .sl 2 (some true) [], .sl 1 (some true) []]⟩] none)
  (.sq (.op 7 [⟨(some 5), none, .fa (.t 1) 0⟩,
    ⟨(some 6), none, .ld (.t 5) 1 false⟩,
    ⟨(some 7), none, .fa (.t 1) 2⟩,
    ⟨(some 8), none, .ld (.t 7) 1 false⟩,
    ⟨(some 9), none, .callV false (.c (.fn n_ratchetbase_CopyInts [])) [(.t 8)]⟩,
    ⟨(some 10), none, .build [.int .i64 0, .sl 2 (some true) [], .sl 1 (some true) []] [(0, 1, (.t 6)), (2, 1, (.t 9))]⟩,
    ⟨(some 3), none, .alloc [.int .i64 0, .sl 2 (some true) [], .sl 1 (some true) []]⟩,
    ⟨none, none, .st (.t 3) (.t 10) 3⟩] (some [1, 2, 3]))
  (.sq (.sq (.op 0 [⟨(some 4), none, .mv (.c (.int .i64 0))⟩] none)
  (.kp [2, 3] [2] (.bk 0 (.lp [(t_api_MapPlaced, .inr (3, 1))] [1, 2, 3, 4] c_ratchetref27_CopyNet_L0))))
  (.sq (.op 0 [⟨(some 37), none, .ld (.t 3) 3 true⟩,
    ⟨none, none, .st (.t 2) (.t 37) 3⟩] none)
  .rt)))),
  [.c 2 3 true]⟩
def c_ratchetref28_NetErr : FnIR := ⟨16,
  (.sq (.op 0 [⟨(some 3), none, .box (.t 1) 3⟩,
    ⟨(some 4), none, .mv (.c (.int .i64 0))⟩] none)
  (.sq (.sq (.op 0 [⟨(some 6), none, .mv (.t 0)⟩,
    ⟨(some 7), none, .ld (.t 3) 3 true⟩,
    ⟨(some 8), none, .callV true (.c (.fn n_ratchetref27_NetErr [])) [(.t 6), (.t 7)]⟩,
    ⟨(some 5), none, .mv (.t 8)⟩] (some [3, 5]))
  (.sq (.op 0 [⟨(some 9), none, .mv (.t 5)⟩,
    ⟨(some 10), none, .bin .neq (.t 9) (.c (.int .i64 0))⟩] none)
  (.cd (.t 10)
   (.sq (.op 0 [⟨(some 11), none, .mv (.t 5)⟩,
     ⟨(some 4), none, .mv (.t 11)⟩] none)
   .rt)
   .sk)))
  (.sq (.sq (.op 0 [⟨(some 12), none, .fa (.t 3) 1⟩,
    ⟨(some 13), none, .ld (.t 12) 1 false⟩,
    ⟨(some 14), none, .len false (.t 13)⟩,
    ⟨(some 15), none, .bin .gtr (.t 14) (.c (.int .i64 60))⟩] (some [15]))
  (.cd (.t 15)
   (.sq (.op 0 [⟨(some 4), none, .mv (.c (.int .i64 8))⟩] none)
   .rt)
   .sk))
  (.sq (.op 0 [⟨(some 4), none, .mv (.c (.int .i64 0))⟩] none)
  .rt)))),
  [.t 4]⟩
def c_ratchetref28_ModelErr : FnIR := ⟨36,
  (.sq (.op 0 [⟨(some 1), none, .box (.t 0) 5⟩,
    ⟨(some 2), none, .mv (.c (.int .i64 0))⟩] none)
  (.sq (.sq (.op 0 [⟨(some 3), none, .fa (.t 1) 0⟩,
    ⟨(some 4), none, .ld (.t 3) 1 false⟩,
    ⟨(some 5), none, .callV true (.c (.fn n_ratchetbase_Within [])) [(.t 4), (.c (.int .i64 0)), (.c (.int .i64 100))]⟩,
    ⟨(some 6), none, .un .not (.t 5)⟩,
    ⟨(some 7), none, .mv (.t 6)⟩,
    ⟨(some 8), (some (7, false)), .fa (.t 1) 1⟩,
    ⟨(some 9), (some (7, false)), .ld (.t 8) 1 false⟩,
    ⟨(some 10), (some (7, false)), .callV true (.c (.fn n_ratchetbase_Within [])) [(.t 9), (.c (.int .i64 0)), (.c (.int .i64 1000000))]⟩,
    ⟨(some 11), (some (7, false)), .un .not (.t 10)⟩,
    ⟨(some 12), none, .pick (.t 7) (.c (.bool true)) (.t 11)⟩,
    ⟨(some 13), none, .mv (.t 12)⟩,
    ⟨(some 14), (some (13, false)), .fa (.t 1) 2⟩,
    ⟨(some 15), (some (13, false)), .ld (.t 14) 1 false⟩,
    ⟨(some 16), (some (13, false)), .callV true (.c (.fn n_ratchetbase_Within [])) [(.t 15), (.c (.int .i64 0)), (.c (.int .i64 1000000))]⟩,
    ⟨(some 17), (some (13, false)), .un .not (.t 16)⟩,
    ⟨(some 18), none, .pick (.t 13) (.c (.bool true)) (.t 17)⟩,
    ⟨(some 19), none, .mv (.t 18)⟩,
    ⟨(some 20), (some (19, false)), .fa (.t 1) 3⟩,
    ⟨(some 21), (some (19, false)), .ld (.t 20) 1 false⟩,
    ⟨(some 22), (some (19, false)), .callV true (.c (.fn n_ratchetbase_Within [])) [(.t 21), (.c (.int .i64 1)), (.c (.int .i64 1000))]⟩,
    ⟨(some 23), (some (19, false)), .un .not (.t 22)⟩,
    ⟨(some 24), none, .pick (.t 19) (.c (.bool true)) (.t 23)⟩,
    ⟨(some 25), none, .mv (.t 24)⟩,
    ⟨(some 26), (some (25, false)), .fa (.t 1) 4⟩,
    ⟨(some 27), (some (25, false)), .ld (.t 26) 1 false⟩,
    ⟨(some 28), (some (25, false)), .callV true (.c (.fn n_ratchetbase_Within [])) [(.t 27), (.c (.int .i64 1)), (.c (.int .i64 1000))]⟩,
    ⟨(some 29), (some (25, false)), .un .not (.t 28)⟩,
    ⟨(some 30), none, .pick (.t 25) (.c (.bool true)) (.t 29)⟩] (some [1, 30]))
  (.cd (.t 30)
   (.sq (.op 0 [⟨(some 2), none, .mv (.c (.int .i64 2))⟩] none)
   .rt)
   .sk))
  (.sq (.sq (.op 0 [⟨(some 31), none, .fa (.t 1) 3⟩,
    ⟨(some 32), none, .ld (.t 31) 1 false⟩,
    ⟨(some 33), none, .fa (.t 1) 4⟩,
    ⟨(some 34), none, .ld (.t 33) 1 false⟩,
    ⟨(some 35), none, .bin .gtr (.t 32) (.t 34)⟩] (some [35]))
  (.cd (.t 35)
   (.sq (.op 0 [⟨(some 2), none, .mv (.c (.int .i64 9))⟩] none)
   .rt)
   .sk))
  (.sq (.op 0 [⟨(some 2), none, .mv (.c (.int .i64 0))⟩] none)
  .rt)))),
  [.t 2]⟩
def b_ratchetref28_longer_L0 : IR :=
 (.sq (.sq (.op 0 [⟨(some 32), none, .mv (.t 10)⟩,
   ⟨(some 33), none, .fa (.t 4) 1⟩,
   ⟨(some 34), none, .ld (.t 33) 1 false⟩,
   ⟨(some 35), none, .len false (.t 34)⟩,
   ⟨(some 36), none, .bin .lss (.t 32) (.t 35)⟩] (some [1, 2, 3, 4, 9, 10, 36]))
 (.cd (.t 36)
  .sk
  (.ex 0)))
 (.sq (.bk 1 (.sq (.op 0 [⟨(some 39), none, .fa (.t 4) 1⟩,
    ⟨(some 40), none, .ld (.t 39) 1 false⟩,
    ⟨(some 41), none, .mv (.t 10)⟩,
    ⟨(some 42), none, .ia (.t 40) (.t 41) 2⟩,
    ⟨(some 43), none, .fa (.t 42) 1⟩,
    ⟨(some 44), none, .ld (.t 43) 1 false⟩,
    ⟨(some 45), none, .mv (.t 9)⟩,
    ⟨(some 46), none, .bin .add (.t 45) (.c (.int .i64 2))⟩,
    ⟨(some 47), none, .callV true (.c (.fn n_ratchetbase_Has [])) [(.t 44), (.t 46)]⟩] (some [1, 2, 3, 4, 9, 10, 47]))
  (.cd (.t 47)
   (.fz [1] (.op 11 [⟨(some 48), none, .ld (.t 4) 3 true⟩,
     ⟨(some 49), none, .mv (.t 1)⟩,
     ⟨(some 50), none, .callV false (.c (.fn n_ratchetbase_CopyInts [])) [(.t 49)]⟩,
     ⟨(some 51), none, .fa (.t 4) 0⟩,
     ⟨(some 52), none, .ld (.t 51) 1 false⟩,
     ⟨(some 53), none, .mv (.t 10)⟩,
     ⟨(some 54), none, .bin .add (.t 52) (.t 53)⟩,
     ⟨(some 55), none, .bsl t_int 1 false [.int .i64 0] 1 [(0, (.t 54))]⟩,
     ⟨(some 56), none, .apx (.t 50) (.t 55) t_int 1 [1, 2, 3, 4, 5, 6, 7]⟩,
     ⟨(some 57), none, .mv (.t 2)⟩,
     ⟨(some 58), none, .mv (.t 3)⟩,
     ⟨(some 59), none, .callS (.c (.fn n_ratchetref28_longer [])) [(.t 48), (.t 56), (.t 57), (.t 58)]⟩,
     ⟨(some 2), none, .mv (.t 59)⟩] (some [1, 2, 3, 4, 9, 10])))
   .sk)))
 (.op 0 [⟨(some 37), none, .mv (.t 10)⟩,
   ⟨(some 38), none, .bin .add (.t 37) (.c (.int .i64 1))⟩,
   ⟨(some 10), none, .mv (.t 38)⟩] none)))
def c_ratchetref28_longer_L0 : IR := b_ratchetref28_longer_L0
theorem u_ratchetref28_longer_L0 {C : Call} {L : Loop} {π : Id} {k0 : List Id} {e : Env} {s : Sto} : evC C L π k0 c_ratchetref28_longer_L0 e s = evC C L π k0 b_ratchetref28_longer_L0 e s := rfl
def c_ratchetref28_longer : FnIR := ⟨61,
  (.fz [1] (.sq (.op 0 [⟨(some 4), none, .box (.t 0) 3⟩,
    ⟨(some 8), none, .mv (.c (.sl 1 (some true) []))⟩] none)
  (.sq (.sq (.op 0 [⟨(some 11), none, .mv (.t 2)⟩,
    ⟨(some 12), none, .len false (.t 11)⟩,
    ⟨(some 13), none, .mv (.t 3)⟩,
    ⟨(some 14), none, .bin .gtr (.t 12) (.t 13)⟩] (some [1, 2, 3, 4, 14]))
  (.cd (.t 14)
   (.sq (.op 0 [⟨(some 15), none, .mv (.t 2)⟩,
     ⟨(some 8), none, .mv (.t 15)⟩] none)
   .rt)
   .sk))
  (.sq (.op 0 [⟨(some 16), none, .mv (.t 1)⟩,
    ⟨(some 17), none, .mv (.t 1)⟩,
    ⟨(some 18), none, .len false (.t 17)⟩,
    ⟨(some 19), none, .bin .sub (.t 18) (.c (.int .i64 1))⟩,
    ⟨(some 20), none, .ia (.t 16) (.t 19) 1⟩,
    ⟨(some 21), none, .ld (.t 20) 1 false⟩,
    ⟨(some 9), none, .mv (.t 21)⟩] (some [1, 2, 3, 4, 9]))
  (.sq (.sq (.op 0 [⟨(some 22), none, .fa (.t 4) 2⟩,
    ⟨(some 23), none, .ld (.t 22) 1 false⟩,
    ⟨(some 24), none, .mv (.t 9)⟩,
    ⟨(some 25), none, .bin .add (.t 24) (.c (.int .i64 2))⟩,
    ⟨(some 26), none, .callV true (.c (.fn n_ratchetbase_Has [])) [(.t 23), (.t 25)]⟩] (some [1, 2, 3, 4, 9, 26]))
  (.cd (.t 26)
   (.op 0 [⟨(some 27), none, .mv (.t 2)⟩,
     ⟨(some 28), none, .mv (.t 1)⟩,
     ⟨(some 29), none, .callV false (.c (.fn n_ratchetbase_CopyInts [])) [(.t 28)]⟩,
     ⟨(some 30), none, .bsl t_L_int 1 false [.sl 1 (some true) []] 1 [(0, (.t 29))]⟩,
     ⟨(some 31), none, .app (.t 27) (.t 30) t_L_int 1⟩,
     ⟨(some 2), none, .mv (.t 31)⟩] (some [1, 2, 3, 4, 9]))
   .sk))
  (.sq (.sq (.op 0 [⟨(some 10), none, .mv (.c (.int .i64 0))⟩] none)
  (.kp [2] [8] (.bk 0 (.lp [(t_L_int, .inl 2)] [1, 2, 3, 4, 9, 10] c_ratchetref28_longer_L0))))
  (.sq (.op 0 [⟨(some 60), none, .mv (.t 2)⟩,
    ⟨(some 8), none, .mv (.t 60)⟩] none)
  .rt))))))),
  [.t 8]⟩
def c_timing_openTimes : FnIR := ⟨27,
  (.sq (.op 0 [⟨(some 5), none, .box (.t 1) 3⟩,
    ⟨(some 6), none, .box (.t 2) 5⟩,
    ⟨(some 8), none, .alloc [.int .i64 0, .sl 2 (some true) [], .sl 1 (some true) [], .sl 5 (some true) [], .int .i64 0, .int .i64 0, .int .i64 0, .int .i64 0, .int .i64 0, .sl 1 (some true) []]⟩,
    ⟨(some 9), none, .mv (.c (.int .i64 0))⟩] (some [0, 3, 5, 6, 8]))
  (.sq (.op 0 [⟨(some 13), none, .mv (.t 0)⟩,
    ⟨(some 14), none, .ld (.t 5) 3 true⟩,
    ⟨(some 15), none, .ld (.t 6) 5 true⟩,
    ⟨(some 16), none, .callV false (.c (.fn n_timing_openModel [])) [(.t 13), (.t 14), (.t 15)]⟩,
    ⟨(some 12), none, .mv (.t 16)⟩,
    ⟨(some 17), none, .ext (.t 12) 0⟩,
    ⟨(some 18), none, .ext (.t 12) 1⟩,
    ⟨(some 10), none, .alloc [.int .i64 0, .sl 2 (some true) [], .sl 1 (some true) [], .sl 5 (some true) [], .int .i64 0, .int .i64 0, .int .i64 0, .int .i64 0, .int .i64 0, .sl 1 (some true) []]⟩,
    ⟨none, none, .st (.t 10) (.t 17) 10⟩,
    ⟨(some 11), none, .mv (.t 18)⟩] (some [3, 5, 8, 10, 11]))
  (.sq (.fz [3] (.op 8 [⟨(some 19), none, .ld (.t 10) 10 true⟩,
    ⟨(some 20), none, .mv (.t 11)⟩,
    ⟨(some 21), none, .mv (.t 3)⟩,
    ⟨(some 22), none, .fa (.t 5) 0⟩,
    ⟨(some 23), none, .ld (.t 22) 1 false⟩,
    ⟨(some 24), none, .callV true (.c (.fn n_timing_timesErr [])) [(.t 21), (.t 23)]⟩,
    ⟨(some 25), none, .bsl t_api_Errno 1 false [.int .i64 0] 2 [(0, (.t 20)), (1, (.t 24))]⟩,
    ⟨(some 26), none, .callV true (.c (.fn n_timing_first [])) [(.t 25)]⟩,
    ⟨none, none, .st (.t 8) (.t 19) 10⟩,
    ⟨(some 9), none, .mv (.t 26)⟩] (some [8, 9])))
  .rt))),
  [.c 8 10 true, .t 9]⟩
def b_timing_timed_rests_L1 : IR :=
 (.sq (.sq (.op 0 [⟨(some 30), none, .mv (.t 5)⟩,
   ⟨(some 31), none, .fa (.t 1) 0⟩,
   ⟨(some 32), none, .ld (.t 31) 4 true⟩,
   ⟨(some 33), none, .callV true (.c (.fn n_timing_net_points [])) [(.t 32)]⟩,
   ⟨(some 34), none, .bin .lss (.t 30) (.t 33)⟩] (some [1, 3, 4, 5, 34]))
 (.cd (.t 34)
  .sk
  (.ex 2)))
 (.sq (.bk 3 (.sq (.op 0 [⟨(some 37), none, .mv (.t 5)⟩,
    ⟨(some 38), none, .mv (.t 4)⟩,
    ⟨(some 39), none, .bin .gtr (.t 37) (.t 38)⟩,
    ⟨(some 40), none, .mv (.t 39)⟩,
    ⟨(some 41), (some (40, true)), .fa (.t 1) 0⟩,
    ⟨(some 42), (some (40, true)), .ld (.t 41) 4 true⟩,
    ⟨(some 43), (some (40, true)), .mv (.t 5)⟩,
    ⟨(some 44), (some (40, true)), .mv (.t 4)⟩,
    ⟨(some 45), (some (40, true)), .callV true (.c (.fn n_timing_net_has [])) [(.t 42), (.t 43), (.t 44)]⟩,
    ⟨(some 46), none, .pick (.t 40) (.t 45) (.c (.bool false))⟩,
    ⟨(some 47), none, .mv (.t 46)⟩,
    ⟨(some 48), (some (47, true)), .mv (.t 3)⟩,
    ⟨(some 49), (some (47, true)), .mv (.t 5)⟩,
    ⟨(some 50), (some (47, true)), .ia (.t 48) (.t 49) 1⟩,
    ⟨(some 51), (some (47, true)), .ld (.t 50) 1 false⟩,
    ⟨(some 52), (some (47, true)), .bin .neq (.t 51) (.c (.int .i64 (-1)))⟩,
    ⟨(some 53), none, .pick (.t 47) (.t 52) (.c (.bool false))⟩] (some [1, 3, 4, 5, 53]))
  (.cd (.t 53)
   (.op 14 [⟨(some 54), none, .mv (.t 3)⟩,
     ⟨(some 55), none, .mv (.t 4)⟩,
     ⟨(some 56), none, .mv (.t 3)⟩,
     ⟨(some 57), none, .mv (.t 4)⟩,
     ⟨(some 58), none, .ia (.t 56) (.t 57) 1⟩,
     ⟨(some 59), none, .ld (.t 58) 1 false⟩,
     ⟨(some 60), none, .ld (.t 1) 10 true⟩,
     ⟨(some 61), none, .mv (.t 5)⟩,
     ⟨(some 62), none, .callV true (.c (.fn n_timing_timed_delay [])) [(.t 60), (.t 61)]⟩,
     ⟨(some 63), none, .mv (.t 3)⟩,
     ⟨(some 64), none, .mv (.t 5)⟩,
     ⟨(some 65), none, .ia (.t 63) (.t 64) 1⟩,
     ⟨(some 66), none, .ld (.t 65) 1 false⟩,
     ⟨(some 67), none, .bin .add (.t 62) (.t 66)⟩,
     ⟨(some 68), none, .mm true (.t 59) (.t 67)⟩,
     ⟨(some 69), none, .ia (.t 54) (.t 55) 1⟩,
     ⟨none, none, .st (.t 69) (.t 68) 1⟩] (some [1, 3, 4, 5]))
   .sk)))
 (.op 0 [⟨(some 35), none, .mv (.t 5)⟩,
   ⟨(some 36), none, .bin .add (.t 35) (.c (.int .i64 1))⟩,
   ⟨(some 5), none, .mv (.t 36)⟩] none)))
def c_timing_timed_rests_L1 : IR := b_timing_timed_rests_L1
theorem u_timing_timed_rests_L1 {C : Call} {L : Loop} {π : Id} {k0 : List Id} {e : Env} {s : Sto} : evC C L π k0 c_timing_timed_rests_L1 e s = evC C L π k0 b_timing_timed_rests_L1 e s := rfl
def b_timing_timed_rests_L0 : IR :=
 (.sq (.sq (.op 0 [⟨(some 15), none, .mv (.t 4)⟩,
   ⟨(some 16), none, .bin .geq (.t 15) (.c (.int .i64 0))⟩] none)
 (.cd (.t 16)
  .sk
  (.ex 0)))
 (.sq (.bk 1 (.sq (.sq (.op 0 [⟨(some 19), none, .fa (.t 1) 0⟩,
    ⟨(some 20), none, .ld (.t 19) 4 true⟩,
    ⟨(some 21), none, .mv (.t 4)⟩,
    ⟨(some 22), none, .callV true (.c (.fn n_timing_net_isEnd [])) [(.t 20), (.t 21)]⟩] (some [1, 3, 4, 22]))
  (.cd (.t 22)
   (.op 0 [⟨(some 23), none, .mv (.t 3)⟩,
     ⟨(some 24), none, .mv (.t 4)⟩,
     ⟨(some 25), none, .ia (.t 23) (.t 24) 1⟩,
     ⟨none, none, .st (.t 25) (.c (.int .i64 0)) 1⟩] (some [1, 3, 4]))
   .sk))
  (.sq (.op 0 [⟨(some 26), none, .fa (.t 1) 0⟩,
    ⟨(some 27), none, .fa (.t 26) 0⟩,
    ⟨(some 28), none, .fa (.t 27) 0⟩,
    ⟨(some 29), none, .ld (.t 28) 1 false⟩,
    ⟨(some 5), none, .mv (.t 29)⟩] (some [1, 3, 4, 5]))
  (.kp [1, 3, 4] [2] (.bk 2 (.lp [] [1, 3, 4, 5] c_timing_timed_rests_L1))))))
 (.op 0 [⟨(some 17), none, .mv (.t 4)⟩,
   ⟨(some 18), none, .bin .sub (.t 17) (.c (.int .i64 1))⟩,
   ⟨(some 4), none, .mv (.t 18)⟩] none)))
def c_timing_timed_rests_L0 : IR := b_timing_timed_rests_L0
theorem u_timing_timed_rests_L0 {C : Call} {L : Loop} {π : Id} {k0 : List Id} {e : Env} {s : Sto} : evC C L π k0 c_timing_timed_rests_L0 e s = evC C L π k0 b_timing_timed_rests_L0 e s := rfl
def c_timing_timed_rests : FnIR := ⟨71,
  (.sq (.op 0 [⟨(some 1), none, .box (.t 0) 10⟩,
    ⟨(some 2), none, .mv (.c (.sl 1 (some true) []))⟩] none)
  (.sq (.op 0 [⟨(some 6), none, .bsl t_int 1 false [.int .i64 0] 1 [(0, (.c (.int .i64 (-1))))]⟩,
    ⟨(some 7), none, .fa (.t 1) 0⟩,
    ⟨(some 8), none, .ld (.t 7) 4 true⟩,
    ⟨(some 9), none, .callV true (.c (.fn n_timing_net_points [])) [(.t 8)]⟩,
    ⟨(some 10), none, .callV false (.c (.fn n_slices_Repeat_int_int [])) [(.t 6), (.t 9)]⟩,
    ⟨(some 3), none, .mv (.t 10)⟩] (some [1, 3]))
  (.sq (.sq (.op 0 [⟨(some 11), none, .fa (.t 1) 0⟩,
    ⟨(some 12), none, .ld (.t 11) 4 true⟩,
    ⟨(some 13), none, .callV true (.c (.fn n_timing_net_points [])) [(.t 12)]⟩,
    ⟨(some 14), none, .bin .sub (.t 13) (.c (.int .i64 1))⟩,
    ⟨(some 4), none, .mv (.t 14)⟩] (some [1, 3, 4]))
  (.kp [3] [2] (.bk 0 (.lp [] [1, 3, 4] c_timing_timed_rests_L0))))
  (.sq (.op 0 [⟨(some 70), none, .mv (.t 3)⟩,
    ⟨(some 2), none, .mv (.t 70)⟩] none)
  .rt)))),
  [.t 2]⟩
def c_timing_net_points : FnIR := ⟨11,
  (.sq (.op 0 [⟨(some 1), none, .box (.t 0) 4⟩,
    ⟨(some 2), none, .mv (.c (.int .i64 0))⟩] none)
  (.sq (.op 0 [⟨(some 3), none, .fa (.t 1) 0⟩,
    ⟨(some 4), none, .fa (.t 3) 0⟩,
    ⟨(some 5), none, .ld (.t 4) 1 false⟩,
    ⟨(some 6), none, .fa (.t 1) 0⟩,
    ⟨(some 7), none, .fa (.t 6) 1⟩,
    ⟨(some 8), none, .ld (.t 7) 1 false⟩,
    ⟨(some 9), none, .len false (.t 8)⟩,
    ⟨(some 10), none, .bin .add (.t 5) (.t 9)⟩,
    ⟨(some 2), none, .mv (.t 10)⟩] (some [2]))
  .rt)),
  [.t 2]⟩
def c_timing_net_has : FnIR := ⟨21,
  (.sq (.op 0 [⟨(some 3), none, .box (.t 0) 4⟩,
    ⟨(some 6), none, .mv (.c (.bool false))⟩] none)
  (.sq (.op 0 [⟨(some 7), none, .fa (.t 3) 0⟩,
    ⟨(some 8), none, .fa (.t 7) 1⟩,
    ⟨(some 9), none, .ld (.t 8) 1 false⟩,
    ⟨(some 10), none, .mv (.t 1)⟩,
    ⟨(some 11), none, .fa (.t 3) 0⟩,
    ⟨(some 12), none, .fa (.t 11) 0⟩,
    ⟨(some 13), none, .ld (.t 12) 1 false⟩,
    ⟨(some 14), none, .bin .sub (.t 10) (.t 13)⟩,
    ⟨(some 15), none, .ia (.t 9) (.t 14) 2⟩,
    ⟨(some 16), none, .fa (.t 15) 1⟩,
    ⟨(some 17), none, .ld (.t 16) 1 false⟩,
    ⟨(some 18), none, .mv (.t 2)⟩,
    ⟨(some 19), none, .bin .add (.t 18) (.c (.int .i64 2))⟩,
    ⟨(some 20), none, .callV true (.c (.fn n_slices_Contains_int_int [])) [(.t 17), (.t 19)]⟩,
    ⟨(some 6), none, .mv (.t 20)⟩] (some [6]))
  .rt)),
  [.t 6]⟩
def c_timing_timed_delay : FnIR := ⟨15,
  (.sq (.op 0 [⟨(some 2), none, .box (.t 0) 10⟩,
    ⟨(some 4), none, .mv (.c (.int .i64 0))⟩] none)
  (.sq (.op 0 [⟨(some 5), none, .fa (.t 2) 9⟩,
    ⟨(some 6), none, .ld (.t 5) 1 false⟩,
    ⟨(some 7), none, .mv (.t 1)⟩,
    ⟨(some 8), none, .fa (.t 2) 0⟩,
    ⟨(some 9), none, .fa (.t 8) 0⟩,
    ⟨(some 10), none, .fa (.t 9) 0⟩,
    ⟨(some 11), none, .ld (.t 10) 1 false⟩,
    ⟨(some 12), none, .bin .sub (.t 7) (.t 11)⟩,
    ⟨(some 13), none, .ia (.t 6) (.t 12) 1⟩,
    ⟨(some 14), none, .ld (.t 13) 1 false⟩,
    ⟨(some 4), none, .mv (.t 14)⟩] (some [4]))
  .rt)),
  [.t 4]⟩
def c_timing_net_pathErr : FnIR := ⟨28,
  (.sq (.op 0 [⟨(some 2), none, .box (.t 0) 4⟩,
    ⟨(some 3), none, .box (.t 1) 1⟩,
    ⟨(some 4), none, .mv (.c (.int .i64 0))⟩] none)
  (.sq (.sq (.op 0 [⟨(some 7), none, .ld (.t 3) 1 false⟩,
    ⟨(some 8), none, .len false (.t 7)⟩,
    ⟨(some 9), none, .bin .eql (.t 8) (.c (.int .i64 0))⟩] none)
  (.cd (.t 9)
   (.sq (.op 0 [⟨(some 4), none, .mv (.c (.int .i64 10))⟩] none)
   .rt)
   .sk))
  (.sq (.op 0 [⟨(some 11), none, .ld (.t 3) 1 false⟩,
    ⟨(some 12), none, .mkf n_timing_net_pathErr_1 [(.t 2), (.t 3)]⟩,
    ⟨(some 13), none, .callV true (.c (.fn n_timing_each_int [])) [(.t 11), (.t 12)]⟩,
    ⟨(some 10), none, .mv (.t 13)⟩,
    ⟨(some 14), none, .ext (.t 10) 0⟩,
    ⟨(some 15), none, .ext (.t 10) 1⟩,
    ⟨(some 5), none, .mv (.t 14)⟩,
    ⟨(some 6), none, .mv (.t 15)⟩] (some [2, 3, 6]))
  (.sq (.sq (.op 0 [⟨(some 16), none, .mv (.t 6)⟩,
    ⟨(some 17), none, .bin .neq (.t 16) (.c (.int .i64 0))⟩] none)
  (.cd (.t 17)
   (.sq (.op 0 [⟨(some 18), none, .mv (.t 6)⟩,
     ⟨(some 4), none, .mv (.t 18)⟩] none)
   .rt)
   .sk))
  (.sq (.op 7 [⟨(some 19), none, .ld (.t 2) 4 true⟩,
    ⟨(some 20), none, .ld (.t 3) 1 false⟩,
    ⟨(some 21), none, .ld (.t 3) 1 false⟩,
    ⟨(some 22), none, .len false (.t 21)⟩,
    ⟨(some 23), none, .bin .sub (.t 22) (.c (.int .i64 1))⟩,
    ⟨(some 24), none, .ia (.t 20) (.t 23) 1⟩,
    ⟨(some 25), none, .ld (.t 24) 1 false⟩,
    ⟨(some 26), none, .callV true (.c (.fn n_timing_net_isEnd [])) [(.t 19), (.t 25)]⟩,
    ⟨(some 27), none, .callV true (.c (.fn n_timing_unless [])) [(.t 26), (.c (.int .i64 21))]⟩,
    ⟨(some 4), none, .mv (.t 27)⟩] (some [4]))
  .rt))))),
  [.t 4]⟩
def b_timing_timed_along_L0 : IR :=
 (.sq (.op 0 [⟨(some 20), none, .bin .lss (.t 19) (.t 18)⟩] none)
 (.sq (.cd (.t 20)
  .sk
  (.ex 0))
 (.sq (.bk 1 (.sq (.op 0 [⟨(some 21), none, .ia (.t 17) (.t 19) 1⟩,
    ⟨(some 22), none, .ld (.t 21) 1 false⟩,
    ⟨(some 9), none, .mv (.t 22)⟩] none)
  (.op 0 [⟨(some 23), none, .mv (.t 7)⟩,
    ⟨(some 24), none, .ld (.t 3) 10 true⟩,
    ⟨(some 25), none, .mv (.t 9)⟩,
    ⟨(some 26), none, .callV true (.c (.fn n_timing_timed_delay [])) [(.t 24), (.t 25)]⟩,
    ⟨(some 27), none, .bin .add (.t 23) (.t 26)⟩,
    ⟨(some 7), none, .mv (.t 27)⟩] (some [3, 7, 17, 18, 19]))))
 (.op 0 [⟨(some 28), none, .bin .add (.t 19) (.c (.int .i64 1))⟩,
   ⟨(some 19), none, .mv (.t 28)⟩] none))))
def c_timing_timed_along_L0 : IR := b_timing_timed_along_L0
theorem u_timing_timed_along_L0 {C : Call} {L : Loop} {π : Id} {k0 : List Id} {e : Env} {s : Sto} : evC C L π k0 c_timing_timed_along_L0 e s = evC C L π k0 b_timing_timed_along_L0 e s := rfl
def c_timing_timed_along : FnIR := ⟨30,
  (.sq (.op 0 [⟨(some 3), none, .box (.t 0) 10⟩,
    ⟨(some 6), none, .mv (.c (.int .i64 0))⟩] none)
  (.sq (.op 0 [⟨(some 10), none, .mv (.t 1)⟩,
    ⟨(some 11), none, .mv (.t 2)⟩,
    ⟨(some 12), none, .ia (.t 11) (.c (.int .i64 0)) 1⟩,
    ⟨(some 13), none, .ld (.t 12) 1 false⟩,
    ⟨(some 14), none, .ia (.t 10) (.t 13) 1⟩,
    ⟨(some 15), none, .ld (.t 14) 1 false⟩,
    ⟨(some 7), none, .mv (.t 15)⟩] (some [2, 3, 7]))
  (.sq (.sq (.op 0 [⟨(some 16), none, .mv (.t 2)⟩,
    ⟨(some 17), none, .slc false (.t 16) (some (.c (.int .i64 1))) none 1⟩,
    ⟨(some 18), none, .len false (.t 17)⟩,
    ⟨(some 19), none, .mv (.c (.int .i64 0))⟩] (some [3, 7, 17, 18, 19]))
  (.kp [7] [6] (.bk 0 (.lp [] [3, 7, 17, 18, 19] c_timing_timed_along_L0))))
  (.sq (.op 0 [⟨(some 29), none, .mv (.t 7)⟩,
    ⟨(some 6), none, .mv (.t 29)⟩] none)
  .rt)))),
  [.t 6]⟩
def b_ratchetref28_Delays_L0 : IR :=
 (.sq (.sq (.op 0 [⟨(some 9), none, .mv (.t 8)⟩,
   ⟨(some 10), none, .fa (.t 4) 1⟩,
   ⟨(some 11), none, .ld (.t 10) 1 false⟩,
   ⟨(some 12), none, .len false (.t 11)⟩,
   ⟨(some 13), none, .bin .lss (.t 9) (.t 12)⟩] (some [0, 4, 5, 7, 8, 13]))
 (.cd (.t 13)
  .sk
  (.ex 0)))
 (.sq (.bk 1 (.op 17 [⟨(some 16), none, .mv (.t 7)⟩,
    ⟨(some 17), none, .mv (.t 0)⟩,
    ⟨(some 18), none, .fa (.t 4) 1⟩,
    ⟨(some 19), none, .ld (.t 18) 1 false⟩,
    ⟨(some 20), none, .mv (.t 8)⟩,
    ⟨(some 21), none, .ia (.t 19) (.t 20) 2⟩,
    ⟨(some 22), none, .fa (.t 21) 0⟩,
    ⟨(some 23), none, .ld (.t 22) 1 false⟩,
    ⟨(some 24), none, .ia (.t 17) (.t 23) 5⟩,
    ⟨(some 25), none, .fa (.t 24) 4⟩,
    ⟨(some 26), none, .ld (.t 25) 1 false⟩,
    ⟨(some 27), none, .fa (.t 5) 0⟩,
    ⟨(some 28), none, .ld (.t 27) 1 false⟩,
    ⟨(some 29), none, .ld (.t 4) 3 true⟩,
    ⟨(some 30), none, .mv (.t 8)⟩,
    ⟨(some 31), none, .callV true (.c (.fn n_ratchetref28_load [])) [(.t 29), (.t 30)]⟩,
    ⟨(some 32), none, .bin .mul (.t 28) (.t 31)⟩,
    ⟨(some 33), none, .bin .add (.t 26) (.t 32)⟩,
    ⟨(some 34), none, .bsl t_int 1 false [.int .i64 0] 1 [(0, (.t 33))]⟩,
    ⟨(some 35), none, .app (.t 16) (.t 34) t_int 1⟩,
    ⟨(some 7), none, .mv (.t 35)⟩] (some [0, 4, 5, 7, 8])))
 (.op 0 [⟨(some 14), none, .mv (.t 8)⟩,
   ⟨(some 15), none, .bin .add (.t 14) (.c (.int .i64 1))⟩,
   ⟨(some 8), none, .mv (.t 15)⟩] none)))
def c_ratchetref28_Delays_L0 : IR := b_ratchetref28_Delays_L0
theorem u_ratchetref28_Delays_L0 {C : Call} {L : Loop} {π : Id} {k0 : List Id} {e : Env} {s : Sto} : evC C L π k0 c_ratchetref28_Delays_L0 e s = evC C L π k0 b_ratchetref28_Delays_L0 e s := rfl
def c_ratchetref28_Delays : FnIR := ⟨37,
  (.sq (.op 0 [⟨(some 4), none, .box (.t 1) 3⟩,
    ⟨(some 5), none, .box (.t 2) 5⟩,
    ⟨(some 6), none, .mv (.c (.sl 1 (some true) []))⟩] none)
  (.sq (.op 0 [⟨(some 7), none, .mv (.c (.sl 1 (some true) []))⟩] none)
  (.sq (.sq (.op 0 [⟨(some 8), none, .mv (.c (.int .i64 0))⟩] none)
  (.kp [7] [6] (.bk 0 (.lp [(t_int, .inl 7)] [0, 4, 5, 7, 8] c_ratchetref28_Delays_L0))))
  (.sq (.op 0 [⟨(some 36), none, .mv (.t 7)⟩,
    ⟨(some 6), none, .mv (.t 36)⟩] none)
  .rt)))),
  [.t 6]⟩
def b_timing_timed_arrivals_L0 : IR :=
 (.sq (.op 0 [⟨(some 16), none, .bin .lss (.t 15) (.t 14)⟩] none)
 (.sq (.cd (.t 16)
  .sk
  (.ex 0))
 (.sq (.bk 1 (.sq (.op 0 [⟨(some 17), none, .mv (.t 15)⟩,
    ⟨(some 18), none, .ia (.t 13) (.t 15) 2⟩,
    ⟨(some 19), none, .ld (.t 18) 2 true⟩,
    ⟨(some 7), none, .alloc [.int .i64 0, .sl 1 (some true) []]⟩,
    ⟨(some 6), none, .mv (.t 17)⟩,
    ⟨none, none, .st (.t 7) (.t 19) 2⟩] (some [2, 5, 6, 7, 13, 14, 15]))
  (.op 10 [⟨(some 20), none, .mv (.t 5)⟩,
    ⟨(some 21), none, .fa (.t 7) 1⟩,
    ⟨(some 22), none, .ld (.t 21) 1 false⟩,
    ⟨(some 23), none, .mv (.t 5)⟩,
    ⟨(some 24), none, .callV true (.c (.fn n_timing_greatest [])) [(.t 22), (.t 23)]⟩,
    ⟨(some 25), none, .fa (.t 2) 9⟩,
    ⟨(some 26), none, .ld (.t 25) 1 false⟩,
    ⟨(some 27), none, .mv (.t 6)⟩,
    ⟨(some 28), none, .ia (.t 26) (.t 27) 1⟩,
    ⟨(some 29), none, .ld (.t 28) 1 false⟩,
    ⟨(some 30), none, .bin .add (.t 24) (.t 29)⟩,
    ⟨(some 31), none, .bsl t_int 1 false [.int .i64 0] 1 [(0, (.t 30))]⟩,
    ⟨(some 32), none, .app (.t 20) (.t 31) t_int 1⟩,
    ⟨(some 5), none, .mv (.t 32)⟩] (some [2, 5, 13, 14, 15]))))
 (.op 0 [⟨(some 33), none, .bin .add (.t 15) (.c (.int .i64 1))⟩,
   ⟨(some 15), none, .mv (.t 33)⟩] none))))
def c_timing_timed_arrivals_L0 : IR := b_timing_timed_arrivals_L0
theorem u_timing_timed_arrivals_L0 {C : Call} {L : Loop} {π : Id} {k0 : List Id} {e : Env} {s : Sto} : evC C L π k0 c_timing_timed_arrivals_L0 e s = evC C L π k0 b_timing_timed_arrivals_L0 e s := rfl
def c_timing_timed_arrivals : FnIR := ⟨35,
  (.sq (.op 0 [⟨(some 2), none, .box (.t 0) 10⟩,
    ⟨(some 4), none, .mv (.c (.sl 1 (some true) []))⟩] none)
  (.sq (.op 0 [⟨(some 8), none, .mv (.t 1)⟩,
    ⟨(some 9), none, .callV false (.c (.fn n_slices_Clone_int_int [])) [(.t 8)]⟩,
    ⟨(some 5), none, .mv (.t 9)⟩] none)
  (.sq (.sq (.op 0 [⟨(some 10), none, .fa (.t 2) 0⟩,
    ⟨(some 11), none, .fa (.t 10) 0⟩,
    ⟨(some 12), none, .fa (.t 11) 1⟩,
    ⟨(some 13), none, .ld (.t 12) 1 false⟩,
    ⟨(some 14), none, .len false (.t 13)⟩,
    ⟨(some 15), none, .mv (.c (.int .i64 0))⟩] (some [2, 5, 13, 14, 15]))
  (.kp [5] [4] (.bk 0 (.lp [(t_int, .inl 5)] [2, 5, 13, 14, 15] c_timing_timed_arrivals_L0))))
  (.sq (.op 0 [⟨(some 34), none, .mv (.t 5)⟩,
    ⟨(some 4), none, .mv (.t 34)⟩] none)
  .rt)))),
  [.t 4]⟩
def b_ratchetbase_Has_L0 : IR :=
 (.sq (.sq (.op 0 [⟨(some 6), none, .mv (.t 5)⟩,
   ⟨(some 7), none, .mv (.t 0)⟩,
   ⟨(some 8), none, .len false (.t 7)⟩,
   ⟨(some 9), none, .bin .lss (.t 6) (.t 8)⟩] (some [0, 1, 5, 9]))
 (.cd (.t 9)
  .sk
  (.ex 0)))
 (.sq (.bk 1 (.sq (.op 0 [⟨(some 12), none, .mv (.t 0)⟩,
    ⟨(some 13), none, .mv (.t 5)⟩,
    ⟨(some 14), none, .ia (.t 12) (.t 13) 1⟩,
    ⟨(some 15), none, .ld (.t 14) 1 false⟩,
    ⟨(some 16), none, .mv (.t 1)⟩,
    ⟨(some 17), none, .bin .eql (.t 15) (.t 16)⟩] (some [0, 1, 5, 17]))
  (.cd (.t 17)
   (.sq (.op 0 [⟨(some 4), none, .mv (.c (.bool true))⟩] none)
   .rt)
   .sk)))
 (.op 0 [⟨(some 10), none, .mv (.t 5)⟩,
   ⟨(some 11), none, .bin .add (.t 10) (.c (.int .i64 1))⟩,
   ⟨(some 5), none, .mv (.t 11)⟩] none)))
def c_ratchetbase_Has_L0 : IR := b_ratchetbase_Has_L0
theorem u_ratchetbase_Has_L0 {C : Call} {L : Loop} {π : Id} {k0 : List Id} {e : Env} {s : Sto} : evC C L π k0 c_ratchetbase_Has_L0 e s = evC C L π k0 b_ratchetbase_Has_L0 e s := rfl
def c_ratchetbase_Has : FnIR := ⟨18,
  (.sq (.op 0 [⟨(some 4), none, .mv (.c (.bool false))⟩] none)
  (.sq (.sq (.op 0 [⟨(some 5), none, .mv (.c (.int .i64 0))⟩] none)
  (.kp [] [4] (.bk 0 (.lp [] [0, 1, 5] c_ratchetbase_Has_L0))))
  (.sq (.op 0 [⟨(some 4), none, .mv (.c (.bool false))⟩] none)
  .rt))),
  [.t 4]⟩
def b_timing_timed_ends_L0 : IR :=
 (.sq (.op 0 [⟨(some 18), none, .bin .lss (.t 17) (.t 16)⟩] none)
 (.sq (.cd (.t 18)
  .sk
  (.ex 0))
 (.sq (.bk 1 (.sq (.op 0 [⟨(some 19), none, .mv (.t 17)⟩,
    ⟨(some 20), none, .ia (.t 15) (.t 17) 2⟩,
    ⟨(some 21), none, .ld (.t 20) 2 true⟩,
    ⟨(some 7), none, .alloc [.int .i64 0, .sl 1 (some true) []]⟩,
    ⟨(some 6), none, .mv (.t 19)⟩,
    ⟨none, none, .st (.t 7) (.t 21) 2⟩] (some [2, 4, 5, 6, 7, 15, 16, 17]))
  (.sq (.op 15 [⟨(some 22), none, .mv (.t 4)⟩,
    ⟨(some 23), none, .fa (.t 7) 1⟩,
    ⟨(some 24), none, .ld (.t 23) 1 false⟩,
    ⟨(some 25), none, .mv (.t 4)⟩,
    ⟨(some 26), none, .callV true (.c (.fn n_timing_least [])) [(.t 24), (.t 25)]⟩,
    ⟨(some 27), none, .fa (.t 2) 9⟩,
    ⟨(some 28), none, .ld (.t 27) 1 false⟩,
    ⟨(some 29), none, .mv (.t 6)⟩,
    ⟨(some 30), none, .ia (.t 28) (.t 29) 1⟩,
    ⟨(some 31), none, .ld (.t 30) 1 false⟩,
    ⟨(some 32), none, .fa (.t 2) 4⟩,
    ⟨(some 33), none, .fa (.t 32) 3⟩,
    ⟨(some 34), none, .ld (.t 33) 1 false⟩,
    ⟨(some 35), none, .bin .mul (.t 31) (.t 34)⟩,
    ⟨(some 36), none, .bin .quo (.t 35) (.c (.int .i64 100))⟩,
    ⟨(some 37), none, .bin .add (.t 26) (.t 36)⟩,
    ⟨(some 38), none, .bsl t_int 1 false [.int .i64 0] 1 [(0, (.t 37))]⟩,
    ⟨(some 39), none, .app (.t 22) (.t 38) t_int 1⟩,
    ⟨(some 4), none, .mv (.t 39)⟩] (some [2, 4, 5, 6, 7, 15, 16, 17]))
  (.op 17 [⟨(some 40), none, .mv (.t 5)⟩,
    ⟨(some 41), none, .fa (.t 7) 1⟩,
    ⟨(some 42), none, .ld (.t 41) 1 false⟩,
    ⟨(some 43), none, .mv (.t 5)⟩,
    ⟨(some 44), none, .callV true (.c (.fn n_timing_greatest [])) [(.t 42), (.t 43)]⟩,
    ⟨(some 45), none, .fa (.t 2) 9⟩,
    ⟨(some 46), none, .ld (.t 45) 1 false⟩,
    ⟨(some 47), none, .mv (.t 6)⟩,
    ⟨(some 48), none, .ia (.t 46) (.t 47) 1⟩,
    ⟨(some 49), none, .ld (.t 48) 1 false⟩,
    ⟨(some 50), none, .fa (.t 2) 4⟩,
    ⟨(some 51), none, .fa (.t 50) 4⟩,
    ⟨(some 52), none, .ld (.t 51) 1 false⟩,
    ⟨(some 53), none, .bin .mul (.t 49) (.t 52)⟩,
    ⟨(some 54), none, .bin .add (.t 53) (.c (.int .i64 100))⟩,
    ⟨(some 55), none, .bin .sub (.t 54) (.c (.int .i64 1))⟩,
    ⟨(some 56), none, .bin .quo (.t 55) (.c (.int .i64 100))⟩,
    ⟨(some 57), none, .bin .add (.t 44) (.t 56)⟩,
    ⟨(some 58), none, .bsl t_int 1 false [.int .i64 0] 1 [(0, (.t 57))]⟩,
    ⟨(some 59), none, .app (.t 40) (.t 58) t_int 1⟩,
    ⟨(some 5), none, .mv (.t 59)⟩] (some [2, 4, 5, 15, 16, 17])))))
 (.op 0 [⟨(some 60), none, .bin .add (.t 17) (.c (.int .i64 1))⟩,
   ⟨(some 17), none, .mv (.t 60)⟩] none))))
def c_timing_timed_ends_L0 : IR := b_timing_timed_ends_L0
theorem u_timing_timed_ends_L0 {C : Call} {L : Loop} {π : Id} {k0 : List Id} {e : Env} {s : Sto} : evC C L π k0 c_timing_timed_ends_L0 e s = evC C L π k0 b_timing_timed_ends_L0 e s := rfl
def c_timing_timed_ends : FnIR := ⟨63,
  (.sq (.op 0 [⟨(some 2), none, .box (.t 0) 10⟩,
    ⟨(some 4), none, .mv (.c (.sl 1 (some true) []))⟩,
    ⟨(some 5), none, .mv (.c (.sl 1 (some true) []))⟩] none)
  (.sq (.op 0 [⟨(some 8), none, .mv (.t 1)⟩,
    ⟨(some 9), none, .callV false (.c (.fn n_slices_Clone_int_int [])) [(.t 8)]⟩,
    ⟨(some 10), none, .mv (.t 1)⟩,
    ⟨(some 11), none, .callV false (.c (.fn n_slices_Clone_int_int [])) [(.t 10)]⟩,
    ⟨(some 4), none, .mv (.t 9)⟩,
    ⟨(some 5), none, .mv (.t 11)⟩] (some [2, 4, 5]))
  (.sq (.sq (.op 0 [⟨(some 12), none, .fa (.t 2) 0⟩,
    ⟨(some 13), none, .fa (.t 12) 0⟩,
    ⟨(some 14), none, .fa (.t 13) 1⟩,
    ⟨(some 15), none, .ld (.t 14) 1 false⟩,
    ⟨(some 16), none, .len false (.t 15)⟩,
    ⟨(some 17), none, .mv (.c (.int .i64 0))⟩] (some [2, 4, 5, 15, 16, 17]))
  (.kp [4, 5] [4, 5] (.bk 0 (.lp [(t_int, .inl 4), (t_int, .inl 5)] [2, 4, 5, 15, 16, 17] c_timing_timed_ends_L0))))
  (.sq (.op 0 [⟨(some 61), none, .mv (.t 4)⟩,
    ⟨(some 62), none, .mv (.t 5)⟩,
    ⟨(some 4), none, .mv (.t 61)⟩,
    ⟨(some 5), none, .mv (.t 62)⟩] (some [4, 5]))
  .rt)))),
  [.t 4, .t 5]⟩
def c_ratchetref28_point : FnIR := ⟨6,
  (.sq (.op 0 [⟨(some 2), none, .mv (.c (.int .i64 0))⟩] none)
  (.sq (.op 0 [⟨(some 3), none, .mv (.t 0)⟩,
    ⟨(some 4), none, .bin .sub (.t 3) (.c (.int .i64 2))⟩,
    ⟨(some 5), none, .mm true (.c (.int .i64 (-1))) (.t 4)⟩,
    ⟨(some 2), none, .mv (.t 5)⟩] (some [2]))
  .rt)),
  [.t 2]⟩
def c_ratchetbase_Ceil : FnIR := ⟨10,
  (.sq (.op 0 [⟨(some 4), none, .mv (.c (.int .i64 0))⟩] none)
  (.sq (.op 0 [⟨(some 5), none, .mv (.t 0)⟩,
    ⟨(some 6), none, .un .neg (.t 5)⟩,
    ⟨(some 7), none, .mv (.t 1)⟩,
    ⟨(some 8), none, .callV true (.c (.fn n_ratchetbase_Floor [])) [(.t 6), (.t 7)]⟩,
    ⟨(some 9), none, .un .neg (.t 8)⟩,
    ⟨(some 4), none, .mv (.t 9)⟩] (some [4]))
  .rt)),
  [.t 4]⟩
def c_timing_openRegisters : FnIR := ⟨50,
  (.sq (.op 0 [⟨(some 6), none, .box (.t 1) 3⟩,
    ⟨(some 7), none, .box (.t 2) 5⟩,
    ⟨(some 10), none, .alloc [.int .i64 0, .sl 2 (some true) [], .sl 1 (some true) [], .sl 5 (some true) [], .int .i64 0, .int .i64 0, .int .i64 0, .int .i64 0, .int .i64 0, .sl 1 (some true) []]⟩,
    ⟨(some 11), none, .mv (.c (.sl 1 (some true) []))⟩,
    ⟨(some 12), none, .mv (.c (.int .i64 0))⟩] (some [0, 3, 4, 6, 7, 10]))
  (.sq (.op 0 [⟨(some 17), none, .mv (.t 0)⟩,
    ⟨(some 18), none, .ld (.t 6) 3 true⟩,
    ⟨(some 19), none, .ld (.t 7) 5 true⟩,
    ⟨(some 20), none, .callV false (.c (.fn n_timing_openModel [])) [(.t 17), (.t 18), (.t 19)]⟩,
    ⟨(some 16), none, .mv (.t 20)⟩,
    ⟨(some 21), none, .ext (.t 16) 0⟩,
    ⟨(some 22), none, .ext (.t 16) 1⟩,
    ⟨(some 13), none, .alloc [.int .i64 0, .sl 2 (some true) [], .sl 1 (some true) [], .sl 5 (some true) [], .int .i64 0, .int .i64 0, .int .i64 0, .int .i64 0, .int .i64 0, .sl 1 (some true) []]⟩,
    ⟨none, none, .st (.t 13) (.t 21) 10⟩,
    ⟨(some 14), none, .mv (.t 22)⟩] (some [3, 4, 6, 10, 13, 14]))
  (.sq (.op 13 [⟨(some 23), none, .mv (.t 14)⟩,
    ⟨(some 24), none, .mv (.t 3)⟩,
    ⟨(some 25), none, .fa (.t 6) 0⟩,
    ⟨(some 26), none, .ld (.t 25) 1 false⟩,
    ⟨(some 27), none, .fa (.t 6) 2⟩,
    ⟨(some 28), none, .ld (.t 27) 1 false⟩,
    ⟨(some 29), none, .len false (.t 28)⟩,
    ⟨(some 30), none, .mm false (.t 26) (.t 29)⟩,
    ⟨(some 31), none, .callV true (.c (.fn n_timing_within [])) [(.t 24), (.c (.int .i64 0)), (.t 30)]⟩,
    ⟨(some 32), none, .callV true (.c (.fn n_timing_unless [])) [(.t 31), (.c (.int .i64 2))]⟩,
    ⟨(some 33), none, .mv (.t 4)⟩,
    ⟨(some 34), none, .fa (.t 6) 0⟩,
    ⟨(some 35), none, .ld (.t 34) 1 false⟩,
    ⟨(some 36), none, .callV true (.c (.fn n_timing_timesErr [])) [(.t 33), (.t 35)]⟩,
    ⟨(some 37), none, .bsl t_api_Errno 1 false [.int .i64 0] 3 [(0, (.t 23)), (1, (.t 32)), (2, (.t 36))]⟩,
    ⟨(some 38), none, .callV true (.c (.fn n_timing_first [])) [(.t 37)]⟩,
    ⟨(some 14), none, .mv (.t 38)⟩] (some [3, 4, 10, 13, 14]))
  (.sq (.sq (.op 0 [⟨(some 39), none, .mv (.t 14)⟩,
    ⟨(some 40), none, .bin .neq (.t 39) (.c (.int .i64 0))⟩] none)
  (.cd (.t 40)
   (.sq (.op 0 [⟨(some 41), none, .ld (.t 13) 10 true⟩,
     ⟨(some 42), none, .mv (.t 14)⟩,
     ⟨none, none, .st (.t 10) (.t 41) 10⟩,
     ⟨(some 11), none, .mv (.c (.sl 1 (some true) []))⟩,
     ⟨(some 12), none, .mv (.t 42)⟩] (some [10, 11, 12]))
   .rt)
   .sk))
  (.sq (.op 0 [⟨(some 43), none, .mv (.t 4)⟩,
    ⟨(some 44), none, .callV false (.c (.fn n_slices_Clone_int_int [])) [(.t 43)]⟩,
    ⟨(some 15), none, .mv (.t 44)⟩] none)
  (.sq (.op 0 [⟨(some 45), none, .mv (.t 15)⟩,
    ⟨(some 46), none, .mv (.t 3)⟩,
    ⟨(some 47), none, .prt (.t 45) none (some (.t 46)) 1⟩,
    ⟨none, none, .clr (.t 47) t_int 1 false [.int .i64 0]⟩] (some [10, 13, 15]))
  (.sq (.op 0 [⟨(some 48), none, .ld (.t 13) 10 true⟩,
    ⟨(some 49), none, .mv (.t 15)⟩,
    ⟨none, none, .st (.t 10) (.t 48) 10⟩,
    ⟨(some 11), none, .mv (.t 49)⟩,
    ⟨(some 12), none, .mv (.c (.int .i64 0))⟩] (some [10, 11, 12]))
  .rt))))))),
  [.c 10 10 true, .t 11, .t 12]⟩
def b_timing_first_L0 : IR :=
 (.sq (.op 0 [⟨(some 8), none, .bin .lss (.t 7) (.t 6)⟩] none)
 (.sq (.cd (.t 8)
  .sk
  (.ex 0))
 (.sq (.bk 1 (.sq (.op 0 [⟨(some 9), none, .ia (.t 5) (.t 7) 1⟩,
    ⟨(some 10), none, .ld (.t 9) 1 false⟩,
    ⟨(some 4), none, .mv (.t 10)⟩] none)
  (.sq (.op 0 [⟨(some 11), none, .mv (.t 4)⟩,
    ⟨(some 12), none, .bin .neq (.t 11) (.c (.int .i64 0))⟩] none)
  (.cd (.t 12)
   (.sq (.op 0 [⟨(some 13), none, .mv (.t 4)⟩,
     ⟨(some 2), none, .mv (.t 13)⟩] none)
   .rt)
   .sk))))
 (.op 0 [⟨(some 14), none, .bin .add (.t 7) (.c (.int .i64 1))⟩,
   ⟨(some 7), none, .mv (.t 14)⟩] none))))
def c_timing_first_L0 : IR := b_timing_first_L0
theorem u_timing_first_L0 {C : Call} {L : Loop} {π : Id} {k0 : List Id} {e : Env} {s : Sto} : evC C L π k0 c_timing_first_L0 e s = evC C L π k0 b_timing_first_L0 e s := rfl
def c_timing_first : FnIR := ⟨15,
  (.sq (.op 0 [⟨(some 2), none, .mv (.c (.int .i64 0))⟩] none)
  (.sq (.sq (.op 0 [⟨(some 5), none, .mv (.t 0)⟩,
    ⟨(some 6), none, .len false (.t 5)⟩,
    ⟨(some 7), none, .mv (.c (.int .i64 0))⟩] none)
  (.kp [] [2] (.bk 0 (.lp [] [5, 6, 7] c_timing_first_L0))))
  (.sq (.op 0 [⟨(some 2), none, .mv (.c (.int .i64 0))⟩] none)
  .rt))),
  [.t 2]⟩
def c_timing_unless : FnIR := ⟨7,
  (.sq (.op 0 [⟨(some 4), none, .mv (.c (.int .i64 0))⟩] none)
  (.sq (.sq (.op 0 [⟨(some 5), none, .mv (.t 0)⟩] none)
  (.cd (.t 5)
   (.sq (.op 0 [⟨(some 4), none, .mv (.c (.int .i64 0))⟩] none)
   .rt)
   .sk))
  (.sq (.op 0 [⟨(some 6), none, .mv (.t 1)⟩,
    ⟨(some 4), none, .mv (.t 6)⟩] none)
  .rt))),
  [.t 4]⟩

end Go.Proofs.YtafomlbikcphgaaGreat.V
