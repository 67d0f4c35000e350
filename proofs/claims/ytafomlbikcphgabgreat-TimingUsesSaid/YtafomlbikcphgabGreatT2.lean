/- The table of functions, and that it is right. Printed by a program of this work. -/
import Derived.Test.YtafomlbikcphgabGreatT0
import Derived.Test.YtafomlbikcphgabGreatT1
import Derived.Test.YtafomlbikcphgabGreatProg
import Derived.Test.YtafomlbikcphgabGreatK4

set_option linter.unusedSimpArgs false
set_option linter.unusedVariables false

/- The table of functions, and that it is right. Printed by a program of this work. -/
namespace Go.Proofs.YtafomlbikcphgabGreat.V
open Go Go.Proofs

theorem m_gosem_cut_init : mfn Tryz.prog Tryz.f2 c_gosem_cut_init = true := by kernel_rfl
theorem m_ratchetlaw28_TimingUses : mfn Tryz.prog Tryz.f3 c_ratchetlaw28_TimingUses = true := by kernel_rfl
theorem m_ratchetlaw28_awake : mfn Tryz.prog Tryz.f4 c_ratchetlaw28_awake = true := by kernel_rfl
theorem m_ratchetlaw28_Few : mfn Tryz.prog Tryz.f5 c_ratchetlaw28_Few = true := by kernel_rfl
theorem m_ratchetlaw28_copied : mfn Tryz.prog Tryz.f6 c_ratchetlaw28_copied = true := by kernel_rfl
theorem m_ratchetref28_AllErr : mfn Tryz.prog Tryz.f7 c_ratchetref28_AllErr = true := by kernel_rfl
theorem m_ratchetlaw28_light : mfn Tryz.prog Tryz.f8 c_ratchetlaw28_light = true := by kernel_rfl
theorem m_ratchetref28_Paths : mfn Tryz.prog Tryz.f9 c_ratchetref28_Paths = true := by kernel_rfl
theorem m_timing_UsedAt : mfn Tryz.prog Tryz.f10 c_timing_UsedAt = true := by kernel_rfl
theorem m_ratchetbase_CopyInts : mfn Tryz.prog Tryz.f11 c_ratchetbase_CopyInts = true := by kernel_rfl
theorem m_timing_TruePath : mfn Tryz.prog Tryz.f12 c_timing_TruePath = true := by kernel_rfl
theorem m_ratchetref28_NetErr : mfn Tryz.prog Tryz.f13 c_ratchetref28_NetErr = true := by kernel_rfl
theorem m_ratchetref28_PathErr : mfn Tryz.prog Tryz.f14 c_ratchetref28_PathErr = true := by kernel_rfl
theorem m_ratchetref28_BitsErr : mfn Tryz.prog Tryz.f15 c_ratchetref28_BitsErr = true := by kernel_rfl
theorem m_ratchetref28_UsedAt : mfn Tryz.prog Tryz.f16 c_ratchetref28_UsedAt = true := by kernel_rfl
theorem m_ratchetbase_Ints : mfn Tryz.prog Tryz.f17 c_ratchetbase_Ints = true := by kernel_rfl
theorem m_ratchetref28_TimesErr : mfn Tryz.prog Tryz.f18 c_ratchetref28_TimesErr = true := by kernel_rfl
theorem m_ratchetref28_TrueErr : mfn Tryz.prog Tryz.f19 c_ratchetref28_TrueErr = true := by kernel_rfl
theorem m_ratchetref28_True : mfn Tryz.prog Tryz.f20 c_ratchetref28_True = true := by kernel_rfl
theorem m_ratchetref28_Critical : mfn Tryz.prog Tryz.f21 c_ratchetref28_Critical = true := by kernel_rfl
theorem m_ratchetref28_Delay : mfn Tryz.prog Tryz.f22 c_ratchetref28_Delay = true := by kernel_rfl
theorem m_timing_ArrivalsOf : mfn Tryz.prog Tryz.f23 c_timing_ArrivalsOf = true := by kernel_rfl
theorem m_ratchetlaw28_Library : mfn Tryz.prog Tryz.f24 c_ratchetlaw28_Library = true := by kernel_rfl
theorem m_ratchetlaw28_Net : mfn Tryz.prog Tryz.f25 c_ratchetlaw28_Net = true := by kernel_rfl
theorem m_ratchetlaw28_Model : mfn Tryz.prog Tryz.f26 c_ratchetlaw28_Model = true := by kernel_rfl
theorem m_timing_SlacksOf : mfn Tryz.prog Tryz.f27 c_timing_SlacksOf = true := by kernel_rfl
theorem m_timing_CriticalPath : mfn Tryz.prog Tryz.f28 c_timing_CriticalPath = true := by kernel_rfl
theorem m_ratchetref27_CopyLibrary : mfn Tryz.prog Tryz.f29 c_ratchetref27_CopyLibrary = true := by kernel_rfl
theorem m_ratchetref27_CopyNet : mfn Tryz.prog Tryz.f30 c_ratchetref27_CopyNet = true := by kernel_rfl
theorem m_ratchetref28_ModelErr : mfn Tryz.prog Tryz.f31 c_ratchetref28_ModelErr = true := by kernel_rfl
theorem m_ratchetref28_longer : mfn Tryz.prog Tryz.f32 c_ratchetref28_longer = true := by kernel_rfl
theorem m_timing_open : mfn Tryz.prog Tryz.f33 c_timing_open = true := by kernel_rfl
theorem m_timing_net_pathErr : mfn Tryz.prog Tryz.f34 c_timing_net_pathErr = true := by kernel_rfl
theorem m_timing_first : mfn Tryz.prog Tryz.f35 c_timing_first = true := by kernel_rfl
theorem m_timing_unless : mfn Tryz.prog Tryz.f36 c_timing_unless = true := by kernel_rfl
theorem m_timing_net_used : mfn Tryz.prog Tryz.f37 c_timing_net_used = true := by kernel_rfl
theorem m_timing_openTimes : mfn Tryz.prog Tryz.f38 c_timing_openTimes = true := by kernel_rfl
theorem m_timing_net_count : mfn Tryz.prog Tryz.f39 c_timing_net_count = true := by kernel_rfl
theorem m_timing_net_all : mfn Tryz.prog Tryz.f40 c_timing_net_all = true := by kernel_rfl
theorem m_timing_timed_along : mfn Tryz.prog Tryz.f41 c_timing_timed_along = true := by kernel_rfl
theorem m_slices_Clone_int_int : mfn Tryz.prog Tryz.f42 c_slices_Clone_int_int = true := by kernel_rfl
theorem m_ratchetref27_NetErr : mfn Tryz.prog Tryz.f43 c_ratchetref27_NetErr = true := by kernel_rfl
theorem m_ratchetbase_Within : mfn Tryz.prog Tryz.f44 c_ratchetbase_Within = true := by kernel_rfl
theorem m_ratchetref28_Points : mfn Tryz.prog Tryz.f45 c_ratchetref28_Points = true := by kernel_rfl
theorem m_ratchetbase_Has : mfn Tryz.prog Tryz.f46 c_ratchetbase_Has = true := by kernel_rfl
theorem m_ratchetbase_Power : mfn Tryz.prog Tryz.f47 c_ratchetbase_Power = true := by kernel_rfl
theorem m_ratchetref28_IsUsed : mfn Tryz.prog Tryz.f48 c_ratchetref28_IsUsed = true := by kernel_rfl
theorem m_ratchetref28_Delays : mfn Tryz.prog Tryz.f49 c_ratchetref28_Delays = true := by kernel_rfl
theorem m_timing_timed_arrivals : mfn Tryz.prog Tryz.f50 c_timing_timed_arrivals = true := by kernel_rfl
theorem m_timing_timesErr : mfn Tryz.prog Tryz.f51 c_timing_timesErr = true := by kernel_rfl
theorem m_timing_timed_required : mfn Tryz.prog Tryz.f52 c_timing_timed_required = true := by kernel_rfl
theorem m_timing_timed_rests : mfn Tryz.prog Tryz.f53 c_timing_timed_rests = true := by kernel_rfl
theorem m_timing_net_points : mfn Tryz.prog Tryz.f54 c_timing_net_points = true := by kernel_rfl
theorem m_timing_net_has : mfn Tryz.prog Tryz.f55 c_timing_net_has = true := by kernel_rfl
theorem m_timing_timed_delay : mfn Tryz.prog Tryz.f56 c_timing_timed_delay = true := by kernel_rfl
theorem m_mapping_CheckNet : mfn Tryz.prog Tryz.f57 c_mapping_CheckNet = true := by kernel_rfl
theorem m_timing_each_int : mfn Tryz.prog Tryz.f58 c_timing_each_int = true := by kernel_rfl
theorem m_timing_net_pathErr_1 : mfn Tryz.prog Tryz.f59 c_timing_net_pathErr_1 = true := by kernel_rfl
theorem m_timing_within : mfn Tryz.prog Tryz.f60 c_timing_within = true := by kernel_rfl
theorem m_timing_net_isCell : mfn Tryz.prog Tryz.f61 c_timing_net_isCell = true := by kernel_rfl
theorem m_timing_net_isEnd : mfn Tryz.prog Tryz.f62 c_timing_net_isEnd = true := by kernel_rfl
theorem m_timing_net_isUsed : mfn Tryz.prog Tryz.f63 c_timing_net_isUsed = true := by kernel_rfl
theorem m_timing_net_values : mfn Tryz.prog Tryz.f64 c_timing_net_values = true := by kernel_rfl
theorem m_timing_openModel : mfn Tryz.prog Tryz.f65 c_timing_openModel = true := by kernel_rfl
theorem m_timing_net_paths : mfn Tryz.prog Tryz.f66 c_timing_net_paths = true := by kernel_rfl
theorem m_ratchetref27_LibraryErr : mfn Tryz.prog Tryz.f67 c_ratchetref27_LibraryErr = true := by kernel_rfl
theorem m_ratchetref27_CheckNet : mfn Tryz.prog Tryz.f68 c_ratchetref27_CheckNet = true := by kernel_rfl
theorem m_ratchetref27_Sources : mfn Tryz.prog Tryz.f69 c_ratchetref27_Sources = true := by kernel_rfl
theorem m_ratchetref27_Value : mfn Tryz.prog Tryz.f70 c_ratchetref27_Value = true := by kernel_rfl
theorem m_ratchetref28_load : mfn Tryz.prog Tryz.f71 c_ratchetref28_load = true := by kernel_rfl
theorem m_timing_greatest : mfn Tryz.prog Tryz.f72 c_timing_greatest = true := by kernel_rfl
theorem m_slices_ContainsFunc_int_int : mfn Tryz.prog Tryz.f73 c_slices_ContainsFunc_int_int = true := by kernel_rfl
theorem m_timing_timesErr_1 : mfn Tryz.prog Tryz.f74 c_timing_timesErr_1 = true := by kernel_rfl
theorem m_slices_Repeat_int_int : mfn Tryz.prog Tryz.f75 c_slices_Repeat_int_int = true := by kernel_rfl
theorem m_timing_timed_required_1 : mfn Tryz.prog Tryz.f76 c_timing_timed_required_1 = true := by kernel_rfl
theorem m_timing_pointOf : mfn Tryz.prog Tryz.f77 c_timing_pointOf = true := by kernel_rfl
theorem m_slices_Backward_api_MapPlaced_api_MapPlaced : mfn Tryz.prog Tryz.f78 c_slices_Backward_api_MapPlaced_api_MapPlaced = true := by kernel_rfl
theorem m_timing_net_cell : mfn Tryz.prog Tryz.f79 c_timing_net_cell = true := by kernel_rfl
theorem m_slices_Contains_int_int : mfn Tryz.prog Tryz.f80 c_slices_Contains_int_int = true := by kernel_rfl
theorem m_mapping_CheckLibrary : mfn Tryz.prog Tryz.f81 c_mapping_CheckLibrary = true := by kernel_rfl
theorem m_mapping_first : mfn Tryz.prog Tryz.f82 c_mapping_first = true := by kernel_rfl
theorem m_mapping_unless : mfn Tryz.prog Tryz.f83 c_mapping_unless = true := by kernel_rfl
theorem m_mapping_within : mfn Tryz.prog Tryz.f84 c_mapping_within = true := by kernel_rfl
theorem m_mapping_CheckNet_1 : mfn Tryz.prog Tryz.f85 c_mapping_CheckNet_1 = true := by kernel_rfl
theorem m_mapping_CheckNet_1_1 : mfn Tryz.prog Tryz.f86 c_mapping_CheckNet_1_1 = true := by kernel_rfl
theorem m_mapping_each_api_MapPlaced : mfn Tryz.prog Tryz.f87 c_mapping_each_api_MapPlaced = true := by kernel_rfl
theorem m_mapping_CheckNet_2 : mfn Tryz.prog Tryz.f88 c_mapping_CheckNet_2 = true := by kernel_rfl
theorem m_mapping_each_int : mfn Tryz.prog Tryz.f89 c_mapping_each_int = true := by kernel_rfl
theorem m_mapping_CheckNet_3 : mfn Tryz.prog Tryz.f90 c_mapping_CheckNet_3 = true := by kernel_rfl
theorem m_timing_net_output : mfn Tryz.prog Tryz.f91 c_timing_net_output = true := by kernel_rfl
theorem m_timing_net_isUsed_1 : mfn Tryz.prog Tryz.f92 c_timing_net_isUsed_1 = true := by kernel_rfl
theorem m_timing_net_values_1 : mfn Tryz.prog Tryz.f93 c_timing_net_values_1 = true := by kernel_rfl
theorem m_timing_CheckModel : mfn Tryz.prog Tryz.f94 c_timing_CheckModel = true := by kernel_rfl
theorem m_timing_openModel_1 : mfn Tryz.prog Tryz.f95 c_timing_openModel_1 = true := by kernel_rfl
theorem m_slices_Clip_int_int : mfn Tryz.prog Tryz.f96 c_slices_Clip_int_int = true := by kernel_rfl
theorem m_ratchetref27_CheckLibrary : mfn Tryz.prog Tryz.f97 c_ratchetref27_CheckLibrary = true := by kernel_rfl
theorem m_ratchetref04_Number : mfn Tryz.prog Tryz.f98 c_ratchetref04_Number = true := by kernel_rfl
theorem m_ratchetbase_Bit : mfn Tryz.prog Tryz.f99 c_ratchetbase_Bit = true := by kernel_rfl
theorem m_slices_IndexFunc_int_int : mfn Tryz.prog Tryz.f100 c_slices_IndexFunc_int_int = true := by kernel_rfl
theorem m_bits_Mul : mfn Tryz.prog Tryz.f101 c_bits_Mul = true := by kernel_rfl
theorem m_slices_Backward_api_MapPlaced_api_MapPlaced_1 : mfn Tryz.prog Tryz.f102 c_slices_Backward_api_MapPlaced_api_MapPlaced_1 = true := by kernel_rfl
theorem m_slices_Index_int_int : mfn Tryz.prog Tryz.f103 c_slices_Index_int_int = true := by kernel_rfl
theorem m_mapping_each_api_MapCell : mfn Tryz.prog Tryz.f104 c_mapping_each_api_MapCell = true := by kernel_rfl
theorem m_mapping_CheckLibrary_1 : mfn Tryz.prog Tryz.f105 c_mapping_CheckLibrary_1 = true := by kernel_rfl
theorem m_mapping_cellErr : mfn Tryz.prog Tryz.f106 c_mapping_cellErr = true := by kernel_rfl
theorem m_timing_CheckModel_1 : mfn Tryz.prog Tryz.f107 c_timing_CheckModel_1 = true := by kernel_rfl
theorem m_timing_CheckModel_2 : mfn Tryz.prog Tryz.f108 c_timing_CheckModel_2 = true := by kernel_rfl
theorem m_ratchetbase_IsName : mfn Tryz.prog Tryz.f109 c_ratchetbase_IsName = true := by kernel_rfl
theorem m_bits_Mul32 : mfn Tryz.prog Tryz.f110 c_bits_Mul32 = true := by kernel_rfl
theorem m_bits_Mul64 : mfn Tryz.prog Tryz.f111 c_bits_Mul64 = true := by kernel_rfl
theorem m_mapping_cellErr_1 : mfn Tryz.prog Tryz.f112 c_mapping_cellErr_1 = true := by kernel_rfl
theorem m_slices_ContainsFunc_api_MapCell_api_MapCell : mfn Tryz.prog Tryz.f113 c_slices_ContainsFunc_api_MapCell_api_MapCell = true := by kernel_rfl
theorem m_mapping_cellErr_2 : mfn Tryz.prog Tryz.f114 c_mapping_cellErr_2 = true := by kernel_rfl
theorem m_mapping_isName : mfn Tryz.prog Tryz.f115 c_mapping_isName = true := by kernel_rfl
theorem m_slices_IndexFunc_api_MapCell_api_MapCell : mfn Tryz.prog Tryz.f116 c_slices_IndexFunc_api_MapCell_api_MapCell = true := by kernel_rfl

def T : Tab := fun f => match f with
  | 2 => some c_gosem_cut_init
  | 3 => some c_ratchetlaw28_TimingUses
  | 4 => some c_ratchetlaw28_awake
  | 5 => some c_ratchetlaw28_Few
  | 6 => some c_ratchetlaw28_copied
  | 7 => some c_ratchetref28_AllErr
  | 8 => some c_ratchetlaw28_light
  | 9 => some c_ratchetref28_Paths
  | 10 => some c_timing_UsedAt
  | 11 => some c_ratchetbase_CopyInts
  | 12 => some c_timing_TruePath
  | 13 => some c_ratchetref28_NetErr
  | 14 => some c_ratchetref28_PathErr
  | 15 => some c_ratchetref28_BitsErr
  | 16 => some c_ratchetref28_UsedAt
  | 17 => some c_ratchetbase_Ints
  | 18 => some c_ratchetref28_TimesErr
  | 19 => some c_ratchetref28_TrueErr
  | 20 => some c_ratchetref28_True
  | 21 => some c_ratchetref28_Critical
  | 22 => some c_ratchetref28_Delay
  | 23 => some c_timing_ArrivalsOf
  | 24 => some c_ratchetlaw28_Library
  | 25 => some c_ratchetlaw28_Net
  | 26 => some c_ratchetlaw28_Model
  | 27 => some c_timing_SlacksOf
  | 28 => some c_timing_CriticalPath
  | 29 => some c_ratchetref27_CopyLibrary
  | 30 => some c_ratchetref27_CopyNet
  | 31 => some c_ratchetref28_ModelErr
  | 32 => some c_ratchetref28_longer
  | 33 => some c_timing_open
  | 34 => some c_timing_net_pathErr
  | 35 => some c_timing_first
  | 36 => some c_timing_unless
  | 37 => some c_timing_net_used
  | 38 => some c_timing_openTimes
  | 39 => some c_timing_net_count
  | 40 => some c_timing_net_all
  | 41 => some c_timing_timed_along
  | 42 => some c_slices_Clone_int_int
  | 43 => some c_ratchetref27_NetErr
  | 44 => some c_ratchetbase_Within
  | 45 => some c_ratchetref28_Points
  | 46 => some c_ratchetbase_Has
  | 47 => some c_ratchetbase_Power
  | 48 => some c_ratchetref28_IsUsed
  | 49 => some c_ratchetref28_Delays
  | 50 => some c_timing_timed_arrivals
  | 51 => some c_timing_timesErr
  | 52 => some c_timing_timed_required
  | 53 => some c_timing_timed_rests
  | 54 => some c_timing_net_points
  | 55 => some c_timing_net_has
  | 56 => some c_timing_timed_delay
  | 57 => some c_mapping_CheckNet
  | 58 => some c_timing_each_int
  | 59 => some c_timing_net_pathErr_1
  | 60 => some c_timing_within
  | 61 => some c_timing_net_isCell
  | 62 => some c_timing_net_isEnd
  | 63 => some c_timing_net_isUsed
  | 64 => some c_timing_net_values
  | 65 => some c_timing_openModel
  | 66 => some c_timing_net_paths
  | 67 => some c_ratchetref27_LibraryErr
  | 68 => some c_ratchetref27_CheckNet
  | 69 => some c_ratchetref27_Sources
  | 70 => some c_ratchetref27_Value
  | 71 => some c_ratchetref28_load
  | 72 => some c_timing_greatest
  | 73 => some c_slices_ContainsFunc_int_int
  | 74 => some c_timing_timesErr_1
  | 75 => some c_slices_Repeat_int_int
  | 76 => some c_timing_timed_required_1
  | 77 => some c_timing_pointOf
  | 78 => some c_slices_Backward_api_MapPlaced_api_MapPlaced
  | 79 => some c_timing_net_cell
  | 80 => some c_slices_Contains_int_int
  | 81 => some c_mapping_CheckLibrary
  | 82 => some c_mapping_first
  | 83 => some c_mapping_unless
  | 84 => some c_mapping_within
  | 85 => some c_mapping_CheckNet_1
  | 86 => some c_mapping_CheckNet_1_1
  | 87 => some c_mapping_each_api_MapPlaced
  | 88 => some c_mapping_CheckNet_2
  | 89 => some c_mapping_each_int
  | 90 => some c_mapping_CheckNet_3
  | 91 => some c_timing_net_output
  | 92 => some c_timing_net_isUsed_1
  | 93 => some c_timing_net_values_1
  | 94 => some c_timing_CheckModel
  | 95 => some c_timing_openModel_1
  | 96 => some c_slices_Clip_int_int
  | 97 => some c_ratchetref27_CheckLibrary
  | 98 => some c_ratchetref04_Number
  | 99 => some c_ratchetbase_Bit
  | 100 => some c_slices_IndexFunc_int_int
  | 101 => some c_bits_Mul
  | 102 => some c_slices_Backward_api_MapPlaced_api_MapPlaced_1
  | 103 => some c_slices_Index_int_int
  | 104 => some c_mapping_each_api_MapCell
  | 105 => some c_mapping_CheckLibrary_1
  | 106 => some c_mapping_cellErr
  | 107 => some c_timing_CheckModel_1
  | 108 => some c_timing_CheckModel_2
  | 109 => some c_ratchetbase_IsName
  | 110 => some c_bits_Mul32
  | 111 => some c_bits_Mul64
  | 112 => some c_mapping_cellErr_1
  | 113 => some c_slices_ContainsFunc_api_MapCell_api_MapCell
  | 114 => some c_mapping_cellErr_2
  | 115 => some c_mapping_isName
  | 116 => some c_slices_IndexFunc_api_MapCell_api_MapCell
  | _ => none

theorem tabOk : TabOk Tryz.prog T := fun f F h => by
  unfold T at h
  split at h
  · cases h; exact ⟨_, Tryz.func2, m_gosem_cut_init⟩
  · cases h; exact ⟨_, Tryz.func3, m_ratchetlaw28_TimingUses⟩
  · cases h; exact ⟨_, Tryz.func4, m_ratchetlaw28_awake⟩
  · cases h; exact ⟨_, Tryz.func5, m_ratchetlaw28_Few⟩
  · cases h; exact ⟨_, Tryz.func6, m_ratchetlaw28_copied⟩
  · cases h; exact ⟨_, Tryz.func7, m_ratchetref28_AllErr⟩
  · cases h; exact ⟨_, Tryz.func8, m_ratchetlaw28_light⟩
  · cases h; exact ⟨_, Tryz.func9, m_ratchetref28_Paths⟩
  · cases h; exact ⟨_, Tryz.func10, m_timing_UsedAt⟩
  · cases h; exact ⟨_, Tryz.func11, m_ratchetbase_CopyInts⟩
  · cases h; exact ⟨_, Tryz.func12, m_timing_TruePath⟩
  · cases h; exact ⟨_, Tryz.func13, m_ratchetref28_NetErr⟩
  · cases h; exact ⟨_, Tryz.func14, m_ratchetref28_PathErr⟩
  · cases h; exact ⟨_, Tryz.func15, m_ratchetref28_BitsErr⟩
  · cases h; exact ⟨_, Tryz.func16, m_ratchetref28_UsedAt⟩
  · cases h; exact ⟨_, Tryz.func17, m_ratchetbase_Ints⟩
  · cases h; exact ⟨_, Tryz.func18, m_ratchetref28_TimesErr⟩
  · cases h; exact ⟨_, Tryz.func19, m_ratchetref28_TrueErr⟩
  · cases h; exact ⟨_, Tryz.func20, m_ratchetref28_True⟩
  · cases h; exact ⟨_, Tryz.func21, m_ratchetref28_Critical⟩
  · cases h; exact ⟨_, Tryz.func22, m_ratchetref28_Delay⟩
  · cases h; exact ⟨_, Tryz.func23, m_timing_ArrivalsOf⟩
  · cases h; exact ⟨_, Tryz.func24, m_ratchetlaw28_Library⟩
  · cases h; exact ⟨_, Tryz.func25, m_ratchetlaw28_Net⟩
  · cases h; exact ⟨_, Tryz.func26, m_ratchetlaw28_Model⟩
  · cases h; exact ⟨_, Tryz.func27, m_timing_SlacksOf⟩
  · cases h; exact ⟨_, Tryz.func28, m_timing_CriticalPath⟩
  · cases h; exact ⟨_, Tryz.func29, m_ratchetref27_CopyLibrary⟩
  · cases h; exact ⟨_, Tryz.func30, m_ratchetref27_CopyNet⟩
  · cases h; exact ⟨_, Tryz.func31, m_ratchetref28_ModelErr⟩
  · cases h; exact ⟨_, Tryz.func32, m_ratchetref28_longer⟩
  · cases h; exact ⟨_, Tryz.func33, m_timing_open⟩
  · cases h; exact ⟨_, Tryz.func34, m_timing_net_pathErr⟩
  · cases h; exact ⟨_, Tryz.func35, m_timing_first⟩
  · cases h; exact ⟨_, Tryz.func36, m_timing_unless⟩
  · cases h; exact ⟨_, Tryz.func37, m_timing_net_used⟩
  · cases h; exact ⟨_, Tryz.func38, m_timing_openTimes⟩
  · cases h; exact ⟨_, Tryz.func39, m_timing_net_count⟩
  · cases h; exact ⟨_, Tryz.func40, m_timing_net_all⟩
  · cases h; exact ⟨_, Tryz.func41, m_timing_timed_along⟩
  · cases h; exact ⟨_, Tryz.func42, m_slices_Clone_int_int⟩
  · cases h; exact ⟨_, Tryz.func43, m_ratchetref27_NetErr⟩
  · cases h; exact ⟨_, Tryz.func44, m_ratchetbase_Within⟩
  · cases h; exact ⟨_, Tryz.func45, m_ratchetref28_Points⟩
  · cases h; exact ⟨_, Tryz.func46, m_ratchetbase_Has⟩
  · cases h; exact ⟨_, Tryz.func47, m_ratchetbase_Power⟩
  · cases h; exact ⟨_, Tryz.func48, m_ratchetref28_IsUsed⟩
  · cases h; exact ⟨_, Tryz.func49, m_ratchetref28_Delays⟩
  · cases h; exact ⟨_, Tryz.func50, m_timing_timed_arrivals⟩
  · cases h; exact ⟨_, Tryz.func51, m_timing_timesErr⟩
  · cases h; exact ⟨_, Tryz.func52, m_timing_timed_required⟩
  · cases h; exact ⟨_, Tryz.func53, m_timing_timed_rests⟩
  · cases h; exact ⟨_, Tryz.func54, m_timing_net_points⟩
  · cases h; exact ⟨_, Tryz.func55, m_timing_net_has⟩
  · cases h; exact ⟨_, Tryz.func56, m_timing_timed_delay⟩
  · cases h; exact ⟨_, Tryz.func57, m_mapping_CheckNet⟩
  · cases h; exact ⟨_, Tryz.func58, m_timing_each_int⟩
  · cases h; exact ⟨_, Tryz.func59, m_timing_net_pathErr_1⟩
  · cases h; exact ⟨_, Tryz.func60, m_timing_within⟩
  · cases h; exact ⟨_, Tryz.func61, m_timing_net_isCell⟩
  · cases h; exact ⟨_, Tryz.func62, m_timing_net_isEnd⟩
  · cases h; exact ⟨_, Tryz.func63, m_timing_net_isUsed⟩
  · cases h; exact ⟨_, Tryz.func64, m_timing_net_values⟩
  · cases h; exact ⟨_, Tryz.func65, m_timing_openModel⟩
  · cases h; exact ⟨_, Tryz.func66, m_timing_net_paths⟩
  · cases h; exact ⟨_, Tryz.func67, m_ratchetref27_LibraryErr⟩
  · cases h; exact ⟨_, Tryz.func68, m_ratchetref27_CheckNet⟩
  · cases h; exact ⟨_, Tryz.func69, m_ratchetref27_Sources⟩
  · cases h; exact ⟨_, Tryz.func70, m_ratchetref27_Value⟩
  · cases h; exact ⟨_, Tryz.func71, m_ratchetref28_load⟩
  · cases h; exact ⟨_, Tryz.func72, m_timing_greatest⟩
  · cases h; exact ⟨_, Tryz.func73, m_slices_ContainsFunc_int_int⟩
  · cases h; exact ⟨_, Tryz.func74, m_timing_timesErr_1⟩
  · cases h; exact ⟨_, Tryz.func75, m_slices_Repeat_int_int⟩
  · cases h; exact ⟨_, Tryz.func76, m_timing_timed_required_1⟩
  · cases h; exact ⟨_, Tryz.func77, m_timing_pointOf⟩
  · cases h; exact ⟨_, Tryz.func78, m_slices_Backward_api_MapPlaced_api_MapPlaced⟩
  · cases h; exact ⟨_, Tryz.func79, m_timing_net_cell⟩
  · cases h; exact ⟨_, Tryz.func80, m_slices_Contains_int_int⟩
  · cases h; exact ⟨_, Tryz.func81, m_mapping_CheckLibrary⟩
  · cases h; exact ⟨_, Tryz.func82, m_mapping_first⟩
  · cases h; exact ⟨_, Tryz.func83, m_mapping_unless⟩
  · cases h; exact ⟨_, Tryz.func84, m_mapping_within⟩
  · cases h; exact ⟨_, Tryz.func85, m_mapping_CheckNet_1⟩
  · cases h; exact ⟨_, Tryz.func86, m_mapping_CheckNet_1_1⟩
  · cases h; exact ⟨_, Tryz.func87, m_mapping_each_api_MapPlaced⟩
  · cases h; exact ⟨_, Tryz.func88, m_mapping_CheckNet_2⟩
  · cases h; exact ⟨_, Tryz.func89, m_mapping_each_int⟩
  · cases h; exact ⟨_, Tryz.func90, m_mapping_CheckNet_3⟩
  · cases h; exact ⟨_, Tryz.func91, m_timing_net_output⟩
  · cases h; exact ⟨_, Tryz.func92, m_timing_net_isUsed_1⟩
  · cases h; exact ⟨_, Tryz.func93, m_timing_net_values_1⟩
  · cases h; exact ⟨_, Tryz.func94, m_timing_CheckModel⟩
  · cases h; exact ⟨_, Tryz.func95, m_timing_openModel_1⟩
  · cases h; exact ⟨_, Tryz.func96, m_slices_Clip_int_int⟩
  · cases h; exact ⟨_, Tryz.func97, m_ratchetref27_CheckLibrary⟩
  · cases h; exact ⟨_, Tryz.func98, m_ratchetref04_Number⟩
  · cases h; exact ⟨_, Tryz.func99, m_ratchetbase_Bit⟩
  · cases h; exact ⟨_, Tryz.func100, m_slices_IndexFunc_int_int⟩
  · cases h; exact ⟨_, Tryz.func101, m_bits_Mul⟩
  · cases h; exact ⟨_, Tryz.func102, m_slices_Backward_api_MapPlaced_api_MapPlaced_1⟩
  · cases h; exact ⟨_, Tryz.func103, m_slices_Index_int_int⟩
  · cases h; exact ⟨_, Tryz.func104, m_mapping_each_api_MapCell⟩
  · cases h; exact ⟨_, Tryz.func105, m_mapping_CheckLibrary_1⟩
  · cases h; exact ⟨_, Tryz.func106, m_mapping_cellErr⟩
  · cases h; exact ⟨_, Tryz.func107, m_timing_CheckModel_1⟩
  · cases h; exact ⟨_, Tryz.func108, m_timing_CheckModel_2⟩
  · cases h; exact ⟨_, Tryz.func109, m_ratchetbase_IsName⟩
  · cases h; exact ⟨_, Tryz.func110, m_bits_Mul32⟩
  · cases h; exact ⟨_, Tryz.func111, m_bits_Mul64⟩
  · cases h; exact ⟨_, Tryz.func112, m_mapping_cellErr_1⟩
  · cases h; exact ⟨_, Tryz.func113, m_slices_ContainsFunc_api_MapCell_api_MapCell⟩
  · cases h; exact ⟨_, Tryz.func114, m_mapping_cellErr_2⟩
  · cases h; exact ⟨_, Tryz.func115, m_mapping_isName⟩
  · cases h; exact ⟨_, Tryz.func116, m_slices_IndexFunc_api_MapCell_api_MapCell⟩
  · cases h

theorem z_slices_Clone_int_int {π : Id} {args : List AV} {s : Sto} : E T noO π n_slices_Clone_int_int args s = runF (E T noO) iter c_slices_Clone_int_int π args s := E_fn (by decide) (by rfl) (by rfl)
theorem q_slices_Clone_int_int : OrcFor Tryz.prog n_slices_Clone_int_int (cloneO t_int 1) := clone_ok (C := E T noO) (E_ok tabOk (noO_ok _)) (by decide)
  (fun π l hl => ⟨5 :: π, by rw [z_slices_Clone_int_int]; simp [run_eq, c_slices_Clone_int_int, hl]⟩)
  (fun π => by rw [z_slices_Clone_int_int]; simp [run_eq, c_slices_Clone_int_int])
def orc : Orc := fun f => match f with
  | 42 => some (cloneO t_int 1)
  | _ => none

theorem orcOk : OrcOk Tryz.prog orc := fun f g h => by
  unfold orc at h
  split at h
  · cases h; exact q_slices_Clone_int_int
  · cases h

noncomputable def EE : Call := E T orc

theorem o_slices_Clone_int_int {π : Id} {args : List AV} : EE π n_slices_Clone_int_int args [] = cloneO t_int 1 π args := E_orc (by decide) (by rfl)
theorem e_gosem_cut_init {π : Id} {args : List AV} {s : Sto} : EE π n_gosem_cut_init args s = runF EE iter c_gosem_cut_init π args s := E_fn (by decide) (by rfl) (by rfl)
theorem e_ratchetlaw28_TimingUses {π : Id} {args : List AV} {s : Sto} : EE π n_ratchetlaw28_TimingUses args s = runF EE iter c_ratchetlaw28_TimingUses π args s := E_fn (by decide) (by rfl) (by rfl)
theorem e_ratchetlaw28_awake {π : Id} {args : List AV} {s : Sto} : EE π n_ratchetlaw28_awake args s = runF EE iter c_ratchetlaw28_awake π args s := E_fn (by decide) (by rfl) (by rfl)
theorem e_ratchetlaw28_Few {π : Id} {args : List AV} {s : Sto} : EE π n_ratchetlaw28_Few args s = runF EE iter c_ratchetlaw28_Few π args s := E_fn (by decide) (by rfl) (by rfl)
theorem e_ratchetlaw28_copied {π : Id} {args : List AV} {s : Sto} : EE π n_ratchetlaw28_copied args s = runF EE iter c_ratchetlaw28_copied π args s := E_fn (by decide) (by rfl) (by rfl)
theorem e_ratchetref28_AllErr {π : Id} {args : List AV} {s : Sto} : EE π n_ratchetref28_AllErr args s = runF EE iter c_ratchetref28_AllErr π args s := E_fn (by decide) (by rfl) (by rfl)
theorem e_ratchetlaw28_light {π : Id} {args : List AV} {s : Sto} : EE π n_ratchetlaw28_light args s = runF EE iter c_ratchetlaw28_light π args s := E_fn (by decide) (by rfl) (by rfl)
theorem e_ratchetref28_Paths {π : Id} {args : List AV} {s : Sto} : EE π n_ratchetref28_Paths args s = runF EE iter c_ratchetref28_Paths π args s := E_fn (by decide) (by rfl) (by rfl)
theorem e_timing_UsedAt {π : Id} {args : List AV} {s : Sto} : EE π n_timing_UsedAt args s = runF EE iter c_timing_UsedAt π args s := E_fn (by decide) (by rfl) (by rfl)
theorem e_ratchetbase_CopyInts {π : Id} {args : List AV} {s : Sto} : EE π n_ratchetbase_CopyInts args s = runF EE iter c_ratchetbase_CopyInts π args s := E_fn (by decide) (by rfl) (by rfl)
theorem e_timing_TruePath {π : Id} {args : List AV} {s : Sto} : EE π n_timing_TruePath args s = runF EE iter c_timing_TruePath π args s := E_fn (by decide) (by rfl) (by rfl)
theorem e_ratchetref28_NetErr {π : Id} {args : List AV} {s : Sto} : EE π n_ratchetref28_NetErr args s = runF EE iter c_ratchetref28_NetErr π args s := E_fn (by decide) (by rfl) (by rfl)
theorem e_ratchetref28_PathErr {π : Id} {args : List AV} {s : Sto} : EE π n_ratchetref28_PathErr args s = runF EE iter c_ratchetref28_PathErr π args s := E_fn (by decide) (by rfl) (by rfl)
theorem e_ratchetref28_BitsErr {π : Id} {args : List AV} {s : Sto} : EE π n_ratchetref28_BitsErr args s = runF EE iter c_ratchetref28_BitsErr π args s := E_fn (by decide) (by rfl) (by rfl)
theorem e_ratchetref28_UsedAt {π : Id} {args : List AV} {s : Sto} : EE π n_ratchetref28_UsedAt args s = runF EE iter c_ratchetref28_UsedAt π args s := E_fn (by decide) (by rfl) (by rfl)
theorem e_ratchetbase_Ints {π : Id} {args : List AV} {s : Sto} : EE π n_ratchetbase_Ints args s = runF EE iter c_ratchetbase_Ints π args s := E_fn (by decide) (by rfl) (by rfl)
theorem e_ratchetref28_TimesErr {π : Id} {args : List AV} {s : Sto} : EE π n_ratchetref28_TimesErr args s = runF EE iter c_ratchetref28_TimesErr π args s := E_fn (by decide) (by rfl) (by rfl)
theorem e_ratchetref28_TrueErr {π : Id} {args : List AV} {s : Sto} : EE π n_ratchetref28_TrueErr args s = runF EE iter c_ratchetref28_TrueErr π args s := E_fn (by decide) (by rfl) (by rfl)
theorem e_ratchetref28_True {π : Id} {args : List AV} {s : Sto} : EE π n_ratchetref28_True args s = runF EE iter c_ratchetref28_True π args s := E_fn (by decide) (by rfl) (by rfl)
theorem e_ratchetref28_Critical {π : Id} {args : List AV} {s : Sto} : EE π n_ratchetref28_Critical args s = runF EE iter c_ratchetref28_Critical π args s := E_fn (by decide) (by rfl) (by rfl)
theorem e_ratchetref28_Delay {π : Id} {args : List AV} {s : Sto} : EE π n_ratchetref28_Delay args s = runF EE iter c_ratchetref28_Delay π args s := E_fn (by decide) (by rfl) (by rfl)
theorem e_timing_ArrivalsOf {π : Id} {args : List AV} {s : Sto} : EE π n_timing_ArrivalsOf args s = runF EE iter c_timing_ArrivalsOf π args s := E_fn (by decide) (by rfl) (by rfl)
theorem e_ratchetlaw28_Library {π : Id} {args : List AV} {s : Sto} : EE π n_ratchetlaw28_Library args s = runF EE iter c_ratchetlaw28_Library π args s := E_fn (by decide) (by rfl) (by rfl)
theorem e_ratchetlaw28_Net {π : Id} {args : List AV} {s : Sto} : EE π n_ratchetlaw28_Net args s = runF EE iter c_ratchetlaw28_Net π args s := E_fn (by decide) (by rfl) (by rfl)
theorem e_ratchetlaw28_Model {π : Id} {args : List AV} {s : Sto} : EE π n_ratchetlaw28_Model args s = runF EE iter c_ratchetlaw28_Model π args s := E_fn (by decide) (by rfl) (by rfl)
theorem e_timing_SlacksOf {π : Id} {args : List AV} {s : Sto} : EE π n_timing_SlacksOf args s = runF EE iter c_timing_SlacksOf π args s := E_fn (by decide) (by rfl) (by rfl)
theorem e_timing_CriticalPath {π : Id} {args : List AV} {s : Sto} : EE π n_timing_CriticalPath args s = runF EE iter c_timing_CriticalPath π args s := E_fn (by decide) (by rfl) (by rfl)
theorem e_ratchetref27_CopyLibrary {π : Id} {args : List AV} {s : Sto} : EE π n_ratchetref27_CopyLibrary args s = runF EE iter c_ratchetref27_CopyLibrary π args s := E_fn (by decide) (by rfl) (by rfl)
theorem e_ratchetref27_CopyNet {π : Id} {args : List AV} {s : Sto} : EE π n_ratchetref27_CopyNet args s = runF EE iter c_ratchetref27_CopyNet π args s := E_fn (by decide) (by rfl) (by rfl)
theorem e_ratchetref28_ModelErr {π : Id} {args : List AV} {s : Sto} : EE π n_ratchetref28_ModelErr args s = runF EE iter c_ratchetref28_ModelErr π args s := E_fn (by decide) (by rfl) (by rfl)
theorem e_ratchetref28_longer {π : Id} {args : List AV} {s : Sto} : EE π n_ratchetref28_longer args s = runF EE iter c_ratchetref28_longer π args s := E_fn (by decide) (by rfl) (by rfl)
theorem e_timing_open {π : Id} {args : List AV} {s : Sto} : EE π n_timing_open args s = runF EE iter c_timing_open π args s := E_fn (by decide) (by rfl) (by rfl)
theorem e_timing_net_pathErr {π : Id} {args : List AV} {s : Sto} : EE π n_timing_net_pathErr args s = runF EE iter c_timing_net_pathErr π args s := E_fn (by decide) (by rfl) (by rfl)
theorem e_timing_first {π : Id} {args : List AV} {s : Sto} : EE π n_timing_first args s = runF EE iter c_timing_first π args s := E_fn (by decide) (by rfl) (by rfl)
theorem e_timing_unless {π : Id} {args : List AV} {s : Sto} : EE π n_timing_unless args s = runF EE iter c_timing_unless π args s := E_fn (by decide) (by rfl) (by rfl)
theorem e_timing_net_used {π : Id} {args : List AV} {s : Sto} : EE π n_timing_net_used args s = runF EE iter c_timing_net_used π args s := E_fn (by decide) (by rfl) (by rfl)
theorem e_timing_openTimes {π : Id} {args : List AV} {s : Sto} : EE π n_timing_openTimes args s = runF EE iter c_timing_openTimes π args s := E_fn (by decide) (by rfl) (by rfl)
theorem e_timing_net_count {π : Id} {args : List AV} {s : Sto} : EE π n_timing_net_count args s = runF EE iter c_timing_net_count π args s := E_fn (by decide) (by rfl) (by rfl)
theorem e_timing_net_all {π : Id} {args : List AV} {s : Sto} : EE π n_timing_net_all args s = runF EE iter c_timing_net_all π args s := E_fn (by decide) (by rfl) (by rfl)
theorem e_timing_timed_along {π : Id} {args : List AV} {s : Sto} : EE π n_timing_timed_along args s = runF EE iter c_timing_timed_along π args s := E_fn (by decide) (by rfl) (by rfl)
theorem e_ratchetref27_NetErr {π : Id} {args : List AV} {s : Sto} : EE π n_ratchetref27_NetErr args s = runF EE iter c_ratchetref27_NetErr π args s := E_fn (by decide) (by rfl) (by rfl)
theorem e_ratchetbase_Within {π : Id} {args : List AV} {s : Sto} : EE π n_ratchetbase_Within args s = runF EE iter c_ratchetbase_Within π args s := E_fn (by decide) (by rfl) (by rfl)
theorem e_ratchetref28_Points {π : Id} {args : List AV} {s : Sto} : EE π n_ratchetref28_Points args s = runF EE iter c_ratchetref28_Points π args s := E_fn (by decide) (by rfl) (by rfl)
theorem e_ratchetbase_Has {π : Id} {args : List AV} {s : Sto} : EE π n_ratchetbase_Has args s = runF EE iter c_ratchetbase_Has π args s := E_fn (by decide) (by rfl) (by rfl)
theorem e_ratchetbase_Power {π : Id} {args : List AV} {s : Sto} : EE π n_ratchetbase_Power args s = runF EE iter c_ratchetbase_Power π args s := E_fn (by decide) (by rfl) (by rfl)
theorem e_ratchetref28_IsUsed {π : Id} {args : List AV} {s : Sto} : EE π n_ratchetref28_IsUsed args s = runF EE iter c_ratchetref28_IsUsed π args s := E_fn (by decide) (by rfl) (by rfl)
theorem e_ratchetref28_Delays {π : Id} {args : List AV} {s : Sto} : EE π n_ratchetref28_Delays args s = runF EE iter c_ratchetref28_Delays π args s := E_fn (by decide) (by rfl) (by rfl)
theorem e_timing_timed_arrivals {π : Id} {args : List AV} {s : Sto} : EE π n_timing_timed_arrivals args s = runF EE iter c_timing_timed_arrivals π args s := E_fn (by decide) (by rfl) (by rfl)
theorem e_timing_timesErr {π : Id} {args : List AV} {s : Sto} : EE π n_timing_timesErr args s = runF EE iter c_timing_timesErr π args s := E_fn (by decide) (by rfl) (by rfl)
theorem e_timing_timed_required {π : Id} {args : List AV} {s : Sto} : EE π n_timing_timed_required args s = runF EE iter c_timing_timed_required π args s := E_fn (by decide) (by rfl) (by rfl)
theorem e_timing_timed_rests {π : Id} {args : List AV} {s : Sto} : EE π n_timing_timed_rests args s = runF EE iter c_timing_timed_rests π args s := E_fn (by decide) (by rfl) (by rfl)
theorem e_timing_net_points {π : Id} {args : List AV} {s : Sto} : EE π n_timing_net_points args s = runF EE iter c_timing_net_points π args s := E_fn (by decide) (by rfl) (by rfl)
theorem e_timing_net_has {π : Id} {args : List AV} {s : Sto} : EE π n_timing_net_has args s = runF EE iter c_timing_net_has π args s := E_fn (by decide) (by rfl) (by rfl)
theorem e_timing_timed_delay {π : Id} {args : List AV} {s : Sto} : EE π n_timing_timed_delay args s = runF EE iter c_timing_timed_delay π args s := E_fn (by decide) (by rfl) (by rfl)
theorem e_mapping_CheckNet {π : Id} {args : List AV} {s : Sto} : EE π n_mapping_CheckNet args s = runF EE iter c_mapping_CheckNet π args s := E_fn (by decide) (by rfl) (by rfl)
theorem e_timing_each_int {π : Id} {args : List AV} {s : Sto} : EE π n_timing_each_int args s = runF EE iter c_timing_each_int π args s := E_fn (by decide) (by rfl) (by rfl)
theorem e_timing_net_pathErr_1 {π : Id} {args : List AV} {s : Sto} : EE π n_timing_net_pathErr_1 args s = runF EE iter c_timing_net_pathErr_1 π args s := E_fn (by decide) (by rfl) (by rfl)
theorem e_timing_within {π : Id} {args : List AV} {s : Sto} : EE π n_timing_within args s = runF EE iter c_timing_within π args s := E_fn (by decide) (by rfl) (by rfl)
theorem e_timing_net_isCell {π : Id} {args : List AV} {s : Sto} : EE π n_timing_net_isCell args s = runF EE iter c_timing_net_isCell π args s := E_fn (by decide) (by rfl) (by rfl)
theorem e_timing_net_isEnd {π : Id} {args : List AV} {s : Sto} : EE π n_timing_net_isEnd args s = runF EE iter c_timing_net_isEnd π args s := E_fn (by decide) (by rfl) (by rfl)
theorem e_timing_net_isUsed {π : Id} {args : List AV} {s : Sto} : EE π n_timing_net_isUsed args s = runF EE iter c_timing_net_isUsed π args s := E_fn (by decide) (by rfl) (by rfl)
theorem e_timing_net_values {π : Id} {args : List AV} {s : Sto} : EE π n_timing_net_values args s = runF EE iter c_timing_net_values π args s := E_fn (by decide) (by rfl) (by rfl)
theorem e_timing_openModel {π : Id} {args : List AV} {s : Sto} : EE π n_timing_openModel args s = runF EE iter c_timing_openModel π args s := E_fn (by decide) (by rfl) (by rfl)
theorem e_timing_net_paths {π : Id} {args : List AV} {s : Sto} : EE π n_timing_net_paths args s = runF EE iter c_timing_net_paths π args s := E_fn (by decide) (by rfl) (by rfl)
theorem e_ratchetref27_LibraryErr {π : Id} {args : List AV} {s : Sto} : EE π n_ratchetref27_LibraryErr args s = runF EE iter c_ratchetref27_LibraryErr π args s := E_fn (by decide) (by rfl) (by rfl)
theorem e_ratchetref27_CheckNet {π : Id} {args : List AV} {s : Sto} : EE π n_ratchetref27_CheckNet args s = runF EE iter c_ratchetref27_CheckNet π args s := E_fn (by decide) (by rfl) (by rfl)
theorem e_ratchetref27_Sources {π : Id} {args : List AV} {s : Sto} : EE π n_ratchetref27_Sources args s = runF EE iter c_ratchetref27_Sources π args s := E_fn (by decide) (by rfl) (by rfl)
theorem e_ratchetref27_Value {π : Id} {args : List AV} {s : Sto} : EE π n_ratchetref27_Value args s = runF EE iter c_ratchetref27_Value π args s := E_fn (by decide) (by rfl) (by rfl)
theorem e_ratchetref28_load {π : Id} {args : List AV} {s : Sto} : EE π n_ratchetref28_load args s = runF EE iter c_ratchetref28_load π args s := E_fn (by decide) (by rfl) (by rfl)
theorem e_timing_greatest {π : Id} {args : List AV} {s : Sto} : EE π n_timing_greatest args s = runF EE iter c_timing_greatest π args s := E_fn (by decide) (by rfl) (by rfl)
theorem e_slices_ContainsFunc_int_int {π : Id} {args : List AV} {s : Sto} : EE π n_slices_ContainsFunc_int_int args s = runF EE iter c_slices_ContainsFunc_int_int π args s := E_fn (by decide) (by rfl) (by rfl)
theorem e_timing_timesErr_1 {π : Id} {args : List AV} {s : Sto} : EE π n_timing_timesErr_1 args s = runF EE iter c_timing_timesErr_1 π args s := E_fn (by decide) (by rfl) (by rfl)
theorem e_slices_Repeat_int_int {π : Id} {args : List AV} {s : Sto} : EE π n_slices_Repeat_int_int args s = runF EE iter c_slices_Repeat_int_int π args s := E_fn (by decide) (by rfl) (by rfl)
theorem e_timing_timed_required_1 {π : Id} {args : List AV} {s : Sto} : EE π n_timing_timed_required_1 args s = runF EE iter c_timing_timed_required_1 π args s := E_fn (by decide) (by rfl) (by rfl)
theorem e_timing_pointOf {π : Id} {args : List AV} {s : Sto} : EE π n_timing_pointOf args s = runF EE iter c_timing_pointOf π args s := E_fn (by decide) (by rfl) (by rfl)
theorem e_slices_Backward_api_MapPlaced_api_MapPlaced {π : Id} {args : List AV} {s : Sto} : EE π n_slices_Backward_api_MapPlaced_api_MapPlaced args s = runF EE iter c_slices_Backward_api_MapPlaced_api_MapPlaced π args s := E_fn (by decide) (by rfl) (by rfl)
theorem e_timing_net_cell {π : Id} {args : List AV} {s : Sto} : EE π n_timing_net_cell args s = runF EE iter c_timing_net_cell π args s := E_fn (by decide) (by rfl) (by rfl)
theorem e_slices_Contains_int_int {π : Id} {args : List AV} {s : Sto} : EE π n_slices_Contains_int_int args s = runF EE iter c_slices_Contains_int_int π args s := E_fn (by decide) (by rfl) (by rfl)
theorem e_mapping_CheckLibrary {π : Id} {args : List AV} {s : Sto} : EE π n_mapping_CheckLibrary args s = runF EE iter c_mapping_CheckLibrary π args s := E_fn (by decide) (by rfl) (by rfl)
theorem e_mapping_first {π : Id} {args : List AV} {s : Sto} : EE π n_mapping_first args s = runF EE iter c_mapping_first π args s := E_fn (by decide) (by rfl) (by rfl)
theorem e_mapping_unless {π : Id} {args : List AV} {s : Sto} : EE π n_mapping_unless args s = runF EE iter c_mapping_unless π args s := E_fn (by decide) (by rfl) (by rfl)
theorem e_mapping_within {π : Id} {args : List AV} {s : Sto} : EE π n_mapping_within args s = runF EE iter c_mapping_within π args s := E_fn (by decide) (by rfl) (by rfl)
theorem e_mapping_CheckNet_1 {π : Id} {args : List AV} {s : Sto} : EE π n_mapping_CheckNet_1 args s = runF EE iter c_mapping_CheckNet_1 π args s := E_fn (by decide) (by rfl) (by rfl)
theorem e_mapping_CheckNet_1_1 {π : Id} {args : List AV} {s : Sto} : EE π n_mapping_CheckNet_1_1 args s = runF EE iter c_mapping_CheckNet_1_1 π args s := E_fn (by decide) (by rfl) (by rfl)
theorem e_mapping_each_api_MapPlaced {π : Id} {args : List AV} {s : Sto} : EE π n_mapping_each_api_MapPlaced args s = runF EE iter c_mapping_each_api_MapPlaced π args s := E_fn (by decide) (by rfl) (by rfl)
theorem e_mapping_CheckNet_2 {π : Id} {args : List AV} {s : Sto} : EE π n_mapping_CheckNet_2 args s = runF EE iter c_mapping_CheckNet_2 π args s := E_fn (by decide) (by rfl) (by rfl)
theorem e_mapping_each_int {π : Id} {args : List AV} {s : Sto} : EE π n_mapping_each_int args s = runF EE iter c_mapping_each_int π args s := E_fn (by decide) (by rfl) (by rfl)
theorem e_mapping_CheckNet_3 {π : Id} {args : List AV} {s : Sto} : EE π n_mapping_CheckNet_3 args s = runF EE iter c_mapping_CheckNet_3 π args s := E_fn (by decide) (by rfl) (by rfl)
theorem e_timing_net_output {π : Id} {args : List AV} {s : Sto} : EE π n_timing_net_output args s = runF EE iter c_timing_net_output π args s := E_fn (by decide) (by rfl) (by rfl)
theorem e_timing_net_isUsed_1 {π : Id} {args : List AV} {s : Sto} : EE π n_timing_net_isUsed_1 args s = runF EE iter c_timing_net_isUsed_1 π args s := E_fn (by decide) (by rfl) (by rfl)
theorem e_timing_net_values_1 {π : Id} {args : List AV} {s : Sto} : EE π n_timing_net_values_1 args s = runF EE iter c_timing_net_values_1 π args s := E_fn (by decide) (by rfl) (by rfl)
theorem e_timing_CheckModel {π : Id} {args : List AV} {s : Sto} : EE π n_timing_CheckModel args s = runF EE iter c_timing_CheckModel π args s := E_fn (by decide) (by rfl) (by rfl)
theorem e_timing_openModel_1 {π : Id} {args : List AV} {s : Sto} : EE π n_timing_openModel_1 args s = runF EE iter c_timing_openModel_1 π args s := E_fn (by decide) (by rfl) (by rfl)
theorem e_slices_Clip_int_int {π : Id} {args : List AV} {s : Sto} : EE π n_slices_Clip_int_int args s = runF EE iter c_slices_Clip_int_int π args s := E_fn (by decide) (by rfl) (by rfl)
theorem e_ratchetref27_CheckLibrary {π : Id} {args : List AV} {s : Sto} : EE π n_ratchetref27_CheckLibrary args s = runF EE iter c_ratchetref27_CheckLibrary π args s := E_fn (by decide) (by rfl) (by rfl)
theorem e_ratchetref04_Number {π : Id} {args : List AV} {s : Sto} : EE π n_ratchetref04_Number args s = runF EE iter c_ratchetref04_Number π args s := E_fn (by decide) (by rfl) (by rfl)
theorem e_ratchetbase_Bit {π : Id} {args : List AV} {s : Sto} : EE π n_ratchetbase_Bit args s = runF EE iter c_ratchetbase_Bit π args s := E_fn (by decide) (by rfl) (by rfl)
theorem e_slices_IndexFunc_int_int {π : Id} {args : List AV} {s : Sto} : EE π n_slices_IndexFunc_int_int args s = runF EE iter c_slices_IndexFunc_int_int π args s := E_fn (by decide) (by rfl) (by rfl)
theorem e_bits_Mul {π : Id} {args : List AV} {s : Sto} : EE π n_bits_Mul args s = runF EE iter c_bits_Mul π args s := E_fn (by decide) (by rfl) (by rfl)
theorem e_slices_Backward_api_MapPlaced_api_MapPlaced_1 {π : Id} {args : List AV} {s : Sto} : EE π n_slices_Backward_api_MapPlaced_api_MapPlaced_1 args s = runF EE iter c_slices_Backward_api_MapPlaced_api_MapPlaced_1 π args s := E_fn (by decide) (by rfl) (by rfl)
theorem e_slices_Index_int_int {π : Id} {args : List AV} {s : Sto} : EE π n_slices_Index_int_int args s = runF EE iter c_slices_Index_int_int π args s := E_fn (by decide) (by rfl) (by rfl)
theorem e_mapping_each_api_MapCell {π : Id} {args : List AV} {s : Sto} : EE π n_mapping_each_api_MapCell args s = runF EE iter c_mapping_each_api_MapCell π args s := E_fn (by decide) (by rfl) (by rfl)
theorem e_mapping_CheckLibrary_1 {π : Id} {args : List AV} {s : Sto} : EE π n_mapping_CheckLibrary_1 args s = runF EE iter c_mapping_CheckLibrary_1 π args s := E_fn (by decide) (by rfl) (by rfl)
theorem e_mapping_cellErr {π : Id} {args : List AV} {s : Sto} : EE π n_mapping_cellErr args s = runF EE iter c_mapping_cellErr π args s := E_fn (by decide) (by rfl) (by rfl)
theorem e_timing_CheckModel_1 {π : Id} {args : List AV} {s : Sto} : EE π n_timing_CheckModel_1 args s = runF EE iter c_timing_CheckModel_1 π args s := E_fn (by decide) (by rfl) (by rfl)
theorem e_timing_CheckModel_2 {π : Id} {args : List AV} {s : Sto} : EE π n_timing_CheckModel_2 args s = runF EE iter c_timing_CheckModel_2 π args s := E_fn (by decide) (by rfl) (by rfl)
theorem e_ratchetbase_IsName {π : Id} {args : List AV} {s : Sto} : EE π n_ratchetbase_IsName args s = runF EE iter c_ratchetbase_IsName π args s := E_fn (by decide) (by rfl) (by rfl)
theorem e_bits_Mul32 {π : Id} {args : List AV} {s : Sto} : EE π n_bits_Mul32 args s = runF EE iter c_bits_Mul32 π args s := E_fn (by decide) (by rfl) (by rfl)
theorem e_bits_Mul64 {π : Id} {args : List AV} {s : Sto} : EE π n_bits_Mul64 args s = runF EE iter c_bits_Mul64 π args s := E_fn (by decide) (by rfl) (by rfl)
theorem e_mapping_cellErr_1 {π : Id} {args : List AV} {s : Sto} : EE π n_mapping_cellErr_1 args s = runF EE iter c_mapping_cellErr_1 π args s := E_fn (by decide) (by rfl) (by rfl)
theorem e_slices_ContainsFunc_api_MapCell_api_MapCell {π : Id} {args : List AV} {s : Sto} : EE π n_slices_ContainsFunc_api_MapCell_api_MapCell args s = runF EE iter c_slices_ContainsFunc_api_MapCell_api_MapCell π args s := E_fn (by decide) (by rfl) (by rfl)
theorem e_mapping_cellErr_2 {π : Id} {args : List AV} {s : Sto} : EE π n_mapping_cellErr_2 args s = runF EE iter c_mapping_cellErr_2 π args s := E_fn (by decide) (by rfl) (by rfl)
theorem e_mapping_isName {π : Id} {args : List AV} {s : Sto} : EE π n_mapping_isName args s = runF EE iter c_mapping_isName π args s := E_fn (by decide) (by rfl) (by rfl)
theorem e_slices_IndexFunc_api_MapCell_api_MapCell {π : Id} {args : List AV} {s : Sto} : EE π n_slices_IndexFunc_api_MapCell_api_MapCell args s = runF EE iter c_slices_IndexFunc_api_MapCell_api_MapCell π args s := E_fn (by decide) (by rfl) (by rfl)

end Go.Proofs.YtafomlbikcphgabGreat.V
