/- The table of functions, and that it is right. Printed by a program of this work. -/
import Derived.Test.YtafomlbikcphgaaT0
import Derived.Test.YtafomlbikcphgaaT1
import Derived.Test.YtafomlbikcphgaaProg
import Derived.Test.YtafomlbikcphgaaK4

set_option linter.unusedSimpArgs false
set_option linter.unusedVariables false

/- The table of functions, and that it is right. Printed by a program of this work. -/
namespace Go.Proofs.Ytafomlbikcphgaa.V
open Go Go.Proofs

theorem m_gosem_cut_init : mfn Try.prog Try.f2 c_gosem_cut_init = true := by kernel_rfl
theorem m_ratchetlaw28_TimingSlack : mfn Try.prog Try.f3 c_ratchetlaw28_TimingSlack = true := by kernel_rfl
theorem m_ratchetlaw28_TimingSlacks : mfn Try.prog Try.f4 c_ratchetlaw28_TimingSlacks = true := by kernel_rfl
theorem m_ratchetlaw28_TimingArrives : mfn Try.prog Try.f5 c_ratchetlaw28_TimingArrives = true := by kernel_rfl
theorem m_ratchetlaw28_awake : mfn Try.prog Try.f6 c_ratchetlaw28_awake = true := by kernel_rfl
theorem m_ratchetlaw28_Few : mfn Try.prog Try.f7 c_ratchetlaw28_Few = true := by kernel_rfl
theorem m_ratchetlaw28_light : mfn Try.prog Try.f8 c_ratchetlaw28_light = true := by kernel_rfl
theorem m_ratchetref28_AllErr : mfn Try.prog Try.f9 c_ratchetref28_AllErr = true := by kernel_rfl
theorem m_ratchetref28_TimesErr : mfn Try.prog Try.f10 c_ratchetref28_TimesErr = true := by kernel_rfl
theorem m_ratchetbase_Within : mfn Try.prog Try.f11 c_ratchetbase_Within = true := by kernel_rfl
theorem m_ratchetlaw28_copied : mfn Try.prog Try.f12 c_ratchetlaw28_copied = true := by kernel_rfl
theorem m_ratchetref28_Paths : mfn Try.prog Try.f13 c_ratchetref28_Paths = true := by kernel_rfl
theorem m_ratchetbase_Has : mfn Try.prog Try.f14 c_ratchetbase_Has = true := by kernel_rfl
theorem m_timing_SlacksOf : mfn Try.prog Try.f15 c_timing_SlacksOf = true := by kernel_rfl
theorem m_ratchetbase_CopyInts : mfn Try.prog Try.f16 c_ratchetbase_CopyInts = true := by kernel_rfl
theorem m_timing_CriticalPath : mfn Try.prog Try.f17 c_timing_CriticalPath = true := by kernel_rfl
theorem m_ratchetref28_Points : mfn Try.prog Try.f18 c_ratchetref28_Points = true := by kernel_rfl
theorem m_ratchetref28_PathErr : mfn Try.prog Try.f19 c_ratchetref28_PathErr = true := by kernel_rfl
theorem m_timing_RequiredOf : mfn Try.prog Try.f20 c_timing_RequiredOf = true := by kernel_rfl
theorem m_ratchetbase_Ints : mfn Try.prog Try.f21 c_ratchetbase_Ints = true := by kernel_rfl
theorem m_ratchetref28_Required : mfn Try.prog Try.f22 c_ratchetref28_Required = true := by kernel_rfl
theorem m_ratchetref28_Slacks : mfn Try.prog Try.f23 c_ratchetref28_Slacks = true := by kernel_rfl
theorem m_timing_CheckModel : mfn Try.prog Try.f24 c_timing_CheckModel = true := by kernel_rfl
theorem m_timing_DelaysOf : mfn Try.prog Try.f25 c_timing_DelaysOf = true := by kernel_rfl
theorem m_timing_ArrivalsOf : mfn Try.prog Try.f26 c_timing_ArrivalsOf = true := by kernel_rfl
theorem m_timing_CheckArrivals : mfn Try.prog Try.f27 c_timing_CheckArrivals = true := by kernel_rfl
theorem m_ratchetref28_ModelErr : mfn Try.prog Try.f28 c_ratchetref28_ModelErr = true := by kernel_rfl
theorem m_ratchetref28_Delays : mfn Try.prog Try.f29 c_ratchetref28_Delays = true := by kernel_rfl
theorem m_ratchetref28_CheckArrivals : mfn Try.prog Try.f30 c_ratchetref28_CheckArrivals = true := by kernel_rfl
theorem m_ratchetref28_Arrivals : mfn Try.prog Try.f31 c_ratchetref28_Arrivals = true := by kernel_rfl
theorem m_ratchetlaw28_Library : mfn Try.prog Try.f32 c_ratchetlaw28_Library = true := by kernel_rfl
theorem m_ratchetlaw28_Net : mfn Try.prog Try.f33 c_ratchetlaw28_Net = true := by kernel_rfl
theorem m_ratchetlaw28_Model : mfn Try.prog Try.f34 c_ratchetlaw28_Model = true := by kernel_rfl
theorem m_timing_UsedAt : mfn Try.prog Try.f35 c_timing_UsedAt = true := by kernel_rfl
theorem m_ratchetref28_NetErr : mfn Try.prog Try.f36 c_ratchetref28_NetErr = true := by kernel_rfl
theorem m_ratchetref27_CopyLibrary : mfn Try.prog Try.f37 c_ratchetref27_CopyLibrary = true := by kernel_rfl
theorem m_ratchetref27_CopyNet : mfn Try.prog Try.f38 c_ratchetref27_CopyNet = true := by kernel_rfl
theorem m_ratchetref28_longer : mfn Try.prog Try.f39 c_ratchetref28_longer = true := by kernel_rfl
theorem m_timing_openTimes : mfn Try.prog Try.f40 c_timing_openTimes = true := by kernel_rfl
theorem m_timing_first : mfn Try.prog Try.f41 c_timing_first = true := by kernel_rfl
theorem m_timing_timesErr : mfn Try.prog Try.f42 c_timing_timesErr = true := by kernel_rfl
theorem m_timing_timed_required : mfn Try.prog Try.f43 c_timing_timed_required = true := by kernel_rfl
theorem m_timing_timed_arrivals : mfn Try.prog Try.f44 c_timing_timed_arrivals = true := by kernel_rfl
theorem m_timing_timed_rests : mfn Try.prog Try.f45 c_timing_timed_rests = true := by kernel_rfl
theorem m_timing_net_points : mfn Try.prog Try.f46 c_timing_net_points = true := by kernel_rfl
theorem m_timing_net_has : mfn Try.prog Try.f47 c_timing_net_has = true := by kernel_rfl
theorem m_timing_timed_delay : mfn Try.prog Try.f48 c_timing_timed_delay = true := by kernel_rfl
theorem m_timing_openModel : mfn Try.prog Try.f49 c_timing_openModel = true := by kernel_rfl
theorem m_ratchetref28_point : mfn Try.prog Try.f50 c_ratchetref28_point = true := by kernel_rfl
theorem m_ratchetref28_earlier : mfn Try.prog Try.f51 c_ratchetref28_earlier = true := by kernel_rfl
theorem m_timing_CheckModel_1 : mfn Try.prog Try.f52 c_timing_CheckModel_1 = true := by kernel_rfl
theorem m_timing_within : mfn Try.prog Try.f53 c_timing_within = true := by kernel_rfl
theorem m_timing_CheckModel_2 : mfn Try.prog Try.f54 c_timing_CheckModel_2 = true := by kernel_rfl
theorem m_timing_unless : mfn Try.prog Try.f55 c_timing_unless = true := by kernel_rfl
theorem m_timing_each_int : mfn Try.prog Try.f56 c_timing_each_int = true := by kernel_rfl
theorem m_timing_CheckArrivals_1 : mfn Try.prog Try.f57 c_timing_CheckArrivals_1 = true := by kernel_rfl
theorem m_timing_net_isCell : mfn Try.prog Try.f58 c_timing_net_isCell = true := by kernel_rfl
theorem m_timing_greatest : mfn Try.prog Try.f59 c_timing_greatest = true := by kernel_rfl
theorem m_ratchetref28_load : mfn Try.prog Try.f60 c_ratchetref28_load = true := by kernel_rfl
theorem m_timing_open : mfn Try.prog Try.f61 c_timing_open = true := by kernel_rfl
theorem m_timing_net_pathErr : mfn Try.prog Try.f62 c_timing_net_pathErr = true := by kernel_rfl
theorem m_timing_net_used : mfn Try.prog Try.f63 c_timing_net_used = true := by kernel_rfl
theorem m_ratchetref27_NetErr : mfn Try.prog Try.f64 c_ratchetref27_NetErr = true := by kernel_rfl
theorem m_slices_ContainsFunc_int_int : mfn Try.prog Try.f65 c_slices_ContainsFunc_int_int = true := by kernel_rfl
theorem m_timing_timesErr_1 : mfn Try.prog Try.f66 c_timing_timesErr_1 = true := by kernel_rfl
theorem m_slices_Repeat_int_int : mfn Try.prog Try.f67 c_slices_Repeat_int_int = true := by kernel_rfl
theorem m_timing_timed_required_1 : mfn Try.prog Try.f68 c_timing_timed_required_1 = true := by kernel_rfl
theorem m_timing_pointOf : mfn Try.prog Try.f69 c_timing_pointOf = true := by kernel_rfl
theorem m_slices_Backward_api_MapPlaced_api_MapPlaced : mfn Try.prog Try.f70 c_slices_Backward_api_MapPlaced_api_MapPlaced = true := by kernel_rfl
theorem m_timing_net_cell : mfn Try.prog Try.f71 c_timing_net_cell = true := by kernel_rfl
theorem m_slices_Clone_int_int : mfn Try.prog Try.f72 c_slices_Clone_int_int = true := by kernel_rfl
theorem m_timing_net_isEnd : mfn Try.prog Try.f73 c_timing_net_isEnd = true := by kernel_rfl
theorem m_slices_Contains_int_int : mfn Try.prog Try.f74 c_slices_Contains_int_int = true := by kernel_rfl
theorem m_timing_openModel_1 : mfn Try.prog Try.f75 c_timing_openModel_1 = true := by kernel_rfl
theorem m_ratchetbase_Bit : mfn Try.prog Try.f76 c_ratchetbase_Bit = true := by kernel_rfl
theorem m_mapping_CheckNet : mfn Try.prog Try.f77 c_mapping_CheckNet = true := by kernel_rfl
theorem m_timing_net_pathErr_1 : mfn Try.prog Try.f78 c_timing_net_pathErr_1 = true := by kernel_rfl
theorem m_timing_net_isUsed : mfn Try.prog Try.f79 c_timing_net_isUsed = true := by kernel_rfl
theorem m_timing_net_values : mfn Try.prog Try.f80 c_timing_net_values = true := by kernel_rfl
theorem m_ratchetref27_LibraryErr : mfn Try.prog Try.f81 c_ratchetref27_LibraryErr = true := by kernel_rfl
theorem m_ratchetref27_CheckNet : mfn Try.prog Try.f82 c_ratchetref27_CheckNet = true := by kernel_rfl
theorem m_slices_IndexFunc_int_int : mfn Try.prog Try.f83 c_slices_IndexFunc_int_int = true := by kernel_rfl
theorem m_bits_Mul : mfn Try.prog Try.f84 c_bits_Mul = true := by kernel_rfl
theorem m_slices_Backward_api_MapPlaced_api_MapPlaced_1 : mfn Try.prog Try.f85 c_slices_Backward_api_MapPlaced_api_MapPlaced_1 = true := by kernel_rfl
theorem m_slices_Index_int_int : mfn Try.prog Try.f86 c_slices_Index_int_int = true := by kernel_rfl
theorem m_mapping_CheckLibrary : mfn Try.prog Try.f87 c_mapping_CheckLibrary = true := by kernel_rfl
theorem m_mapping_first : mfn Try.prog Try.f88 c_mapping_first = true := by kernel_rfl
theorem m_mapping_unless : mfn Try.prog Try.f89 c_mapping_unless = true := by kernel_rfl
theorem m_mapping_within : mfn Try.prog Try.f90 c_mapping_within = true := by kernel_rfl
theorem m_mapping_CheckNet_1 : mfn Try.prog Try.f91 c_mapping_CheckNet_1 = true := by kernel_rfl
theorem m_mapping_CheckNet_1_1 : mfn Try.prog Try.f92 c_mapping_CheckNet_1_1 = true := by kernel_rfl
theorem m_mapping_each_api_MapPlaced : mfn Try.prog Try.f93 c_mapping_each_api_MapPlaced = true := by kernel_rfl
theorem m_mapping_CheckNet_2 : mfn Try.prog Try.f94 c_mapping_CheckNet_2 = true := by kernel_rfl
theorem m_mapping_each_int : mfn Try.prog Try.f95 c_mapping_each_int = true := by kernel_rfl
theorem m_mapping_CheckNet_3 : mfn Try.prog Try.f96 c_mapping_CheckNet_3 = true := by kernel_rfl
theorem m_timing_net_output : mfn Try.prog Try.f97 c_timing_net_output = true := by kernel_rfl
theorem m_timing_net_isUsed_1 : mfn Try.prog Try.f98 c_timing_net_isUsed_1 = true := by kernel_rfl
theorem m_timing_net_values_1 : mfn Try.prog Try.f99 c_timing_net_values_1 = true := by kernel_rfl
theorem m_ratchetref27_CheckLibrary : mfn Try.prog Try.f100 c_ratchetref27_CheckLibrary = true := by kernel_rfl
theorem m_bits_Mul32 : mfn Try.prog Try.f101 c_bits_Mul32 = true := by kernel_rfl
theorem m_bits_Mul64 : mfn Try.prog Try.f102 c_bits_Mul64 = true := by kernel_rfl
theorem m_mapping_each_api_MapCell : mfn Try.prog Try.f103 c_mapping_each_api_MapCell = true := by kernel_rfl
theorem m_mapping_CheckLibrary_1 : mfn Try.prog Try.f104 c_mapping_CheckLibrary_1 = true := by kernel_rfl
theorem m_mapping_cellErr : mfn Try.prog Try.f105 c_mapping_cellErr = true := by kernel_rfl
theorem m_ratchetbase_IsName : mfn Try.prog Try.f106 c_ratchetbase_IsName = true := by kernel_rfl
theorem m_ratchetbase_Power : mfn Try.prog Try.f107 c_ratchetbase_Power = true := by kernel_rfl
theorem m_mapping_cellErr_1 : mfn Try.prog Try.f108 c_mapping_cellErr_1 = true := by kernel_rfl
theorem m_slices_ContainsFunc_api_MapCell_api_MapCell : mfn Try.prog Try.f109 c_slices_ContainsFunc_api_MapCell_api_MapCell = true := by kernel_rfl
theorem m_mapping_cellErr_2 : mfn Try.prog Try.f110 c_mapping_cellErr_2 = true := by kernel_rfl
theorem m_mapping_isName : mfn Try.prog Try.f111 c_mapping_isName = true := by kernel_rfl
theorem m_slices_IndexFunc_api_MapCell_api_MapCell : mfn Try.prog Try.f112 c_slices_IndexFunc_api_MapCell_api_MapCell = true := by kernel_rfl

def T : Tab := fun f => match f with
  | 2 => some c_gosem_cut_init
  | 3 => some c_ratchetlaw28_TimingSlack
  | 4 => some c_ratchetlaw28_TimingSlacks
  | 5 => some c_ratchetlaw28_TimingArrives
  | 6 => some c_ratchetlaw28_awake
  | 7 => some c_ratchetlaw28_Few
  | 8 => some c_ratchetlaw28_light
  | 9 => some c_ratchetref28_AllErr
  | 10 => some c_ratchetref28_TimesErr
  | 11 => some c_ratchetbase_Within
  | 12 => some c_ratchetlaw28_copied
  | 13 => some c_ratchetref28_Paths
  | 14 => some c_ratchetbase_Has
  | 15 => some c_timing_SlacksOf
  | 16 => some c_ratchetbase_CopyInts
  | 17 => some c_timing_CriticalPath
  | 18 => some c_ratchetref28_Points
  | 19 => some c_ratchetref28_PathErr
  | 20 => some c_timing_RequiredOf
  | 21 => some c_ratchetbase_Ints
  | 22 => some c_ratchetref28_Required
  | 23 => some c_ratchetref28_Slacks
  | 24 => some c_timing_CheckModel
  | 25 => some c_timing_DelaysOf
  | 26 => some c_timing_ArrivalsOf
  | 27 => some c_timing_CheckArrivals
  | 28 => some c_ratchetref28_ModelErr
  | 29 => some c_ratchetref28_Delays
  | 30 => some c_ratchetref28_CheckArrivals
  | 31 => some c_ratchetref28_Arrivals
  | 32 => some c_ratchetlaw28_Library
  | 33 => some c_ratchetlaw28_Net
  | 34 => some c_ratchetlaw28_Model
  | 35 => some c_timing_UsedAt
  | 36 => some c_ratchetref28_NetErr
  | 37 => some c_ratchetref27_CopyLibrary
  | 38 => some c_ratchetref27_CopyNet
  | 39 => some c_ratchetref28_longer
  | 40 => some c_timing_openTimes
  | 41 => some c_timing_first
  | 42 => some c_timing_timesErr
  | 43 => some c_timing_timed_required
  | 44 => some c_timing_timed_arrivals
  | 45 => some c_timing_timed_rests
  | 46 => some c_timing_net_points
  | 47 => some c_timing_net_has
  | 48 => some c_timing_timed_delay
  | 49 => some c_timing_openModel
  | 50 => some c_ratchetref28_point
  | 51 => some c_ratchetref28_earlier
  | 52 => some c_timing_CheckModel_1
  | 53 => some c_timing_within
  | 54 => some c_timing_CheckModel_2
  | 55 => some c_timing_unless
  | 56 => some c_timing_each_int
  | 57 => some c_timing_CheckArrivals_1
  | 58 => some c_timing_net_isCell
  | 59 => some c_timing_greatest
  | 60 => some c_ratchetref28_load
  | 61 => some c_timing_open
  | 62 => some c_timing_net_pathErr
  | 63 => some c_timing_net_used
  | 64 => some c_ratchetref27_NetErr
  | 65 => some c_slices_ContainsFunc_int_int
  | 66 => some c_timing_timesErr_1
  | 67 => some c_slices_Repeat_int_int
  | 68 => some c_timing_timed_required_1
  | 69 => some c_timing_pointOf
  | 70 => some c_slices_Backward_api_MapPlaced_api_MapPlaced
  | 71 => some c_timing_net_cell
  | 72 => some c_slices_Clone_int_int
  | 73 => some c_timing_net_isEnd
  | 74 => some c_slices_Contains_int_int
  | 75 => some c_timing_openModel_1
  | 76 => some c_ratchetbase_Bit
  | 77 => some c_mapping_CheckNet
  | 78 => some c_timing_net_pathErr_1
  | 79 => some c_timing_net_isUsed
  | 80 => some c_timing_net_values
  | 81 => some c_ratchetref27_LibraryErr
  | 82 => some c_ratchetref27_CheckNet
  | 83 => some c_slices_IndexFunc_int_int
  | 84 => some c_bits_Mul
  | 85 => some c_slices_Backward_api_MapPlaced_api_MapPlaced_1
  | 86 => some c_slices_Index_int_int
  | 87 => some c_mapping_CheckLibrary
  | 88 => some c_mapping_first
  | 89 => some c_mapping_unless
  | 90 => some c_mapping_within
  | 91 => some c_mapping_CheckNet_1
  | 92 => some c_mapping_CheckNet_1_1
  | 93 => some c_mapping_each_api_MapPlaced
  | 94 => some c_mapping_CheckNet_2
  | 95 => some c_mapping_each_int
  | 96 => some c_mapping_CheckNet_3
  | 97 => some c_timing_net_output
  | 98 => some c_timing_net_isUsed_1
  | 99 => some c_timing_net_values_1
  | 100 => some c_ratchetref27_CheckLibrary
  | 101 => some c_bits_Mul32
  | 102 => some c_bits_Mul64
  | 103 => some c_mapping_each_api_MapCell
  | 104 => some c_mapping_CheckLibrary_1
  | 105 => some c_mapping_cellErr
  | 106 => some c_ratchetbase_IsName
  | 107 => some c_ratchetbase_Power
  | 108 => some c_mapping_cellErr_1
  | 109 => some c_slices_ContainsFunc_api_MapCell_api_MapCell
  | 110 => some c_mapping_cellErr_2
  | 111 => some c_mapping_isName
  | 112 => some c_slices_IndexFunc_api_MapCell_api_MapCell
  | _ => none

theorem tabOk : TabOk Try.prog T := fun f F h => by
  unfold T at h
  split at h
  · cases h; exact ⟨_, Try.func2, m_gosem_cut_init⟩
  · cases h; exact ⟨_, Try.func3, m_ratchetlaw28_TimingSlack⟩
  · cases h; exact ⟨_, Try.func4, m_ratchetlaw28_TimingSlacks⟩
  · cases h; exact ⟨_, Try.func5, m_ratchetlaw28_TimingArrives⟩
  · cases h; exact ⟨_, Try.func6, m_ratchetlaw28_awake⟩
  · cases h; exact ⟨_, Try.func7, m_ratchetlaw28_Few⟩
  · cases h; exact ⟨_, Try.func8, m_ratchetlaw28_light⟩
  · cases h; exact ⟨_, Try.func9, m_ratchetref28_AllErr⟩
  · cases h; exact ⟨_, Try.func10, m_ratchetref28_TimesErr⟩
  · cases h; exact ⟨_, Try.func11, m_ratchetbase_Within⟩
  · cases h; exact ⟨_, Try.func12, m_ratchetlaw28_copied⟩
  · cases h; exact ⟨_, Try.func13, m_ratchetref28_Paths⟩
  · cases h; exact ⟨_, Try.func14, m_ratchetbase_Has⟩
  · cases h; exact ⟨_, Try.func15, m_timing_SlacksOf⟩
  · cases h; exact ⟨_, Try.func16, m_ratchetbase_CopyInts⟩
  · cases h; exact ⟨_, Try.func17, m_timing_CriticalPath⟩
  · cases h; exact ⟨_, Try.func18, m_ratchetref28_Points⟩
  · cases h; exact ⟨_, Try.func19, m_ratchetref28_PathErr⟩
  · cases h; exact ⟨_, Try.func20, m_timing_RequiredOf⟩
  · cases h; exact ⟨_, Try.func21, m_ratchetbase_Ints⟩
  · cases h; exact ⟨_, Try.func22, m_ratchetref28_Required⟩
  · cases h; exact ⟨_, Try.func23, m_ratchetref28_Slacks⟩
  · cases h; exact ⟨_, Try.func24, m_timing_CheckModel⟩
  · cases h; exact ⟨_, Try.func25, m_timing_DelaysOf⟩
  · cases h; exact ⟨_, Try.func26, m_timing_ArrivalsOf⟩
  · cases h; exact ⟨_, Try.func27, m_timing_CheckArrivals⟩
  · cases h; exact ⟨_, Try.func28, m_ratchetref28_ModelErr⟩
  · cases h; exact ⟨_, Try.func29, m_ratchetref28_Delays⟩
  · cases h; exact ⟨_, Try.func30, m_ratchetref28_CheckArrivals⟩
  · cases h; exact ⟨_, Try.func31, m_ratchetref28_Arrivals⟩
  · cases h; exact ⟨_, Try.func32, m_ratchetlaw28_Library⟩
  · cases h; exact ⟨_, Try.func33, m_ratchetlaw28_Net⟩
  · cases h; exact ⟨_, Try.func34, m_ratchetlaw28_Model⟩
  · cases h; exact ⟨_, Try.func35, m_timing_UsedAt⟩
  · cases h; exact ⟨_, Try.func36, m_ratchetref28_NetErr⟩
  · cases h; exact ⟨_, Try.func37, m_ratchetref27_CopyLibrary⟩
  · cases h; exact ⟨_, Try.func38, m_ratchetref27_CopyNet⟩
  · cases h; exact ⟨_, Try.func39, m_ratchetref28_longer⟩
  · cases h; exact ⟨_, Try.func40, m_timing_openTimes⟩
  · cases h; exact ⟨_, Try.func41, m_timing_first⟩
  · cases h; exact ⟨_, Try.func42, m_timing_timesErr⟩
  · cases h; exact ⟨_, Try.func43, m_timing_timed_required⟩
  · cases h; exact ⟨_, Try.func44, m_timing_timed_arrivals⟩
  · cases h; exact ⟨_, Try.func45, m_timing_timed_rests⟩
  · cases h; exact ⟨_, Try.func46, m_timing_net_points⟩
  · cases h; exact ⟨_, Try.func47, m_timing_net_has⟩
  · cases h; exact ⟨_, Try.func48, m_timing_timed_delay⟩
  · cases h; exact ⟨_, Try.func49, m_timing_openModel⟩
  · cases h; exact ⟨_, Try.func50, m_ratchetref28_point⟩
  · cases h; exact ⟨_, Try.func51, m_ratchetref28_earlier⟩
  · cases h; exact ⟨_, Try.func52, m_timing_CheckModel_1⟩
  · cases h; exact ⟨_, Try.func53, m_timing_within⟩
  · cases h; exact ⟨_, Try.func54, m_timing_CheckModel_2⟩
  · cases h; exact ⟨_, Try.func55, m_timing_unless⟩
  · cases h; exact ⟨_, Try.func56, m_timing_each_int⟩
  · cases h; exact ⟨_, Try.func57, m_timing_CheckArrivals_1⟩
  · cases h; exact ⟨_, Try.func58, m_timing_net_isCell⟩
  · cases h; exact ⟨_, Try.func59, m_timing_greatest⟩
  · cases h; exact ⟨_, Try.func60, m_ratchetref28_load⟩
  · cases h; exact ⟨_, Try.func61, m_timing_open⟩
  · cases h; exact ⟨_, Try.func62, m_timing_net_pathErr⟩
  · cases h; exact ⟨_, Try.func63, m_timing_net_used⟩
  · cases h; exact ⟨_, Try.func64, m_ratchetref27_NetErr⟩
  · cases h; exact ⟨_, Try.func65, m_slices_ContainsFunc_int_int⟩
  · cases h; exact ⟨_, Try.func66, m_timing_timesErr_1⟩
  · cases h; exact ⟨_, Try.func67, m_slices_Repeat_int_int⟩
  · cases h; exact ⟨_, Try.func68, m_timing_timed_required_1⟩
  · cases h; exact ⟨_, Try.func69, m_timing_pointOf⟩
  · cases h; exact ⟨_, Try.func70, m_slices_Backward_api_MapPlaced_api_MapPlaced⟩
  · cases h; exact ⟨_, Try.func71, m_timing_net_cell⟩
  · cases h; exact ⟨_, Try.func72, m_slices_Clone_int_int⟩
  · cases h; exact ⟨_, Try.func73, m_timing_net_isEnd⟩
  · cases h; exact ⟨_, Try.func74, m_slices_Contains_int_int⟩
  · cases h; exact ⟨_, Try.func75, m_timing_openModel_1⟩
  · cases h; exact ⟨_, Try.func76, m_ratchetbase_Bit⟩
  · cases h; exact ⟨_, Try.func77, m_mapping_CheckNet⟩
  · cases h; exact ⟨_, Try.func78, m_timing_net_pathErr_1⟩
  · cases h; exact ⟨_, Try.func79, m_timing_net_isUsed⟩
  · cases h; exact ⟨_, Try.func80, m_timing_net_values⟩
  · cases h; exact ⟨_, Try.func81, m_ratchetref27_LibraryErr⟩
  · cases h; exact ⟨_, Try.func82, m_ratchetref27_CheckNet⟩
  · cases h; exact ⟨_, Try.func83, m_slices_IndexFunc_int_int⟩
  · cases h; exact ⟨_, Try.func84, m_bits_Mul⟩
  · cases h; exact ⟨_, Try.func85, m_slices_Backward_api_MapPlaced_api_MapPlaced_1⟩
  · cases h; exact ⟨_, Try.func86, m_slices_Index_int_int⟩
  · cases h; exact ⟨_, Try.func87, m_mapping_CheckLibrary⟩
  · cases h; exact ⟨_, Try.func88, m_mapping_first⟩
  · cases h; exact ⟨_, Try.func89, m_mapping_unless⟩
  · cases h; exact ⟨_, Try.func90, m_mapping_within⟩
  · cases h; exact ⟨_, Try.func91, m_mapping_CheckNet_1⟩
  · cases h; exact ⟨_, Try.func92, m_mapping_CheckNet_1_1⟩
  · cases h; exact ⟨_, Try.func93, m_mapping_each_api_MapPlaced⟩
  · cases h; exact ⟨_, Try.func94, m_mapping_CheckNet_2⟩
  · cases h; exact ⟨_, Try.func95, m_mapping_each_int⟩
  · cases h; exact ⟨_, Try.func96, m_mapping_CheckNet_3⟩
  · cases h; exact ⟨_, Try.func97, m_timing_net_output⟩
  · cases h; exact ⟨_, Try.func98, m_timing_net_isUsed_1⟩
  · cases h; exact ⟨_, Try.func99, m_timing_net_values_1⟩
  · cases h; exact ⟨_, Try.func100, m_ratchetref27_CheckLibrary⟩
  · cases h; exact ⟨_, Try.func101, m_bits_Mul32⟩
  · cases h; exact ⟨_, Try.func102, m_bits_Mul64⟩
  · cases h; exact ⟨_, Try.func103, m_mapping_each_api_MapCell⟩
  · cases h; exact ⟨_, Try.func104, m_mapping_CheckLibrary_1⟩
  · cases h; exact ⟨_, Try.func105, m_mapping_cellErr⟩
  · cases h; exact ⟨_, Try.func106, m_ratchetbase_IsName⟩
  · cases h; exact ⟨_, Try.func107, m_ratchetbase_Power⟩
  · cases h; exact ⟨_, Try.func108, m_mapping_cellErr_1⟩
  · cases h; exact ⟨_, Try.func109, m_slices_ContainsFunc_api_MapCell_api_MapCell⟩
  · cases h; exact ⟨_, Try.func110, m_mapping_cellErr_2⟩
  · cases h; exact ⟨_, Try.func111, m_mapping_isName⟩
  · cases h; exact ⟨_, Try.func112, m_slices_IndexFunc_api_MapCell_api_MapCell⟩
  · cases h

theorem z_slices_Clone_int_int {π : Id} {args : List AV} {s : Sto} : E T noO π n_slices_Clone_int_int args s = runF (E T noO) iter c_slices_Clone_int_int π args s := E_fn (by decide) (by rfl) (by rfl)
theorem q_slices_Clone_int_int : OrcFor Try.prog n_slices_Clone_int_int (cloneO t_int 1) := clone_ok (C := E T noO) (E_ok tabOk (noO_ok _)) (by decide)
  (fun π l hl => ⟨5 :: π, by rw [z_slices_Clone_int_int]; simp [run_eq, c_slices_Clone_int_int, hl]⟩)
  (fun π => by rw [z_slices_Clone_int_int]; simp [run_eq, c_slices_Clone_int_int])
def orc : Orc := fun f => match f with
  | 72 => some (cloneO t_int 1)
  | _ => none

theorem orcOk : OrcOk Try.prog orc := fun f g h => by
  unfold orc at h
  split at h
  · cases h; exact q_slices_Clone_int_int
  · cases h

noncomputable def EE : Call := E T orc

theorem o_slices_Clone_int_int {π : Id} {args : List AV} : EE π n_slices_Clone_int_int args [] = cloneO t_int 1 π args := E_orc (by decide) (by rfl)
theorem e_gosem_cut_init {π : Id} {args : List AV} {s : Sto} : EE π n_gosem_cut_init args s = runF EE iter c_gosem_cut_init π args s := E_fn (by decide) (by rfl) (by rfl)
theorem e_ratchetlaw28_TimingSlack {π : Id} {args : List AV} {s : Sto} : EE π n_ratchetlaw28_TimingSlack args s = runF EE iter c_ratchetlaw28_TimingSlack π args s := E_fn (by decide) (by rfl) (by rfl)
theorem e_ratchetlaw28_TimingSlacks {π : Id} {args : List AV} {s : Sto} : EE π n_ratchetlaw28_TimingSlacks args s = runF EE iter c_ratchetlaw28_TimingSlacks π args s := E_fn (by decide) (by rfl) (by rfl)
theorem e_ratchetlaw28_TimingArrives {π : Id} {args : List AV} {s : Sto} : EE π n_ratchetlaw28_TimingArrives args s = runF EE iter c_ratchetlaw28_TimingArrives π args s := E_fn (by decide) (by rfl) (by rfl)
theorem e_ratchetlaw28_awake {π : Id} {args : List AV} {s : Sto} : EE π n_ratchetlaw28_awake args s = runF EE iter c_ratchetlaw28_awake π args s := E_fn (by decide) (by rfl) (by rfl)
theorem e_ratchetlaw28_Few {π : Id} {args : List AV} {s : Sto} : EE π n_ratchetlaw28_Few args s = runF EE iter c_ratchetlaw28_Few π args s := E_fn (by decide) (by rfl) (by rfl)
theorem e_ratchetlaw28_light {π : Id} {args : List AV} {s : Sto} : EE π n_ratchetlaw28_light args s = runF EE iter c_ratchetlaw28_light π args s := E_fn (by decide) (by rfl) (by rfl)
theorem e_ratchetref28_AllErr {π : Id} {args : List AV} {s : Sto} : EE π n_ratchetref28_AllErr args s = runF EE iter c_ratchetref28_AllErr π args s := E_fn (by decide) (by rfl) (by rfl)
theorem e_ratchetref28_TimesErr {π : Id} {args : List AV} {s : Sto} : EE π n_ratchetref28_TimesErr args s = runF EE iter c_ratchetref28_TimesErr π args s := E_fn (by decide) (by rfl) (by rfl)
theorem e_ratchetbase_Within {π : Id} {args : List AV} {s : Sto} : EE π n_ratchetbase_Within args s = runF EE iter c_ratchetbase_Within π args s := E_fn (by decide) (by rfl) (by rfl)
theorem e_ratchetlaw28_copied {π : Id} {args : List AV} {s : Sto} : EE π n_ratchetlaw28_copied args s = runF EE iter c_ratchetlaw28_copied π args s := E_fn (by decide) (by rfl) (by rfl)
theorem e_ratchetref28_Paths {π : Id} {args : List AV} {s : Sto} : EE π n_ratchetref28_Paths args s = runF EE iter c_ratchetref28_Paths π args s := E_fn (by decide) (by rfl) (by rfl)
theorem e_ratchetbase_Has {π : Id} {args : List AV} {s : Sto} : EE π n_ratchetbase_Has args s = runF EE iter c_ratchetbase_Has π args s := E_fn (by decide) (by rfl) (by rfl)
theorem e_timing_SlacksOf {π : Id} {args : List AV} {s : Sto} : EE π n_timing_SlacksOf args s = runF EE iter c_timing_SlacksOf π args s := E_fn (by decide) (by rfl) (by rfl)
theorem e_ratchetbase_CopyInts {π : Id} {args : List AV} {s : Sto} : EE π n_ratchetbase_CopyInts args s = runF EE iter c_ratchetbase_CopyInts π args s := E_fn (by decide) (by rfl) (by rfl)
theorem e_timing_CriticalPath {π : Id} {args : List AV} {s : Sto} : EE π n_timing_CriticalPath args s = runF EE iter c_timing_CriticalPath π args s := E_fn (by decide) (by rfl) (by rfl)
theorem e_ratchetref28_Points {π : Id} {args : List AV} {s : Sto} : EE π n_ratchetref28_Points args s = runF EE iter c_ratchetref28_Points π args s := E_fn (by decide) (by rfl) (by rfl)
theorem e_ratchetref28_PathErr {π : Id} {args : List AV} {s : Sto} : EE π n_ratchetref28_PathErr args s = runF EE iter c_ratchetref28_PathErr π args s := E_fn (by decide) (by rfl) (by rfl)
theorem e_timing_RequiredOf {π : Id} {args : List AV} {s : Sto} : EE π n_timing_RequiredOf args s = runF EE iter c_timing_RequiredOf π args s := E_fn (by decide) (by rfl) (by rfl)
theorem e_ratchetbase_Ints {π : Id} {args : List AV} {s : Sto} : EE π n_ratchetbase_Ints args s = runF EE iter c_ratchetbase_Ints π args s := E_fn (by decide) (by rfl) (by rfl)
theorem e_ratchetref28_Required {π : Id} {args : List AV} {s : Sto} : EE π n_ratchetref28_Required args s = runF EE iter c_ratchetref28_Required π args s := E_fn (by decide) (by rfl) (by rfl)
theorem e_ratchetref28_Slacks {π : Id} {args : List AV} {s : Sto} : EE π n_ratchetref28_Slacks args s = runF EE iter c_ratchetref28_Slacks π args s := E_fn (by decide) (by rfl) (by rfl)
theorem e_timing_CheckModel {π : Id} {args : List AV} {s : Sto} : EE π n_timing_CheckModel args s = runF EE iter c_timing_CheckModel π args s := E_fn (by decide) (by rfl) (by rfl)
theorem e_timing_DelaysOf {π : Id} {args : List AV} {s : Sto} : EE π n_timing_DelaysOf args s = runF EE iter c_timing_DelaysOf π args s := E_fn (by decide) (by rfl) (by rfl)
theorem e_timing_ArrivalsOf {π : Id} {args : List AV} {s : Sto} : EE π n_timing_ArrivalsOf args s = runF EE iter c_timing_ArrivalsOf π args s := E_fn (by decide) (by rfl) (by rfl)
theorem e_timing_CheckArrivals {π : Id} {args : List AV} {s : Sto} : EE π n_timing_CheckArrivals args s = runF EE iter c_timing_CheckArrivals π args s := E_fn (by decide) (by rfl) (by rfl)
theorem e_ratchetref28_ModelErr {π : Id} {args : List AV} {s : Sto} : EE π n_ratchetref28_ModelErr args s = runF EE iter c_ratchetref28_ModelErr π args s := E_fn (by decide) (by rfl) (by rfl)
theorem e_ratchetref28_Delays {π : Id} {args : List AV} {s : Sto} : EE π n_ratchetref28_Delays args s = runF EE iter c_ratchetref28_Delays π args s := E_fn (by decide) (by rfl) (by rfl)
theorem e_ratchetref28_CheckArrivals {π : Id} {args : List AV} {s : Sto} : EE π n_ratchetref28_CheckArrivals args s = runF EE iter c_ratchetref28_CheckArrivals π args s := E_fn (by decide) (by rfl) (by rfl)
theorem e_ratchetref28_Arrivals {π : Id} {args : List AV} {s : Sto} : EE π n_ratchetref28_Arrivals args s = runF EE iter c_ratchetref28_Arrivals π args s := E_fn (by decide) (by rfl) (by rfl)
theorem e_ratchetlaw28_Library {π : Id} {args : List AV} {s : Sto} : EE π n_ratchetlaw28_Library args s = runF EE iter c_ratchetlaw28_Library π args s := E_fn (by decide) (by rfl) (by rfl)
theorem e_ratchetlaw28_Net {π : Id} {args : List AV} {s : Sto} : EE π n_ratchetlaw28_Net args s = runF EE iter c_ratchetlaw28_Net π args s := E_fn (by decide) (by rfl) (by rfl)
theorem e_ratchetlaw28_Model {π : Id} {args : List AV} {s : Sto} : EE π n_ratchetlaw28_Model args s = runF EE iter c_ratchetlaw28_Model π args s := E_fn (by decide) (by rfl) (by rfl)
theorem e_timing_UsedAt {π : Id} {args : List AV} {s : Sto} : EE π n_timing_UsedAt args s = runF EE iter c_timing_UsedAt π args s := E_fn (by decide) (by rfl) (by rfl)
theorem e_ratchetref28_NetErr {π : Id} {args : List AV} {s : Sto} : EE π n_ratchetref28_NetErr args s = runF EE iter c_ratchetref28_NetErr π args s := E_fn (by decide) (by rfl) (by rfl)
theorem e_ratchetref27_CopyLibrary {π : Id} {args : List AV} {s : Sto} : EE π n_ratchetref27_CopyLibrary args s = runF EE iter c_ratchetref27_CopyLibrary π args s := E_fn (by decide) (by rfl) (by rfl)
theorem e_ratchetref27_CopyNet {π : Id} {args : List AV} {s : Sto} : EE π n_ratchetref27_CopyNet args s = runF EE iter c_ratchetref27_CopyNet π args s := E_fn (by decide) (by rfl) (by rfl)
theorem e_ratchetref28_longer {π : Id} {args : List AV} {s : Sto} : EE π n_ratchetref28_longer args s = runF EE iter c_ratchetref28_longer π args s := E_fn (by decide) (by rfl) (by rfl)
theorem e_timing_openTimes {π : Id} {args : List AV} {s : Sto} : EE π n_timing_openTimes args s = runF EE iter c_timing_openTimes π args s := E_fn (by decide) (by rfl) (by rfl)
theorem e_timing_first {π : Id} {args : List AV} {s : Sto} : EE π n_timing_first args s = runF EE iter c_timing_first π args s := E_fn (by decide) (by rfl) (by rfl)
theorem e_timing_timesErr {π : Id} {args : List AV} {s : Sto} : EE π n_timing_timesErr args s = runF EE iter c_timing_timesErr π args s := E_fn (by decide) (by rfl) (by rfl)
theorem e_timing_timed_required {π : Id} {args : List AV} {s : Sto} : EE π n_timing_timed_required args s = runF EE iter c_timing_timed_required π args s := E_fn (by decide) (by rfl) (by rfl)
theorem e_timing_timed_arrivals {π : Id} {args : List AV} {s : Sto} : EE π n_timing_timed_arrivals args s = runF EE iter c_timing_timed_arrivals π args s := E_fn (by decide) (by rfl) (by rfl)
theorem e_timing_timed_rests {π : Id} {args : List AV} {s : Sto} : EE π n_timing_timed_rests args s = runF EE iter c_timing_timed_rests π args s := E_fn (by decide) (by rfl) (by rfl)
theorem e_timing_net_points {π : Id} {args : List AV} {s : Sto} : EE π n_timing_net_points args s = runF EE iter c_timing_net_points π args s := E_fn (by decide) (by rfl) (by rfl)
theorem e_timing_net_has {π : Id} {args : List AV} {s : Sto} : EE π n_timing_net_has args s = runF EE iter c_timing_net_has π args s := E_fn (by decide) (by rfl) (by rfl)
theorem e_timing_timed_delay {π : Id} {args : List AV} {s : Sto} : EE π n_timing_timed_delay args s = runF EE iter c_timing_timed_delay π args s := E_fn (by decide) (by rfl) (by rfl)
theorem e_timing_openModel {π : Id} {args : List AV} {s : Sto} : EE π n_timing_openModel args s = runF EE iter c_timing_openModel π args s := E_fn (by decide) (by rfl) (by rfl)
theorem e_ratchetref28_point {π : Id} {args : List AV} {s : Sto} : EE π n_ratchetref28_point args s = runF EE iter c_ratchetref28_point π args s := E_fn (by decide) (by rfl) (by rfl)
theorem e_ratchetref28_earlier {π : Id} {args : List AV} {s : Sto} : EE π n_ratchetref28_earlier args s = runF EE iter c_ratchetref28_earlier π args s := E_fn (by decide) (by rfl) (by rfl)
theorem e_timing_CheckModel_1 {π : Id} {args : List AV} {s : Sto} : EE π n_timing_CheckModel_1 args s = runF EE iter c_timing_CheckModel_1 π args s := E_fn (by decide) (by rfl) (by rfl)
theorem e_timing_within {π : Id} {args : List AV} {s : Sto} : EE π n_timing_within args s = runF EE iter c_timing_within π args s := E_fn (by decide) (by rfl) (by rfl)
theorem e_timing_CheckModel_2 {π : Id} {args : List AV} {s : Sto} : EE π n_timing_CheckModel_2 args s = runF EE iter c_timing_CheckModel_2 π args s := E_fn (by decide) (by rfl) (by rfl)
theorem e_timing_unless {π : Id} {args : List AV} {s : Sto} : EE π n_timing_unless args s = runF EE iter c_timing_unless π args s := E_fn (by decide) (by rfl) (by rfl)
theorem e_timing_each_int {π : Id} {args : List AV} {s : Sto} : EE π n_timing_each_int args s = runF EE iter c_timing_each_int π args s := E_fn (by decide) (by rfl) (by rfl)
theorem e_timing_CheckArrivals_1 {π : Id} {args : List AV} {s : Sto} : EE π n_timing_CheckArrivals_1 args s = runF EE iter c_timing_CheckArrivals_1 π args s := E_fn (by decide) (by rfl) (by rfl)
theorem e_timing_net_isCell {π : Id} {args : List AV} {s : Sto} : EE π n_timing_net_isCell args s = runF EE iter c_timing_net_isCell π args s := E_fn (by decide) (by rfl) (by rfl)
theorem e_timing_greatest {π : Id} {args : List AV} {s : Sto} : EE π n_timing_greatest args s = runF EE iter c_timing_greatest π args s := E_fn (by decide) (by rfl) (by rfl)
theorem e_ratchetref28_load {π : Id} {args : List AV} {s : Sto} : EE π n_ratchetref28_load args s = runF EE iter c_ratchetref28_load π args s := E_fn (by decide) (by rfl) (by rfl)
theorem e_timing_open {π : Id} {args : List AV} {s : Sto} : EE π n_timing_open args s = runF EE iter c_timing_open π args s := E_fn (by decide) (by rfl) (by rfl)
theorem e_timing_net_pathErr {π : Id} {args : List AV} {s : Sto} : EE π n_timing_net_pathErr args s = runF EE iter c_timing_net_pathErr π args s := E_fn (by decide) (by rfl) (by rfl)
theorem e_timing_net_used {π : Id} {args : List AV} {s : Sto} : EE π n_timing_net_used args s = runF EE iter c_timing_net_used π args s := E_fn (by decide) (by rfl) (by rfl)
theorem e_ratchetref27_NetErr {π : Id} {args : List AV} {s : Sto} : EE π n_ratchetref27_NetErr args s = runF EE iter c_ratchetref27_NetErr π args s := E_fn (by decide) (by rfl) (by rfl)
theorem e_slices_ContainsFunc_int_int {π : Id} {args : List AV} {s : Sto} : EE π n_slices_ContainsFunc_int_int args s = runF EE iter c_slices_ContainsFunc_int_int π args s := E_fn (by decide) (by rfl) (by rfl)
theorem e_timing_timesErr_1 {π : Id} {args : List AV} {s : Sto} : EE π n_timing_timesErr_1 args s = runF EE iter c_timing_timesErr_1 π args s := E_fn (by decide) (by rfl) (by rfl)
theorem e_slices_Repeat_int_int {π : Id} {args : List AV} {s : Sto} : EE π n_slices_Repeat_int_int args s = runF EE iter c_slices_Repeat_int_int π args s := E_fn (by decide) (by rfl) (by rfl)
theorem e_timing_timed_required_1 {π : Id} {args : List AV} {s : Sto} : EE π n_timing_timed_required_1 args s = runF EE iter c_timing_timed_required_1 π args s := E_fn (by decide) (by rfl) (by rfl)
theorem e_timing_pointOf {π : Id} {args : List AV} {s : Sto} : EE π n_timing_pointOf args s = runF EE iter c_timing_pointOf π args s := E_fn (by decide) (by rfl) (by rfl)
theorem e_slices_Backward_api_MapPlaced_api_MapPlaced {π : Id} {args : List AV} {s : Sto} : EE π n_slices_Backward_api_MapPlaced_api_MapPlaced args s = runF EE iter c_slices_Backward_api_MapPlaced_api_MapPlaced π args s := E_fn (by decide) (by rfl) (by rfl)
theorem e_timing_net_cell {π : Id} {args : List AV} {s : Sto} : EE π n_timing_net_cell args s = runF EE iter c_timing_net_cell π args s := E_fn (by decide) (by rfl) (by rfl)
theorem e_timing_net_isEnd {π : Id} {args : List AV} {s : Sto} : EE π n_timing_net_isEnd args s = runF EE iter c_timing_net_isEnd π args s := E_fn (by decide) (by rfl) (by rfl)
theorem e_slices_Contains_int_int {π : Id} {args : List AV} {s : Sto} : EE π n_slices_Contains_int_int args s = runF EE iter c_slices_Contains_int_int π args s := E_fn (by decide) (by rfl) (by rfl)
theorem e_timing_openModel_1 {π : Id} {args : List AV} {s : Sto} : EE π n_timing_openModel_1 args s = runF EE iter c_timing_openModel_1 π args s := E_fn (by decide) (by rfl) (by rfl)
theorem e_ratchetbase_Bit {π : Id} {args : List AV} {s : Sto} : EE π n_ratchetbase_Bit args s = runF EE iter c_ratchetbase_Bit π args s := E_fn (by decide) (by rfl) (by rfl)
theorem e_mapping_CheckNet {π : Id} {args : List AV} {s : Sto} : EE π n_mapping_CheckNet args s = runF EE iter c_mapping_CheckNet π args s := E_fn (by decide) (by rfl) (by rfl)
theorem e_timing_net_pathErr_1 {π : Id} {args : List AV} {s : Sto} : EE π n_timing_net_pathErr_1 args s = runF EE iter c_timing_net_pathErr_1 π args s := E_fn (by decide) (by rfl) (by rfl)
theorem e_timing_net_isUsed {π : Id} {args : List AV} {s : Sto} : EE π n_timing_net_isUsed args s = runF EE iter c_timing_net_isUsed π args s := E_fn (by decide) (by rfl) (by rfl)
theorem e_timing_net_values {π : Id} {args : List AV} {s : Sto} : EE π n_timing_net_values args s = runF EE iter c_timing_net_values π args s := E_fn (by decide) (by rfl) (by rfl)
theorem e_ratchetref27_LibraryErr {π : Id} {args : List AV} {s : Sto} : EE π n_ratchetref27_LibraryErr args s = runF EE iter c_ratchetref27_LibraryErr π args s := E_fn (by decide) (by rfl) (by rfl)
theorem e_ratchetref27_CheckNet {π : Id} {args : List AV} {s : Sto} : EE π n_ratchetref27_CheckNet args s = runF EE iter c_ratchetref27_CheckNet π args s := E_fn (by decide) (by rfl) (by rfl)
theorem e_slices_IndexFunc_int_int {π : Id} {args : List AV} {s : Sto} : EE π n_slices_IndexFunc_int_int args s = runF EE iter c_slices_IndexFunc_int_int π args s := E_fn (by decide) (by rfl) (by rfl)
theorem e_bits_Mul {π : Id} {args : List AV} {s : Sto} : EE π n_bits_Mul args s = runF EE iter c_bits_Mul π args s := E_fn (by decide) (by rfl) (by rfl)
theorem e_slices_Backward_api_MapPlaced_api_MapPlaced_1 {π : Id} {args : List AV} {s : Sto} : EE π n_slices_Backward_api_MapPlaced_api_MapPlaced_1 args s = runF EE iter c_slices_Backward_api_MapPlaced_api_MapPlaced_1 π args s := E_fn (by decide) (by rfl) (by rfl)
theorem e_slices_Index_int_int {π : Id} {args : List AV} {s : Sto} : EE π n_slices_Index_int_int args s = runF EE iter c_slices_Index_int_int π args s := E_fn (by decide) (by rfl) (by rfl)
theorem e_mapping_CheckLibrary {π : Id} {args : List AV} {s : Sto} : EE π n_mapping_CheckLibrary args s = runF EE iter c_mapping_CheckLibrary π args s := E_fn (by decide) (by rfl) (by rfl)
theorem e_mapping_first {π : Id} {args : List AV} {s : Sto} : EE π n_mapping_first args s = runF EE iter c_mapping_first π args s := E_fn (by decide) (by rfl) (by rfl)
theorem e_mapping_unless {π : Id} {args : List AV} {s : Sto} : EE π n_mapping_unless args s = runF EE iter c_mapping_unless π args s := E_fn (by decide) (by rfl) (by rfl)
theorem e_mapping_within {π : Id} {args : List AV} {s : Sto} : EE π n_mapping_within args s = runF EE iter c_mapping_within π args s := E_fn (by decide) (by rfl) (by rfl)
theorem e_mapping_CheckNet_1 {π : Id} {args : List AV} {s : Sto} : EE π n_mapping_CheckNet_1 args s = runF EE iter c_mapping_CheckNet_1 π args s := E_fn (by decide) (by rfl) (by rfl)
theorem e_mapping_CheckNet_1_1 {π : Id} {args : List AV} {s : Sto} : EE π n_mapping_CheckNet_1_1 args s = runF EE iter c_mapping_CheckNet_1_1 π args s := E_fn (by decide) (by rfl) (by rfl)
theorem e_mapping_each_api_MapPlaced {π : Id} {args : List AV} {s : Sto} : EE π n_mapping_each_api_MapPlaced args s = runF EE iter c_mapping_each_api_MapPlaced π args s := E_fn (by decide) (by rfl) (by rfl)
theorem e_mapping_CheckNet_2 {π : Id} {args : List AV} {s : Sto} : EE π n_mapping_CheckNet_2 args s = runF EE iter c_mapping_CheckNet_2 π args s := E_fn (by decide) (by rfl) (by rfl)
theorem e_mapping_each_int {π : Id} {args : List AV} {s : Sto} : EE π n_mapping_each_int args s = runF EE iter c_mapping_each_int π args s := E_fn (by decide) (by rfl) (by rfl)
theorem e_mapping_CheckNet_3 {π : Id} {args : List AV} {s : Sto} : EE π n_mapping_CheckNet_3 args s = runF EE iter c_mapping_CheckNet_3 π args s := E_fn (by decide) (by rfl) (by rfl)
theorem e_timing_net_output {π : Id} {args : List AV} {s : Sto} : EE π n_timing_net_output args s = runF EE iter c_timing_net_output π args s := E_fn (by decide) (by rfl) (by rfl)
theorem e_timing_net_isUsed_1 {π : Id} {args : List AV} {s : Sto} : EE π n_timing_net_isUsed_1 args s = runF EE iter c_timing_net_isUsed_1 π args s := E_fn (by decide) (by rfl) (by rfl)
theorem e_timing_net_values_1 {π : Id} {args : List AV} {s : Sto} : EE π n_timing_net_values_1 args s = runF EE iter c_timing_net_values_1 π args s := E_fn (by decide) (by rfl) (by rfl)
theorem e_ratchetref27_CheckLibrary {π : Id} {args : List AV} {s : Sto} : EE π n_ratchetref27_CheckLibrary args s = runF EE iter c_ratchetref27_CheckLibrary π args s := E_fn (by decide) (by rfl) (by rfl)
theorem e_bits_Mul32 {π : Id} {args : List AV} {s : Sto} : EE π n_bits_Mul32 args s = runF EE iter c_bits_Mul32 π args s := E_fn (by decide) (by rfl) (by rfl)
theorem e_bits_Mul64 {π : Id} {args : List AV} {s : Sto} : EE π n_bits_Mul64 args s = runF EE iter c_bits_Mul64 π args s := E_fn (by decide) (by rfl) (by rfl)
theorem e_mapping_each_api_MapCell {π : Id} {args : List AV} {s : Sto} : EE π n_mapping_each_api_MapCell args s = runF EE iter c_mapping_each_api_MapCell π args s := E_fn (by decide) (by rfl) (by rfl)
theorem e_mapping_CheckLibrary_1 {π : Id} {args : List AV} {s : Sto} : EE π n_mapping_CheckLibrary_1 args s = runF EE iter c_mapping_CheckLibrary_1 π args s := E_fn (by decide) (by rfl) (by rfl)
theorem e_mapping_cellErr {π : Id} {args : List AV} {s : Sto} : EE π n_mapping_cellErr args s = runF EE iter c_mapping_cellErr π args s := E_fn (by decide) (by rfl) (by rfl)
theorem e_ratchetbase_IsName {π : Id} {args : List AV} {s : Sto} : EE π n_ratchetbase_IsName args s = runF EE iter c_ratchetbase_IsName π args s := E_fn (by decide) (by rfl) (by rfl)
theorem e_ratchetbase_Power {π : Id} {args : List AV} {s : Sto} : EE π n_ratchetbase_Power args s = runF EE iter c_ratchetbase_Power π args s := E_fn (by decide) (by rfl) (by rfl)
theorem e_mapping_cellErr_1 {π : Id} {args : List AV} {s : Sto} : EE π n_mapping_cellErr_1 args s = runF EE iter c_mapping_cellErr_1 π args s := E_fn (by decide) (by rfl) (by rfl)
theorem e_slices_ContainsFunc_api_MapCell_api_MapCell {π : Id} {args : List AV} {s : Sto} : EE π n_slices_ContainsFunc_api_MapCell_api_MapCell args s = runF EE iter c_slices_ContainsFunc_api_MapCell_api_MapCell π args s := E_fn (by decide) (by rfl) (by rfl)
theorem e_mapping_cellErr_2 {π : Id} {args : List AV} {s : Sto} : EE π n_mapping_cellErr_2 args s = runF EE iter c_mapping_cellErr_2 π args s := E_fn (by decide) (by rfl) (by rfl)
theorem e_mapping_isName {π : Id} {args : List AV} {s : Sto} : EE π n_mapping_isName args s = runF EE iter c_mapping_isName π args s := E_fn (by decide) (by rfl) (by rfl)
theorem e_slices_IndexFunc_api_MapCell_api_MapCell {π : Id} {args : List AV} {s : Sto} : EE π n_slices_IndexFunc_api_MapCell_api_MapCell args s = runF EE iter c_slices_IndexFunc_api_MapCell_api_MapCell π args s := E_fn (by decide) (by rfl) (by rfl)

end Go.Proofs.Ytafomlbikcphgaa.V
