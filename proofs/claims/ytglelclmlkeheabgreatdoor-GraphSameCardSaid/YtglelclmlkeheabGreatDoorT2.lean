/- The table of functions, and that it is right. Printed by a program of this work. -/
import Derived.Test.YtglelclmlkeheabGreatDoorT0
import Derived.Test.YtglelclmlkeheabGreatDoorT1
import Derived.Test.YtglelclmlkeheabGreatDoorProg
import Derived.Test.YtglelclmlkeheabGreatDoorO0

set_option linter.unusedSimpArgs false
set_option linter.unusedVariables false

/- The table of functions, and that it is right. Printed by a program of this work. -/
namespace Go.Proofs.YtglelclmlkeheabGreatDoor.V
open Go Go.Proofs

theorem m_ratchetlaw02_GraphSame : mfn Tryz.prog Tryz.f3 c_ratchetlaw02_GraphSame = true := by kernel_rfl
theorem m_ratchetlaw02_awake : mfn Tryz.prog Tryz.f5 c_ratchetlaw02_awake = true := by kernel_rfl
theorem m_ratchetref02_NodesErr : mfn Tryz.prog Tryz.f6 c_ratchetref02_NodesErr = true := by kernel_rfl
theorem m_ratchetref02_ValuesErr : mfn Tryz.prog Tryz.f7 c_ratchetref02_ValuesErr = true := by kernel_rfl
theorem m_ratchetref02_FromErr : mfn Tryz.prog Tryz.f8 c_ratchetref02_FromErr = true := by kernel_rfl
theorem m_graph_ValuesOf : mfn Tryz.prog Tryz.f9 c_graph_ValuesOf = true := by kernel_rfl
theorem m_ratchetbase_CopyNodes : mfn Tryz.prog Tryz.f10 c_ratchetbase_CopyNodes = true := by kernel_rfl
theorem m_graph_SharedOf : mfn Tryz.prog Tryz.f11 c_graph_SharedOf = true := by kernel_rfl
theorem m_graph_FoldedOf : mfn Tryz.prog Tryz.f12 c_graph_FoldedOf = true := by kernel_rfl
theorem m_graph_ConeOf : mfn Tryz.prog Tryz.f13 c_graph_ConeOf = true := by kernel_rfl
theorem m_ratchetbase_CopyInts : mfn Tryz.prog Tryz.f14 c_ratchetbase_CopyInts = true := by kernel_rfl
theorem m_graph_Appended : mfn Tryz.prog Tryz.f15 c_graph_Appended = true := by kernel_rfl
theorem m_ratchetbase_Ints : mfn Tryz.prog Tryz.f16 c_ratchetbase_Ints = true := by kernel_rfl
theorem m_ratchetbase_Within : mfn Tryz.prog Tryz.f17 c_ratchetbase_Within = true := by kernel_rfl
theorem m_graph_Substituted : mfn Tryz.prog Tryz.f18 c_graph_Substituted = true := by kernel_rfl
theorem m_ratchetbase_SameNodes : mfn Tryz.prog Tryz.f19 c_ratchetbase_SameNodes = true := by kernel_rfl
theorem m_graph_FormatNodes : mfn Tryz.prog Tryz.f21 c_graph_FormatNodes = true := by kernel_rfl
theorem m_ratchetlaw02_Leaves : mfn Tryz.prog Tryz.f25 c_ratchetlaw02_Leaves = true := by kernel_rfl
theorem m_ratchetlaw02_Nodes : mfn Tryz.prog Tryz.f26 c_ratchetlaw02_Nodes = true := by kernel_rfl
theorem m_graph_DepthsOf : mfn Tryz.prog Tryz.f27 c_graph_DepthsOf = true := by kernel_rfl
theorem m_graph_DifferenceOf : mfn Tryz.prog Tryz.f28 c_graph_DifferenceOf = true := by kernel_rfl
theorem m_ratchetref02_CheckNodes : mfn Tryz.prog Tryz.f29 c_ratchetref02_CheckNodes = true := by kernel_rfl
theorem m_ratchetbase_IsValues : mfn Tryz.prog Tryz.f30 c_ratchetbase_IsValues = true := by kernel_rfl
theorem m_ratchetbase_IsNode : mfn Tryz.prog Tryz.f31 c_ratchetbase_IsNode = true := by kernel_rfl
theorem m_graph_first : mfn Tryz.prog Tryz.f32 c_graph_first = true := by kernel_rfl
theorem m_graph_graphErr : mfn Tryz.prog Tryz.f33 c_graph_graphErr = true := by kernel_rfl
theorem m_graph_unless : mfn Tryz.prog Tryz.f34 c_graph_unless = true := by kernel_rfl
theorem m_graph_each_int : mfn Tryz.prog Tryz.f35 c_graph_each_int = true := by kernel_rfl
theorem m_graph_ValuesOf_1 : mfn Tryz.prog Tryz.f36 c_graph_ValuesOf_1 = true := by kernel_rfl
theorem m_graph_fits : mfn Tryz.prog Tryz.f37 c_graph_fits = true := by kernel_rfl
theorem m_graph_valued : mfn Tryz.prog Tryz.f38 c_graph_valued = true := by kernel_rfl
theorem m_graph_moved : mfn Tryz.prog Tryz.f39 c_graph_moved = true := by kernel_rfl
theorem m_graph_mapped : mfn Tryz.prog Tryz.f40 c_graph_mapped = true := by kernel_rfl
theorem m_graph_operations : mfn Tryz.prog Tryz.f41 c_graph_operations = true := by kernel_rfl
theorem m_graph_FoldedOf_1 : mfn Tryz.prog Tryz.f42 c_graph_FoldedOf_1 = true := by kernel_rfl
theorem m_slices_ContainsFunc_int_int : mfn Tryz.prog Tryz.f43 c_slices_ContainsFunc_int_int = true := by kernel_rfl
theorem m_graph_FoldedOf_2 : mfn Tryz.prog Tryz.f44 c_graph_FoldedOf_2 = true := by kernel_rfl
theorem m_graph_constant : mfn Tryz.prog Tryz.f45 c_graph_constant = true := by kernel_rfl
theorem m_graph_applied : mfn Tryz.prog Tryz.f46 c_graph_applied = true := by kernel_rfl
theorem m_graph_namedErr : mfn Tryz.prog Tryz.f47 c_graph_namedErr = true := by kernel_rfl
theorem m_graph_below : mfn Tryz.prog Tryz.f48 c_graph_below = true := by kernel_rfl
theorem m_graph_Appended_1 : mfn Tryz.prog Tryz.f49 c_graph_Appended_1 = true := by kernel_rfl
theorem m_graph_Appended_2 : mfn Tryz.prog Tryz.f50 c_graph_Appended_2 = true := by kernel_rfl
theorem m_graph_within : mfn Tryz.prog Tryz.f51 c_graph_within = true := by kernel_rfl
theorem m_graph_Substituted_1 : mfn Tryz.prog Tryz.f52 c_graph_Substituted_1 = true := by kernel_rfl
theorem m_graph_leavesBelow : mfn Tryz.prog Tryz.f60 c_graph_leavesBelow = true := by kernel_rfl
theorem m_graph_bitsErr : mfn Tryz.prog Tryz.f61 c_graph_bitsErr = true := by kernel_rfl
theorem m_graph_runs : mfn Tryz.prog Tryz.f62 c_graph_runs = true := by kernel_rfl
theorem m_slices_Clone_int_int : mfn Tryz.prog Tryz.f63 c_slices_Clone_int_int = true := by kernel_rfl
theorem m_ratchetbase_IsWidth : mfn Tryz.prog Tryz.f64 c_ratchetbase_IsWidth = true := by kernel_rfl
theorem m_ratchetbase_NodesErr : mfn Tryz.prog Tryz.f65 c_ratchetbase_NodesErr = true := by kernel_rfl
theorem m_ratchetbase_Fits : mfn Tryz.prog Tryz.f66 c_ratchetbase_Fits = true := by kernel_rfl
theorem m_graph_CheckNodes : mfn Tryz.prog Tryz.f67 c_graph_CheckNodes = true := by kernel_rfl
theorem m_graph_mapped_1 : mfn Tryz.prog Tryz.f68 c_graph_mapped_1 = true := by kernel_rfl
theorem m_graph_operations_1 : mfn Tryz.prog Tryz.f69 c_graph_operations_1 = true := by kernel_rfl
theorem m_graph_anyWidth : mfn Tryz.prog Tryz.f70 c_graph_anyWidth = true := by kernel_rfl
theorem m_graph_same : mfn Tryz.prog Tryz.f71 c_graph_same = true := by kernel_rfl
theorem m_graph_operations_2 : mfn Tryz.prog Tryz.f72 c_graph_operations_2 = true := by kernel_rfl
theorem m_graph_mask : mfn Tryz.prog Tryz.f73 c_graph_mask = true := by kernel_rfl
theorem m_graph_binary : mfn Tryz.prog Tryz.f74 c_graph_binary = true := by kernel_rfl
theorem m_graph_operations_3 : mfn Tryz.prog Tryz.f75 c_graph_operations_3 = true := by kernel_rfl
theorem m_graph_operations_4 : mfn Tryz.prog Tryz.f76 c_graph_operations_4 = true := by kernel_rfl
theorem m_graph_operations_5 : mfn Tryz.prog Tryz.f77 c_graph_operations_5 = true := by kernel_rfl
theorem m_graph_operations_6 : mfn Tryz.prog Tryz.f78 c_graph_operations_6 = true := by kernel_rfl
theorem m_graph_operations_7 : mfn Tryz.prog Tryz.f79 c_graph_operations_7 = true := by kernel_rfl
theorem m_graph_operations_8 : mfn Tryz.prog Tryz.f80 c_graph_operations_8 = true := by kernel_rfl
theorem m_graph_relation : mfn Tryz.prog Tryz.f81 c_graph_relation = true := by kernel_rfl
theorem m_graph_operations_9 : mfn Tryz.prog Tryz.f82 c_graph_operations_9 = true := by kernel_rfl
theorem m_graph_operations_10 : mfn Tryz.prog Tryz.f83 c_graph_operations_10 = true := by kernel_rfl
theorem m_graph_operations_11 : mfn Tryz.prog Tryz.f84 c_graph_operations_11 = true := by kernel_rfl
theorem m_graph_signed : mfn Tryz.prog Tryz.f85 c_graph_signed = true := by kernel_rfl
theorem m_graph_operations_12 : mfn Tryz.prog Tryz.f86 c_graph_operations_12 = true := by kernel_rfl
theorem m_graph_operations_13 : mfn Tryz.prog Tryz.f87 c_graph_operations_13 = true := by kernel_rfl
theorem m_graph_operations_14 : mfn Tryz.prog Tryz.f88 c_graph_operations_14 = true := by kernel_rfl
theorem m_graph_operations_15 : mfn Tryz.prog Tryz.f89 c_graph_operations_15 = true := by kernel_rfl
theorem m_graph_operations_16 : mfn Tryz.prog Tryz.f90 c_graph_operations_16 = true := by kernel_rfl
theorem m_graph_operations_17 : mfn Tryz.prog Tryz.f91 c_graph_operations_17 = true := by kernel_rfl
theorem m_graph_extended : mfn Tryz.prog Tryz.f92 c_graph_extended = true := by kernel_rfl
theorem m_graph_operations_18 : mfn Tryz.prog Tryz.f93 c_graph_operations_18 = true := by kernel_rfl
theorem m_graph_operations_19 : mfn Tryz.prog Tryz.f94 c_graph_operations_19 = true := by kernel_rfl
theorem m_graph_shifted : mfn Tryz.prog Tryz.f95 c_graph_shifted = true := by kernel_rfl
theorem m_graph_operations_20 : mfn Tryz.prog Tryz.f96 c_graph_operations_20 = true := by kernel_rfl
theorem m_graph_operations_21 : mfn Tryz.prog Tryz.f97 c_graph_operations_21 = true := by kernel_rfl
theorem m_slices_IndexFunc_int_int : mfn Tryz.prog Tryz.f98 c_slices_IndexFunc_int_int = true := by kernel_rfl
theorem m_graph_namedErr_1 : mfn Tryz.prog Tryz.f99 c_graph_namedErr_1 = true := by kernel_rfl
theorem m_slices_Backward_api_Node_api_Node : mfn Tryz.prog Tryz.f100 c_slices_Backward_api_Node_api_Node = true := by kernel_rfl
theorem m_graph_truth : mfn Tryz.prog Tryz.f110 c_graph_truth = true := by kernel_rfl
theorem m_ratchetbase_ArgCount : mfn Tryz.prog Tryz.f112 c_ratchetbase_ArgCount = true := by kernel_rfl
theorem m_graph_runs_1 : mfn Tryz.prog Tryz.f118 c_graph_runs_1 = true := by kernel_rfl
theorem m_ratchetbase_nodeErr : mfn Tryz.prog Tryz.f119 c_ratchetbase_nodeErr = true := by kernel_rfl
theorem m_ratchetbase_Power : mfn Tryz.prog Tryz.f120 c_ratchetbase_Power = true := by kernel_rfl
theorem m_graph_CheckNodes_1 : mfn Tryz.prog Tryz.f121 c_graph_CheckNodes_1 = true := by kernel_rfl
theorem m_graph_isWidth : mfn Tryz.prog Tryz.f122 c_graph_isWidth = true := by kernel_rfl
theorem m_graph_each_api_Node : mfn Tryz.prog Tryz.f123 c_graph_each_api_Node = true := by kernel_rfl
theorem m_graph_CheckNodes_2 : mfn Tryz.prog Tryz.f124 c_graph_CheckNodes_2 = true := by kernel_rfl
theorem m_graph_CheckNodes_2_1 : mfn Tryz.prog Tryz.f125 c_graph_CheckNodes_2_1 = true := by kernel_rfl
theorem m_graph_valueErr : mfn Tryz.prog Tryz.f126 c_graph_valueErr = true := by kernel_rfl
theorem m_graph_same_1 : mfn Tryz.prog Tryz.f127 c_graph_same_1 = true := by kernel_rfl
theorem m_graph_binary_1 : mfn Tryz.prog Tryz.f128 c_graph_binary_1 = true := by kernel_rfl
theorem m_graph_compared : mfn Tryz.prog Tryz.f129 c_graph_compared = true := by kernel_rfl
theorem m_graph_relation_1 : mfn Tryz.prog Tryz.f130 c_graph_relation_1 = true := by kernel_rfl
theorem m_slices_Backward_api_Node_api_Node_1 : mfn Tryz.prog Tryz.f131 c_slices_Backward_api_Node_api_Node_1 = true := by kernel_rfl
theorem m_ratchetbase_widthsFit : mfn Tryz.prog Tryz.f143 c_ratchetbase_widthsFit = true := by kernel_rfl

def T : Tab := fun f => match f with
  | 3 => some c_ratchetlaw02_GraphSame
  | 5 => some c_ratchetlaw02_awake
  | 6 => some c_ratchetref02_NodesErr
  | 7 => some c_ratchetref02_ValuesErr
  | 8 => some c_ratchetref02_FromErr
  | 9 => some c_graph_ValuesOf
  | 10 => some c_ratchetbase_CopyNodes
  | 11 => some c_graph_SharedOf
  | 12 => some c_graph_FoldedOf
  | 13 => some c_graph_ConeOf
  | 14 => some c_ratchetbase_CopyInts
  | 15 => some c_graph_Appended
  | 16 => some c_ratchetbase_Ints
  | 17 => some c_ratchetbase_Within
  | 18 => some c_graph_Substituted
  | 19 => some c_ratchetbase_SameNodes
  | 21 => some c_graph_FormatNodes
  | 25 => some c_ratchetlaw02_Leaves
  | 26 => some c_ratchetlaw02_Nodes
  | 27 => some c_graph_DepthsOf
  | 28 => some c_graph_DifferenceOf
  | 29 => some c_ratchetref02_CheckNodes
  | 30 => some c_ratchetbase_IsValues
  | 31 => some c_ratchetbase_IsNode
  | 32 => some c_graph_first
  | 33 => some c_graph_graphErr
  | 34 => some c_graph_unless
  | 35 => some c_graph_each_int
  | 36 => some c_graph_ValuesOf_1
  | 37 => some c_graph_fits
  | 38 => some c_graph_valued
  | 39 => some c_graph_moved
  | 40 => some c_graph_mapped
  | 41 => some c_graph_operations
  | 42 => some c_graph_FoldedOf_1
  | 43 => some c_slices_ContainsFunc_int_int
  | 44 => some c_graph_FoldedOf_2
  | 45 => some c_graph_constant
  | 46 => some c_graph_applied
  | 47 => some c_graph_namedErr
  | 48 => some c_graph_below
  | 49 => some c_graph_Appended_1
  | 50 => some c_graph_Appended_2
  | 51 => some c_graph_within
  | 52 => some c_graph_Substituted_1
  | 60 => some c_graph_leavesBelow
  | 61 => some c_graph_bitsErr
  | 62 => some c_graph_runs
  | 63 => some c_slices_Clone_int_int
  | 64 => some c_ratchetbase_IsWidth
  | 65 => some c_ratchetbase_NodesErr
  | 66 => some c_ratchetbase_Fits
  | 67 => some c_graph_CheckNodes
  | 68 => some c_graph_mapped_1
  | 69 => some c_graph_operations_1
  | 70 => some c_graph_anyWidth
  | 71 => some c_graph_same
  | 72 => some c_graph_operations_2
  | 73 => some c_graph_mask
  | 74 => some c_graph_binary
  | 75 => some c_graph_operations_3
  | 76 => some c_graph_operations_4
  | 77 => some c_graph_operations_5
  | 78 => some c_graph_operations_6
  | 79 => some c_graph_operations_7
  | 80 => some c_graph_operations_8
  | 81 => some c_graph_relation
  | 82 => some c_graph_operations_9
  | 83 => some c_graph_operations_10
  | 84 => some c_graph_operations_11
  | 85 => some c_graph_signed
  | 86 => some c_graph_operations_12
  | 87 => some c_graph_operations_13
  | 88 => some c_graph_operations_14
  | 89 => some c_graph_operations_15
  | 90 => some c_graph_operations_16
  | 91 => some c_graph_operations_17
  | 92 => some c_graph_extended
  | 93 => some c_graph_operations_18
  | 94 => some c_graph_operations_19
  | 95 => some c_graph_shifted
  | 96 => some c_graph_operations_20
  | 97 => some c_graph_operations_21
  | 98 => some c_slices_IndexFunc_int_int
  | 99 => some c_graph_namedErr_1
  | 100 => some c_slices_Backward_api_Node_api_Node
  | 110 => some c_graph_truth
  | 112 => some c_ratchetbase_ArgCount
  | 118 => some c_graph_runs_1
  | 119 => some c_ratchetbase_nodeErr
  | 120 => some c_ratchetbase_Power
  | 121 => some c_graph_CheckNodes_1
  | 122 => some c_graph_isWidth
  | 123 => some c_graph_each_api_Node
  | 124 => some c_graph_CheckNodes_2
  | 125 => some c_graph_CheckNodes_2_1
  | 126 => some c_graph_valueErr
  | 127 => some c_graph_same_1
  | 128 => some c_graph_binary_1
  | 129 => some c_graph_compared
  | 130 => some c_graph_relation_1
  | 131 => some c_slices_Backward_api_Node_api_Node_1
  | 143 => some c_ratchetbase_widthsFit
  | _ => none

theorem tabOk : TabOk Tryz.prog T := fun f F h => by
  unfold T at h
  split at h
  · cases h; exact ⟨_, Tryz.func3, m_ratchetlaw02_GraphSame⟩
  · cases h; exact ⟨_, Tryz.func5, m_ratchetlaw02_awake⟩
  · cases h; exact ⟨_, Tryz.func6, m_ratchetref02_NodesErr⟩
  · cases h; exact ⟨_, Tryz.func7, m_ratchetref02_ValuesErr⟩
  · cases h; exact ⟨_, Tryz.func8, m_ratchetref02_FromErr⟩
  · cases h; exact ⟨_, Tryz.func9, m_graph_ValuesOf⟩
  · cases h; exact ⟨_, Tryz.func10, m_ratchetbase_CopyNodes⟩
  · cases h; exact ⟨_, Tryz.func11, m_graph_SharedOf⟩
  · cases h; exact ⟨_, Tryz.func12, m_graph_FoldedOf⟩
  · cases h; exact ⟨_, Tryz.func13, m_graph_ConeOf⟩
  · cases h; exact ⟨_, Tryz.func14, m_ratchetbase_CopyInts⟩
  · cases h; exact ⟨_, Tryz.func15, m_graph_Appended⟩
  · cases h; exact ⟨_, Tryz.func16, m_ratchetbase_Ints⟩
  · cases h; exact ⟨_, Tryz.func17, m_ratchetbase_Within⟩
  · cases h; exact ⟨_, Tryz.func18, m_graph_Substituted⟩
  · cases h; exact ⟨_, Tryz.func19, m_ratchetbase_SameNodes⟩
  · cases h; exact ⟨_, Tryz.func21, m_graph_FormatNodes⟩
  · cases h; exact ⟨_, Tryz.func25, m_ratchetlaw02_Leaves⟩
  · cases h; exact ⟨_, Tryz.func26, m_ratchetlaw02_Nodes⟩
  · cases h; exact ⟨_, Tryz.func27, m_graph_DepthsOf⟩
  · cases h; exact ⟨_, Tryz.func28, m_graph_DifferenceOf⟩
  · cases h; exact ⟨_, Tryz.func29, m_ratchetref02_CheckNodes⟩
  · cases h; exact ⟨_, Tryz.func30, m_ratchetbase_IsValues⟩
  · cases h; exact ⟨_, Tryz.func31, m_ratchetbase_IsNode⟩
  · cases h; exact ⟨_, Tryz.func32, m_graph_first⟩
  · cases h; exact ⟨_, Tryz.func33, m_graph_graphErr⟩
  · cases h; exact ⟨_, Tryz.func34, m_graph_unless⟩
  · cases h; exact ⟨_, Tryz.func35, m_graph_each_int⟩
  · cases h; exact ⟨_, Tryz.func36, m_graph_ValuesOf_1⟩
  · cases h; exact ⟨_, Tryz.func37, m_graph_fits⟩
  · cases h; exact ⟨_, Tryz.func38, m_graph_valued⟩
  · cases h; exact ⟨_, Tryz.func39, m_graph_moved⟩
  · cases h; exact ⟨_, Tryz.func40, m_graph_mapped⟩
  · cases h; exact ⟨_, Tryz.func41, m_graph_operations⟩
  · cases h; exact ⟨_, Tryz.func42, m_graph_FoldedOf_1⟩
  · cases h; exact ⟨_, Tryz.func43, m_slices_ContainsFunc_int_int⟩
  · cases h; exact ⟨_, Tryz.func44, m_graph_FoldedOf_2⟩
  · cases h; exact ⟨_, Tryz.func45, m_graph_constant⟩
  · cases h; exact ⟨_, Tryz.func46, m_graph_applied⟩
  · cases h; exact ⟨_, Tryz.func47, m_graph_namedErr⟩
  · cases h; exact ⟨_, Tryz.func48, m_graph_below⟩
  · cases h; exact ⟨_, Tryz.func49, m_graph_Appended_1⟩
  · cases h; exact ⟨_, Tryz.func50, m_graph_Appended_2⟩
  · cases h; exact ⟨_, Tryz.func51, m_graph_within⟩
  · cases h; exact ⟨_, Tryz.func52, m_graph_Substituted_1⟩
  · cases h; exact ⟨_, Tryz.func60, m_graph_leavesBelow⟩
  · cases h; exact ⟨_, Tryz.func61, m_graph_bitsErr⟩
  · cases h; exact ⟨_, Tryz.func62, m_graph_runs⟩
  · cases h; exact ⟨_, Tryz.func63, m_slices_Clone_int_int⟩
  · cases h; exact ⟨_, Tryz.func64, m_ratchetbase_IsWidth⟩
  · cases h; exact ⟨_, Tryz.func65, m_ratchetbase_NodesErr⟩
  · cases h; exact ⟨_, Tryz.func66, m_ratchetbase_Fits⟩
  · cases h; exact ⟨_, Tryz.func67, m_graph_CheckNodes⟩
  · cases h; exact ⟨_, Tryz.func68, m_graph_mapped_1⟩
  · cases h; exact ⟨_, Tryz.func69, m_graph_operations_1⟩
  · cases h; exact ⟨_, Tryz.func70, m_graph_anyWidth⟩
  · cases h; exact ⟨_, Tryz.func71, m_graph_same⟩
  · cases h; exact ⟨_, Tryz.func72, m_graph_operations_2⟩
  · cases h; exact ⟨_, Tryz.func73, m_graph_mask⟩
  · cases h; exact ⟨_, Tryz.func74, m_graph_binary⟩
  · cases h; exact ⟨_, Tryz.func75, m_graph_operations_3⟩
  · cases h; exact ⟨_, Tryz.func76, m_graph_operations_4⟩
  · cases h; exact ⟨_, Tryz.func77, m_graph_operations_5⟩
  · cases h; exact ⟨_, Tryz.func78, m_graph_operations_6⟩
  · cases h; exact ⟨_, Tryz.func79, m_graph_operations_7⟩
  · cases h; exact ⟨_, Tryz.func80, m_graph_operations_8⟩
  · cases h; exact ⟨_, Tryz.func81, m_graph_relation⟩
  · cases h; exact ⟨_, Tryz.func82, m_graph_operations_9⟩
  · cases h; exact ⟨_, Tryz.func83, m_graph_operations_10⟩
  · cases h; exact ⟨_, Tryz.func84, m_graph_operations_11⟩
  · cases h; exact ⟨_, Tryz.func85, m_graph_signed⟩
  · cases h; exact ⟨_, Tryz.func86, m_graph_operations_12⟩
  · cases h; exact ⟨_, Tryz.func87, m_graph_operations_13⟩
  · cases h; exact ⟨_, Tryz.func88, m_graph_operations_14⟩
  · cases h; exact ⟨_, Tryz.func89, m_graph_operations_15⟩
  · cases h; exact ⟨_, Tryz.func90, m_graph_operations_16⟩
  · cases h; exact ⟨_, Tryz.func91, m_graph_operations_17⟩
  · cases h; exact ⟨_, Tryz.func92, m_graph_extended⟩
  · cases h; exact ⟨_, Tryz.func93, m_graph_operations_18⟩
  · cases h; exact ⟨_, Tryz.func94, m_graph_operations_19⟩
  · cases h; exact ⟨_, Tryz.func95, m_graph_shifted⟩
  · cases h; exact ⟨_, Tryz.func96, m_graph_operations_20⟩
  · cases h; exact ⟨_, Tryz.func97, m_graph_operations_21⟩
  · cases h; exact ⟨_, Tryz.func98, m_slices_IndexFunc_int_int⟩
  · cases h; exact ⟨_, Tryz.func99, m_graph_namedErr_1⟩
  · cases h; exact ⟨_, Tryz.func100, m_slices_Backward_api_Node_api_Node⟩
  · cases h; exact ⟨_, Tryz.func110, m_graph_truth⟩
  · cases h; exact ⟨_, Tryz.func112, m_ratchetbase_ArgCount⟩
  · cases h; exact ⟨_, Tryz.func118, m_graph_runs_1⟩
  · cases h; exact ⟨_, Tryz.func119, m_ratchetbase_nodeErr⟩
  · cases h; exact ⟨_, Tryz.func120, m_ratchetbase_Power⟩
  · cases h; exact ⟨_, Tryz.func121, m_graph_CheckNodes_1⟩
  · cases h; exact ⟨_, Tryz.func122, m_graph_isWidth⟩
  · cases h; exact ⟨_, Tryz.func123, m_graph_each_api_Node⟩
  · cases h; exact ⟨_, Tryz.func124, m_graph_CheckNodes_2⟩
  · cases h; exact ⟨_, Tryz.func125, m_graph_CheckNodes_2_1⟩
  · cases h; exact ⟨_, Tryz.func126, m_graph_valueErr⟩
  · cases h; exact ⟨_, Tryz.func127, m_graph_same_1⟩
  · cases h; exact ⟨_, Tryz.func128, m_graph_binary_1⟩
  · cases h; exact ⟨_, Tryz.func129, m_graph_compared⟩
  · cases h; exact ⟨_, Tryz.func130, m_graph_relation_1⟩
  · cases h; exact ⟨_, Tryz.func131, m_slices_Backward_api_Node_api_Node_1⟩
  · cases h; exact ⟨_, Tryz.func143, m_ratchetbase_widthsFit⟩
  · cases h

theorem z_slices_Clone_int_int {π : Id} {args : List AV} {s : Sto} : E T noO π n_slices_Clone_int_int args s = runF (E T noO) iter c_slices_Clone_int_int π args s := E_fn (by decide) (by rfl) (by rfl)
theorem q_slices_Clone_int_int : OrcFor Tryz.prog n_slices_Clone_int_int (cloneO t_int 1) := clone_ok (C := E T noO) (E_ok tabOk (noO_ok _)) (by decide)
  (fun π l hl => ⟨5 :: π, by rw [z_slices_Clone_int_int]; simp [run_eq, c_slices_Clone_int_int, hl]⟩)
  (fun π => by rw [z_slices_Clone_int_int]; simp [run_eq, c_slices_Clone_int_int])
def orc : Orc := fun f => match f with
  | 63 => some (cloneO t_int 1)
  | 53 => some itoaO
  | 54 => some joinO
  | 116 => some sortO
  | 117 => some compactO
  | _ => none

theorem orcOk : OrcOk Tryz.prog orc := fun f g h => by
  unfold orc at h
  split at h
  · cases h; exact q_slices_Clone_int_int
  · cases h; exact q_strconv_Itoa
  · cases h; exact q_strings_Join
  · cases h; exact q_slices_Sort_int_int
  · cases h; exact q_slices_Compact_int_int
  · cases h

noncomputable def EE : Call := E T orc

theorem o_strconv_Itoa {π : Id} {args : List AV} {s : Sto} : EE π n_strconv_Itoa args s = itoaO π args s := E_orc (by decide) (by rfl)
theorem o_strings_Join {π : Id} {args : List AV} {s : Sto} : EE π n_strings_Join args s = joinO π args s := E_orc (by decide) (by rfl)
theorem o_slices_Sort_int_int {π : Id} {args : List AV} {s : Sto} : EE π n_slices_Sort_int_int args s = sortO π args s := E_orc (by decide) (by rfl)
theorem o_slices_Compact_int_int {π : Id} {args : List AV} {s : Sto} : EE π n_slices_Compact_int_int args s = compactO π args s := E_orc (by decide) (by rfl)
theorem o_slices_Clone_int_int {π : Id} {args : List AV} {s : Sto} : EE π n_slices_Clone_int_int args s = cloneO t_int 1 π args s := E_orc (by decide) (by rfl)
theorem e_ratchetlaw02_GraphSame {π : Id} {args : List AV} {s : Sto} : EE π n_ratchetlaw02_GraphSame args s = runF EE iter c_ratchetlaw02_GraphSame π args s := E_fn (by decide) (by rfl) (by rfl)
theorem e_ratchetlaw02_awake {π : Id} {args : List AV} {s : Sto} : EE π n_ratchetlaw02_awake args s = runF EE iter c_ratchetlaw02_awake π args s := E_fn (by decide) (by rfl) (by rfl)
theorem e_ratchetref02_NodesErr {π : Id} {args : List AV} {s : Sto} : EE π n_ratchetref02_NodesErr args s = runF EE iter c_ratchetref02_NodesErr π args s := E_fn (by decide) (by rfl) (by rfl)
theorem e_ratchetref02_ValuesErr {π : Id} {args : List AV} {s : Sto} : EE π n_ratchetref02_ValuesErr args s = runF EE iter c_ratchetref02_ValuesErr π args s := E_fn (by decide) (by rfl) (by rfl)
theorem e_ratchetref02_FromErr {π : Id} {args : List AV} {s : Sto} : EE π n_ratchetref02_FromErr args s = runF EE iter c_ratchetref02_FromErr π args s := E_fn (by decide) (by rfl) (by rfl)
theorem e_graph_ValuesOf {π : Id} {args : List AV} {s : Sto} : EE π n_graph_ValuesOf args s = runF EE iter c_graph_ValuesOf π args s := E_fn (by decide) (by rfl) (by rfl)
theorem e_ratchetbase_CopyNodes {π : Id} {args : List AV} {s : Sto} : EE π n_ratchetbase_CopyNodes args s = runF EE iter c_ratchetbase_CopyNodes π args s := E_fn (by decide) (by rfl) (by rfl)
theorem e_graph_SharedOf {π : Id} {args : List AV} {s : Sto} : EE π n_graph_SharedOf args s = runF EE iter c_graph_SharedOf π args s := E_fn (by decide) (by rfl) (by rfl)
theorem e_graph_FoldedOf {π : Id} {args : List AV} {s : Sto} : EE π n_graph_FoldedOf args s = runF EE iter c_graph_FoldedOf π args s := E_fn (by decide) (by rfl) (by rfl)
theorem e_graph_ConeOf {π : Id} {args : List AV} {s : Sto} : EE π n_graph_ConeOf args s = runF EE iter c_graph_ConeOf π args s := E_fn (by decide) (by rfl) (by rfl)
theorem e_ratchetbase_CopyInts {π : Id} {args : List AV} {s : Sto} : EE π n_ratchetbase_CopyInts args s = runF EE iter c_ratchetbase_CopyInts π args s := E_fn (by decide) (by rfl) (by rfl)
theorem e_graph_Appended {π : Id} {args : List AV} {s : Sto} : EE π n_graph_Appended args s = runF EE iter c_graph_Appended π args s := E_fn (by decide) (by rfl) (by rfl)
theorem e_ratchetbase_Ints {π : Id} {args : List AV} {s : Sto} : EE π n_ratchetbase_Ints args s = runF EE iter c_ratchetbase_Ints π args s := E_fn (by decide) (by rfl) (by rfl)
theorem e_ratchetbase_Within {π : Id} {args : List AV} {s : Sto} : EE π n_ratchetbase_Within args s = runF EE iter c_ratchetbase_Within π args s := E_fn (by decide) (by rfl) (by rfl)
theorem e_graph_Substituted {π : Id} {args : List AV} {s : Sto} : EE π n_graph_Substituted args s = runF EE iter c_graph_Substituted π args s := E_fn (by decide) (by rfl) (by rfl)
theorem e_ratchetbase_SameNodes {π : Id} {args : List AV} {s : Sto} : EE π n_ratchetbase_SameNodes args s = runF EE iter c_ratchetbase_SameNodes π args s := E_fn (by decide) (by rfl) (by rfl)
theorem e_graph_FormatNodes {π : Id} {args : List AV} {s : Sto} : EE π n_graph_FormatNodes args s = runF EE iter c_graph_FormatNodes π args s := E_fn (by decide) (by rfl) (by rfl)
theorem e_ratchetlaw02_Leaves {π : Id} {args : List AV} {s : Sto} : EE π n_ratchetlaw02_Leaves args s = runF EE iter c_ratchetlaw02_Leaves π args s := E_fn (by decide) (by rfl) (by rfl)
theorem e_ratchetlaw02_Nodes {π : Id} {args : List AV} {s : Sto} : EE π n_ratchetlaw02_Nodes args s = runF EE iter c_ratchetlaw02_Nodes π args s := E_fn (by decide) (by rfl) (by rfl)
theorem e_graph_DepthsOf {π : Id} {args : List AV} {s : Sto} : EE π n_graph_DepthsOf args s = runF EE iter c_graph_DepthsOf π args s := E_fn (by decide) (by rfl) (by rfl)
theorem e_graph_DifferenceOf {π : Id} {args : List AV} {s : Sto} : EE π n_graph_DifferenceOf args s = runF EE iter c_graph_DifferenceOf π args s := E_fn (by decide) (by rfl) (by rfl)
theorem e_ratchetref02_CheckNodes {π : Id} {args : List AV} {s : Sto} : EE π n_ratchetref02_CheckNodes args s = runF EE iter c_ratchetref02_CheckNodes π args s := E_fn (by decide) (by rfl) (by rfl)
theorem e_ratchetbase_IsValues {π : Id} {args : List AV} {s : Sto} : EE π n_ratchetbase_IsValues args s = runF EE iter c_ratchetbase_IsValues π args s := E_fn (by decide) (by rfl) (by rfl)
theorem e_ratchetbase_IsNode {π : Id} {args : List AV} {s : Sto} : EE π n_ratchetbase_IsNode args s = runF EE iter c_ratchetbase_IsNode π args s := E_fn (by decide) (by rfl) (by rfl)
theorem e_graph_first {π : Id} {args : List AV} {s : Sto} : EE π n_graph_first args s = runF EE iter c_graph_first π args s := E_fn (by decide) (by rfl) (by rfl)
theorem e_graph_graphErr {π : Id} {args : List AV} {s : Sto} : EE π n_graph_graphErr args s = runF EE iter c_graph_graphErr π args s := E_fn (by decide) (by rfl) (by rfl)
theorem e_graph_unless {π : Id} {args : List AV} {s : Sto} : EE π n_graph_unless args s = runF EE iter c_graph_unless π args s := E_fn (by decide) (by rfl) (by rfl)
theorem e_graph_each_int {π : Id} {args : List AV} {s : Sto} : EE π n_graph_each_int args s = runF EE iter c_graph_each_int π args s := E_fn (by decide) (by rfl) (by rfl)
theorem e_graph_ValuesOf_1 {π : Id} {args : List AV} {s : Sto} : EE π n_graph_ValuesOf_1 args s = runF EE iter c_graph_ValuesOf_1 π args s := E_fn (by decide) (by rfl) (by rfl)
theorem e_graph_fits {π : Id} {args : List AV} {s : Sto} : EE π n_graph_fits args s = runF EE iter c_graph_fits π args s := E_fn (by decide) (by rfl) (by rfl)
theorem e_graph_valued {π : Id} {args : List AV} {s : Sto} : EE π n_graph_valued args s = runF EE iter c_graph_valued π args s := E_fn (by decide) (by rfl) (by rfl)
theorem e_graph_moved {π : Id} {args : List AV} {s : Sto} : EE π n_graph_moved args s = runF EE iter c_graph_moved π args s := E_fn (by decide) (by rfl) (by rfl)
theorem e_graph_mapped {π : Id} {args : List AV} {s : Sto} : EE π n_graph_mapped args s = runF EE iter c_graph_mapped π args s := E_fn (by decide) (by rfl) (by rfl)
theorem e_graph_operations {π : Id} {args : List AV} {s : Sto} : EE π n_graph_operations args s = runF EE iter c_graph_operations π args s := E_fn (by decide) (by rfl) (by rfl)
theorem e_graph_FoldedOf_1 {π : Id} {args : List AV} {s : Sto} : EE π n_graph_FoldedOf_1 args s = runF EE iter c_graph_FoldedOf_1 π args s := E_fn (by decide) (by rfl) (by rfl)
theorem e_slices_ContainsFunc_int_int {π : Id} {args : List AV} {s : Sto} : EE π n_slices_ContainsFunc_int_int args s = runF EE iter c_slices_ContainsFunc_int_int π args s := E_fn (by decide) (by rfl) (by rfl)
theorem e_graph_FoldedOf_2 {π : Id} {args : List AV} {s : Sto} : EE π n_graph_FoldedOf_2 args s = runF EE iter c_graph_FoldedOf_2 π args s := E_fn (by decide) (by rfl) (by rfl)
theorem e_graph_constant {π : Id} {args : List AV} {s : Sto} : EE π n_graph_constant args s = runF EE iter c_graph_constant π args s := E_fn (by decide) (by rfl) (by rfl)
theorem e_graph_applied {π : Id} {args : List AV} {s : Sto} : EE π n_graph_applied args s = runF EE iter c_graph_applied π args s := E_fn (by decide) (by rfl) (by rfl)
theorem e_graph_namedErr {π : Id} {args : List AV} {s : Sto} : EE π n_graph_namedErr args s = runF EE iter c_graph_namedErr π args s := E_fn (by decide) (by rfl) (by rfl)
theorem e_graph_below {π : Id} {args : List AV} {s : Sto} : EE π n_graph_below args s = runF EE iter c_graph_below π args s := E_fn (by decide) (by rfl) (by rfl)
theorem e_graph_Appended_1 {π : Id} {args : List AV} {s : Sto} : EE π n_graph_Appended_1 args s = runF EE iter c_graph_Appended_1 π args s := E_fn (by decide) (by rfl) (by rfl)
theorem e_graph_Appended_2 {π : Id} {args : List AV} {s : Sto} : EE π n_graph_Appended_2 args s = runF EE iter c_graph_Appended_2 π args s := E_fn (by decide) (by rfl) (by rfl)
theorem e_graph_within {π : Id} {args : List AV} {s : Sto} : EE π n_graph_within args s = runF EE iter c_graph_within π args s := E_fn (by decide) (by rfl) (by rfl)
theorem e_graph_Substituted_1 {π : Id} {args : List AV} {s : Sto} : EE π n_graph_Substituted_1 args s = runF EE iter c_graph_Substituted_1 π args s := E_fn (by decide) (by rfl) (by rfl)
theorem e_graph_leavesBelow {π : Id} {args : List AV} {s : Sto} : EE π n_graph_leavesBelow args s = runF EE iter c_graph_leavesBelow π args s := E_fn (by decide) (by rfl) (by rfl)
theorem e_graph_bitsErr {π : Id} {args : List AV} {s : Sto} : EE π n_graph_bitsErr args s = runF EE iter c_graph_bitsErr π args s := E_fn (by decide) (by rfl) (by rfl)
theorem e_graph_runs {π : Id} {args : List AV} {s : Sto} : EE π n_graph_runs args s = runF EE iter c_graph_runs π args s := E_fn (by decide) (by rfl) (by rfl)
theorem e_ratchetbase_IsWidth {π : Id} {args : List AV} {s : Sto} : EE π n_ratchetbase_IsWidth args s = runF EE iter c_ratchetbase_IsWidth π args s := E_fn (by decide) (by rfl) (by rfl)
theorem e_ratchetbase_NodesErr {π : Id} {args : List AV} {s : Sto} : EE π n_ratchetbase_NodesErr args s = runF EE iter c_ratchetbase_NodesErr π args s := E_fn (by decide) (by rfl) (by rfl)
theorem e_ratchetbase_Fits {π : Id} {args : List AV} {s : Sto} : EE π n_ratchetbase_Fits args s = runF EE iter c_ratchetbase_Fits π args s := E_fn (by decide) (by rfl) (by rfl)
theorem e_graph_CheckNodes {π : Id} {args : List AV} {s : Sto} : EE π n_graph_CheckNodes args s = runF EE iter c_graph_CheckNodes π args s := E_fn (by decide) (by rfl) (by rfl)
theorem e_graph_mapped_1 {π : Id} {args : List AV} {s : Sto} : EE π n_graph_mapped_1 args s = runF EE iter c_graph_mapped_1 π args s := E_fn (by decide) (by rfl) (by rfl)
theorem e_graph_operations_1 {π : Id} {args : List AV} {s : Sto} : EE π n_graph_operations_1 args s = runF EE iter c_graph_operations_1 π args s := E_fn (by decide) (by rfl) (by rfl)
theorem e_graph_anyWidth {π : Id} {args : List AV} {s : Sto} : EE π n_graph_anyWidth args s = runF EE iter c_graph_anyWidth π args s := E_fn (by decide) (by rfl) (by rfl)
theorem e_graph_same {π : Id} {args : List AV} {s : Sto} : EE π n_graph_same args s = runF EE iter c_graph_same π args s := E_fn (by decide) (by rfl) (by rfl)
theorem e_graph_operations_2 {π : Id} {args : List AV} {s : Sto} : EE π n_graph_operations_2 args s = runF EE iter c_graph_operations_2 π args s := E_fn (by decide) (by rfl) (by rfl)
theorem e_graph_mask {π : Id} {args : List AV} {s : Sto} : EE π n_graph_mask args s = runF EE iter c_graph_mask π args s := E_fn (by decide) (by rfl) (by rfl)
theorem e_graph_binary {π : Id} {args : List AV} {s : Sto} : EE π n_graph_binary args s = runF EE iter c_graph_binary π args s := E_fn (by decide) (by rfl) (by rfl)
theorem e_graph_operations_3 {π : Id} {args : List AV} {s : Sto} : EE π n_graph_operations_3 args s = runF EE iter c_graph_operations_3 π args s := E_fn (by decide) (by rfl) (by rfl)
theorem e_graph_operations_4 {π : Id} {args : List AV} {s : Sto} : EE π n_graph_operations_4 args s = runF EE iter c_graph_operations_4 π args s := E_fn (by decide) (by rfl) (by rfl)
theorem e_graph_operations_5 {π : Id} {args : List AV} {s : Sto} : EE π n_graph_operations_5 args s = runF EE iter c_graph_operations_5 π args s := E_fn (by decide) (by rfl) (by rfl)
theorem e_graph_operations_6 {π : Id} {args : List AV} {s : Sto} : EE π n_graph_operations_6 args s = runF EE iter c_graph_operations_6 π args s := E_fn (by decide) (by rfl) (by rfl)
theorem e_graph_operations_7 {π : Id} {args : List AV} {s : Sto} : EE π n_graph_operations_7 args s = runF EE iter c_graph_operations_7 π args s := E_fn (by decide) (by rfl) (by rfl)
theorem e_graph_operations_8 {π : Id} {args : List AV} {s : Sto} : EE π n_graph_operations_8 args s = runF EE iter c_graph_operations_8 π args s := E_fn (by decide) (by rfl) (by rfl)
theorem e_graph_relation {π : Id} {args : List AV} {s : Sto} : EE π n_graph_relation args s = runF EE iter c_graph_relation π args s := E_fn (by decide) (by rfl) (by rfl)
theorem e_graph_operations_9 {π : Id} {args : List AV} {s : Sto} : EE π n_graph_operations_9 args s = runF EE iter c_graph_operations_9 π args s := E_fn (by decide) (by rfl) (by rfl)
theorem e_graph_operations_10 {π : Id} {args : List AV} {s : Sto} : EE π n_graph_operations_10 args s = runF EE iter c_graph_operations_10 π args s := E_fn (by decide) (by rfl) (by rfl)
theorem e_graph_operations_11 {π : Id} {args : List AV} {s : Sto} : EE π n_graph_operations_11 args s = runF EE iter c_graph_operations_11 π args s := E_fn (by decide) (by rfl) (by rfl)
theorem e_graph_signed {π : Id} {args : List AV} {s : Sto} : EE π n_graph_signed args s = runF EE iter c_graph_signed π args s := E_fn (by decide) (by rfl) (by rfl)
theorem e_graph_operations_12 {π : Id} {args : List AV} {s : Sto} : EE π n_graph_operations_12 args s = runF EE iter c_graph_operations_12 π args s := E_fn (by decide) (by rfl) (by rfl)
theorem e_graph_operations_13 {π : Id} {args : List AV} {s : Sto} : EE π n_graph_operations_13 args s = runF EE iter c_graph_operations_13 π args s := E_fn (by decide) (by rfl) (by rfl)
theorem e_graph_operations_14 {π : Id} {args : List AV} {s : Sto} : EE π n_graph_operations_14 args s = runF EE iter c_graph_operations_14 π args s := E_fn (by decide) (by rfl) (by rfl)
theorem e_graph_operations_15 {π : Id} {args : List AV} {s : Sto} : EE π n_graph_operations_15 args s = runF EE iter c_graph_operations_15 π args s := E_fn (by decide) (by rfl) (by rfl)
theorem e_graph_operations_16 {π : Id} {args : List AV} {s : Sto} : EE π n_graph_operations_16 args s = runF EE iter c_graph_operations_16 π args s := E_fn (by decide) (by rfl) (by rfl)
theorem e_graph_operations_17 {π : Id} {args : List AV} {s : Sto} : EE π n_graph_operations_17 args s = runF EE iter c_graph_operations_17 π args s := E_fn (by decide) (by rfl) (by rfl)
theorem e_graph_extended {π : Id} {args : List AV} {s : Sto} : EE π n_graph_extended args s = runF EE iter c_graph_extended π args s := E_fn (by decide) (by rfl) (by rfl)
theorem e_graph_operations_18 {π : Id} {args : List AV} {s : Sto} : EE π n_graph_operations_18 args s = runF EE iter c_graph_operations_18 π args s := E_fn (by decide) (by rfl) (by rfl)
theorem e_graph_operations_19 {π : Id} {args : List AV} {s : Sto} : EE π n_graph_operations_19 args s = runF EE iter c_graph_operations_19 π args s := E_fn (by decide) (by rfl) (by rfl)
theorem e_graph_shifted {π : Id} {args : List AV} {s : Sto} : EE π n_graph_shifted args s = runF EE iter c_graph_shifted π args s := E_fn (by decide) (by rfl) (by rfl)
theorem e_graph_operations_20 {π : Id} {args : List AV} {s : Sto} : EE π n_graph_operations_20 args s = runF EE iter c_graph_operations_20 π args s := E_fn (by decide) (by rfl) (by rfl)
theorem e_graph_operations_21 {π : Id} {args : List AV} {s : Sto} : EE π n_graph_operations_21 args s = runF EE iter c_graph_operations_21 π args s := E_fn (by decide) (by rfl) (by rfl)
theorem e_slices_IndexFunc_int_int {π : Id} {args : List AV} {s : Sto} : EE π n_slices_IndexFunc_int_int args s = runF EE iter c_slices_IndexFunc_int_int π args s := E_fn (by decide) (by rfl) (by rfl)
theorem e_graph_namedErr_1 {π : Id} {args : List AV} {s : Sto} : EE π n_graph_namedErr_1 args s = runF EE iter c_graph_namedErr_1 π args s := E_fn (by decide) (by rfl) (by rfl)
theorem e_slices_Backward_api_Node_api_Node {π : Id} {args : List AV} {s : Sto} : EE π n_slices_Backward_api_Node_api_Node args s = runF EE iter c_slices_Backward_api_Node_api_Node π args s := E_fn (by decide) (by rfl) (by rfl)
theorem e_graph_truth {π : Id} {args : List AV} {s : Sto} : EE π n_graph_truth args s = runF EE iter c_graph_truth π args s := E_fn (by decide) (by rfl) (by rfl)
theorem e_ratchetbase_ArgCount {π : Id} {args : List AV} {s : Sto} : EE π n_ratchetbase_ArgCount args s = runF EE iter c_ratchetbase_ArgCount π args s := E_fn (by decide) (by rfl) (by rfl)
theorem e_graph_runs_1 {π : Id} {args : List AV} {s : Sto} : EE π n_graph_runs_1 args s = runF EE iter c_graph_runs_1 π args s := E_fn (by decide) (by rfl) (by rfl)
theorem e_ratchetbase_nodeErr {π : Id} {args : List AV} {s : Sto} : EE π n_ratchetbase_nodeErr args s = runF EE iter c_ratchetbase_nodeErr π args s := E_fn (by decide) (by rfl) (by rfl)
theorem e_ratchetbase_Power {π : Id} {args : List AV} {s : Sto} : EE π n_ratchetbase_Power args s = runF EE iter c_ratchetbase_Power π args s := E_fn (by decide) (by rfl) (by rfl)
theorem e_graph_CheckNodes_1 {π : Id} {args : List AV} {s : Sto} : EE π n_graph_CheckNodes_1 args s = runF EE iter c_graph_CheckNodes_1 π args s := E_fn (by decide) (by rfl) (by rfl)
theorem e_graph_isWidth {π : Id} {args : List AV} {s : Sto} : EE π n_graph_isWidth args s = runF EE iter c_graph_isWidth π args s := E_fn (by decide) (by rfl) (by rfl)
theorem e_graph_each_api_Node {π : Id} {args : List AV} {s : Sto} : EE π n_graph_each_api_Node args s = runF EE iter c_graph_each_api_Node π args s := E_fn (by decide) (by rfl) (by rfl)
theorem e_graph_CheckNodes_2 {π : Id} {args : List AV} {s : Sto} : EE π n_graph_CheckNodes_2 args s = runF EE iter c_graph_CheckNodes_2 π args s := E_fn (by decide) (by rfl) (by rfl)
theorem e_graph_CheckNodes_2_1 {π : Id} {args : List AV} {s : Sto} : EE π n_graph_CheckNodes_2_1 args s = runF EE iter c_graph_CheckNodes_2_1 π args s := E_fn (by decide) (by rfl) (by rfl)
theorem e_graph_valueErr {π : Id} {args : List AV} {s : Sto} : EE π n_graph_valueErr args s = runF EE iter c_graph_valueErr π args s := E_fn (by decide) (by rfl) (by rfl)
theorem e_graph_same_1 {π : Id} {args : List AV} {s : Sto} : EE π n_graph_same_1 args s = runF EE iter c_graph_same_1 π args s := E_fn (by decide) (by rfl) (by rfl)
theorem e_graph_binary_1 {π : Id} {args : List AV} {s : Sto} : EE π n_graph_binary_1 args s = runF EE iter c_graph_binary_1 π args s := E_fn (by decide) (by rfl) (by rfl)
theorem e_graph_compared {π : Id} {args : List AV} {s : Sto} : EE π n_graph_compared args s = runF EE iter c_graph_compared π args s := E_fn (by decide) (by rfl) (by rfl)
theorem e_graph_relation_1 {π : Id} {args : List AV} {s : Sto} : EE π n_graph_relation_1 args s = runF EE iter c_graph_relation_1 π args s := E_fn (by decide) (by rfl) (by rfl)
theorem e_slices_Backward_api_Node_api_Node_1 {π : Id} {args : List AV} {s : Sto} : EE π n_slices_Backward_api_Node_api_Node_1 args s = runF EE iter c_slices_Backward_api_Node_api_Node_1 π args s := E_fn (by decide) (by rfl) (by rfl)
theorem e_ratchetbase_widthsFit {π : Id} {args : List AV} {s : Sto} : EE π n_ratchetbase_widthsFit args s = runF EE iter c_ratchetbase_widthsFit π args s := E_fn (by decide) (by rfl) (by rfl)

end Go.Proofs.YtglelclmlkeheabGreatDoor.V
