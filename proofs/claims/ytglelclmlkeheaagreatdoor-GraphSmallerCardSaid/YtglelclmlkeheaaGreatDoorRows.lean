/-
  NARROWER THAN 'FOR EVERY INPUT', by the rows' own cells (each row's printed sentence says how): GraphErrors: laid · GraphMatters: laid · GraphAlways: laid · GraphValues: laid · GraphLarger: laid · GraphSmaller: laid.
  DERIVED. THE GIVEN ROWS OF THIS SEAT. 6 by the template 'for every input the law returns true; each argument reads behind the call as it read before'; 0 by the template 'total and deterministic' (their statements: YtglelclmlkeheaaGreatDoorTotals.lean).
  GIVEN WITH THE SEED: the statements are not yours to turn. If you find one false, say at which input.
  Laid BY PROGRAM, IN A SANDBOX (cutbox-rows.mjs): the forced cells as the released guide's own fill.sh prints them over the translation 0a752c2a89fb8673… (all of the seat's roots in one cut). By AI agents, Wed Nov 11 2026. No macro, syntax, notation, axiom, sorry.
-/
import Derived.Test.YtglelclmlkeheaaGreatDoorChecked
import GoSem.Claim
import GoSem.ClaimJoined
import GoSem.ClaimMapViews
import Derived.JoinedTies
import Derived.KernelRfl
namespace Go.Proofs.YtglelclmlkeheaaGreatDoor
/- THE CELL 'sum', in the pinned program and in every row, IS THE sha256 OF THE DUMP (.gsa) THAT YtglelclmlkeheaaGreatDoorProg.lean LOADS. Nothing in Lean hashes anything: it is a label: what it is worth is what the hold of that sum in a sandbox is worth. -/
noncomputable def Tryz.pinned : Pinned := { name := "ytglelclmlkeheaagreatdoor", sum := "0a752c2a89fb8673ba7e728e25f2990ff074a2e361348b7105bb2004e9035ade", checked := Tryz.checked }
namespace Rows
def none {H : Type} : Left H := { results := [], args := [] }

/- WHAT THE LISTED PACKAGE-LEVEL VARIABLES READ AS WHEN THE CALL BEGINS. Each datum BY PROGRAM (the guide's laid-datum.mjs) off the statement by which the dump's own 'gosem.cut.vars' lays the variable. In a bare row this is a premise. The card (YtglelclmlkeheaaGreatDoorCards.lean) ties it to the program's text. -/
def laid_math_bits_deBruijn32tab {H : Type} : DataW H := .agg [.lit (.int .u8 0), .lit (.int .u8 1), .lit (.int .u8 28), .lit (.int .u8 2), .lit (.int .u8 29), .lit (.int .u8 14), .lit (.int .u8 24), .lit (.int .u8 3), .lit (.int .u8 30), .lit (.int .u8 22), .lit (.int .u8 20), .lit (.int .u8 15), .lit (.int .u8 25), .lit (.int .u8 17), .lit (.int .u8 4), .lit (.int .u8 8), .lit (.int .u8 31), .lit (.int .u8 27), .lit (.int .u8 13), .lit (.int .u8 23), .lit (.int .u8 21), .lit (.int .u8 19), .lit (.int .u8 16), .lit (.int .u8 7), .lit (.int .u8 26), .lit (.int .u8 12), .lit (.int .u8 18), .lit (.int .u8 6), .lit (.int .u8 11), .lit (.int .u8 5), .lit (.int .u8 10), .lit (.int .u8 9)]
def laid_math_bits_deBruijn64tab {H : Type} : DataW H := .agg [.lit (.int .u8 0), .lit (.int .u8 1), .lit (.int .u8 56), .lit (.int .u8 2), .lit (.int .u8 57), .lit (.int .u8 49), .lit (.int .u8 28), .lit (.int .u8 3), .lit (.int .u8 61), .lit (.int .u8 58), .lit (.int .u8 42), .lit (.int .u8 50), .lit (.int .u8 38), .lit (.int .u8 29), .lit (.int .u8 17), .lit (.int .u8 4), .lit (.int .u8 62), .lit (.int .u8 47), .lit (.int .u8 59), .lit (.int .u8 36), .lit (.int .u8 45), .lit (.int .u8 43), .lit (.int .u8 51), .lit (.int .u8 22), .lit (.int .u8 53), .lit (.int .u8 39), .lit (.int .u8 33), .lit (.int .u8 30), .lit (.int .u8 24), .lit (.int .u8 18), .lit (.int .u8 12), .lit (.int .u8 5), .lit (.int .u8 63), .lit (.int .u8 55), .lit (.int .u8 48), .lit (.int .u8 27), .lit (.int .u8 60), .lit (.int .u8 41), .lit (.int .u8 37), .lit (.int .u8 16), .lit (.int .u8 46), .lit (.int .u8 35), .lit (.int .u8 44), .lit (.int .u8 21), .lit (.int .u8 52), .lit (.int .u8 32), .lit (.int .u8 23), .lit (.int .u8 11), .lit (.int .u8 54), .lit (.int .u8 26), .lit (.int .u8 40), .lit (.int .u8 15), .lit (.int .u8 34), .lit (.int .u8 20), .lit (.int .u8 31), .lit (.int .u8 10), .lit (.int .u8 25), .lit (.int .u8 14), .lit (.int .u8 19), .lit (.int .u8 9), .lit (.int .u8 13), .lit (.int .u8 8), .lit (.int .u8 7), .lit (.int .u8 6)]
def laid_internal_strconv_uint64pow10 {H : Type} : DataW H := .agg [.lit (.int .u64 1), .lit (.int .u64 10), .lit (.int .u64 100), .lit (.int .u64 1000), .lit (.int .u64 10000), .lit (.int .u64 100000), .lit (.int .u64 1000000), .lit (.int .u64 10000000), .lit (.int .u64 100000000), .lit (.int .u64 1000000000), .lit (.int .u64 10000000000), .lit (.int .u64 100000000000), .lit (.int .u64 1000000000000), .lit (.int .u64 10000000000000), .lit (.int .u64 100000000000000), .lit (.int .u64 1000000000000000), .lit (.int .u64 10000000000000000), .lit (.int .u64 100000000000000000), .lit (.int .u64 1000000000000000000), .lit (.int .u64 10000000000000000000)]

/-- 'ratchetlaw02.GraphErrors': WHATEVER THE INPUT: true; the input reads as it did. -/
def graphErrorsSpec : ChangeSpec := { name := "graphErrors", fn := fun _ => fun
  | [d1, d2] => { results := [.lit (.bool true)], args := [d1, d2] }
  | _ => none }
def graphErrorsRow : OpenClaim := { program := "ytglelclmlkeheaagreatdoor", sum := "0a752c2a89fb8673ba7e728e25f2990ff074a2e361348b7105bb2004e9035ade", func := "ratchet/ratchetlaw02.GraphErrors", spec := "graphErrors", inPlace := ["internal/abi.NoEscape", "internal/bytealg.MakeNoZero"], unfollowed := true, recurses := true, named := ["internal/strconv.uint64pow10", "math/bits.deBruijn32tab", "math/bits.deBruijn64tab"], plainKeys := false, apart := false, laid := [("math/bits.deBruijn32tab", laid_math_bits_deBruijn32tab), ("math/bits.deBruijn64tab", laid_math_bits_deBruijn64tab), ("internal/strconv.uint64pow10", laid_internal_strconv_uint64pow10)] }
def GraphErrorsSaid : Prop := graphErrorsRow.holds Tryz.pinned (OpenSpec.ofChange graphErrorsSpec)

/-- ITS FALSE NEIGHBOUR: 'it returns false'. Refute it at one input. -/
def graphErrorsWrong : ChangeSpec := { name := "graphErrors", fn := fun _ => fun
  | [d1, d2] => { results := [.lit (.bool false)], args := [d1, d2] }
  | _ => none }
def GraphErrorsWrongFalsely : Prop := graphErrorsRow.holds Tryz.pinned (OpenSpec.ofChange graphErrorsWrong)

/-- 'ratchetlaw02.GraphMatters': WHATEVER THE INPUT: true; the input reads as it did. -/
def graphMattersSpec : ChangeSpec := { name := "graphMatters", fn := fun _ => fun
  | [d1, d2, d3] => { results := [.lit (.bool true)], args := [d1, d2, d3] }
  | _ => none }
def graphMattersRow : OpenClaim := { program := "ytglelclmlkeheaagreatdoor", sum := "0a752c2a89fb8673ba7e728e25f2990ff074a2e361348b7105bb2004e9035ade", func := "ratchet/ratchetlaw02.GraphMatters", spec := "graphMatters", inPlace := ["internal/abi.NoEscape", "internal/bytealg.MakeNoZero"], unfollowed := true, recurses := true, named := ["internal/strconv.uint64pow10", "math/bits.deBruijn32tab", "math/bits.deBruijn64tab"], plainKeys := false, apart := false, laid := [("math/bits.deBruijn32tab", laid_math_bits_deBruijn32tab), ("math/bits.deBruijn64tab", laid_math_bits_deBruijn64tab), ("internal/strconv.uint64pow10", laid_internal_strconv_uint64pow10)] }
def GraphMattersSaid : Prop := graphMattersRow.holds Tryz.pinned (OpenSpec.ofChange graphMattersSpec)

/-- ITS FALSE NEIGHBOUR: 'it returns false'. Refute it at one input. -/
def graphMattersWrong : ChangeSpec := { name := "graphMatters", fn := fun _ => fun
  | [d1, d2, d3] => { results := [.lit (.bool false)], args := [d1, d2, d3] }
  | _ => none }
def GraphMattersWrongFalsely : Prop := graphMattersRow.holds Tryz.pinned (OpenSpec.ofChange graphMattersWrong)

/-- 'ratchetlaw02.GraphAlways': WHATEVER THE INPUT: true; the input reads as it did. -/
def graphAlwaysSpec : ChangeSpec := { name := "graphAlways", fn := fun _ => fun
  | [d1, d2, d3] => { results := [.lit (.bool true)], args := [d1, d2, d3] }
  | _ => none }
def graphAlwaysRow : OpenClaim := { program := "ytglelclmlkeheaagreatdoor", sum := "0a752c2a89fb8673ba7e728e25f2990ff074a2e361348b7105bb2004e9035ade", func := "ratchet/ratchetlaw02.GraphAlways", spec := "graphAlways", inPlace := ["internal/abi.NoEscape", "internal/bytealg.MakeNoZero"], unfollowed := true, recurses := true, named := ["internal/strconv.uint64pow10", "math/bits.deBruijn32tab", "math/bits.deBruijn64tab"], plainKeys := false, apart := false, laid := [("math/bits.deBruijn32tab", laid_math_bits_deBruijn32tab), ("math/bits.deBruijn64tab", laid_math_bits_deBruijn64tab), ("internal/strconv.uint64pow10", laid_internal_strconv_uint64pow10)] }
def GraphAlwaysSaid : Prop := graphAlwaysRow.holds Tryz.pinned (OpenSpec.ofChange graphAlwaysSpec)

/-- ITS FALSE NEIGHBOUR: 'it returns false'. Refute it at one input. -/
def graphAlwaysWrong : ChangeSpec := { name := "graphAlways", fn := fun _ => fun
  | [d1, d2, d3] => { results := [.lit (.bool false)], args := [d1, d2, d3] }
  | _ => none }
def GraphAlwaysWrongFalsely : Prop := graphAlwaysRow.holds Tryz.pinned (OpenSpec.ofChange graphAlwaysWrong)

/-- 'ratchetlaw02.GraphValues': WHATEVER THE INPUT: true; the input reads as it did. -/
def graphValuesSpec : ChangeSpec := { name := "graphValues", fn := fun _ => fun
  | [d1, d2, d3] => { results := [.lit (.bool true)], args := [d1, d2, d3] }
  | _ => none }
def graphValuesRow : OpenClaim := { program := "ytglelclmlkeheaagreatdoor", sum := "0a752c2a89fb8673ba7e728e25f2990ff074a2e361348b7105bb2004e9035ade", func := "ratchet/ratchetlaw02.GraphValues", spec := "graphValues", inPlace := ["internal/abi.NoEscape", "internal/bytealg.MakeNoZero"], unfollowed := true, recurses := true, named := ["internal/strconv.uint64pow10", "math/bits.deBruijn32tab", "math/bits.deBruijn64tab"], plainKeys := false, apart := false, laid := [("math/bits.deBruijn32tab", laid_math_bits_deBruijn32tab), ("math/bits.deBruijn64tab", laid_math_bits_deBruijn64tab), ("internal/strconv.uint64pow10", laid_internal_strconv_uint64pow10)] }
def GraphValuesSaid : Prop := graphValuesRow.holds Tryz.pinned (OpenSpec.ofChange graphValuesSpec)

/-- ITS FALSE NEIGHBOUR: 'it returns false'. Refute it at one input. -/
def graphValuesWrong : ChangeSpec := { name := "graphValues", fn := fun _ => fun
  | [d1, d2, d3] => { results := [.lit (.bool false)], args := [d1, d2, d3] }
  | _ => none }
def GraphValuesWrongFalsely : Prop := graphValuesRow.holds Tryz.pinned (OpenSpec.ofChange graphValuesWrong)

/-- 'ratchetlaw02.GraphLarger': WHATEVER THE INPUT: true; the input reads as it did. -/
def graphLargerSpec : ChangeSpec := { name := "graphLarger", fn := fun _ => fun
  | [d1, d2, d3] => { results := [.lit (.bool true)], args := [d1, d2, d3] }
  | _ => none }
def graphLargerRow : OpenClaim := { program := "ytglelclmlkeheaagreatdoor", sum := "0a752c2a89fb8673ba7e728e25f2990ff074a2e361348b7105bb2004e9035ade", func := "ratchet/ratchetlaw02.GraphLarger", spec := "graphLarger", inPlace := ["internal/abi.NoEscape", "internal/bytealg.MakeNoZero"], unfollowed := true, recurses := true, named := ["internal/strconv.uint64pow10", "math/bits.deBruijn32tab", "math/bits.deBruijn64tab"], plainKeys := false, apart := false, laid := [("math/bits.deBruijn32tab", laid_math_bits_deBruijn32tab), ("math/bits.deBruijn64tab", laid_math_bits_deBruijn64tab), ("internal/strconv.uint64pow10", laid_internal_strconv_uint64pow10)] }
def GraphLargerSaid : Prop := graphLargerRow.holds Tryz.pinned (OpenSpec.ofChange graphLargerSpec)

/-- ITS FALSE NEIGHBOUR: 'it returns false'. Refute it at one input. -/
def graphLargerWrong : ChangeSpec := { name := "graphLarger", fn := fun _ => fun
  | [d1, d2, d3] => { results := [.lit (.bool false)], args := [d1, d2, d3] }
  | _ => none }
def GraphLargerWrongFalsely : Prop := graphLargerRow.holds Tryz.pinned (OpenSpec.ofChange graphLargerWrong)

/-- 'ratchetlaw02.GraphSmaller': WHATEVER THE INPUT: true; the input reads as it did. -/
def graphSmallerSpec : ChangeSpec := { name := "graphSmaller", fn := fun _ => fun
  | [d1, d2, d3] => { results := [.lit (.bool true)], args := [d1, d2, d3] }
  | _ => none }
def graphSmallerRow : OpenClaim := { program := "ytglelclmlkeheaagreatdoor", sum := "0a752c2a89fb8673ba7e728e25f2990ff074a2e361348b7105bb2004e9035ade", func := "ratchet/ratchetlaw02.GraphSmaller", spec := "graphSmaller", inPlace := ["internal/abi.NoEscape", "internal/bytealg.MakeNoZero"], unfollowed := true, recurses := true, named := ["internal/strconv.uint64pow10", "math/bits.deBruijn32tab", "math/bits.deBruijn64tab"], plainKeys := false, apart := false, laid := [("math/bits.deBruijn32tab", laid_math_bits_deBruijn32tab), ("math/bits.deBruijn64tab", laid_math_bits_deBruijn64tab), ("internal/strconv.uint64pow10", laid_internal_strconv_uint64pow10)] }
def GraphSmallerSaid : Prop := graphSmallerRow.holds Tryz.pinned (OpenSpec.ofChange graphSmallerSpec)

/-- ITS FALSE NEIGHBOUR: 'it returns false'. Refute it at one input. -/
def graphSmallerWrong : ChangeSpec := { name := "graphSmaller", fn := fun _ => fun
  | [d1, d2, d3] => { results := [.lit (.bool false)], args := [d1, d2, d3] }
  | _ => none }
def GraphSmallerWrongFalsely : Prop := graphSmallerRow.holds Tryz.pinned (OpenSpec.ofChange graphSmallerWrong)

/- THE SECOND FORM. 'bulk': how many values and letters a reading holds, each counted each time it is reached (what is shared counts as often as it is met; a slice's spare places count too). A statement '..UptoSaid' is the law's where the arguments, and the package variables that the reading takes, are together of bulk at most 1048576: NARROWER than '..Said'. Prove '..Said' where nothing that the law and all that it calls make is longer than what came in: it says more and counts as full. Else prove '..UptoSaid'. A law counts once. -/
mutual
def uptoBulk {H : Type} : DataW H → Nat
  | .lit (.string bytes) => bytes.length + 1
  | .lit _ => 1
  | .nil => 1
  | .ptr d => uptoBulk d + 1
  | .slice elems spare => uptoBulkAll elems + uptoBulkAll spare + 1
  | .agg parts => uptoBulkAll parts + 1
  | .iface _ d => uptoBulk d + 1
  | .map entries => uptoBulkEntries entries + 1
  | .held _ => 1
def uptoBulkAll {H : Type} : List (DataW H) → Nat
  | [] => 0
  | d :: r => uptoBulk d + uptoBulkAll r
def uptoBulkEntries {H : Type} : List (Lit × DataW H) → Nat
  | [] => 0
  | x :: r => uptoBulkEntry x + uptoBulkEntries r
def uptoBulkEntry {H : Type} : Lit × DataW H → Nat
  | (.string bytes, d) => bytes.length + uptoBulk d + 1
  | (_, d) => uptoBulk d + 1
 end
def uptoSmall : (H : Type) → List (DataW H) → Bool := fun _ ds => decide (uptoBulkAll ds ≤ 1048576)
def OpenSpec.upto (s : _root_.Go.ChangeSpec) : _root_.Go.OpenSpec := { _root_.Go.OpenSpec.ofChange s with cond := some uptoSmall }

/-- 'ratchetlaw02.GraphErrors', WHERE WHAT IT READS IS OF BULK AT MOST 1048576: true; the input reads as it did. -/
def graphErrorsUptoRow : OpenClaim := { program := "ytglelclmlkeheaagreatdoor", sum := "0a752c2a89fb8673ba7e728e25f2990ff074a2e361348b7105bb2004e9035ade", func := "ratchet/ratchetlaw02.GraphErrors", spec := "graphErrors", inPlace := ["internal/abi.NoEscape", "internal/bytealg.MakeNoZero"], unfollowed := true, recurses := true, named := ["internal/strconv.uint64pow10", "math/bits.deBruijn32tab", "math/bits.deBruijn64tab"], plainKeys := false, apart := false, laid := [("math/bits.deBruijn32tab", laid_math_bits_deBruijn32tab), ("math/bits.deBruijn64tab", laid_math_bits_deBruijn64tab), ("internal/strconv.uint64pow10", laid_internal_strconv_uint64pow10)], narrowed := true }
def GraphErrorsUptoSaid : Prop := graphErrorsUptoRow.holds Tryz.pinned (OpenSpec.upto graphErrorsSpec)

/-- 'ratchetlaw02.GraphMatters', WHERE WHAT IT READS IS OF BULK AT MOST 1048576: true; the input reads as it did. -/
def graphMattersUptoRow : OpenClaim := { program := "ytglelclmlkeheaagreatdoor", sum := "0a752c2a89fb8673ba7e728e25f2990ff074a2e361348b7105bb2004e9035ade", func := "ratchet/ratchetlaw02.GraphMatters", spec := "graphMatters", inPlace := ["internal/abi.NoEscape", "internal/bytealg.MakeNoZero"], unfollowed := true, recurses := true, named := ["internal/strconv.uint64pow10", "math/bits.deBruijn32tab", "math/bits.deBruijn64tab"], plainKeys := false, apart := false, laid := [("math/bits.deBruijn32tab", laid_math_bits_deBruijn32tab), ("math/bits.deBruijn64tab", laid_math_bits_deBruijn64tab), ("internal/strconv.uint64pow10", laid_internal_strconv_uint64pow10)], narrowed := true }
def GraphMattersUptoSaid : Prop := graphMattersUptoRow.holds Tryz.pinned (OpenSpec.upto graphMattersSpec)

/-- 'ratchetlaw02.GraphAlways', WHERE WHAT IT READS IS OF BULK AT MOST 1048576: true; the input reads as it did. -/
def graphAlwaysUptoRow : OpenClaim := { program := "ytglelclmlkeheaagreatdoor", sum := "0a752c2a89fb8673ba7e728e25f2990ff074a2e361348b7105bb2004e9035ade", func := "ratchet/ratchetlaw02.GraphAlways", spec := "graphAlways", inPlace := ["internal/abi.NoEscape", "internal/bytealg.MakeNoZero"], unfollowed := true, recurses := true, named := ["internal/strconv.uint64pow10", "math/bits.deBruijn32tab", "math/bits.deBruijn64tab"], plainKeys := false, apart := false, laid := [("math/bits.deBruijn32tab", laid_math_bits_deBruijn32tab), ("math/bits.deBruijn64tab", laid_math_bits_deBruijn64tab), ("internal/strconv.uint64pow10", laid_internal_strconv_uint64pow10)], narrowed := true }
def GraphAlwaysUptoSaid : Prop := graphAlwaysUptoRow.holds Tryz.pinned (OpenSpec.upto graphAlwaysSpec)

/-- 'ratchetlaw02.GraphValues', WHERE WHAT IT READS IS OF BULK AT MOST 1048576: true; the input reads as it did. -/
def graphValuesUptoRow : OpenClaim := { program := "ytglelclmlkeheaagreatdoor", sum := "0a752c2a89fb8673ba7e728e25f2990ff074a2e361348b7105bb2004e9035ade", func := "ratchet/ratchetlaw02.GraphValues", spec := "graphValues", inPlace := ["internal/abi.NoEscape", "internal/bytealg.MakeNoZero"], unfollowed := true, recurses := true, named := ["internal/strconv.uint64pow10", "math/bits.deBruijn32tab", "math/bits.deBruijn64tab"], plainKeys := false, apart := false, laid := [("math/bits.deBruijn32tab", laid_math_bits_deBruijn32tab), ("math/bits.deBruijn64tab", laid_math_bits_deBruijn64tab), ("internal/strconv.uint64pow10", laid_internal_strconv_uint64pow10)], narrowed := true }
def GraphValuesUptoSaid : Prop := graphValuesUptoRow.holds Tryz.pinned (OpenSpec.upto graphValuesSpec)

/-- 'ratchetlaw02.GraphLarger', WHERE WHAT IT READS IS OF BULK AT MOST 1048576: true; the input reads as it did. -/
def graphLargerUptoRow : OpenClaim := { program := "ytglelclmlkeheaagreatdoor", sum := "0a752c2a89fb8673ba7e728e25f2990ff074a2e361348b7105bb2004e9035ade", func := "ratchet/ratchetlaw02.GraphLarger", spec := "graphLarger", inPlace := ["internal/abi.NoEscape", "internal/bytealg.MakeNoZero"], unfollowed := true, recurses := true, named := ["internal/strconv.uint64pow10", "math/bits.deBruijn32tab", "math/bits.deBruijn64tab"], plainKeys := false, apart := false, laid := [("math/bits.deBruijn32tab", laid_math_bits_deBruijn32tab), ("math/bits.deBruijn64tab", laid_math_bits_deBruijn64tab), ("internal/strconv.uint64pow10", laid_internal_strconv_uint64pow10)], narrowed := true }
def GraphLargerUptoSaid : Prop := graphLargerUptoRow.holds Tryz.pinned (OpenSpec.upto graphLargerSpec)

/-- 'ratchetlaw02.GraphSmaller', WHERE WHAT IT READS IS OF BULK AT MOST 1048576: true; the input reads as it did. -/
def graphSmallerUptoRow : OpenClaim := { program := "ytglelclmlkeheaagreatdoor", sum := "0a752c2a89fb8673ba7e728e25f2990ff074a2e361348b7105bb2004e9035ade", func := "ratchet/ratchetlaw02.GraphSmaller", spec := "graphSmaller", inPlace := ["internal/abi.NoEscape", "internal/bytealg.MakeNoZero"], unfollowed := true, recurses := true, named := ["internal/strconv.uint64pow10", "math/bits.deBruijn32tab", "math/bits.deBruijn64tab"], plainKeys := false, apart := false, laid := [("math/bits.deBruijn32tab", laid_math_bits_deBruijn32tab), ("math/bits.deBruijn64tab", laid_math_bits_deBruijn64tab), ("internal/strconv.uint64pow10", laid_internal_strconv_uint64pow10)], narrowed := true }
def GraphSmallerUptoSaid : Prop := graphSmallerUptoRow.holds Tryz.pinned (OpenSpec.upto graphSmallerSpec)

end Rows
end Go.Proofs.YtglelclmlkeheaaGreatDoor
