/-
  No cell of these rows narrows 'for every input' (looked for: loops, veiled, ifaces, maps, wideKeys, modest, calm, conditions, laid).
  DERIVED. THE GIVEN ROWS OF THIS SEAT. 5 by the template 'for every input the law returns true; each argument reads behind the call as it read before'; 0 by the template 'total and deterministic' (their statements: YteecfnfjlclhdaaGreatTotals.lean).
  GIVEN WITH THE SEED: the statements are not yours to turn. If you find one false, say at which input.
  Laid BY PROGRAM, IN A SANDBOX (cutbox-rows.mjs): the forced cells as the released guide's own fill.sh prints them over the translation 144a7f78530d37f1… (all of the seat's roots in one cut). By AI agents, Wed Nov 11 2026. No macro, syntax, notation, axiom, sorry.
-/
import Derived.Test.YteecfnfjlclhdaaGreatChecked
import GoSem.Claim
import GoSem.ClaimJoined
import GoSem.ClaimMapViews
import Derived.JoinedTies
import Derived.KernelRfl
namespace Go.Proofs.YteecfnfjlclhdaaGreat
/- THE CELL 'sum', in the pinned program and in every row, IS THE sha256 OF THE DUMP (.gsa) THAT YteecfnfjlclhdaaGreatProg.lean LOADS. Nothing in Lean hashes anything: it is a label: what it is worth is what the hold of that sum in a sandbox is worth. -/
noncomputable def Tryz.pinned : Pinned := { name := "yteecfnfjlclhdaagreat", sum := "144a7f78530d37f11ad4feee4f3fccae421e281849c2671104f3a704e4b69a7d", checked := Tryz.checked }
namespace Rows
def none {H : Type} : Left H := { results := [], args := [] }

/-- 'ratchetlaw16.ConflictRelates': WHATEVER THE INPUT: true; the input reads as it did. -/
def conflictRelatesSpec : ChangeSpec := { name := "conflictRelates", fn := fun _ => fun
  | [d1, d2, d3] => { results := [.lit (.bool true)], args := [d1, d2, d3] }
  | _ => none }
def conflictRelatesRow : OpenClaim := { program := "yteecfnfjlclhdaagreat", sum := "144a7f78530d37f11ad4feee4f3fccae421e281849c2671104f3a704e4b69a7d", func := "ratchet/ratchetlaw16.ConflictRelates", spec := "conflictRelates", inPlace := ["internal/abi.NoEscape", "internal/bytealg.MakeNoZero"], unfollowed := true, recurses := true, apart := false }
def ConflictRelatesSaid : Prop := conflictRelatesRow.holds Tryz.pinned (OpenSpec.ofChange conflictRelatesSpec)

/-- ITS FALSE NEIGHBOUR: 'it returns false'. Refute it at one input. -/
def conflictRelatesWrong : ChangeSpec := { name := "conflictRelates", fn := fun _ => fun
  | [d1, d2, d3] => { results := [.lit (.bool false)], args := [d1, d2, d3] }
  | _ => none }
def ConflictRelatesWrongFalsely : Prop := conflictRelatesRow.holds Tryz.pinned (OpenSpec.ofChange conflictRelatesWrong)

/-- 'ratchetlaw16.ConflictEither': WHATEVER THE INPUT: true; the input reads as it did. -/
def conflictEitherSpec : ChangeSpec := { name := "conflictEither", fn := fun _ => fun
  | [d1, d2] => { results := [.lit (.bool true)], args := [d1, d2] }
  | _ => none }
def conflictEitherRow : OpenClaim := { program := "yteecfnfjlclhdaagreat", sum := "144a7f78530d37f11ad4feee4f3fccae421e281849c2671104f3a704e4b69a7d", func := "ratchet/ratchetlaw16.ConflictEither", spec := "conflictEither", inPlace := ["internal/abi.NoEscape", "internal/bytealg.MakeNoZero"], unfollowed := true, recurses := true, apart := false }
def ConflictEitherSaid : Prop := conflictEitherRow.holds Tryz.pinned (OpenSpec.ofChange conflictEitherSpec)

/-- ITS FALSE NEIGHBOUR: 'it returns false'. Refute it at one input. -/
def conflictEitherWrong : ChangeSpec := { name := "conflictEither", fn := fun _ => fun
  | [d1, d2] => { results := [.lit (.bool false)], args := [d1, d2] }
  | _ => none }
def ConflictEitherWrongFalsely : Prop := conflictEitherRow.holds Tryz.pinned (OpenSpec.ofChange conflictEitherWrong)

/-- 'ratchetlaw16.ConflictShares': WHATEVER THE INPUT: true; the input reads as it did. -/
def conflictSharesSpec : ChangeSpec := { name := "conflictShares", fn := fun _ => fun
  | [d1, d2] => { results := [.lit (.bool true)], args := [d1, d2] }
  | _ => none }
def conflictSharesRow : OpenClaim := { program := "yteecfnfjlclhdaagreat", sum := "144a7f78530d37f11ad4feee4f3fccae421e281849c2671104f3a704e4b69a7d", func := "ratchet/ratchetlaw16.ConflictShares", spec := "conflictShares", inPlace := ["internal/abi.NoEscape", "internal/bytealg.MakeNoZero"], unfollowed := true, recurses := true, apart := false }
def ConflictSharesSaid : Prop := conflictSharesRow.holds Tryz.pinned (OpenSpec.ofChange conflictSharesSpec)

/-- ITS FALSE NEIGHBOUR: 'it returns false'. Refute it at one input. -/
def conflictSharesWrong : ChangeSpec := { name := "conflictShares", fn := fun _ => fun
  | [d1, d2] => { results := [.lit (.bool false)], args := [d1, d2] }
  | _ => none }
def ConflictSharesWrongFalsely : Prop := conflictSharesRow.holds Tryz.pinned (OpenSpec.ofChange conflictSharesWrong)

/-- 'ratchetlaw16.ConflictMatters': WHATEVER THE INPUT: true; the input reads as it did. -/
def conflictMattersSpec : ChangeSpec := { name := "conflictMatters", fn := fun _ => fun
  | [d1, d2, d3] => { results := [.lit (.bool true)], args := [d1, d2, d3] }
  | _ => none }
def conflictMattersRow : OpenClaim := { program := "yteecfnfjlclhdaagreat", sum := "144a7f78530d37f11ad4feee4f3fccae421e281849c2671104f3a704e4b69a7d", func := "ratchet/ratchetlaw16.ConflictMatters", spec := "conflictMatters", inPlace := ["internal/abi.NoEscape", "internal/bytealg.MakeNoZero"], unfollowed := true, recurses := true, apart := false }
def ConflictMattersSaid : Prop := conflictMattersRow.holds Tryz.pinned (OpenSpec.ofChange conflictMattersSpec)

/-- ITS FALSE NEIGHBOUR: 'it returns false'. Refute it at one input. -/
def conflictMattersWrong : ChangeSpec := { name := "conflictMatters", fn := fun _ => fun
  | [d1, d2, d3] => { results := [.lit (.bool false)], args := [d1, d2, d3] }
  | _ => none }
def ConflictMattersWrongFalsely : Prop := conflictMattersRow.holds Tryz.pinned (OpenSpec.ofChange conflictMattersWrong)

/-- 'ratchetlaw16.ConflictOrders': WHATEVER THE INPUT: true; the input reads as it did. -/
def conflictOrdersSpec : ChangeSpec := { name := "conflictOrders", fn := fun _ => fun
  | [d1, d2] => { results := [.lit (.bool true)], args := [d1, d2] }
  | _ => none }
def conflictOrdersRow : OpenClaim := { program := "yteecfnfjlclhdaagreat", sum := "144a7f78530d37f11ad4feee4f3fccae421e281849c2671104f3a704e4b69a7d", func := "ratchet/ratchetlaw16.ConflictOrders", spec := "conflictOrders", inPlace := ["internal/abi.NoEscape", "internal/bytealg.MakeNoZero"], unfollowed := true, recurses := true, apart := false }
def ConflictOrdersSaid : Prop := conflictOrdersRow.holds Tryz.pinned (OpenSpec.ofChange conflictOrdersSpec)

/-- ITS FALSE NEIGHBOUR: 'it returns false'. Refute it at one input. -/
def conflictOrdersWrong : ChangeSpec := { name := "conflictOrders", fn := fun _ => fun
  | [d1, d2] => { results := [.lit (.bool false)], args := [d1, d2] }
  | _ => none }
def ConflictOrdersWrongFalsely : Prop := conflictOrdersRow.holds Tryz.pinned (OpenSpec.ofChange conflictOrdersWrong)

/- THE SECOND FORM. 'bulk': how many values and letters a reading holds, each counted each time it is reached (what is shared counts as often as it is met; a slice's spare places count too). A statement '..UptoSaid' is the law's where the arguments, and the package variables that the reading takes, are together of bulk at most 1048576: NARROWER than '..Said'. Prove '..Said' where nothing that the law and all that it calls make is longer than what came in: it says more and counts as full. Else prove '..UptoSaid'. A law counts once. -/
mutual
def uptoBulk {H : Type} : DataW H → Nat
  | .lit (.string bytes) => bytes.length + 1
  | .lit _ => 1
  | .nil => 1
  | .ptr d => uptoBulk d + 1
  | .slice elems spare => uptoBulkAll elems + uptoBulkAll spare + 1
  | .agg parts => uptoBulkAll parts + 1
  | .iface _ d => uptoBulk d + 1
  | .map entries => uptoBulkEntries entries + 1
  | .held _ => 1
def uptoBulkAll {H : Type} : List (DataW H) → Nat
  | [] => 0
  | d :: r => uptoBulk d + uptoBulkAll r
def uptoBulkEntries {H : Type} : List (Lit × DataW H) → Nat
  | [] => 0
  | x :: r => uptoBulkEntry x + uptoBulkEntries r
def uptoBulkEntry {H : Type} : Lit × DataW H → Nat
  | (.string bytes, d) => bytes.length + uptoBulk d + 1
  | (_, d) => uptoBulk d + 1
 end
def uptoSmall : (H : Type) → List (DataW H) → Bool := fun _ ds => decide (uptoBulkAll ds ≤ 1048576)
def OpenSpec.upto (s : _root_.Go.ChangeSpec) : _root_.Go.OpenSpec := { _root_.Go.OpenSpec.ofChange s with cond := some uptoSmall }

/-- 'ratchetlaw16.ConflictRelates', WHERE WHAT IT READS IS OF BULK AT MOST 1048576: true; the input reads as it did. -/
def conflictRelatesUptoRow : OpenClaim := { program := "yteecfnfjlclhdaagreat", sum := "144a7f78530d37f11ad4feee4f3fccae421e281849c2671104f3a704e4b69a7d", func := "ratchet/ratchetlaw16.ConflictRelates", spec := "conflictRelates", inPlace := ["internal/abi.NoEscape", "internal/bytealg.MakeNoZero"], unfollowed := true, recurses := true, apart := false, narrowed := true }
def ConflictRelatesUptoSaid : Prop := conflictRelatesUptoRow.holds Tryz.pinned (OpenSpec.upto conflictRelatesSpec)

/-- 'ratchetlaw16.ConflictEither', WHERE WHAT IT READS IS OF BULK AT MOST 1048576: true; the input reads as it did. -/
def conflictEitherUptoRow : OpenClaim := { program := "yteecfnfjlclhdaagreat", sum := "144a7f78530d37f11ad4feee4f3fccae421e281849c2671104f3a704e4b69a7d", func := "ratchet/ratchetlaw16.ConflictEither", spec := "conflictEither", inPlace := ["internal/abi.NoEscape", "internal/bytealg.MakeNoZero"], unfollowed := true, recurses := true, apart := false, narrowed := true }
def ConflictEitherUptoSaid : Prop := conflictEitherUptoRow.holds Tryz.pinned (OpenSpec.upto conflictEitherSpec)

/-- 'ratchetlaw16.ConflictShares', WHERE WHAT IT READS IS OF BULK AT MOST 1048576: true; the input reads as it did. -/
def conflictSharesUptoRow : OpenClaim := { program := "yteecfnfjlclhdaagreat", sum := "144a7f78530d37f11ad4feee4f3fccae421e281849c2671104f3a704e4b69a7d", func := "ratchet/ratchetlaw16.ConflictShares", spec := "conflictShares", inPlace := ["internal/abi.NoEscape", "internal/bytealg.MakeNoZero"], unfollowed := true, recurses := true, apart := false, narrowed := true }
def ConflictSharesUptoSaid : Prop := conflictSharesUptoRow.holds Tryz.pinned (OpenSpec.upto conflictSharesSpec)

/-- 'ratchetlaw16.ConflictMatters', WHERE WHAT IT READS IS OF BULK AT MOST 1048576: true; the input reads as it did. -/
def conflictMattersUptoRow : OpenClaim := { program := "yteecfnfjlclhdaagreat", sum := "144a7f78530d37f11ad4feee4f3fccae421e281849c2671104f3a704e4b69a7d", func := "ratchet/ratchetlaw16.ConflictMatters", spec := "conflictMatters", inPlace := ["internal/abi.NoEscape", "internal/bytealg.MakeNoZero"], unfollowed := true, recurses := true, apart := false, narrowed := true }
def ConflictMattersUptoSaid : Prop := conflictMattersUptoRow.holds Tryz.pinned (OpenSpec.upto conflictMattersSpec)

/-- 'ratchetlaw16.ConflictOrders', WHERE WHAT IT READS IS OF BULK AT MOST 1048576: true; the input reads as it did. -/
def conflictOrdersUptoRow : OpenClaim := { program := "yteecfnfjlclhdaagreat", sum := "144a7f78530d37f11ad4feee4f3fccae421e281849c2671104f3a704e4b69a7d", func := "ratchet/ratchetlaw16.ConflictOrders", spec := "conflictOrders", inPlace := ["internal/abi.NoEscape", "internal/bytealg.MakeNoZero"], unfollowed := true, recurses := true, apart := false, narrowed := true }
def ConflictOrdersUptoSaid : Prop := conflictOrdersUptoRow.holds Tryz.pinned (OpenSpec.upto conflictOrdersSpec)

end Rows
end Go.Proofs.YteecfnfjlclhdaaGreat
