/-
  No cell of these rows narrows 'for every input' (looked for: loops, veiled, ifaces, maps, wideKeys, modest, calm, conditions, laid).
  DERIVED. THE GIVEN ROWS OF THIS SEAT. 3 by the template 'for every input the law returns true; each argument reads behind the call as it read before'; 0 by the template 'total and deterministic' (their statements: YtafomlbikcphgaaGreatTotals.lean).
  GIVEN WITH THE SEED: the statements are not yours to turn. If you find one false, say at which input.
  Laid BY PROGRAM, IN A SANDBOX (cutbox-rows.mjs): the forced cells as the released guide's own fill.sh prints them over the translation 5269b1aab2722d4a… (all of the seat's roots in one cut). By AI agents, Wed Nov 11 2026. No macro, syntax, notation, axiom, sorry.
-/
import Derived.Test.YtafomlbikcphgaaGreatChecked
import GoSem.Claim
import GoSem.ClaimJoined
import GoSem.ClaimMapViews
import Derived.JoinedTies
import Derived.KernelRfl
namespace Go.Proofs.YtafomlbikcphgaaGreat
/- THE CELL 'sum', in the pinned program and in every row, IS THE sha256 OF THE DUMP (.gsa) THAT YtafomlbikcphgaaGreatProg.lean LOADS. Nothing in Lean hashes anything: it is a label: what it is worth is what the hold of that sum in a sandbox is worth. -/
noncomputable def Tryz.pinned : Pinned := { name := "ytafomlbikcphgaagreat", sum := "5269b1aab2722d4a27aeb892bcbe8c5bd1a1a8a608e26641d91ee2343e873029", checked := Tryz.checked }
namespace Rows
def none {H : Type} : Left H := { results := [], args := [] }

/-- 'ratchetlaw28.TimingPaths': WHATEVER THE INPUT: true; the input reads as it did. -/
def timingPathsSpec : ChangeSpec := { name := "timingPaths", fn := fun _ => fun
  | [d1, d2, d3] => { results := [.lit (.bool true)], args := [d1, d2, d3] }
  | _ => none }
def timingPathsRow : OpenClaim := { program := "ytafomlbikcphgaagreat", sum := "5269b1aab2722d4a27aeb892bcbe8c5bd1a1a8a608e26641d91ee2343e873029", func := "ratchet/ratchetlaw28.TimingPaths", spec := "timingPaths", unfollowed := true, recurses := true, apart := false }
def TimingPathsSaid : Prop := timingPathsRow.holds Tryz.pinned (OpenSpec.ofChange timingPathsSpec)

/-- ITS FALSE NEIGHBOUR: 'it returns false'. Refute it at one input. -/
def timingPathsWrong : ChangeSpec := { name := "timingPaths", fn := fun _ => fun
  | [d1, d2, d3] => { results := [.lit (.bool false)], args := [d1, d2, d3] }
  | _ => none }
def TimingPathsWrongFalsely : Prop := timingPathsRow.holds Tryz.pinned (OpenSpec.ofChange timingPathsWrong)

/-- 'ratchetlaw28.TimingCorners': WHATEVER THE INPUT: true; the input reads as it did. -/
def timingCornersSpec : ChangeSpec := { name := "timingCorners", fn := fun _ => fun
  | [d1, d2, d3] => { results := [.lit (.bool true)], args := [d1, d2, d3] }
  | _ => none }
def timingCornersRow : OpenClaim := { program := "ytafomlbikcphgaagreat", sum := "5269b1aab2722d4a27aeb892bcbe8c5bd1a1a8a608e26641d91ee2343e873029", func := "ratchet/ratchetlaw28.TimingCorners", spec := "timingCorners", unfollowed := true, recurses := true, apart := false }
def TimingCornersSaid : Prop := timingCornersRow.holds Tryz.pinned (OpenSpec.ofChange timingCornersSpec)

/-- ITS FALSE NEIGHBOUR: 'it returns false'. Refute it at one input. -/
def timingCornersWrong : ChangeSpec := { name := "timingCorners", fn := fun _ => fun
  | [d1, d2, d3] => { results := [.lit (.bool false)], args := [d1, d2, d3] }
  | _ => none }
def TimingCornersWrongFalsely : Prop := timingCornersRow.holds Tryz.pinned (OpenSpec.ofChange timingCornersWrong)

/-- 'ratchetlaw28.TimingRegisters': WHATEVER THE INPUT: true; the input reads as it did. -/
def timingRegistersSpec : ChangeSpec := { name := "timingRegisters", fn := fun _ => fun
  | [d1, d2, d3] => { results := [.lit (.bool true)], args := [d1, d2, d3] }
  | _ => none }
def timingRegistersRow : OpenClaim := { program := "ytafomlbikcphgaagreat", sum := "5269b1aab2722d4a27aeb892bcbe8c5bd1a1a8a608e26641d91ee2343e873029", func := "ratchet/ratchetlaw28.TimingRegisters", spec := "timingRegisters", unfollowed := true, recurses := true, apart := false }
def TimingRegistersSaid : Prop := timingRegistersRow.holds Tryz.pinned (OpenSpec.ofChange timingRegistersSpec)

/-- ITS FALSE NEIGHBOUR: 'it returns false'. Refute it at one input. -/
def timingRegistersWrong : ChangeSpec := { name := "timingRegisters", fn := fun _ => fun
  | [d1, d2, d3] => { results := [.lit (.bool false)], args := [d1, d2, d3] }
  | _ => none }
def TimingRegistersWrongFalsely : Prop := timingRegistersRow.holds Tryz.pinned (OpenSpec.ofChange timingRegistersWrong)

/- THE SECOND FORM. 'bulk': how many values and letters a reading holds, each counted each time it is reached (what is shared counts as often as it is met; a slice's spare places count too). A statement '..UptoSaid' is the law's where the arguments, and the package variables that the reading takes, are together of bulk at most 1048576: NARROWER than '..Said'. Prove '..Said' where nothing that the law and all that it calls make is longer than what came in: it says more and counts as full. Else prove '..UptoSaid'. A law counts once. -/
mutual
def uptoBulk {H : Type} : DataW H → Nat
  | .lit (.string bytes) => bytes.length + 1
  | .lit _ => 1
  | .nil => 1
  | .ptr d => uptoBulk d + 1
  | .slice elems spare => uptoBulkAll elems + uptoBulkAll spare + 1
  | .agg parts => uptoBulkAll parts + 1
  | .iface _ d => uptoBulk d + 1
  | .map entries => uptoBulkEntries entries + 1
  | .held _ => 1
def uptoBulkAll {H : Type} : List (DataW H) → Nat
  | [] => 0
  | d :: r => uptoBulk d + uptoBulkAll r
def uptoBulkEntries {H : Type} : List (Lit × DataW H) → Nat
  | [] => 0
  | x :: r => uptoBulkEntry x + uptoBulkEntries r
def uptoBulkEntry {H : Type} : Lit × DataW H → Nat
  | (.string bytes, d) => bytes.length + uptoBulk d + 1
  | (_, d) => uptoBulk d + 1
 end
def uptoSmall : (H : Type) → List (DataW H) → Bool := fun _ ds => decide (uptoBulkAll ds ≤ 1048576)
def OpenSpec.upto (s : _root_.Go.ChangeSpec) : _root_.Go.OpenSpec := { _root_.Go.OpenSpec.ofChange s with cond := some uptoSmall }

/-- 'ratchetlaw28.TimingPaths', WHERE WHAT IT READS IS OF BULK AT MOST 1048576: true; the input reads as it did. -/
def timingPathsUptoRow : OpenClaim := { program := "ytafomlbikcphgaagreat", sum := "5269b1aab2722d4a27aeb892bcbe8c5bd1a1a8a608e26641d91ee2343e873029", func := "ratchet/ratchetlaw28.TimingPaths", spec := "timingPaths", unfollowed := true, recurses := true, apart := false, narrowed := true }
def TimingPathsUptoSaid : Prop := timingPathsUptoRow.holds Tryz.pinned (OpenSpec.upto timingPathsSpec)

/-- 'ratchetlaw28.TimingCorners', WHERE WHAT IT READS IS OF BULK AT MOST 1048576: true; the input reads as it did. -/
def timingCornersUptoRow : OpenClaim := { program := "ytafomlbikcphgaagreat", sum := "5269b1aab2722d4a27aeb892bcbe8c5bd1a1a8a608e26641d91ee2343e873029", func := "ratchet/ratchetlaw28.TimingCorners", spec := "timingCorners", unfollowed := true, recurses := true, apart := false, narrowed := true }
def TimingCornersUptoSaid : Prop := timingCornersUptoRow.holds Tryz.pinned (OpenSpec.upto timingCornersSpec)

/-- 'ratchetlaw28.TimingRegisters', WHERE WHAT IT READS IS OF BULK AT MOST 1048576: true; the input reads as it did. -/
def timingRegistersUptoRow : OpenClaim := { program := "ytafomlbikcphgaagreat", sum := "5269b1aab2722d4a27aeb892bcbe8c5bd1a1a8a608e26641d91ee2343e873029", func := "ratchet/ratchetlaw28.TimingRegisters", spec := "timingRegisters", unfollowed := true, recurses := true, apart := false, narrowed := true }
def TimingRegistersUptoSaid : Prop := timingRegistersUptoRow.holds Tryz.pinned (OpenSpec.upto timingRegistersSpec)

end Rows
end Go.Proofs.YtafomlbikcphgaaGreat
