/-
  No cell of these rows narrows 'for every input' (looked for: loops, veiled, ifaces, maps, wideKeys, modest, calm, conditions, laid).
  DERIVED. THE GIVEN ROWS OF THIS SEAT. 3 by the template 'for every input the law returns true; each argument reads behind the call as it read before'; 0 by the template 'total and deterministic' (their statements: YtafomlbikcphgaaTotals.lean).
  GIVEN WITH THE SEED: the statements are not yours to turn. If you find one false, say at which input.
  Laid BY PROGRAM, IN A SANDBOX (cutbox-rows.mjs): the forced cells as the released guide's own fill.sh prints them over the translation ed23bdb2815cf580… (all of the seat's roots in one cut). By AI agents, Wed Nov 11 2026. No macro, syntax, notation, axiom, sorry.
-/
import Derived.Test.YtafomlbikcphgaaChecked
import GoSem.Claim
import GoSem.ClaimJoined
import GoSem.ClaimMapViews
import Derived.JoinedTies
import Derived.KernelRfl
namespace Go.Proofs.Ytafomlbikcphgaa
/- THE CELL 'sum', in the pinned program and in every row, IS THE sha256 OF THE DUMP (.gsa) THAT YtafomlbikcphgaaProg.lean LOADS. Nothing in Lean hashes anything: it is a label: what it is worth is what the hold of that sum in a sandbox is worth. -/
noncomputable def Try.pinned : Pinned := { name := "ytafomlbikcphgaa", sum := "ed23bdb2815cf58079c36e4e5ed281597840b32ae1501db681de4fa7c3b5e443", checked := Try.checked }
namespace Rows
def none {H : Type} : Left H := { results := [], args := [] }

/-- 'ratchetlaw28.TimingSlack': WHATEVER THE INPUT: true; the input reads as it did. -/
def timingSlackSpec : ChangeSpec := { name := "timingSlack", fn := fun _ => fun
  | [d1, d2, d3] => { results := [.lit (.bool true)], args := [d1, d2, d3] }
  | _ => none }
def timingSlackRow : OpenClaim := { program := "ytafomlbikcphgaa", sum := "ed23bdb2815cf58079c36e4e5ed281597840b32ae1501db681de4fa7c3b5e443", func := "ratchet/ratchetlaw28.TimingSlack", spec := "timingSlack", unfollowed := true, recurses := true, apart := false }
def TimingSlackSaid : Prop := timingSlackRow.holds Try.pinned (OpenSpec.ofChange timingSlackSpec)

/-- ITS FALSE NEIGHBOUR: 'it returns false'. Refute it at one input. -/
def timingSlackWrong : ChangeSpec := { name := "timingSlack", fn := fun _ => fun
  | [d1, d2, d3] => { results := [.lit (.bool false)], args := [d1, d2, d3] }
  | _ => none }
def TimingSlackWrongFalsely : Prop := timingSlackRow.holds Try.pinned (OpenSpec.ofChange timingSlackWrong)

/-- 'ratchetlaw28.TimingSlacks': WHATEVER THE INPUT: true; the input reads as it did. -/
def timingSlacksSpec : ChangeSpec := { name := "timingSlacks", fn := fun _ => fun
  | [d1, d2, d3] => { results := [.lit (.bool true)], args := [d1, d2, d3] }
  | _ => none }
def timingSlacksRow : OpenClaim := { program := "ytafomlbikcphgaa", sum := "ed23bdb2815cf58079c36e4e5ed281597840b32ae1501db681de4fa7c3b5e443", func := "ratchet/ratchetlaw28.TimingSlacks", spec := "timingSlacks", unfollowed := true, recurses := true, apart := false }
def TimingSlacksSaid : Prop := timingSlacksRow.holds Try.pinned (OpenSpec.ofChange timingSlacksSpec)

/-- ITS FALSE NEIGHBOUR: 'it returns false'. Refute it at one input. -/
def timingSlacksWrong : ChangeSpec := { name := "timingSlacks", fn := fun _ => fun
  | [d1, d2, d3] => { results := [.lit (.bool false)], args := [d1, d2, d3] }
  | _ => none }
def TimingSlacksWrongFalsely : Prop := timingSlacksRow.holds Try.pinned (OpenSpec.ofChange timingSlacksWrong)

/-- 'ratchetlaw28.TimingArrives': WHATEVER THE INPUT: true; the input reads as it did. -/
def timingArrivesSpec : ChangeSpec := { name := "timingArrives", fn := fun _ => fun
  | [d1, d2, d3] => { results := [.lit (.bool true)], args := [d1, d2, d3] }
  | _ => none }
def timingArrivesRow : OpenClaim := { program := "ytafomlbikcphgaa", sum := "ed23bdb2815cf58079c36e4e5ed281597840b32ae1501db681de4fa7c3b5e443", func := "ratchet/ratchetlaw28.TimingArrives", spec := "timingArrives", unfollowed := true, recurses := true, apart := false }
def TimingArrivesSaid : Prop := timingArrivesRow.holds Try.pinned (OpenSpec.ofChange timingArrivesSpec)

/-- ITS FALSE NEIGHBOUR: 'it returns false'. Refute it at one input. -/
def timingArrivesWrong : ChangeSpec := { name := "timingArrives", fn := fun _ => fun
  | [d1, d2, d3] => { results := [.lit (.bool false)], args := [d1, d2, d3] }
  | _ => none }
def TimingArrivesWrongFalsely : Prop := timingArrivesRow.holds Try.pinned (OpenSpec.ofChange timingArrivesWrong)

/- THE SECOND FORM. 'bulk': how many values and letters a reading holds, each counted each time it is reached (what is shared counts as often as it is met; a slice's spare places count too). A statement '..UptoSaid' is the law's where the arguments, and the package variables that the reading takes, are together of bulk at most 1048576: NARROWER than '..Said'. Prove '..Said' where nothing that the law and all that it calls make is longer than what came in: it says more and counts as full. Else prove '..UptoSaid'. A law counts once. -/
mutual
def uptoBulk {H : Type} : DataW H → Nat
  | .lit (.string bytes) => bytes.length + 1
  | .lit _ => 1
  | .nil => 1
  | .ptr d => uptoBulk d + 1
  | .slice elems spare => uptoBulkAll elems + uptoBulkAll spare + 1
  | .agg parts => uptoBulkAll parts + 1
  | .iface _ d => uptoBulk d + 1
  | .map entries => uptoBulkEntries entries + 1
  | .held _ => 1
def uptoBulkAll {H : Type} : List (DataW H) → Nat
  | [] => 0
  | d :: r => uptoBulk d + uptoBulkAll r
def uptoBulkEntries {H : Type} : List (Lit × DataW H) → Nat
  | [] => 0
  | x :: r => uptoBulkEntry x + uptoBulkEntries r
def uptoBulkEntry {H : Type} : Lit × DataW H → Nat
  | (.string bytes, d) => bytes.length + uptoBulk d + 1
  | (_, d) => uptoBulk d + 1
 end
def uptoSmall : (H : Type) → List (DataW H) → Bool := fun _ ds => decide (uptoBulkAll ds ≤ 1048576)
def OpenSpec.upto (s : _root_.Go.ChangeSpec) : _root_.Go.OpenSpec := { _root_.Go.OpenSpec.ofChange s with cond := some uptoSmall }

/-- 'ratchetlaw28.TimingSlack', WHERE WHAT IT READS IS OF BULK AT MOST 1048576: true; the input reads as it did. -/
def timingSlackUptoRow : OpenClaim := { program := "ytafomlbikcphgaa", sum := "ed23bdb2815cf58079c36e4e5ed281597840b32ae1501db681de4fa7c3b5e443", func := "ratchet/ratchetlaw28.TimingSlack", spec := "timingSlack", unfollowed := true, recurses := true, apart := false, narrowed := true }
def TimingSlackUptoSaid : Prop := timingSlackUptoRow.holds Try.pinned (OpenSpec.upto timingSlackSpec)

/-- 'ratchetlaw28.TimingSlacks', WHERE WHAT IT READS IS OF BULK AT MOST 1048576: true; the input reads as it did. -/
def timingSlacksUptoRow : OpenClaim := { program := "ytafomlbikcphgaa", sum := "ed23bdb2815cf58079c36e4e5ed281597840b32ae1501db681de4fa7c3b5e443", func := "ratchet/ratchetlaw28.TimingSlacks", spec := "timingSlacks", unfollowed := true, recurses := true, apart := false, narrowed := true }
def TimingSlacksUptoSaid : Prop := timingSlacksUptoRow.holds Try.pinned (OpenSpec.upto timingSlacksSpec)

/-- 'ratchetlaw28.TimingArrives', WHERE WHAT IT READS IS OF BULK AT MOST 1048576: true; the input reads as it did. -/
def timingArrivesUptoRow : OpenClaim := { program := "ytafomlbikcphgaa", sum := "ed23bdb2815cf58079c36e4e5ed281597840b32ae1501db681de4fa7c3b5e443", func := "ratchet/ratchetlaw28.TimingArrives", spec := "timingArrives", unfollowed := true, recurses := true, apart := false, narrowed := true }
def TimingArrivesUptoSaid : Prop := timingArrivesUptoRow.holds Try.pinned (OpenSpec.upto timingArrivesSpec)

end Rows
end Go.Proofs.Ytafomlbikcphgaa
