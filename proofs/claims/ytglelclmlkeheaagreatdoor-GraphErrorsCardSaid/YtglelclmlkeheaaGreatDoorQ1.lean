/- The law GraphErrors: whatever its arguments, it returns true; they read behind the call as before. Nothing else is assumed: GraphErrors holds for all arguments; no conditions. -/
import Derived.Test.YtglelclmlkeheaaGreatDoorK4
import Derived.Test.YtglelclmlkeheaaGreatDoorT2
import Derived.Test.YtglelclmlkeheaaGreatDoorRows
import Derived.Test.YtglelclmlkeheaaGreatDoorTie
import Derived.Test.YtglelclmlkeheaaGreatDoorCards
import Derived.WalkKit
import Derived.ProofKit
import Derived.OpenShut
import Derived.ShutString
import Derived.ChangeOld
import Derived.Below
import Derived.SizedLaws
import Derived.Carry
import Derived.LaidMore
import Derived.Stop.Joined
import Derived.SevenTiedAt
import Derived.Test.YtglelclmlkeheaaGreatDoorS1

set_option linter.unusedSimpArgs false
set_option linter.unusedVariables false

/- The law GraphErrors: whatever its arguments, it returns true; they read behind the call as before. -/
namespace Go.Proofs.YtglelclmlkeheaaGreatDoor.graphErrors
open Go Go.ChangeShapes Go.WideShapes Go.ChangeAt Go.RowKit
open Go.ChangeMaps (open_string shut_string)
open Go.Proofs.YtglelclmlkeheaaGreatDoor.V
set_option linter.unusedVariables false

/-- The shapes of argument 0. -/
def shGraphErrors0 : List Sh := [.sl 1 false [.int .i64]]
theorem shGraphErrors0_eq : shOf Tryz.prog 40 22 = some shGraphErrors0 := by kernel_rfl
/-- The shapes of argument 1. -/
def shGraphErrors1 : List Sh := [.sl 4 true [.int .i64, .int .i64, .sl 1 false [.int .i64], .int .i64]]
theorem shGraphErrors1_eq : shOf Tryz.prog 40 23 = some shGraphErrors1 := by kernel_rfl
/-- What is left to show: in the evaluator. -/
def Pure : Prop := ∀ x0 x1 : List PV, CelL shGraphErrors0 x0 → CelL shGraphErrors1 x1 → ∃ s, EE [] n_ratchetlaw02_GraphErrors [.p (elemPV false x0), .p (elemPV false x1)] [] = some (.p (.bool true), s)
theorem own : ownKnob Tryz.prog.godebug = none := by kernel_rfl
theorem laidOut : laidOutB Tryz.prog = true := by kernel_rfl
theorem door_met (os : Os) (args : Array Value) : laidMetH Tryz.prog Rows.graphErrorsRow.laid ((World.doorLaid Tryz.prog 400 os).forCall (fun _ _ => 0) ⟨#[], args, []⟩).memory :=
  laidMetH_of_parts3 (fuel := 8) (laidMet_of_run' 8 (by kernel_rfl) (by kernel_rfl)) (by kernel_rfl) (by kernel_rfl)
set_option maxRecDepth 100000 in
theorem lifted (hP : Pure) (os : Os) (started : os.Started) (H : Type) (enc : TypeId × Value → H) :
    ReturnsInHanded {} Tryz.checked os 3 .any (fun w args => (Rows.graphErrorsSpec.pre enc Tryz.prog Tryz.f3 [] false w args ∧ laidMetH Tryz.prog Rows.graphErrorsRow.laid w) ∧ sizedMet enc Tryz.prog Tryz.f3 (OpenSpec.ofChange Rows.graphErrorsSpec) false w args) (Rows.graphErrorsSpec.post enc Tryz.prog Tryz.f3 false true false false) := by
  refine returnsInHanded_of_change_and (C := Tryz.checked) (X := fun w _ => laidMetH Tryz.prog Rows.graphErrorsRow.laid w) (fun _ _ _ hh h => h.of_heap hh) own started (by kernel_rfl) Tryz.func3
    (ChangeSpec.witness_shaped (enc := enc) (C := Tryz.checked) (os := os) (X := fun w _ => laidMetH Tryz.prog Rows.graphErrorsRow.laid w) false (World.doorLaid Tryz.prog 400 os) #[.slice none 0 0, .slice none 0 0] 8 rfl (World.shaped_of_RefB (by kernel_rfl) (by kernel_rfl)) (by kernel_rfl) (by kernel_rfl) (by kernel_rfl) (door_met os _)) ?_
  intro W base args ds gs before hval0 hW hcnd hsz0 hL _
  have hval : ∀ (j : Nat) t v, Tryz.f3.params[j]? = some t → args[j]? = some v → Value.okWide Tryz.prog W .any base t v := hval0
  have hW' := hW
  obtain ⟨p, q, hA0, hV, rfl, hfz, hnd⟩ := hW
  have hA : DataW.TrodAll enc Tryz.prog W 0 (fun _ => true) true Tryz.f3.params.toList args.toList ds p := hA0
  rw [Tryz.params3] at hA hval
  obtain ⟨v0, vs0, d0, ds0, p0, q0, hargs, rfl, rfl, h0, r0⟩ := trodAll_cons hA
  obtain ⟨v1, vs1, d1, ds1, p1, q1, rfl, rfl, rfl, h1, r1⟩ := trodAll_cons r0
  obtain ⟨rfl, rfl, rfl⟩ := trodAll_nil r1
  obtain rfl : args = #[v0, v1] := by cases args; simp_all
  obtain ⟨rfl, rfl⟩ := trodVars_none hV
  have hv0 : (false = true ∧ ∃ cs, v0 = .agg cs) ∨ (false = false ∧ v0.cells = #[v0]) := by obtain ⟨a, len, cap, h⟩ := okWide_slice Tryz.underlying22 (hval 0 22 v0 rfl rfl); subst h; exact .inr ⟨rfl, rfl⟩
  obtain ⟨x0, c0, y0⟩ := arg_rep h0 shGraphErrors0_eq hv0
  have lt0 : ∀ x ∈ p0, x.block < W.heap.size := by obtain ⟨m, hm⟩ := h0; exact DataW.trod_lt m _ _ _ hm
  have hv1 : (false = true ∧ ∃ cs, v1 = .agg cs) ∨ (false = false ∧ v1.cells = #[v1]) := by obtain ⟨a, len, cap, h⟩ := okWide_slice Tryz.underlying23 (hval 1 23 v1 rfl rfl); subst h; exact .inr ⟨rfl, rfl⟩
  obtain ⟨x1, c1, y1⟩ := arg_rep h1 shGraphErrors1_eq hv1
  have lt1 : ∀ x ∈ p1, x.block < W.heap.size := by obtain ⟨m, hm⟩ := h1; exact DataW.trod_lt m _ _ _ hm
  obtain ⟨s1, hE⟩ := hP x0 x1 c0 c1
  refine (law_calls (C := EE) (E_ok tabOk orcOk) (k := n_ratchetlaw02_GraphErrors) (vals := #[v0, v1]) (args := [elemPV false x0, elemPV false x1]) (by decide) hE rfl (fun i v x hv hx => ?_)).mono fun e W' ⟨he, bel⟩ => ?_
  · match i, hv, hx with
    | 0, hv, hx => simp only [List.getElem?_toArray, List.getElem?_cons_zero, Option.some.injEq] at hv hx; subst hv; subst hx; exact y0
    | 1, hv, hx => simp only [List.getElem?_toArray, List.getElem?_cons_succ, List.getElem?_cons_zero, Option.some.injEq] at hv hx; subst hv; subst hx; exact y1
  · subst he
    exact ⟨_, rfl, _, _, _, [], _, [], hW', trodAll_mk1 (shut_bool Tryz.underlying4 _), (trodAll_cons_mk (Below.trod laidOut (by kernel_rfl) (of_decide_eq_true (by kernel_rfl)) h0 bel lt0) (trodAll_cons_mk (Below.trod laidOut (by kernel_rfl) (of_decide_eq_true (by kernel_rfl)) h1 bel lt1) trodAll_mk0)), rfl, bel.frame _, fun h => by cases h⟩
theorem over (hP : Pure) : Rows.graphErrorsRow.holds Tryz.pinned (OpenSpec.ofChange Rows.graphErrorsSpec) :=
  OpenClaim.holds_of_wide 3 Tryz.f3 rfl rfl rfl rfl rfl rfl rfl ⟨rfl, rfl, rfl, rfl, rfl⟩ rfl rfl rfl rfl rfl (by kernel_rfl) Tryz.func3 (by kernel_rfl)
    (of_decide_eq_true (by kernel_rfl)) (by unfold Func.isWrapper; first | (rw [if_pos (by decide +kernel)]; kernel_rfl) | (rw [if_neg (by decide +kernel)]; exact ⟨rfl, rfl⟩))
    (fun os started H enc _ => lifted hP os started H enc)
theorem said (hP : Pure) : Rows.GraphErrorsSaid := over hP
theorem carded (hP : Pure) : Rows.GraphErrorsCardSaid :=
  Claim7.holds_tied_plain_at .later [] [.data, .data, .data] true (true, "a5aa11c6cade993a6e8562b8dac9106592a546860d1e85b1082549ac68044a3a") false
    (said hP) (fun _ h => by cases h) (by kernel_rfl) (fun _ h => by cases h) graphErrors_row_tie rfl ⟨rfl, rfl⟩ (by kernel_rfl) rfl
    (fun f fn hf hfn => by
      obtain rfl : f = 3 := Option.some.inj ((show Tryz.prog.funcNamed "ratchet/ratchetlaw02.GraphErrors" = some 3 by kernel_rfl).symm.trans hf) |>.symm
      obtain rfl : fn = Tryz.f3 := (Option.some.inj (Tryz.func3.symm.trans hfn)).symm
      exact ⟨by kernel_rfl, fun j t ht => by
        rw [Tryz.params3] at ht
        have hm : t ∈ [22, 23] := by simpa using Array.mem_of_getElem? ht
        have hall : ([22, 23].all fun u => !Tryz.prog.wantsStandIn u) = true := by kernel_rfl
        exact (show Tryz.prog.wantsStandIn t = false by simpa using List.all_eq_true.1 hall t hm)⟩)
    (by kernel_rfl)
end Go.Proofs.YtglelclmlkeheaaGreatDoor.graphErrors

/- Nothing else is assumed: GraphErrors holds for all arguments; no conditions. -/
namespace Go.Proofs.YtglelclmlkeheaaGreatDoor.graphErrors
open Go.Proofs.YtglelclmlkeheaaGreatDoor.V
theorem law_true (leaves : List Int) (nodes : List Nod) : EE [] n_ratchetlaw02_GraphErrors [.p (encInts leaves), .p (encNodes nodes)] [] = some (.p (.bool true), []) := by
  have hfw := fun π => e_few (π := π) leaves nodes
  have haw : EE [9] n_ratchetlaw02_awake [] [] = some (.p (.bool true), []) := awakeT
  by_cases hf : fewB leaves nodes = true
  · obtain ⟨hl, hn, ha⟩ := few_iff hf
    have hal : ∀ x ∈ nodes, x.args.length ≤ 1000 := fun x hx => by have := ha x hx; omega
    have hci := fun π => e_CopyInts (π := π) (ints leaves) (by simp only [List.length_map, room]; omega)
    have hcn := fun π => e_CopyNodes (π := π) nodes (by omega) hal
    have hch := fun π => e_CheckNodes (π := π) leaves nodes hal
    have hcr := fun π => e_CheckNodesR (π := π) leaves nodes hal
    generalize checkE leaves nodes = q at *
    simp [e_ratchetlaw02_GraphErrors, run_eq, c_ratchetlaw02_GraphErrors, haw, hfw, hf, hci, hcn, fgL_nodesC, hch, hcr, freeze, evRO]
  · have hf : fewB leaves nodes = false := by simpa using hf
    simp [e_ratchetlaw02_GraphErrors, run_eq, c_ratchetlaw02_GraphErrors, haw, hfw, hf, freeze, evRO]
/-- The law's function, in the evaluator, returns true. -/
theorem pure : Pure := by
  intro x0 x1 h0 h1
  obtain ⟨leaves, rfl, _, _⟩ := cel_ints1 h0
  obtain ⟨nodes, rfl, _, _⟩ := cel_nodes1 h1
  exact ⟨[], law_true leaves nodes⟩
theorem proved : Rows.GraphErrorsCardSaid := carded pure
end Go.Proofs.YtglelclmlkeheaaGreatDoor.graphErrors
#print axioms Go.Proofs.YtglelclmlkeheaaGreatDoor.graphErrors.proved
