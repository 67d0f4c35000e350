/- The law GraphSame: whatever its arguments, it returns true; they read behind the call as before. Nothing else is assumed: GraphSame holds for all arguments; no conditions. -/
import Derived.Test.YtglelclmlkeheabGreatDoorK5
import Derived.Test.YtglelclmlkeheabGreatDoorT2
import Derived.Test.YtglelclmlkeheabGreatDoorRows
import Derived.Test.YtglelclmlkeheabGreatDoorTie
import Derived.Test.YtglelclmlkeheabGreatDoorCards
import Derived.WalkKit
import Derived.ProofKit
import Derived.OpenShut
import Derived.ShutString
import Derived.ChangeOld
import Derived.Below
import Derived.SizedLaws
import Derived.Carry
import Derived.LaidMore
import Derived.Stop.Joined
import Derived.SevenTiedAt
import Derived.Test.YtglelclmlkeheabGreatDoorS3

set_option linter.unusedSimpArgs false
set_option linter.unusedVariables false

/- The law GraphSame: whatever its arguments, it returns true; they read behind the call as before. -/
namespace Go.Proofs.YtglelclmlkeheabGreatDoor.graphSame
open Go Go.ChangeShapes Go.WideShapes Go.ChangeAt Go.RowKit
open Go.ChangeMaps (open_string shut_string)
open Go.Proofs.YtglelclmlkeheabGreatDoor.V
set_option linter.unusedVariables false

/-- The shapes of argument 0. -/
def shGraphSame0 : List Sh := [.sl 1 false [.int .i64]]
theorem shGraphSame0_eq : shOf Tryz.prog 40 22 = some shGraphSame0 := by kernel_rfl
/-- The shapes of argument 1. -/
def shGraphSame1 : List Sh := [.sl 4 true [.int .i64, .int .i64, .sl 1 false [.int .i64], .int .i64]]
theorem shGraphSame1_eq : shOf Tryz.prog 40 23 = some shGraphSame1 := by kernel_rfl
/-- The shapes of argument 2. -/
def shGraphSame2 : List Sh := [.sl 1 false [.int .i64], .sl 1 false [.int .i64]]
theorem shGraphSame2_eq : shOf Tryz.prog 40 25 = some shGraphSame2 := by kernel_rfl
/-- What is left to show: in the evaluator. -/
def Pure : Prop := ∀ x0 x1 x2 : List PV, CelL shGraphSame0 x0 → CelL shGraphSame1 x1 → CelL shGraphSame2 x2 → ∃ s, EE [] n_ratchetlaw02_GraphSame [.p (elemPV false x0), .p (elemPV false x1), .p (elemPV true x2)] [] = some (.p (.bool true), s)
theorem own : ownKnob Tryz.prog.godebug = none := by kernel_rfl
theorem laidOut : laidOutB Tryz.prog = true := by kernel_rfl
theorem door_met (os : Os) (args : Array Value) : laidMetH Tryz.prog Rows.graphSameRow.laid ((World.doorLaid Tryz.prog 400 os).forCall (fun _ _ => 0) ⟨#[], args, []⟩).memory :=
  laidMetH_of_parts3 (fuel := 8) (laidMet_of_run' 8 (by kernel_rfl) (by kernel_rfl)) (by kernel_rfl) (by kernel_rfl)
set_option maxRecDepth 100000 in
theorem lifted (hP : Pure) (os : Os) (started : os.Started) (H : Type) (enc : TypeId × Value → H) :
    ReturnsInHanded {} Tryz.checked os 3 .any (fun w args => (Rows.graphSameSpec.pre enc Tryz.prog Tryz.f3 [] false w args ∧ laidMetH Tryz.prog Rows.graphSameRow.laid w) ∧ sizedMet enc Tryz.prog Tryz.f3 (OpenSpec.ofChange Rows.graphSameSpec) false w args) (Rows.graphSameSpec.post enc Tryz.prog Tryz.f3 false true false false) := by
  refine returnsInHanded_of_change_and (C := Tryz.checked) (X := fun w _ => laidMetH Tryz.prog Rows.graphSameRow.laid w) (fun _ _ _ hh h => h.of_heap hh) own started (by kernel_rfl) Tryz.func3
    (ChangeSpec.witness_shaped (enc := enc) (C := Tryz.checked) (os := os) (X := fun w _ => laidMetH Tryz.prog Rows.graphSameRow.laid w) false (World.doorLaid Tryz.prog 400 os) #[.slice none 0 0, .slice none 0 0, .agg #[.slice none 0 0, .slice none 0 0]] 8 rfl (World.shaped_of_RefB (by kernel_rfl) (by kernel_rfl)) (by kernel_rfl) (by kernel_rfl) (by kernel_rfl) (door_met os _)) ?_
  intro W base args ds gs before hval0 hW hcnd hsz0 hL _
  have hval : ∀ (j : Nat) t v, Tryz.f3.params[j]? = some t → args[j]? = some v → Value.okWide Tryz.prog W .any base t v := hval0
  have hW' := hW
  obtain ⟨p, q, hA0, hV, rfl, hfz, hnd⟩ := hW
  have hA : DataW.TrodAll enc Tryz.prog W 0 (fun _ => true) true Tryz.f3.params.toList args.toList ds p := hA0
  rw [Tryz.params3] at hA hval
  obtain ⟨v0, vs0, d0, ds0, p0, q0, hargs, rfl, rfl, h0, r0⟩ := trodAll_cons hA
  obtain ⟨v1, vs1, d1, ds1, p1, q1, rfl, rfl, rfl, h1, r1⟩ := trodAll_cons r0
  obtain ⟨v2, vs2, d2, ds2, p2, q2, rfl, rfl, rfl, h2, r2⟩ := trodAll_cons r1
  obtain ⟨rfl, rfl, rfl⟩ := trodAll_nil r2
  obtain rfl : args = #[v0, v1, v2] := by cases args; simp_all
  obtain ⟨rfl, rfl⟩ := trodVars_none hV
  have hv0 : (false = true ∧ ∃ cs, v0 = .agg cs) ∨ (false = false ∧ v0.cells = #[v0]) := by obtain ⟨a, len, cap, h⟩ := okWide_slice Tryz.underlying22 (hval 0 22 v0 rfl rfl); subst h; exact .inr ⟨rfl, rfl⟩
  obtain ⟨x0, c0, y0⟩ := arg_rep h0 shGraphSame0_eq hv0
  have lt0 : ∀ x ∈ p0, x.block < W.heap.size := by obtain ⟨m, hm⟩ := h0; exact DataW.trod_lt m _ _ _ hm
  have hv1 : (false = true ∧ ∃ cs, v1 = .agg cs) ∨ (false = false ∧ v1.cells = #[v1]) := by obtain ⟨a, len, cap, h⟩ := okWide_slice Tryz.underlying23 (hval 1 23 v1 rfl rfl); subst h; exact .inr ⟨rfl, rfl⟩
  obtain ⟨x1, c1, y1⟩ := arg_rep h1 shGraphSame1_eq hv1
  have lt1 : ∀ x ∈ p1, x.block < W.heap.size := by obtain ⟨m, hm⟩ := h1; exact DataW.trod_lt m _ _ _ hm
  have hv2 : (true = true ∧ ∃ cs, v2 = .agg cs) ∨ (true = false ∧ v2.cells = #[v2]) := by obtain ⟨cs, h, _⟩ := okWide_struct Tryz.underlying25 (hval 2 25 v2 rfl rfl); exact .inl ⟨rfl, cs, h⟩
  obtain ⟨x2, c2, y2⟩ := arg_rep h2 shGraphSame2_eq hv2
  have lt2 : ∀ x ∈ p2, x.block < W.heap.size := by obtain ⟨m, hm⟩ := h2; exact DataW.trod_lt m _ _ _ hm
  obtain ⟨s1, hE⟩ := hP x0 x1 x2 c0 c1 c2
  refine (law_calls (C := EE) (E_ok tabOk orcOk) (k := n_ratchetlaw02_GraphSame) (vals := #[v0, v1, v2]) (args := [elemPV false x0, elemPV false x1, elemPV true x2]) (by decide) hE rfl (fun i v x hv hx => ?_)).mono fun e W' ⟨he, bel⟩ => ?_
  · match i, hv, hx with
    | 0, hv, hx => simp only [List.getElem?_toArray, List.getElem?_cons_zero, Option.some.injEq] at hv hx; subst hv; subst hx; exact y0
    | 1, hv, hx => simp only [List.getElem?_toArray, List.getElem?_cons_succ, List.getElem?_cons_zero, Option.some.injEq] at hv hx; subst hv; subst hx; exact y1
    | 2, hv, hx => simp only [List.getElem?_toArray, List.getElem?_cons_succ, List.getElem?_cons_zero, Option.some.injEq] at hv hx; subst hv; subst hx; exact y2
  · subst he
    exact ⟨_, rfl, _, _, _, [], _, [], hW', trodAll_mk1 (shut_bool Tryz.underlying4 _), (trodAll_cons_mk (Below.trod laidOut (by kernel_rfl) (of_decide_eq_true (by kernel_rfl)) h0 bel lt0) (trodAll_cons_mk (Below.trod laidOut (by kernel_rfl) (of_decide_eq_true (by kernel_rfl)) h1 bel lt1) (trodAll_cons_mk (Below.trod laidOut (by kernel_rfl) (of_decide_eq_true (by kernel_rfl)) h2 bel lt2) trodAll_mk0))), rfl, bel.frame _, fun h => by cases h⟩
theorem over (hP : Pure) : Rows.graphSameRow.holds Tryz.pinned (OpenSpec.ofChange Rows.graphSameSpec) :=
  OpenClaim.holds_of_wide 3 Tryz.f3 rfl rfl rfl rfl rfl rfl rfl ⟨rfl, rfl, rfl, rfl, rfl⟩ rfl rfl rfl rfl rfl (by kernel_rfl) Tryz.func3 (by kernel_rfl)
    (of_decide_eq_true (by kernel_rfl)) (by unfold Func.isWrapper; first | (rw [if_pos (by decide +kernel)]; kernel_rfl) | (rw [if_neg (by decide +kernel)]; exact ⟨rfl, rfl⟩))
    (fun os started H enc _ => lifted hP os started H enc)
theorem said (hP : Pure) : Rows.GraphSameSaid := over hP
theorem carded (hP : Pure) : Rows.GraphSameCardSaid :=
  Claim7.holds_tied_plain_at .later [] [.data, .data, .data] true (true, "6c8e84bdb02fd4f823d55fd280d7bbd700402c7588e185502f5761acace31258") true
    (said hP) (fun _ h => by cases h) (by kernel_rfl) (fun _ h => by cases h) graphSame_row_tie rfl ⟨rfl, rfl⟩ (by kernel_rfl) rfl
    (fun f fn hf hfn => by
      obtain rfl : f = 3 := Option.some.inj ((show Tryz.prog.funcNamed "ratchet/ratchetlaw02.GraphSame" = some 3 by kernel_rfl).symm.trans hf) |>.symm
      obtain rfl : fn = Tryz.f3 := (Option.some.inj (Tryz.func3.symm.trans hfn)).symm
      exact ⟨by kernel_rfl, fun j t ht => by
        rw [Tryz.params3] at ht
        have hm : t ∈ [22, 23, 25] := by simpa using Array.mem_of_getElem? ht
        have hall : ([22, 23, 25].all fun u => !Tryz.prog.wantsStandIn u) = true := by kernel_rfl
        exact (show Tryz.prog.wantsStandIn t = false by simpa using List.all_eq_true.1 hall t hm)⟩)
    (by kernel_rfl)
end Go.Proofs.YtglelclmlkeheabGreatDoor.graphSame

/- Nothing else is assumed: GraphSame holds for all arguments; no conditions. -/
namespace Go.Proofs.YtglelclmlkeheabGreatDoor.graphSame
open Go.Proofs.YtglelclmlkeheabGreatDoor.V
theorem awake42 : AwakeG [42] := E_of (m := 100) (n := 30) (by kernel_rfl)
theorem cel_look {x : List PV} (h : CelL [.sl 1 false [.int .i64], .sl 1 false [.int .i64]] x) : ∃ a b : List Int, x = [encInts a, encInts b] := by
  simp only [CelL] at h
  obtain ⟨a, r1, h1, ca, b, r2, h2, cb, h3⟩ := h
  subst h3 h2
  obtain ⟨k, rfl, _⟩ := cel_ints ca
  obtain ⟨l, rfl, _⟩ := cel_ints cb
  exact ⟨k, l, h1⟩
/-- The law's function, in the evaluator, returns true. -/
theorem pure : Pure := by
  intro x0 x1 x2 h0 h1 h2
  obtain ⟨leaves, rfl, _, _⟩ := cel_ints1 h0
  obtain ⟨nodes, rfl, _, hn⟩ := cel_nodes1 h1
  obtain ⟨vals, fr, rfl⟩ := cel_look h2
  by_cases h : SamOk leaves nodes vals fr
  · exact ⟨[], same_true leaves nodes vals fr (fun x hx => (hn x hx).2.2.1) awake42 h⟩
  · exact ⟨[], same_few leaves nodes vals fr awake42 h⟩
theorem proved : Rows.GraphSameCardSaid := carded pure
end Go.Proofs.YtglelclmlkeheabGreatDoor.graphSame
#print axioms Go.Proofs.YtglelclmlkeheabGreatDoor.graphSame.proved
