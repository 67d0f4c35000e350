/- The law TimingSlack: whatever its arguments, it returns true; they read behind the call as before. Nothing else is assumed: TimingSlack holds for all arguments; no conditions. -/
import Derived.Test.YtafomlbikcphgaaK4
import Derived.Test.YtafomlbikcphgaaT2
import Derived.Test.YtafomlbikcphgaaRows
import Derived.WalkKit
import Derived.ProofKit
import Derived.OpenShut
import Derived.ShutString
import Derived.ChangeOld
import Derived.Below
import Derived.SizedLaws
import Derived.Carry
import Derived.Test.YtafomlbikcphgaaS6
import Derived.Test.YtafomlbikcphgaaS2

set_option linter.unusedSimpArgs false
set_option linter.unusedVariables false

/- The law TimingSlack: whatever its arguments, it returns true; they read behind the call as before. -/
namespace Go.Proofs.Ytafomlbikcphgaa.timingSlack
open Go Go.ChangeShapes Go.WideShapes Go.ChangeAt Go.RowKit
open Go.ChangeMaps (open_string shut_string)
open Go.Proofs.Ytafomlbikcphgaa.V
set_option linter.unusedVariables false

/-- The shapes of argument 0. -/
def shTimingSlack0 : List Sh := [.sl 5 true [.str, .int .i64, .int .i64, .int .i64, .int .i64], .int .i64, .sl 2 true [.int .i64, .sl 1 false [.int .i64]], .sl 1 false [.int .i64], .int .i64, .int .i64, .int .i64, .int .i64, .int .i64]
theorem shTimingSlack0_eq : shOf Try.prog 40 30 = some shTimingSlack0 := by kernel_rfl
/-- The shapes of argument 1. -/
def shTimingSlack1 : List Sh := [.sl 1 false [.int .i64]]
theorem shTimingSlack1_eq : shOf Try.prog 40 24 = some shTimingSlack1 := by kernel_rfl
/-- The shapes of argument 2. -/
def shTimingSlack2 : List Sh := [.int .i64, .int .i64]
theorem shTimingSlack2_eq : shOf Try.prog 40 31 = some shTimingSlack2 := by kernel_rfl
/-- What is left to show: in the evaluator. -/
def Pure : Prop := ∀ x0 x1 x2 : List PV, CelL shTimingSlack0 x0 → CelL shTimingSlack1 x1 → CelL shTimingSlack2 x2 → ∃ s, EE [] n_ratchetlaw28_TimingSlack [.p (elemPV true x0), .p (elemPV false x1), .p (elemPV true x2)] [] = some (.p (.bool true), s)
theorem own : ownKnob Try.prog.godebug = none := by kernel_rfl
theorem laidOut : laidOutB Try.prog = true := by kernel_rfl
set_option maxRecDepth 100000 in
theorem lifted (hP : Pure) (os : Os) (started : os.Started) (H : Type) (enc : TypeId × Value → H) :
    ReturnsInHanded {} Try.checked os 3 .any (Rows.timingSlackSpec.pre6 enc Try.prog Try.f3 Rows.timingSlackRow.domain false) (Rows.timingSlackSpec.post enc Try.prog Try.f3 false true false false) := by
  refine returnsInHanded_of_change_sized (C := Try.checked) own started (by kernel_rfl) Try.func3
    (ChangeSpec.witness6 (enc := enc) (C := Try.checked) false ⟨#[], #[.agg #[.slice none 0 0, .int .i64 0, .slice none 0 0, .slice none 0 0, .int .i64 0, .int .i64 0, .int .i64 0, .int .i64 0, .int .i64 0], .slice none 0 0, .agg #[.int .i64 0, .int .i64 0]], []⟩ 8 (by kernel_rfl) (by kernel_rfl) (by kernel_rfl) (by kernel_rfl)) ?_
  intro W base args ds gs before hval0 hW hcnd hsz0 _
  have hval : ∀ (j : Nat) t v, Try.f3.params[j]? = some t → args[j]? = some v → Value.okWide Try.prog W .any base t v := hval0
  have hW' := hW
  obtain ⟨p, q, hA0, hV, rfl, hfz, hnd⟩ := hW
  have hA : DataW.TrodAll enc Try.prog W 0 (fun _ => true) true Try.f3.params.toList args.toList ds p := hA0
  rw [Try.params3] at hA hval
  obtain ⟨v0, vs0, d0, ds0, p0, q0, hargs, rfl, rfl, h0, r0⟩ := trodAll_cons hA
  obtain ⟨v1, vs1, d1, ds1, p1, q1, rfl, rfl, rfl, h1, r1⟩ := trodAll_cons r0
  obtain ⟨v2, vs2, d2, ds2, p2, q2, rfl, rfl, rfl, h2, r2⟩ := trodAll_cons r1
  obtain ⟨rfl, rfl, rfl⟩ := trodAll_nil r2
  obtain rfl : args = #[v0, v1, v2] := by cases args; simp_all
  obtain ⟨rfl, rfl⟩ := trodVars_none hV
  have hv0 : (true = true ∧ ∃ cs, v0 = .agg cs) ∨ (true = false ∧ v0.cells = #[v0]) := by obtain ⟨cs, h, _⟩ := okWide_struct Try.underlying30 (hval 0 30 v0 rfl rfl); exact .inl ⟨rfl, cs, h⟩
  obtain ⟨x0, c0, y0⟩ := arg_rep h0 shTimingSlack0_eq hv0
  have lt0 : ∀ x ∈ p0, x.block < W.heap.size := by obtain ⟨m, hm⟩ := h0; exact DataW.trod_lt m _ _ _ hm
  have hv1 : (false = true ∧ ∃ cs, v1 = .agg cs) ∨ (false = false ∧ v1.cells = #[v1]) := by obtain ⟨a, len, cap, h⟩ := okWide_slice Try.underlying24 (hval 1 24 v1 rfl rfl); subst h; exact .inr ⟨rfl, rfl⟩
  obtain ⟨x1, c1, y1⟩ := arg_rep h1 shTimingSlack1_eq hv1
  have lt1 : ∀ x ∈ p1, x.block < W.heap.size := by obtain ⟨m, hm⟩ := h1; exact DataW.trod_lt m _ _ _ hm
  have hv2 : (true = true ∧ ∃ cs, v2 = .agg cs) ∨ (true = false ∧ v2.cells = #[v2]) := by have h := (hval 2 31 v2 rfl rfl); simp only [Value.okWide, Try.underlying31] at h; obtain ⟨cs, h, _⟩ := h; exact .inl ⟨rfl, cs, h⟩
  obtain ⟨x2, c2, y2⟩ := arg_rep h2 shTimingSlack2_eq hv2
  have lt2 : ∀ x ∈ p2, x.block < W.heap.size := by obtain ⟨m, hm⟩ := h2; exact DataW.trod_lt m _ _ _ hm
  obtain ⟨s1, hE⟩ := hP x0 x1 x2 c0 c1 c2
  refine (law_calls (C := EE) (E_ok tabOk orcOk) (k := n_ratchetlaw28_TimingSlack) (vals := #[v0, v1, v2]) (args := [elemPV true x0, elemPV false x1, elemPV true x2]) (by decide) hE rfl (fun i v x hv hx => ?_)).mono fun e W' ⟨he, bel⟩ => ?_
  · match i, hv, hx with
    | 0, hv, hx => simp only [List.getElem?_toArray, List.getElem?_cons_zero, Option.some.injEq] at hv hx; subst hv; subst hx; exact y0
    | 1, hv, hx => simp only [List.getElem?_toArray, List.getElem?_cons_succ, List.getElem?_cons_zero, Option.some.injEq] at hv hx; subst hv; subst hx; exact y1
    | 2, hv, hx => simp only [List.getElem?_toArray, List.getElem?_cons_succ, List.getElem?_cons_zero, Option.some.injEq] at hv hx; subst hv; subst hx; exact y2
  · subst he
    exact ⟨_, rfl, _, _, _, [], _, [], hW', trodAll_mk1 (shut_bool Try.underlying4 _), (trodAll_cons_mk (Below.trod laidOut (by kernel_rfl) (of_decide_eq_true (by kernel_rfl)) h0 bel lt0) (trodAll_cons_mk (Below.trod laidOut (by kernel_rfl) (of_decide_eq_true (by kernel_rfl)) h1 bel lt1) (trodAll_cons_mk (Below.trod laidOut (by kernel_rfl) (of_decide_eq_true (by kernel_rfl)) h2 bel lt2) trodAll_mk0))), rfl, bel.frame _, fun h => by cases h⟩
theorem over (hP : Pure) : Rows.timingSlackRow.holds Try.pinned (OpenSpec.ofChange Rows.timingSlackSpec) :=
  OpenClaim.holds_of_wide 3 Try.f3 rfl rfl rfl rfl rfl rfl rfl ⟨rfl, rfl, rfl, rfl, rfl⟩ rfl rfl rfl rfl rfl (by kernel_rfl) Try.func3 (by kernel_rfl)
    (of_decide_eq_true (by kernel_rfl)) (by unfold Func.isWrapper; first | (rw [if_pos (by decide +kernel)]; kernel_rfl) | (rw [if_neg (by decide +kernel)]; exact ⟨rfl, rfl⟩))
    (fun os started H enc _ => lifted hP os started H enc)
theorem said (hP : Pure) : Rows.TimingSlackSaid := over hP
end Go.Proofs.Ytafomlbikcphgaa.timingSlack

/- Nothing else is assumed: TimingSlack holds for all arguments; no conditions. -/
namespace Go.Proofs.Ytafomlbikcphgaa.timingSlack
open Go.Proofs.Ytafomlbikcphgaa.V
theorem awake30 : Awake [30] := E_of (m := 100) (n := 30) (by kernel_rfl)
theorem cel_two {x : List PV} (h : CelL [.int .i64, .int .i64] x) : ∃ a b : Int, x = [I a, I b] := by
  simp only [CelL] at h
  obtain ⟨a, r1, h1, ca, b, r2, h2, cb, h3⟩ := h
  subst h3
  obtain ⟨a, rfl⟩ := cel_int ca
  obtain ⟨b, rfl⟩ := cel_int cb
  exact ⟨a, b, by rw [h1, h2]⟩
/-- The law's function, in the evaluator, returns true. -/
theorem pure : Pure := by
  intro x0 x1 x2 h0 h1 h2
  obtain ⟨l, n, m, rfl, hok⟩ := cel_circ h0
  obtain ⟨ats, rfl, hal⟩ := cel_int1 h1
  obtain ⟨t0, t1, rfl⟩ := cel_two h2
  refine ⟨[], ?_⟩
  by_cases hb : fewB l n = true ∧ n.placed.length ≤ 9 ∧ allE l n m = 0 ∧ timesE ats n.leaves = 0 ∧ within t0 0 10000 = true ∧ within t1 0 10000 = true
  · obtain ⟨b1, b2, b3, b4, b5, b6⟩ := hb
    by_cases hp : (pathsN n 200).length ≤ 200 ∧ 0 < (pathsN n 200).length
    · exact slack_fit l n m ats t0 t1 hok awake30 b1 b2 b3 b4 b5 b6 hp.1 hp.2
    · exact slack_none l n m ats t0 t1 hok awake30 hal b1 b2 b3 b4 b5 b6 hp
  · exact slack_big l n m ats t0 t1 hok awake30 hal hb
theorem proved : Rows.TimingSlackSaid := said pure
end Go.Proofs.Ytafomlbikcphgaa.timingSlack
#print axioms Go.Proofs.Ytafomlbikcphgaa.timingSlack.proved
