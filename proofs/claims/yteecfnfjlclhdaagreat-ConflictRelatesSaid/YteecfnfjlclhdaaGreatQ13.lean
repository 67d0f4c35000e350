/- The law ConflictRelates: whatever its arguments, it returns true; they read behind the call as before. Nothing else is assumed: ConflictRelates holds for all arguments; no conditions. -/
import Derived.Test.YteecfnfjlclhdaaGreatK5
import Derived.Test.YteecfnfjlclhdaaGreatT2
import Derived.Test.YteecfnfjlclhdaaGreatRows
import Derived.WalkKit
import Derived.ProofKit
import Derived.OpenShut
import Derived.ShutString
import Derived.ChangeOld
import Derived.Below
import Derived.SizedLaws
import Derived.Carry
import Derived.Test.YteecfnfjlclhdaaGreatS12
import Derived.Test.YteecfnfjlclhdaaGreatS11

set_option linter.unusedSimpArgs false
set_option linter.unusedVariables false

/- The law ConflictRelates: whatever its arguments, it returns true; they read behind the call as before. -/
namespace Go.Proofs.YteecfnfjlclhdaaGreat.conflictRelates
open Go Go.ChangeShapes Go.WideShapes Go.ChangeAt Go.RowKit
open Go.ChangeMaps (open_string shut_string)
open Go.Proofs.YteecfnfjlclhdaaGreat.V
set_option linter.unusedVariables false

/-- The shapes of argument 0. -/
def shConflictRelates0 : List Sh := [.str, .sl 2 true [.str, .int .i64], .sl 5 true [.str, .int .i64, .int .i64, .int .i64, .int .i64], .sl 4 true [.int .i64, .int .i64, .sl 1 false [.int .i64], .int .i64], .sl 3 true [.str, .int .i64, .sl 3 true [.int .i64, .int .i64, .int .i64]], .sl 2 true [.str, .int .i64], .sl 2 true [.int .i64, .sl 1 false [.int .i64]]]
theorem shConflictRelates0_eq : shOf Tryz.prog 40 29 = some shConflictRelates0 := by kernel_rfl
/-- The shapes of argument 1. -/
def shConflictRelates1 : List Sh := [.int .i64]
theorem shConflictRelates1_eq : shOf Tryz.prog 40 3 = some shConflictRelates1 := by kernel_rfl
/-- The shapes of argument 2. -/
def shConflictRelates2 : List Sh := [.int .i64]
theorem shConflictRelates2_eq : shOf Tryz.prog 40 3 = some shConflictRelates2 := by kernel_rfl
/-- What is left to show: in the evaluator. -/
def Pure : Prop := ∀ x0 x1 x2 : List PV, CelL shConflictRelates0 x0 → CelL shConflictRelates1 x1 → CelL shConflictRelates2 x2 → ∃ s, EE [] n_rl16_ConflictRelates [.p (elemPV true x0), .p (elemPV false x1), .p (elemPV false x2)] [] = some (.p (.bool true), s)
theorem own : ownKnob Tryz.prog.godebug = none := by kernel_rfl
theorem laidOut : laidOutB Tryz.prog = true := by kernel_rfl
set_option maxRecDepth 100000 in
theorem lifted (hP : Pure) (os : Os) (started : os.Started) (H : Type) (enc : TypeId × Value → H) :
    ReturnsInHanded {} Tryz.checked os 3 .any (Rows.conflictRelatesSpec.pre6 enc Tryz.prog Tryz.f3 Rows.conflictRelatesRow.domain false) (Rows.conflictRelatesSpec.post enc Tryz.prog Tryz.f3 false true false false) := by
  refine returnsInHanded_of_change_sized (C := Tryz.checked) own started (by kernel_rfl) Tryz.func3
    (ChangeSpec.witness6 (enc := enc) (C := Tryz.checked) false ⟨#[], #[.agg #[.string ByteArray.empty, .slice none 0 0, .slice none 0 0, .slice none 0 0, .slice none 0 0, .slice none 0 0, .slice none 0 0], .int .i64 0, .int .i64 0], []⟩ 8 (by kernel_rfl) (by kernel_rfl) (by kernel_rfl) (by kernel_rfl)) ?_
  intro W base args ds gs before hval0 hW hcnd hsz0 _
  have hval : ∀ (j : Nat) t v, Tryz.f3.params[j]? = some t → args[j]? = some v → Value.okWide Tryz.prog W .any base t v := hval0
  have hW' := hW
  obtain ⟨p, q, hA0, hV, rfl, hfz, hnd⟩ := hW
  have hA : DataW.TrodAll enc Tryz.prog W 0 (fun _ => true) true Tryz.f3.params.toList args.toList ds p := hA0
  rw [Tryz.params3] at hA hval
  obtain ⟨v0, vs0, d0, ds0, p0, q0, hargs, rfl, rfl, h0, r0⟩ := trodAll_cons hA
  obtain ⟨v1, vs1, d1, ds1, p1, q1, rfl, rfl, rfl, h1, r1⟩ := trodAll_cons r0
  obtain ⟨v2, vs2, d2, ds2, p2, q2, rfl, rfl, rfl, h2, r2⟩ := trodAll_cons r1
  obtain ⟨rfl, rfl, rfl⟩ := trodAll_nil r2
  obtain rfl : args = #[v0, v1, v2] := by cases args; simp_all
  obtain ⟨rfl, rfl⟩ := trodVars_none hV
  have hv0 : (true = true ∧ ∃ cs, v0 = .agg cs) ∨ (true = false ∧ v0.cells = #[v0]) := by obtain ⟨cs, h, _⟩ := okWide_struct Tryz.underlying29 (hval 0 29 v0 rfl rfl); exact .inl ⟨rfl, cs, h⟩
  obtain ⟨x0, c0, y0⟩ := arg_rep h0 shConflictRelates0_eq hv0
  have lt0 : ∀ x ∈ p0, x.block < W.heap.size := by obtain ⟨m, hm⟩ := h0; exact DataW.trod_lt m _ _ _ hm
  have hv1 : (false = true ∧ ∃ cs, v1 = .agg cs) ∨ (false = false ∧ v1.cells = #[v1]) := by obtain ⟨a, h⟩ := okWide_int Tryz.underlying3 (hval 1 3 v1 rfl rfl); subst h; exact .inr ⟨rfl, rfl⟩
  obtain ⟨x1, c1, y1⟩ := arg_rep h1 shConflictRelates1_eq hv1
  have lt1 : ∀ x ∈ p1, x.block < W.heap.size := by obtain ⟨m, hm⟩ := h1; exact DataW.trod_lt m _ _ _ hm
  have hv2 : (false = true ∧ ∃ cs, v2 = .agg cs) ∨ (false = false ∧ v2.cells = #[v2]) := by obtain ⟨a, h⟩ := okWide_int Tryz.underlying3 (hval 2 3 v2 rfl rfl); subst h; exact .inr ⟨rfl, rfl⟩
  obtain ⟨x2, c2, y2⟩ := arg_rep h2 shConflictRelates2_eq hv2
  have lt2 : ∀ x ∈ p2, x.block < W.heap.size := by obtain ⟨m, hm⟩ := h2; exact DataW.trod_lt m _ _ _ hm
  obtain ⟨s1, hE⟩ := hP x0 x1 x2 c0 c1 c2
  refine (law_calls (C := EE) (E_ok tabOk orcOk) (k := n_rl16_ConflictRelates) (vals := #[v0, v1, v2]) (args := [elemPV true x0, elemPV false x1, elemPV false x2]) (by decide) hE rfl (fun i v x hv hx => ?_)).mono fun e W' ⟨he, bel⟩ => ?_
  · match i, hv, hx with
    | 0, hv, hx => simp only [List.getElem?_toArray, List.getElem?_cons_zero, Option.some.injEq] at hv hx; subst hv; subst hx; exact y0
    | 1, hv, hx => simp only [List.getElem?_toArray, List.getElem?_cons_succ, List.getElem?_cons_zero, Option.some.injEq] at hv hx; subst hv; subst hx; exact y1
    | 2, hv, hx => simp only [List.getElem?_toArray, List.getElem?_cons_succ, List.getElem?_cons_zero, Option.some.injEq] at hv hx; subst hv; subst hx; exact y2
  · subst he
    exact ⟨_, rfl, _, _, _, [], _, [], hW', trodAll_mk1 (shut_bool Tryz.underlying4 _), (trodAll_cons_mk (Below.trod laidOut (by kernel_rfl) (of_decide_eq_true (by kernel_rfl)) h0 bel lt0) (trodAll_cons_mk (Below.trod laidOut (by kernel_rfl) (of_decide_eq_true (by kernel_rfl)) h1 bel lt1) (trodAll_cons_mk (Below.trod laidOut (by kernel_rfl) (of_decide_eq_true (by kernel_rfl)) h2 bel lt2) trodAll_mk0))), rfl, bel.frame _, fun h => by cases h⟩
theorem over (hP : Pure) : Rows.conflictRelatesRow.holds Tryz.pinned (OpenSpec.ofChange Rows.conflictRelatesSpec) :=
  OpenClaim.holds_of_wide 3 Tryz.f3 rfl rfl rfl rfl rfl rfl rfl ⟨rfl, rfl, rfl, rfl, rfl⟩ rfl rfl rfl rfl rfl (by kernel_rfl) Tryz.func3 (by kernel_rfl)
    (of_decide_eq_true (by kernel_rfl)) (by unfold Func.isWrapper; first | (rw [if_pos (by decide +kernel)]; kernel_rfl) | (rw [if_neg (by decide +kernel)]; exact ⟨rfl, rfl⟩))
    (fun os started H enc _ => lifted hP os started H enc)
theorem said (hP : Pure) : Rows.ConflictRelatesSaid := over hP
end Go.Proofs.YteecfnfjlclhdaaGreat.conflictRelates

/- Nothing else is assumed: ConflictRelates holds for all arguments; no conditions. -/
namespace Go.Proofs.YteecfnfjlclhdaaGreat.conflictRelates
open Go.Proofs.YteecfnfjlclhdaaGreat.V
theorem cel_n {x : List PV} (h : CelL [.int .i64] x) : ∃ n : Int, x = [I n] := by
  simp only [CelL] at h
  obtain ⟨a, r1, h1, ca, h2⟩ := h
  subst h2
  obtain ⟨k, rfl, _⟩ := cel_int ca
  exact ⟨k, h1⟩
/-- The law's function, in the evaluator, returns true. -/
theorem pure : Pure := by
  intro x0 x1 x2 h0 h1 h2
  obtain ⟨d, rfl, hi⟩ := cel_des h0
  obtain ⟨n, rfl⟩ := cel_n h1
  obtain ⟨m, rfl⟩ := cel_n h2
  cases hf : fewD d with
  | true => exact relates_true d hi n m awT hf
  | false => exact relates_few d n m awT hf
theorem proved : Rows.ConflictRelatesSaid := said pure
end Go.Proofs.YteecfnfjlclhdaaGreat.conflictRelates
#print axioms Go.Proofs.YteecfnfjlclhdaaGreat.conflictRelates.proved
