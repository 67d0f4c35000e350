/- The law ConflictOrders: whatever its arguments, it returns true; they read behind the call as before. Nothing else is assumed: ConflictOrders holds for all arguments; no conditions. -/
import Derived.Test.YteecfnfjlclhdaaGreatK5
import Derived.Test.YteecfnfjlclhdaaGreatT2
import Derived.Test.YteecfnfjlclhdaaGreatRows
import Derived.WalkKit
import Derived.ProofKit
import Derived.OpenShut
import Derived.ShutString
import Derived.ChangeOld
import Derived.Below
import Derived.SizedLaws
import Derived.Carry
import Derived.Test.YteecfnfjlclhdaaGreatS12
import Derived.Test.YteecfnfjlclhdaaGreatS11

set_option linter.unusedSimpArgs false
set_option linter.unusedVariables false

/- The law ConflictOrders: whatever its arguments, it returns true; they read behind the call as before. -/
namespace Go.Proofs.YteecfnfjlclhdaaGreat.conflictOrders
open Go Go.ChangeShapes Go.WideShapes Go.ChangeAt Go.RowKit
open Go.ChangeMaps (open_string shut_string)
open Go.Proofs.YteecfnfjlclhdaaGreat.V
set_option linter.unusedVariables false

/-- The shapes of argument 0. -/
def Z2x : List Sh := [.str, .sl 2 true [.str, .int .i64], .sl 5 true [.str, .int .i64, .int .i64, .int .i64, .int .i64], .sl 4 true [.int .i64, .int .i64, .sl 1 false [.int .i64], .int .i64], .sl 3 true [.str, .int .i64, .sl 3 true [.int .i64, .int .i64, .int .i64]], .sl 2 true [.str, .int .i64], .sl 2 true [.int .i64, .sl 1 false [.int .i64]]]
theorem Z6v : shOf Tryz.prog 40 29 = some Z2x := by kernel_rfl
/-- The shapes of argument 1. -/
def Z2w : List Sh := [.sl 1 false [.int .i64]]
theorem Z6u : shOf Tryz.prog 40 46 = some Z2w := by kernel_rfl
/-- What is left to show: in the evaluator. -/
def Pure : Prop := ∀ x0 x1 : List PV, CelL Z2x x0 → CelL Z2w x1 → ∃ s, EE [] Zp [.p (L8 true x0), .p (L8 false x1)] [] = some (.p (.bool true), s)
theorem own : ownKnob Tryz.prog.godebug = none := by kernel_rfl
theorem laidOut : laidOutB Tryz.prog = true := by kernel_rfl
set_option maxRecDepth 100000 in
theorem lifted (hP : Pure) (os : Os) (started : os.Started) (H : Type) (enc : TypeId × Value → H) :
  ReturnsInHanded {} Tryz.checked os 7 .any (Rows.conflictOrdersSpec.pre6 enc Tryz.prog Tryz.f7 Rows.conflictOrdersRow.domain false) (Rows.conflictOrdersSpec.post enc Tryz.prog Tryz.f7 false true false false) := by
 refine returnsInHanded_of_change_sized (C := Tryz.checked) own started (by kernel_rfl) Tryz.func7
  (ChangeSpec.witness6 (enc := enc) (C := Tryz.checked) false ⟨#[], #[.agg #[.string ByteArray.empty, .slice none 0 0, .slice none 0 0, .slice none 0 0, .slice none 0 0, .slice none 0 0, .slice none 0 0], .slice none 0 0], []⟩ 8 (by kernel_rfl) (by kernel_rfl) (by kernel_rfl) (by kernel_rfl)) ?_
 intro W base args ds gs before hval0 hW hcnd hsz0 _
 have hval : ∀ (j : Nat) t v, Tryz.f7.params[j]? = some t → args[j]? = some v → Value.okWide Tryz.prog W .any base t v := hval0
 have hW' := hW
 obtain ⟨p, q, hA0, hV, rfl, hfz, hnd⟩ := hW
 have hA : DataW.TrodAll enc Tryz.prog W 0 (fun _ => true) true Tryz.f7.params.toList args.toList ds p := hA0
 rw [Tryz.params7] at hA hval
 obtain ⟨v0, vs0, d0, ds0, p0, q0, hargs, rfl, rfl, h0, r0⟩ := trodAll_cons hA
 obtain ⟨v1, vs1, d1, ds1, p1, q1, rfl, rfl, rfl, h1, r1⟩ := trodAll_cons r0
 obtain ⟨rfl, rfl, rfl⟩ := trodAll_nil r1
 obtain rfl : args = #[v0, v1] := by cases args; simp_all
 obtain ⟨rfl, rfl⟩ := trodVars_none hV
 have hv0 : (true = true ∧ ∃ cs, v0 = .agg cs) ∨ (true = false ∧ v0.cells = #[v0]) := by obtain ⟨cs, h, _⟩ := okWide_struct Tryz.underlying29 (hval 0 29 v0 rfl rfl); exact .inl ⟨rfl, cs, h⟩
 obtain ⟨x0, c0, y0⟩ := arg_rep h0 Z6v hv0
 have lt0 : ∀ x ∈ p0, x.block < W.heap.size := by obtain ⟨m, hm⟩ := h0; exact DataW.trod_lt m _ _ _ hm
 have hv1 : (false = true ∧ ∃ cs, v1 = .agg cs) ∨ (false = false ∧ v1.cells = #[v1]) := by obtain ⟨a, len, cap, h⟩ := okWide_slice Tryz.underlying46 (hval 1 46 v1 rfl rfl); subst h; exact .inr ⟨rfl, rfl⟩
 obtain ⟨x1, c1, y1⟩ := arg_rep h1 Z6u hv1
 have lt1 : ∀ x ∈ p1, x.block < W.heap.size := by obtain ⟨m, hm⟩ := h1; exact DataW.trod_lt m _ _ _ hm
 obtain ⟨s1, hE⟩ := hP x0 x1 c0 c1
 refine (law_calls (C := EE) (E_ok tabOk orcOk) (k := Zp) (vals := #[v0, v1]) (args := [L8 true x0, L8 false x1]) (by decide) hE rfl (fun i v x hv hx => ?_)).mono fun e W' ⟨he, bel⟩ => ?_
 ·match i, hv, hx with
  | 0, hv, hx => simp only [List.getElem?_toArray, List.getElem?_cons_zero, Option.some.injEq] at hv hx; subst hv; subst hx; exact y0
  | 1, hv, hx => simp only [List.getElem?_toArray, List.getElem?_cons_succ, List.getElem?_cons_zero, Option.some.injEq] at hv hx; subst hv; subst hx; exact y1
 ·subst he
  exact ⟨_, rfl, _, _, _, [], _, [], hW', trodAll_mk1 (shut_bool Tryz.underlying4 _), (trodAll_cons_mk (Below.trod laidOut (by kernel_rfl) (of_decide_eq_true (by kernel_rfl)) h0 bel lt0) (trodAll_cons_mk (Below.trod laidOut (by kernel_rfl) (of_decide_eq_true (by kernel_rfl)) h1 bel lt1) trodAll_mk0)), rfl, bel.frame _, fun h => by cases h⟩
theorem over (hP : Pure) : Rows.conflictOrdersRow.holds Tryz.pinned (OpenSpec.ofChange Rows.conflictOrdersSpec) :=
 OpenClaim.holds_of_wide 7 Tryz.f7 rfl rfl rfl rfl rfl rfl rfl ⟨rfl, rfl, rfl, rfl, rfl⟩ rfl rfl rfl rfl rfl (by kernel_rfl) Tryz.func7 (by kernel_rfl)
  (of_decide_eq_true (by kernel_rfl)) (by unfold Func.isWrapper; first | (rw [if_pos (by decide +kernel)]; kernel_rfl) | (rw [if_neg (by decide +kernel)]; exact ⟨rfl, rfl⟩))
  (fun os started H enc _ => lifted hP os started H enc)
theorem said (hP : Pure) : Rows.ConflictOrdersSaid := over hP
end Go.Proofs.YteecfnfjlclhdaaGreat.conflictOrders

/- Nothing else is assumed: ConflictOrders holds for all arguments; no conditions. -/
namespace Go.Proofs.YteecfnfjlclhdaaGreat.conflictOrders
open Go.Proofs.YteecfnfjlclhdaaGreat.V
theorem cel_row {x : List PV} (h : CelL [.sl 1 false [.int .i64]] x) : ∃ k : List Int, x = [Z2 k] := by
 simp only [CelL] at h
 obtain ⟨a, r1, h1, ca, h2⟩ := h
 subst h2
 obtain ⟨k, rfl, _⟩ := Zhn ca
 exact ⟨k, h1⟩
/-- The law's function, in the evaluator, returns true. -/
theorem pure : Pure := by
 intro x0 x1 h0 h1
 obtain ⟨d, rfl, hi⟩ := cel_des h0
 obtain ⟨rules, rfl⟩ := cel_row h1
 cases hf : fewD d with
 | false => exact ord_few d rules awT hf
 | true =>
  by_cases hl : rules.length ≤ 9
  ·by_cases h2 : (desE d).2 = 0
   ·by_cases h3 : rulsE d rules = 0
    ·exact ord_true d hi rules awT hf hl h2 h3
    ·exact ord_rules d hi rules awT hf hl h2 h3
   ·exact ord_err d hi rules awT hf hl h2
  ·exact ord_many d rules awT hf (by omega)
theorem proved : Rows.ConflictOrdersSaid := said pure
end Go.Proofs.YteecfnfjlclhdaaGreat.conflictOrders
#print axioms Go.Proofs.YteecfnfjlclhdaaGreat.conflictOrders.proved
