/- The law ConflictEither: whatever its arguments, it returns true; they read behind the call as before. Nothing else is assumed: ConflictEither holds for all arguments; no conditions. -/
import Derived.Test.YteecfnfjlclhdaaGreatK5
import Derived.Test.YteecfnfjlclhdaaGreatT2
import Derived.Test.YteecfnfjlclhdaaGreatRows
import Derived.WalkKit
import Derived.ProofKit
import Derived.OpenShut
import Derived.ShutString
import Derived.ChangeOld
import Derived.Below
import Derived.SizedLaws
import Derived.Carry
import Derived.Test.YteecfnfjlclhdaaGreatS12
import Derived.Test.YteecfnfjlclhdaaGreatS11

set_option linter.unusedSimpArgs false
set_option linter.unusedVariables false

/- The law ConflictEither: whatever its arguments, it returns true; they read behind the call as before. -/
namespace Go.Proofs.YteecfnfjlclhdaaGreat.conflictEither
open Go Go.ChangeShapes Go.WideShapes Go.ChangeAt Go.RowKit
open Go.ChangeMaps (open_string shut_string)
open Go.Proofs.YteecfnfjlclhdaaGreat.V
set_option linter.unusedVariables false

/-- The shapes of argument 0. -/
def Z1c : List Sh := [.str, .sl 2 true [.str, .int .i64], .sl 5 true [.str, .int .i64, .int .i64, .int .i64, .int .i64], .sl 4 true [.int .i64, .int .i64, .sl 1 false [.int .i64], .int .i64], .sl 3 true [.str, .int .i64, .sl 3 true [.int .i64, .int .i64, .int .i64]], .sl 2 true [.str, .int .i64], .sl 2 true [.int .i64, .sl 1 false [.int .i64]]]
theorem shConflictEither0_eq : shOf Tryz.prog 40 29 = some Z1c := by kernel_rfl
/-- The shapes of argument 1. -/
def Z1b : List Sh := [.sl 1 false [.int .i64]]
theorem shConflictEither1_eq : shOf Tryz.prog 40 46 = some Z1b := by kernel_rfl
/-- What is left to show: in the evaluator. -/
def Pure : Prop := ∀ x0 x1 : List PV, CelL Z1c x0 → CelL Z1b x1 → ∃ s, EE [] Zs [.p (Mm true x0), .p (Mm false x1)] [] = some (.p (.bool true), s)
theorem own : ownKnob Tryz.prog.godebug = none := by kernel_rfl
theorem laidOut : laidOutB Tryz.prog = true := by kernel_rfl
set_option maxRecDepth 100000 in
theorem lifted (hP : Pure) (os : Os) (started : os.Started) (H : Type) (enc : TypeId × Value → H) :
    ReturnsInHanded {} Tryz.checked os 4 .any (Rows.conflictEitherSpec.pre6 enc Tryz.prog Tryz.f4 Rows.conflictEitherRow.domain false) (Rows.conflictEitherSpec.post enc Tryz.prog Tryz.f4 false true false false) := by
  refine returnsInHanded_of_change_sized (C := Tryz.checked) own started (by kernel_rfl) Tryz.func4
    (ChangeSpec.witness6 (enc := enc) (C := Tryz.checked) false ⟨#[], #[.agg #[.string ByteArray.empty, .slice none 0 0, .slice none 0 0, .slice none 0 0, .slice none 0 0, .slice none 0 0, .slice none 0 0], .slice none 0 0], []⟩ 8 (by kernel_rfl) (by kernel_rfl) (by kernel_rfl) (by kernel_rfl)) ?_
  intro W base args ds gs before hval0 hW hcnd hsz0 _
  have hval : ∀ (j : Nat) t v, Tryz.f4.params[j]? = some t → args[j]? = some v → Value.okWide Tryz.prog W .any base t v := hval0
  have hW' := hW
  obtain ⟨p, q, hA0, hV, rfl, hfz, hnd⟩ := hW
  have hA : DataW.TrodAll enc Tryz.prog W 0 (fun _ => true) true Tryz.f4.params.toList args.toList ds p := hA0
  rw [Tryz.params4] at hA hval
  obtain ⟨v0, vs0, d0, ds0, p0, q0, hargs, rfl, rfl, h0, r0⟩ := trodAll_cons hA
  obtain ⟨v1, vs1, d1, ds1, p1, q1, rfl, rfl, rfl, h1, r1⟩ := trodAll_cons r0
  obtain ⟨rfl, rfl, rfl⟩ := trodAll_nil r1
  obtain rfl : args = #[v0, v1] := by cases args; simp_all
  obtain ⟨rfl, rfl⟩ := trodVars_none hV
  have hv0 : (true = true ∧ ∃ cs, v0 = .agg cs) ∨ (true = false ∧ v0.cells = #[v0]) := by obtain ⟨cs, h, _⟩ := okWide_struct Tryz.underlying29 (hval 0 29 v0 rfl rfl); exact .inl ⟨rfl, cs, h⟩
  obtain ⟨x0, c0, y0⟩ := arg_rep h0 shConflictEither0_eq hv0
  have lt0 : ∀ x ∈ p0, x.block < W.heap.size := by obtain ⟨m, hm⟩ := h0; exact DataW.trod_lt m _ _ _ hm
  have hv1 : (false = true ∧ ∃ cs, v1 = .agg cs) ∨ (false = false ∧ v1.cells = #[v1]) := by obtain ⟨a, len, cap, h⟩ := okWide_slice Tryz.underlying46 (hval 1 46 v1 rfl rfl); subst h; exact .inr ⟨rfl, rfl⟩
  obtain ⟨x1, c1, y1⟩ := arg_rep h1 shConflictEither1_eq hv1
  have lt1 : ∀ x ∈ p1, x.block < W.heap.size := by obtain ⟨m, hm⟩ := h1; exact DataW.trod_lt m _ _ _ hm
  obtain ⟨s1, hE⟩ := hP x0 x1 c0 c1
  refine (law_calls (C := EE) (E_ok tabOk orcOk) (k := Zs) (vals := #[v0, v1]) (args := [Mm true x0, Mm false x1]) (by decide) hE rfl (fun i v x hv hx => ?_)).mono fun e W' ⟨he, bel⟩ => ?_
  · match i, hv, hx with
    | 0, hv, hx => simp only [List.getElem?_toArray, List.getElem?_cons_zero, Option.some.injEq] at hv hx; subst hv; subst hx; exact y0
    | 1, hv, hx => simp only [List.getElem?_toArray, List.getElem?_cons_succ, List.getElem?_cons_zero, Option.some.injEq] at hv hx; subst hv; subst hx; exact y1
  · subst he
    exact ⟨_, rfl, _, _, _, [], _, [], hW', trodAll_mk1 (shut_bool Tryz.underlying4 _), (trodAll_cons_mk (Below.trod laidOut (by kernel_rfl) (of_decide_eq_true (by kernel_rfl)) h0 bel lt0) (trodAll_cons_mk (Below.trod laidOut (by kernel_rfl) (of_decide_eq_true (by kernel_rfl)) h1 bel lt1) trodAll_mk0)), rfl, bel.frame _, fun h => by cases h⟩
theorem over (hP : Pure) : Rows.conflictEitherRow.holds Tryz.pinned (OpenSpec.ofChange Rows.conflictEitherSpec) :=
  OpenClaim.holds_of_wide 4 Tryz.f4 rfl rfl rfl rfl rfl rfl rfl ⟨rfl, rfl, rfl, rfl, rfl⟩ rfl rfl rfl rfl rfl (by kernel_rfl) Tryz.func4 (by kernel_rfl)
    (of_decide_eq_true (by kernel_rfl)) (by unfold Func.isWrapper; first | (rw [if_pos (by decide +kernel)]; kernel_rfl) | (rw [if_neg (by decide +kernel)]; exact ⟨rfl, rfl⟩))
    (fun os started H enc _ => lifted hP os started H enc)
theorem said (hP : Pure) : Rows.ConflictEitherSaid := over hP
end Go.Proofs.YteecfnfjlclhdaaGreat.conflictEither

/- Nothing else is assumed: ConflictEither holds for all arguments; no conditions. -/
namespace Go.Proofs.YteecfnfjlclhdaaGreat.conflictEither
open Go.Proofs.YteecfnfjlclhdaaGreat.V
theorem cel_row {x : List PV} (h : CelL [.sl 1 false [.int .i64]] x) : ∃ k : List Int, x = [Z3 k] := by
  simp only [CelL] at h
  obtain ⟨a, r1, h1, ca, h2⟩ := h
  subst h2
  obtain ⟨k, rfl, _⟩ := cel_ints ca
  exact ⟨k, h1⟩
/-- The law's function, in the evaluator, returns true. -/
theorem pure : Pure := by
  intro x0 x1 h0 h1
  obtain ⟨d, rfl, hi⟩ := cel_des h0
  obtain ⟨rules, rfl⟩ := cel_row h1
  cases hf : fewD d with
  | false => exact either_few d rules awT hf
  | true =>
    by_cases ho : orE d rules = 0
    · cases hn : ordG d rules.length (sortI rules) [] with
      | none =>
        obtain ⟨c, hc⟩ := noOrd ho hn
        exact either_no d hi rules c awT hf ho hn hc
      | some o => exact either_yes d hi rules o awT hf ho hn (yesOrd ho hn)
    · exact either_err d hi rules awT hf ho
theorem proved : Rows.ConflictEitherSaid := said pure
end Go.Proofs.YteecfnfjlclhdaaGreat.conflictEither
#print axioms Go.Proofs.YteecfnfjlclhdaaGreat.conflictEither.proved
