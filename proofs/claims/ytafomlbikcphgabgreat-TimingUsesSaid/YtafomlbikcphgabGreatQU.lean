/- The law TimingUses: whatever its arguments, it returns true; they read behind the call as before. Nothing else is assumed: TimingUses holds for all arguments; no conditions. -/
import Derived.Test.YtafomlbikcphgabGreatK4
import Derived.Test.YtafomlbikcphgabGreatT2
import Derived.Test.YtafomlbikcphgabGreatRows
import Derived.WalkKit
import Derived.ProofKit
import Derived.OpenShut
import Derived.ShutString
import Derived.ChangeOld
import Derived.Below
import Derived.SizedLaws
import Derived.Carry
import Derived.Test.YtafomlbikcphgabGreatS7
import Derived.Test.YtafomlbikcphgabGreatS2

set_option linter.unusedSimpArgs false
set_option linter.unusedVariables false

/- The law TimingUses: whatever its arguments, it returns true; they read behind the call as before. -/
namespace Go.Proofs.YtafomlbikcphgabGreat.timingUses
open Go Go.ChangeShapes Go.WideShapes Go.ChangeAt Go.RowKit
open Go.ChangeMaps (open_string shut_string)
open Go.Proofs.YtafomlbikcphgabGreat.V
set_option linter.unusedVariables false

/-- The shapes of argument 0. -/
def shTimingUses0 : List Sh := [.sl 5 true [.str, .int .i64, .int .i64, .int .i64, .int .i64], .int .i64, .sl 2 true [.int .i64, .sl 1 false [.int .i64]], .sl 1 false [.int .i64], .int .i64, .int .i64, .int .i64, .int .i64, .int .i64]
theorem shTimingUses0_eq : shOf Tryz.prog 40 30 = some shTimingUses0 := by kernel_rfl
/-- The shapes of argument 1. -/
def shTimingUses1 : List Sh := [.sl 1 false [.int .i64]]
theorem shTimingUses1_eq : shOf Tryz.prog 40 24 = some shTimingUses1 := by kernel_rfl
/-- The shapes of argument 2. -/
def shTimingUses2 : List Sh := [.sl 1 false [.int .i64]]
theorem shTimingUses2_eq : shOf Tryz.prog 40 24 = some shTimingUses2 := by kernel_rfl
/-- What is left to show: in the evaluator. -/
def Pure : Prop := ∀ x0 x1 x2 : List PV, CelL shTimingUses0 x0 → CelL shTimingUses1 x1 → CelL shTimingUses2 x2 → ∃ s, EE [] n_ratchetlaw28_TimingUses [.p (elemPV true x0), .p (elemPV false x1), .p (elemPV false x2)] [] = some (.p (.bool true), s)
theorem own : ownKnob Tryz.prog.godebug = none := by kernel_rfl
theorem laidOut : laidOutB Tryz.prog = true := by kernel_rfl
set_option maxRecDepth 100000 in
theorem lifted (hP : Pure) (os : Os) (started : os.Started) (H : Type) (enc : TypeId × Value → H) :
    ReturnsInHanded {} Tryz.checked os 3 .any (Rows.timingUsesSpec.pre6 enc Tryz.prog Tryz.f3 Rows.timingUsesRow.domain false) (Rows.timingUsesSpec.post enc Tryz.prog Tryz.f3 false true false false) := by
  refine returnsInHanded_of_change_sized (C := Tryz.checked) own started (by kernel_rfl) Tryz.func3
    (ChangeSpec.witness6 (enc := enc) (C := Tryz.checked) false ⟨#[], #[.agg #[.slice none 0 0, .int .i64 0, .slice none 0 0, .slice none 0 0, .int .i64 0, .int .i64 0, .int .i64 0, .int .i64 0, .int .i64 0], .slice none 0 0, .slice none 0 0], []⟩ 8 (by kernel_rfl) (by kernel_rfl) (by kernel_rfl) (by kernel_rfl)) ?_
  intro W base args ds gs before hval0 hW hcnd hsz0 _
  have hval : ∀ (j : Nat) t v, Tryz.f3.params[j]? = some t → args[j]? = some v → Value.okWide Tryz.prog W .any base t v := hval0
  have hW' := hW
  obtain ⟨p, q, hA0, hV, rfl, hfz, hnd⟩ := hW
  have hA : DataW.TrodAll enc Tryz.prog W 0 (fun _ => true) true Tryz.f3.params.toList args.toList ds p := hA0
  rw [Tryz.params3] at hA hval
  obtain ⟨v0, vs0, d0, ds0, p0, q0, hargs, rfl, rfl, h0, r0⟩ := trodAll_cons hA
  obtain ⟨v1, vs1, d1, ds1, p1, q1, rfl, rfl, rfl, h1, r1⟩ := trodAll_cons r0
  obtain ⟨v2, vs2, d2, ds2, p2, q2, rfl, rfl, rfl, h2, r2⟩ := trodAll_cons r1
  obtain ⟨rfl, rfl, rfl⟩ := trodAll_nil r2
  obtain rfl : args = #[v0, v1, v2] := by cases args; simp_all
  obtain ⟨rfl, rfl⟩ := trodVars_none hV
  have hv0 : (true = true ∧ ∃ cs, v0 = .agg cs) ∨ (true = false ∧ v0.cells = #[v0]) := by obtain ⟨cs, h, _⟩ := okWide_struct Tryz.underlying30 (hval 0 30 v0 rfl rfl); exact .inl ⟨rfl, cs, h⟩
  obtain ⟨x0, c0, y0⟩ := arg_rep h0 shTimingUses0_eq hv0
  have lt0 : ∀ x ∈ p0, x.block < W.heap.size := by obtain ⟨m, hm⟩ := h0; exact DataW.trod_lt m _ _ _ hm
  have hv1 : (false = true ∧ ∃ cs, v1 = .agg cs) ∨ (false = false ∧ v1.cells = #[v1]) := by obtain ⟨a, len, cap, h⟩ := okWide_slice Tryz.underlying24 (hval 1 24 v1 rfl rfl); subst h; exact .inr ⟨rfl, rfl⟩
  obtain ⟨x1, c1, y1⟩ := arg_rep h1 shTimingUses1_eq hv1
  have lt1 : ∀ x ∈ p1, x.block < W.heap.size := by obtain ⟨m, hm⟩ := h1; exact DataW.trod_lt m _ _ _ hm
  have hv2 : (false = true ∧ ∃ cs, v2 = .agg cs) ∨ (false = false ∧ v2.cells = #[v2]) := by obtain ⟨a, len, cap, h⟩ := okWide_slice Tryz.underlying24 (hval 2 24 v2 rfl rfl); subst h; exact .inr ⟨rfl, rfl⟩
  obtain ⟨x2, c2, y2⟩ := arg_rep h2 shTimingUses2_eq hv2
  have lt2 : ∀ x ∈ p2, x.block < W.heap.size := by obtain ⟨m, hm⟩ := h2; exact DataW.trod_lt m _ _ _ hm
  obtain ⟨s1, hE⟩ := hP x0 x1 x2 c0 c1 c2
  refine (law_calls (C := EE) (E_ok tabOk orcOk) (k := n_ratchetlaw28_TimingUses) (vals := #[v0, v1, v2]) (args := [elemPV true x0, elemPV false x1, elemPV false x2]) (by decide) hE rfl (fun i v x hv hx => ?_)).mono fun e W' ⟨he, bel⟩ => ?_
  · match i, hv, hx with
    | 0, hv, hx => simp only [List.getElem?_toArray, List.getElem?_cons_zero, Option.some.injEq] at hv hx; subst hv; subst hx; exact y0
    | 1, hv, hx => simp only [List.getElem?_toArray, List.getElem?_cons_succ, List.getElem?_cons_zero, Option.some.injEq] at hv hx; subst hv; subst hx; exact y1
    | 2, hv, hx => simp only [List.getElem?_toArray, List.getElem?_cons_succ, List.getElem?_cons_zero, Option.some.injEq] at hv hx; subst hv; subst hx; exact y2
  · subst he
    exact ⟨_, rfl, _, _, _, [], _, [], hW', trodAll_mk1 (shut_bool Tryz.underlying4 _), (trodAll_cons_mk (Below.trod laidOut (by kernel_rfl) (of_decide_eq_true (by kernel_rfl)) h0 bel lt0) (trodAll_cons_mk (Below.trod laidOut (by kernel_rfl) (of_decide_eq_true (by kernel_rfl)) h1 bel lt1) (trodAll_cons_mk (Below.trod laidOut (by kernel_rfl) (of_decide_eq_true (by kernel_rfl)) h2 bel lt2) trodAll_mk0))), rfl, bel.frame _, fun h => by cases h⟩
theorem over (hP : Pure) : Rows.timingUsesRow.holds Tryz.pinned (OpenSpec.ofChange Rows.timingUsesSpec) :=
  OpenClaim.holds_of_wide 3 Tryz.f3 rfl rfl rfl rfl rfl rfl rfl ⟨rfl, rfl, rfl, rfl, rfl⟩ rfl rfl rfl rfl rfl (by kernel_rfl) Tryz.func3 (by kernel_rfl)
    (of_decide_eq_true (by kernel_rfl)) (by unfold Func.isWrapper; first | (rw [if_pos (by decide +kernel)]; kernel_rfl) | (rw [if_neg (by decide +kernel)]; exact ⟨rfl, rfl⟩))
    (fun os started H enc _ => lifted hP os started H enc)
theorem said (hP : Pure) : Rows.TimingUsesSaid := over hP
end Go.Proofs.YtafomlbikcphgabGreat.timingUses

/- Nothing else is assumed: TimingUses holds for all arguments; no conditions. -/
namespace Go.Proofs.YtafomlbikcphgabGreat.timingUses
open Go.Proofs.YtafomlbikcphgabGreat.V
theorem awake23 : Awake [23] := E_of (m := 100) (n := 30) (by kernel_rfl)
/-- The law's function, in the evaluator, returns true. -/
theorem pure : Pure := by
  intro x0 x1 x2 h0 h1 h2
  obtain ⟨l, n, m, rfl, hok⟩ := cel_circ h0
  obtain ⟨ats, rfl, _⟩ := cel_int1 h1
  obtain ⟨path, rfl, _⟩ := cel_int1 h2
  refine ⟨[], ?_⟩
  by_cases hb : fewB l n = true ∧ ats.length ≤ 42 ∧ path.length ≤ 12
  · obtain ⟨hf, h42, h12⟩ := hb
    by_cases hn : netE28 l n = 0
    · by_cases hA : allE l n m = 0
      · by_cases hs : n.placed.length ≤ 9 ∧ ¬ (6 < n.leaves ∧ n.leaves ≤ 10) ∧ (pathsN n 60).length ≤ 60
        · obtain ⟨h9, hm6, hpl⟩ := hs
          by_cases hT : timesE ats n.leaves = 0
          · by_cases h10 : n.leaves ≤ 10
            · exact uses_true l n m ats path hok awake23 hf h42 h12 hA h9 hm6 hpl hT (by omega)
            · exact uses_large l n m ats path hok awake23 hf h42 h12 hA h9 hm6 hpl hT h10
          · exact uses_times l n m ats path hok awake23 hf h42 h12 hA h9 hm6 hpl hT
        · exact uses_many l n m ats path hok awake23 hf h42 h12 hA hs
      · by_cases hm6 : 6 < n.leaves ∧ n.leaves ≤ 10
        · exact uses_mid l n m ats path hok awake23 hf h42 h12 hn hA hm6
        · exact uses_badmodel l n m ats path hok awake23 hf h42 h12 hn hA hm6
    · exact uses_badnet l n m ats path hok awake23 hf h42 h12 hn
  · exact uses_big l n m ats path awake23 hb
theorem proved : Rows.TimingUsesSaid := said pure
end Go.Proofs.YtafomlbikcphgabGreat.timingUses
#print axioms Go.Proofs.YtafomlbikcphgabGreat.timingUses.proved
