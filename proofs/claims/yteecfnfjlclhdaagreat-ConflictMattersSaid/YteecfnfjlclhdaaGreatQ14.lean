/- The law ConflictMatters: whatever its arguments, it returns true; they read behind the call as before. Nothing else is assumed: ConflictMatters holds for all arguments; no conditions. -/
import Derived.Test.YteecfnfjlclhdaaGreatK5
import Derived.Test.YteecfnfjlclhdaaGreatT2
import Derived.Test.YteecfnfjlclhdaaGreatS13
import Derived.Test.YteecfnfjlclhdaaGreatRows
import Derived.WalkKit
import Derived.ProofKit
import Derived.OpenShut
import Derived.ShutString
import Derived.ChangeOld
import Derived.Below
import Derived.SizedLaws
import Derived.Carry
import Derived.Test.YteecfnfjlclhdaaGreatS11

set_option linter.unusedSimpArgs false
set_option linter.unusedVariables false

/- The law ConflictMatters: whatever its arguments, it returns true; they read behind the call as before. -/
namespace Go.Proofs.YteecfnfjlclhdaaGreat.conflictMatters
open Go Go.ChangeShapes Go.WideShapes Go.ChangeAt Go.RowKit
open Go.ChangeMaps (open_string shut_string)
open Go.Proofs.YteecfnfjlclhdaaGreat.V
set_option linter.unusedVariables false

/-- The shapes of argument 0. -/
def Z14 : List Sh := [.str, .sl 2 true [.str, .int .i64], .sl 5 true [.str, .int .i64, .int .i64, .int .i64, .int .i64], .sl 4 true [.int .i64, .int .i64, .sl 1 false [.int .i64], .int .i64], .sl 3 true [.str, .int .i64, .sl 3 true [.int .i64, .int .i64, .int .i64]], .sl 2 true [.str, .int .i64], .sl 2 true [.int .i64, .sl 1 false [.int .i64]]]
theorem Z4w : shOf Tryz.prog 40 29 = some Z14 := by kernel_rfl
/-- The shapes of argument 1. -/
def Z13 : List Sh := [.int .i64, .int .i64]
theorem Z4v : shOf Tryz.prog 40 59 = some Z13 := by kernel_rfl
/-- The shapes of argument 2. -/
def Z12 : List Sh := [.sl 1 false [.int .i64]]
theorem Z4u : shOf Tryz.prog 40 46 = some Z12 := by kernel_rfl
/-- What is left to show: in the evaluator. -/
def Pure : Prop := ∀ x0 x1 x2 : List PV, CelL Z14 x0 → CelL Z13 x1 → CelL Z12 x2 → (∀ (sz : Nat) (nl : Option Bool) (l : List PV), x0[2]? = some (.sl sz nl l) → l.length ≤ reachBytes) → ∃ s, EE [] Zh [.p (Nd true x0), .p (Nd true x1), .p (Nd false x2)] [] = some (.p (.bool true), s)
theorem own : ownKnob Tryz.prog.godebug = none := by kernel_rfl
theorem laidOut : laidOutB Tryz.prog = true := by kernel_rfl
set_option maxRecDepth 100000 in
theorem lifted (hP : Pure) (os : Os) (started : os.Started) (H : Type) (enc : TypeId × Value → H) :
  ReturnsInHanded {} Tryz.checked os 6 .any (Rows.conflictMattersSpec.pre6 enc Tryz.prog Tryz.f6 Rows.conflictMattersRow.domain false) (Rows.conflictMattersSpec.post enc Tryz.prog Tryz.f6 false true false false) := by
 refine returnsInHanded_of_change_sized (C := Tryz.checked) own started (by kernel_rfl) Tryz.func6
  (ChangeSpec.witness6 (enc := enc) (C := Tryz.checked) false ⟨#[], #[.agg #[.string ByteArray.empty, .slice none 0 0, .slice none 0 0, .slice none 0 0, .slice none 0 0, .slice none 0 0, .slice none 0 0], .agg #[.int .i64 0, .int .i64 0], .slice none 0 0], []⟩ 8 (by kernel_rfl) (by kernel_rfl) (by kernel_rfl) (by kernel_rfl)) ?_
 intro W base args ds gs before hval0 hW hcnd hsz0 _
 have hval : ∀ (j : Nat) t v, Tryz.f6.params[j]? = some t → args[j]? = some v → Value.okWide Tryz.prog W .any base t v := hval0
 have hW' := hW
 obtain ⟨p, q, hA0, hV, rfl, hfz, hnd⟩ := hW
 have hA : DataW.TrodAll enc Tryz.prog W 0 (fun _ => true) true Tryz.f6.params.toList args.toList ds p := hA0
 rw [Tryz.params6] at hA hval
 obtain ⟨v0, vs0, d0, ds0, p0, q0, hargs, rfl, rfl, h0, r0⟩ := trodAll_cons hA
 obtain ⟨v1, vs1, d1, ds1, p1, q1, rfl, rfl, rfl, h1, r1⟩ := trodAll_cons r0
 obtain ⟨v2, vs2, d2, ds2, p2, q2, rfl, rfl, rfl, h2, r2⟩ := trodAll_cons r1
 obtain ⟨rfl, rfl, rfl⟩ := trodAll_nil r2
 obtain rfl : args = #[v0, v1, v2] := by cases args; simp_all
 obtain ⟨rfl, rfl⟩ := trodVars_none hV
 have hv0 : (true = true ∧ ∃ cs, v0 = .agg cs) ∨ (true = false ∧ v0.cells = #[v0]) := by obtain ⟨cs, h, _⟩ := okWide_struct Tryz.underlying29 (hval 0 29 v0 rfl rfl); exact .inl ⟨rfl, cs, h⟩
 obtain ⟨x0, c0, y0⟩ := arg_rep h0 Z4w hv0
 have b0 : ∀ (sz : Nat) (nl : Option Bool) (l : List PV), x0[2]? = some (.sl sz nl l) → l.length ≤ reachBytes := fun sz nl l hx =>
  arg_len h0 Tryz.underlying29 (i := 2) rfl Tryz.underlying23 (by kernel_rfl) (of_decide_eq_true (by kernel_rfl)) (fun n hn => of_decide_eq_true (List.all_eq_true.1 hsz0 n (DataW.weights_mem_each (j := 0) (t := 29) (d := d0) rfl rfl n hn))) y0 hx
 have lt0 : ∀ x ∈ p0, x.block < W.heap.size := by obtain ⟨m, hm⟩ := h0; exact DataW.trod_lt m _ _ _ hm
 have hv1 : (true = true ∧ ∃ cs, v1 = .agg cs) ∨ (true = false ∧ v1.cells = #[v1]) := by have h := (hval 1 59 v1 rfl rfl); simp only [Value.okWide, Tryz.underlying59] at h; obtain ⟨cs, h, _⟩ := h; exact .inl ⟨rfl, cs, h⟩
 obtain ⟨x1, c1, y1⟩ := arg_rep h1 Z4v hv1
 have lt1 : ∀ x ∈ p1, x.block < W.heap.size := by obtain ⟨m, hm⟩ := h1; exact DataW.trod_lt m _ _ _ hm
 have hv2 : (false = true ∧ ∃ cs, v2 = .agg cs) ∨ (false = false ∧ v2.cells = #[v2]) := by obtain ⟨a, len, cap, h⟩ := okWide_slice Tryz.underlying46 (hval 2 46 v2 rfl rfl); subst h; exact .inr ⟨rfl, rfl⟩
 obtain ⟨x2, c2, y2⟩ := arg_rep h2 Z4u hv2
 have lt2 : ∀ x ∈ p2, x.block < W.heap.size := by obtain ⟨m, hm⟩ := h2; exact DataW.trod_lt m _ _ _ hm
 obtain ⟨s1, hE⟩ := hP x0 x1 x2 c0 c1 c2 b0
 refine (law_calls (C := EE) (E_ok tabOk orcOk) (k := Zh) (vals := #[v0, v1, v2]) (args := [Nd true x0, Nd true x1, Nd false x2]) (by decide) hE rfl (fun i v x hv hx => ?_)).mono fun e W' ⟨he, bel⟩ => ?_
 ·match i, hv, hx with
  | 0, hv, hx => simp only [List.getElem?_toArray, List.getElem?_cons_zero, Option.some.injEq] at hv hx; subst hv; subst hx; exact y0
  | 1, hv, hx => simp only [List.getElem?_toArray, List.getElem?_cons_succ, List.getElem?_cons_zero, Option.some.injEq] at hv hx; subst hv; subst hx; exact y1
  | 2, hv, hx => simp only [List.getElem?_toArray, List.getElem?_cons_succ, List.getElem?_cons_zero, Option.some.injEq] at hv hx; subst hv; subst hx; exact y2
 ·subst he
  exact ⟨_, rfl, _, _, _, [], _, [], hW', trodAll_mk1 (shut_bool Tryz.underlying4 _), (trodAll_cons_mk (Below.trod laidOut (by kernel_rfl) (of_decide_eq_true (by kernel_rfl)) h0 bel lt0) (trodAll_cons_mk (Below.trod laidOut (by kernel_rfl) (of_decide_eq_true (by kernel_rfl)) h1 bel lt1) (trodAll_cons_mk (Below.trod laidOut (by kernel_rfl) (of_decide_eq_true (by kernel_rfl)) h2 bel lt2) trodAll_mk0))), rfl, bel.frame _, fun h => by cases h⟩
theorem over (hP : Pure) : Rows.conflictMattersRow.holds Tryz.pinned (OpenSpec.ofChange Rows.conflictMattersSpec) :=
 OpenClaim.holds_of_wide 6 Tryz.f6 rfl rfl rfl rfl rfl rfl rfl ⟨rfl, rfl, rfl, rfl, rfl⟩ rfl rfl rfl rfl rfl (by kernel_rfl) Tryz.func6 (by kernel_rfl)
  (of_decide_eq_true (by kernel_rfl)) (by unfold Func.isWrapper; first | (rw [if_pos (by decide +kernel)]; kernel_rfl) | (rw [if_neg (by decide +kernel)]; exact ⟨rfl, rfl⟩))
  (fun os started H enc _ => lifted hP os started H enc)
theorem said (hP : Pure) : Rows.ConflictMattersSaid := over hP
end Go.Proofs.YteecfnfjlclhdaaGreat.conflictMatters

/- Nothing else is assumed: ConflictMatters holds for all arguments; no conditions. -/
namespace Go.Proofs.YteecfnfjlclhdaaGreat.conflictMatters
open Go.Proofs.YteecfnfjlclhdaaGreat.V
theorem cel_row {x : List PV} (h : CelL [.sl 1 false [.int .i64]] x) : ∃ k : List Int, x = [Z1 k] := by
 simp only [CelL] at h
 obtain ⟨a, r1, h1, ca, h2⟩ := h
 subst h2
 obtain ⟨k, rfl, _⟩ := Zi9 ca
 exact ⟨k, h1⟩
theorem cel_pair {x : List PV} (h : CelL [.int .i64, .int .i64] x) : ∃ p q : Int, x = [I p, I q] := by
 simp only [CelL] at h
 obtain ⟨a, r1, h1, ca, b, r2, h2, cb, h3⟩ := h
 subst h3 h2
 obtain ⟨k, rfl, _⟩ := Pq ca
 obtain ⟨l, rfl, _⟩ := Pq cb
 exact ⟨k, l, h1⟩
/-- The law's function, in the evaluator, returns true. -/
theorem pure : Pure := by
 intro x0 x1 x2 h0 h1 h2 hb
 obtain ⟨d, rfl, hi⟩ := cel_des h0
 obtain ⟨a, b, rfl⟩ := cel_pair h1
 obtain ⟨p, rfl⟩ := cel_row h2
 have hel := hb 5 none (d.elements.map Zu) rfl
 have hre := Go.reachBytes_lt
 rw [List.length_map] at hel
 have hany : DesAny d := ⟨hi.name, hi.inN, hi.elN, hi.ruN, hi.ouN, by omega⟩
 cases hf : fewD d with
 | false => exact mts_few d hany a b p awT hf
 | true =>
  have hd := desOk_few hi hf
  by_cases hl : p.length ≤ 20
  ·by_cases h2 : (desE d).2 = 0
   ·by_cases h8 : 8 < sumI (dlv d) ∧ sumI (dlv d) ≤ 12
    ·exact mts_bits d hd a b p awT hf hl h2 h8.1 h8.2
    ·by_cases h3 : pairE d a b = 0
     ·exact mts_ok d hd a b p awT hf hl h2 h8 h3
     ·exact mts_pair d hd a b p awT hf hl h2 h8 h3
   ·exact mts_err d hd a b p awT hf hl h2
  ·exact mts_long d hany a b p awT hf (by omega)
theorem proved : Rows.ConflictMattersSaid := said pure
end Go.Proofs.YteecfnfjlclhdaaGreat.conflictMatters
#print axioms Go.Proofs.YteecfnfjlclhdaaGreat.conflictMatters.proved
