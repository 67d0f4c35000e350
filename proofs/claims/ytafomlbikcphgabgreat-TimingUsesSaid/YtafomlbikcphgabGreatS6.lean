/- All paths, and the greatest one: plain laws. The critical path is the first one of the greatest delay; no path is later than its last point. No path is later than its last point. Cells' outputs. A placed cell's output, where sources have values. The values of all sources; whether a path is used. Whe -/
import Derived.Test.YtafomlbikcphgabGreatS5

set_option linter.unusedSimpArgs false
set_option linter.unusedVariables false

/- All paths, and the greatest one: plain laws. -/
namespace Go.Proofs.YtafomlbikcphgabGreat.V
open Go (IntKind BinOp UnOp)
variable {π ρ κ : Id}

/-! ### All paths, none left out -/
/-- All paths that go on from one. -/
def allIn (g : List Int → List (List Int)) (lv : Int) (path : List Int) (last : Int) : Nat → List Placed → List (List Int)
  | _, [] => []
  | i, p :: r => (if memB p.sources (last + 2) then g (path ++ [lv + i]) else []) ++ allIn g lv path last (i + 1) r
def allF (n : Net) : Nat → List Int → List (List Int)
  | 0, _ => []
  | f + 1, path => (if endB n (path.getLastD 0) then [path] else []) ++ allIn (allF n f) n.leaves path (path.getLastD 0) 0 n.placed

theorem lonIn_ge (g : List Int → List (List Int) → List (List Int)) (hg : ∀ p o, o.length ≤ (g p o).length) (lv : Int) (path : List Int) (last : Int) : ∀ (pl : List Placed) (i : Nat) (out : List (List Int)), out.length ≤ (lonIn g lv path last i pl out).length
  | [], i, out => Nat.le_refl _
  | p :: r, i, out => by
    simp only [lonIn]
    refine Nat.le_trans ?_ (lonIn_ge g hg lv path last r (i + 1) _)
    split
    · exact hg _ _
    · exact Nat.le_refl _
theorem lon_ge (n : Net) (most : Nat) : ∀ (f : Nat) (path : List Int) (out : List (List Int)), out.length ≤ (lon n most f path out).length
  | 0, path, out => Nat.le_refl _
  | f + 1, path, out => by
    simp only [lon]
    split
    · exact Nat.le_refl _
    · refine Nat.le_trans ?_ (lonIn_ge (lon n most f) (lon_ge n most f) _ _ _ _ _ _)
      split <;> simp
theorem lonIn_all (most : Nat) (g : List Int → List (List Int) → List (List Int)) (g' : List Int → List (List Int)) (hge : ∀ p o, o.length ≤ (g p o).length) (hg : ∀ p o, (g p o).length ≤ most → g p o = o ++ g' p) (lv : Int) (path : List Int) (last : Int) :
    ∀ (pl : List Placed) (i : Nat) (out : List (List Int)), (lonIn g lv path last i pl out).length ≤ most → lonIn g lv path last i pl out = out ++ allIn g' lv path last i pl
  | [], i, out, h => by simp [lonIn, allIn]
  | p :: r, i, out, h => by
    simp only [lonIn, allIn] at h ⊢
    have h1 := lonIn_ge g hge lv path last r (i + 1) (if memB p.sources (last + 2) = true then g (path ++ [lv + i]) out else out)
    have ih := lonIn_all most g g' hge hg lv path last r (i + 1) _ h
    have h0 := Nat.le_trans h1 h
    rw [ih]
    split
    · rename_i hb
      rw [if_pos hb] at h0
      rw [hg _ _ h0, List.append_assoc]
    · simp
theorem lon_all (n : Net) (most : Nat) : ∀ (f : Nat) (path : List Int) (out : List (List Int)), (lon n most f path out).length ≤ most → lon n most f path out = out ++ allF n f path
  | 0, path, out, h => by simp [lon, allF]
  | f + 1, path, out, h => by
    simp only [lon, allF] at h ⊢
    split at h
    · omega
    · rename_i hm
      rw [if_neg hm]
      rw [lonIn_all most (lon n most f) (allF n f) (lon_ge n most f) (lon_all n most f) _ _ _ _ _ _ h]
      split <;> simp

/-- All paths from the leaf bits. -/
def allT (n : Net) (f : Nat) : Nat → Nat → List (List Int)
  | 0, _ => []
  | j + 1, p => allF n f [(p : Int)] ++ allT n f j (p + 1)
theorem allP_ge (n : Net) (most f : Nat) : ∀ (j p : Nat) (out : List (List Int)), out.length ≤ (allP n most f j p out).length
  | 0, p, out => Nat.le_refl _
  | j + 1, p, out => Nat.le_trans (lon_ge n most f _ _) (allP_ge n most f j (p + 1) _)
theorem allP_all (n : Net) (most f : Nat) : ∀ (j p : Nat) (out : List (List Int)), (allP n most f j p out).length ≤ most → allP n most f j p out = out ++ allT n f j p
  | 0, p, out, h => by simp [allP, allT]
  | j + 1, p, out, h => by
    simp only [allP, allT] at h ⊢
    have h1 := allP_ge n most f j (p + 1) (lon n most f [(p : Int)] out)
    rw [allP_all n most f j (p + 1) _ h, lon_all n most f _ _ (by omega), List.append_assoc]

/-! ### The first one of the greatest delay -/
def mrg (w : List Int → Int) (b c : Option (List Int)) : Option (List Int) := match b, c with
  | b, none => b
  | none, c => c
  | some b, some c => if w b < w c then some c else some b
theorem mrg_none (w : List Int → Int) (c : Option (List Int)) : mrg w none c = c := by cases c <;> rfl
theorem mrg_assoc (w : List Int → Int) (a b c : Option (List Int)) : mrg w (mrg w a b) c = mrg w a (mrg w b c) := by
  cases a <;> cases b <;> cases c <;> simp only [mrg] <;> try rfl
  · split <;> rfl
  · rename_i a b c
    by_cases h1 : w a < w b <;> by_cases h2 : w b < w c <;> by_cases h3 : w a < w c <;> simp [h1, h2, h3] <;> omega
theorem critLG_mrg (w : List Int → Int) : ∀ (L : List (List Int)) (b : Option (List Int)), critLG w L b = mrg w b (critLG w L none)
  | [], b => by cases b <;> rfl
  | p :: r, none => by rw [mrg_none]
  | p :: r, some b => by
    simp only [critLG]
    rw [critLG_mrg w r (some p), critLG_mrg w r (if w b < w p then some p else some b), ← mrg_assoc]
    rfl
theorem critLG_app (w : List Int → Int) : ∀ (A B : List (List Int)) (b : Option (List Int)), critLG w (A ++ B) b = critLG w B (critLG w A b)
  | [], B, b => rfl
  | p :: r, B, none => critLG_app w r B _
  | p :: r, B, some b => critLG_app w r B _
theorem critLG_join (w : List Int → Int) (A B : List (List Int)) : critLG w (A ++ B) none = mrg w (critLG w A none) (critLG w B none) := by
  rw [critLG_app, critLG_mrg]

/-- The first cell by which a way has a delay. -/
def nextV (lv : Nat) (D R : List Int) (p : Nat) (v : Int) : Nat → List Placed → Option Nat
  | _, [] => none
  | i, c :: r => if p < lv + i ∧ memB c.sources ((p : Int) + 2) = true ∧ R.getD (lv + i) 0 ≠ -1 ∧ D.getD i 0 + R.getD (lv + i) 0 = v then some i else nextV lv D R p v (i + 1) r
theorem nextI_V (lv : Nat) (D R : List Int) (p : Nat) : ∀ (pl : List Placed) (i : Nat), nextI lv D R p i pl = nextV lv D R p (R.getD p 0) i pl
  | [], i => rfl
  | c :: r, i => by simp only [nextI, nextV, nextI_V lv D R p r (i + 1)]

theorem restGo_ge (lv : Nat) (D R : List Int) (p : Nat) : ∀ (pl : List Placed) (i : Nat) (acc : Int), acc ≤ restGo lv D R p i pl acc
  | [], i, acc => Int.le_refl _
  | c :: r, i, acc => by
    simp only [restGo]
    refine Int.le_trans ?_ (restGo_ge lv D R p r (i + 1) _)
    split <;> omega

/-- What is known of the best path so far. -/
def Rel (w : List Int → Int) (w0 : Int) (B : Option (List Int)) (acc : Int) : Prop := match B with
  | none => acc = -1
  | some b => 0 ≤ acc ∧ w b = w0 + acc

theorem best_fold (lv : Nat) (hlv : Int) (hlvE : hlv = lv) (D R : List Int) (w : List Int → Int) (g : List Int → List (List Int)) (P : Nat → List Int) (path : List Int) (p : Nat) (hD : ∀ i, 0 ≤ D.getD i 0) (hR : ∀ q, -1 ≤ R.getD q 0) (N : Nat)
    (hlt : ∀ i (c : Placed), i < N → memB c.sources ((p : Int) + 2) = true → p < lv + i → True)
    (hg : ∀ i, i < N → p < lv + i → critLG w (g (path ++ [hlv + i])) none = if R.getD (lv + i) 0 = -1 then none else some (P i))
    (hP : ∀ i, i < N → p < lv + i → R.getD (lv + i) 0 ≠ -1 → w (P i) = w path + (D.getD i 0 + R.getD (lv + i) 0)) :
    ∀ (pl : List Placed) (i : Nat) (acc : Int) (B : Option (List Int)), i + pl.length ≤ N → (∀ (j : Nat) c, pl[j]? = some c → memB c.sources ((p : Int) + 2) = true → p < lv + (i + j)) → Rel w (w path) B acc →
      Rel w (w path) (mrg w B (critLG w (allIn g hlv path p i pl) none)) (restGo lv D R p i pl acc) ∧
      (restGo lv D R p i pl acc = acc → mrg w B (critLG w (allIn g hlv path p i pl) none) = B) ∧
      (restGo lv D R p i pl acc ≠ acc → ∃ j, nextV lv D R p (restGo lv D R p i pl acc) i pl = some j ∧ mrg w B (critLG w (allIn g hlv path p i pl) none) = some (P j))
  | [], i, acc, B, hN, hm, hrel => by
    have : critLG w (allIn g hlv path p i []) none = none := rfl
    rw [this]
    have e : mrg w B none = B := by cases B <;> rfl
    rw [e]
    exact ⟨hrel, fun _ => rfl, fun h => absurd rfl h⟩
  | c :: r, i, acc, B, hN, hm, hrel => by
    simp only [List.length_cons] at hN
    have hm' : ∀ (j : Nat) c', r[j]? = some c' → memB c'.sources ((p : Int) + 2) = true → p < lv + (i + 1 + j) := fun j c' hc hb => by
      have := hm (j + 1) c' (by simpa using hc) hb
      omega
    simp only [allIn, restGo, nextV]
    rw [critLG_join, ← mrg_assoc]
    by_cases hb : memB c.sources ((p : Int) + 2) = true
    · have hpi : p < lv + i := by have := hm 0 c rfl hb; omega
      rw [if_pos hb, hg i (by omega) hpi]
      by_cases hr : R.getD (lv + i) 0 = -1
      · rw [if_pos hr]
        have e : mrg w B none = B := by cases B <;> rfl
        rw [e]
        simp only [hr, ne_eq, not_true_eq_false, false_and, and_false, if_false]
        exact best_fold lv hlv hlvE D R w g P path p hD hR N hlt hg hP r (i + 1) acc B (by omega) hm' hrel
      · rw [if_neg hr]
        have hPi := hP i (by omega) hpi hr
        have hd := hD i
        have hri := hR (lv + i)
        simp only [hpi, hb, hr, ne_eq, not_false_eq_true, and_self, if_true, true_and]
        by_cases hv : acc < D.getD i 0 + R.getD (lv + i) 0
        · have hmx : max acc (D.getD i 0 + R.getD (lv + i) 0) = D.getD i 0 + R.getD (lv + i) 0 := by omega
          rw [hmx]
          have hB1 : mrg w B (some (P i)) = some (P i) := by
            cases B with
            | none => rfl
            | some b =>
              simp only [Rel] at hrel
              simp only [mrg]
              rw [if_pos (by omega)]
          rw [hB1]
          have hrel1 : Rel w (w path) (some (P i)) (D.getD i 0 + R.getD (lv + i) 0) := ⟨by omega, hPi⟩
          obtain ⟨q1, q2, q3⟩ := best_fold lv hlv hlvE D R w g P path p hD hR N hlt hg hP r (i + 1) _ (some (P i)) (by omega) hm' hrel1
          have hge := restGo_ge lv D R p r (i + 1) (D.getD i 0 + R.getD (lv + i) 0)
          refine ⟨q1, fun h => by omega, fun _ => ?_⟩
          by_cases he : restGo lv D R p (i + 1) r (D.getD i 0 + R.getD (lv + i) 0) = D.getD i 0 + R.getD (lv + i) 0
          · rw [if_pos he.symm]
            exact ⟨i, rfl, q2 he⟩
          · rw [if_neg (Ne.symm he)]
            exact q3 he
        · have hmx : max acc (D.getD i 0 + R.getD (lv + i) 0) = acc := by omega
          rw [hmx]
          have hB1 : mrg w B (some (P i)) = B := by
            cases B with
            | none => simp only [Rel] at hrel; omega
            | some b =>
              simp only [Rel] at hrel
              simp only [mrg]
              rw [if_neg (by omega)]
          rw [hB1]
          obtain ⟨q1, q2, q3⟩ := best_fold lv hlv hlvE D R w g P path p hD hR N hlt hg hP r (i + 1) acc B (by omega) hm' hrel
          have hge := restGo_ge lv D R p r (i + 1) acc
          refine ⟨q1, q2, fun h => ?_⟩
          rw [if_neg (by omega)]
          exact q3 h
    · rw [if_neg hb]
      have e : mrg w B (critLG w [] none) = B := by cases B <;> rfl
      rw [e]
      simp only [hb, false_and, and_false, if_false, Bool.false_eq_true]
      exact best_fold lv hlv hlvE D R w g P path p hD hR N hlt hg hP r (i + 1) acc B (by omega) hm' hrel


end Go.Proofs.YtafomlbikcphgabGreat.V

/- The critical path is the first one of the greatest delay; no path is later than its last point. -/
namespace Go.Proofs.YtafomlbikcphgabGreat.V
open Go (IntKind BinOp UnOp)
variable {π ρ κ : Id}

theorem sumD_app (lv : Int) (D : List Int) : ∀ (a b : List Int) (x : Int), sumD lv D (a ++ b) x = sumD lv D b (sumD lv D a x)
  | [], b, x => rfl
  | p :: r, b, x => sumD_app lv D r b _
theorem along_snoc (n : Net) (D ats path : List Int) (hne : path ≠ []) (i : Nat) : alongN n D ats (path ++ [n.leaves + i]) = alongN n D ats path + D.getD i 0 := by
  cases path with
  | nil => exact absurd rfl hne
  | cons a r =>
    unfold alongN
    simp only [List.cons_append, List.headD_cons, List.drop_succ_cons, List.drop_zero]
    rw [sumD_app]
    simp only [sumD]
    rw [show (n.leaves + (i : Int) - n.leaves).toNat = i by omega]

theorem nextV_in (lv : Nat) (D R : List Int) (p : Nat) (v : Int) : ∀ (pl : List Placed) (i j : Nat), nextV lv D R p v i pl = some j → i ≤ j ∧ j < i + pl.length ∧ R.getD (lv + j) 0 ≠ -1 ∧ D.getD j 0 + R.getD (lv + j) 0 = v
  | [], i, j, h => by simp [nextV] at h
  | c :: r, i, j, h => by
    simp only [nextV] at h
    split at h
    · rename_i hc
      simp at h
      subst h
      simp; exact hc.2.2
    · obtain ⟨h1, h2, h3⟩ := nextV_in lv D R p v r (i + 1) j h
      exact ⟨by omega, by simp; omega, h3⟩

theorem best_path (l : List Cell) (n : Net) (m : Model) (hv : Valid l n m) (ats : List Int) : ∀ (f p : Nat) (path : List Int), path ≠ [] → path.getLastD 0 = p → p < n.leaves.toNat + n.placed.length → n.leaves.toNat + n.placed.length ≤ p + f →
    (critLG (alongN n (delaysN l n m) ats) (allF n f path) none = if (restN l n m).getD p 0 = -1 then none else some (critW n (delaysN l n m) (restN l n m) f p path)) ∧
    ((restN l n m).getD p 0 ≠ -1 → alongN n (delaysN l n m) ats (critW n (delaysN l n m) (restN l n m) f p path) = alongN n (delaysN l n m) ats path + (restN l n m).getD p 0)
  | 0, p, path, hne, hp, h1, h2 => by omega
  | f + 1, p, path, hne, hp, h1, h2 => by
    have hlv0 := hv.lv0
    have hfix := rest_fix n (delaysN l n m) p h1
    have hRb : Bnd (restN l n m) (25400 * ((n.leaves.toNat + n.placed.length : Nat) : Int)) := restL_in n (delaysN l n m) hv.D_ge _
    have hRq := fun q => (hRb.getD (by omega) q).1
    have hR : restN l n m = restL n (delaysN l n m) (n.leaves.toNat + n.placed.length) := rfl
    rw [← hR] at hfix
    have ih : ∀ i, i < n.placed.length → p < n.leaves.toNat + i → (critLG (alongN n (delaysN l n m) ats) (allF n f (path ++ [n.leaves + i])) none = if (restN l n m).getD (n.leaves.toNat + i) 0 = -1 then none else some (critW n (delaysN l n m) (restN l n m) f (n.leaves.toNat + i) (path ++ [n.leaves + i]))) ∧
        ((restN l n m).getD (n.leaves.toNat + i) 0 ≠ -1 → alongN n (delaysN l n m) ats (critW n (delaysN l n m) (restN l n m) f (n.leaves.toNat + i) (path ++ [n.leaves + i])) = alongN n (delaysN l n m) ats (path ++ [n.leaves + i]) + (restN l n m).getD (n.leaves.toNat + i) 0) := fun i hi hpi =>
      best_path l n m hv ats f (n.leaves.toNat + i) (path ++ [n.leaves + i]) (by simp) (by simp; omega) (by omega) (by omega)
    have hDin := hv.D_in
    have hD0 := fun i => (hv.D_ge i).1
    have hsnoc := along_snoc n (delaysN l n m) ats path hne
    simp only [allF, critW]
    rw [critLG_join, hp]
    generalize hw : alongN n (delaysN l n m) ats = w at *
    generalize restN l n m = R at *
    generalize delaysN l n m = D at *
    have hB0 : critLG w (if endB n (p : Int) = true then [path] else []) none = if endB n (p : Int) = true then some path else none := by split <;> rfl
    rw [hB0]
    have hrel0 : Rel w (w path) (if endB n (p : Int) = true then some path else none) (if endB n (p : Int) = true then 0 else -1) := by
      split
      · exact ⟨by omega, by omega⟩
      · exact rfl
    obtain ⟨b1, b2, b3⟩ := best_fold n.leaves.toNat n.leaves (by omega) D R w (allF n f) (fun i => critW n D R f (n.leaves.toNat + i) (path ++ [n.leaves + i])) path p hD0 hRq n.placed.length (fun _ _ _ _ _ => trivial)
      (fun i hi hpi => (ih i hi hpi).1) (fun i hi hpi hr => by rw [(ih i hi hpi).2 hr, hsnoc i]; omega) n.placed 0 (if endB n (p : Int) = true then 0 else -1) (if endB n (p : Int) = true then some path else none) (by omega)
      (fun j c hc hb => by
        have hs := hv.src j c hc _ (memB_iff.1 hb)
        omega) hrel0
    unfold restV at hfix
    rw [← hfix] at b1 b2 b3
    have hge := restGo_ge n.leaves.toNat D R p n.placed 0 (if endB n (p : Int) = true then 0 else -1)
    rw [← hfix] at hge
    generalize mrg w (if endB n (p : Int) = true then some path else none) (critLG w (allIn (allF n f) n.leaves path (p : Int) 0 n.placed) none) = M at *
    by_cases he : R.getD p 0 = if endB n (p : Int) = true then 0 else -1
    · rw [b2 he]
      cases hend : endB n (p : Int) with
      | true =>
        rw [hend] at he
        simp only [if_true] at he
        rw [he]
        simp
      | false =>
        rw [hend] at he
        simp only [Bool.false_eq_true, if_false] at he
        rw [he]
        simp
    · obtain ⟨j, hj, hM⟩ := b3 he
      obtain ⟨_, j2, j3, j4⟩ := nextV_in _ _ _ _ _ _ _ _ hj
      have hdj := (hDin j (by omega)).1
      have hrj := hRq (n.leaves.toNat + j)
      have hpos : 0 < R.getD p 0 := by omega
      have hnm : ¬ R.getD p 0 = -1 := by omega
      rw [if_neg hnm, if_pos hpos, nextI_V, hj, hM]
      refine ⟨rfl, fun _ => ?_⟩
      rw [hM] at b1
      exact b1.2

/-- What is known of the best path and of the best beginning. -/
def RelT (n : Net) (D R ats : List Int) (B : Option (List Int)) (b k : Int) : Prop := match B with
  | none => k = -1
  | some q => 0 ≤ k ∧ ∃ p : Nat, b = p ∧ q = critW n D R (n.leaves.toNat + n.placed.length) p [(p : Int)] ∧ alongN n D ats q = k

theorem best_top (l : List Cell) (n : Net) (m : Model) (hv : Valid l n m) (ats : List Int) (ha : (ats.length : Int) = n.leaves) (hat : ∀ v ∈ ats, 0 ≤ v ∧ v ≤ 1000000) : ∀ (j p : Nat) (b k : Int) (B : Option (List Int)), j + p = n.leaves.toNat → RelT n (delaysN l n m) (restN l n m) ats B b k →
    RelT n (delaysN l n m) (restN l n m) ats (mrg (alongN n (delaysN l n m) ats) B (critLG (alongN n (delaysN l n m) ats) (allT n (n.leaves.toNat + n.placed.length) j p) none)) (critGo (restN l n m) p (ats.drop p) b k).1 (critGo (restN l n m) p (ats.drop p) b k).2
  | 0, p, b, k, B, hj, hrel => by
    have : ats.drop p = [] := List.drop_eq_nil_of_le (by omega)
    rw [this]
    simp only [allT, critGo, critLG]
    have e : mrg (alongN n (delaysN l n m) ats) B none = B := by cases B <;> rfl
    rw [e]
    exact hrel
  | j + 1, p, b, k, B, hj, hrel => by
    have hpl : p < ats.length := by omega
    have hap := hat ats[p] (List.getElem_mem hpl)
    obtain ⟨g1, g2⟩ := best_path l n m hv ats (n.leaves.toNat + n.placed.length) p [(p : Int)] (by simp) rfl (by omega) (by omega)
    have hRb : Bnd (restN l n m) (25400 * ((n.leaves.toNat + n.placed.length : Nat) : Int)) := restL_in n (delaysN l n m) hv.D_ge _
    have hRq := (hRb.getD (by omega) p).1
    have hw0 : alongN n (delaysN l n m) ats [(p : Int)] = ats[p] := by simp [alongN, sumD, hpl]
    rw [hw0] at g2
    have ih := best_top l n m hv ats ha hat j (p + 1)
    rw [List.drop_eq_getElem_cons hpl]
    simp only [allT, critGo]
    rw [critLG_join, ← mrg_assoc, g1]
    generalize hw : alongN n (delaysN l n m) ats = w at *
    by_cases hr : (restN l n m).getD p 0 = -1
    · have e : mrg w B none = B := by cases B <;> rfl
      rw [if_pos hr, e, if_neg (fun h => h.1 hr)]
      exact ih b k B (by omega) hrel
    · rw [if_neg hr]
      have g2 := g2 hr
      by_cases hc : k < ats[p] + (restN l n m).getD p 0
      · rw [if_pos ⟨hr, hc⟩]
        have e : mrg w B (some (critW n (delaysN l n m) (restN l n m) (n.leaves.toNat + n.placed.length) p [(p : Int)])) = some (critW n (delaysN l n m) (restN l n m) (n.leaves.toNat + n.placed.length) p [(p : Int)]) := by
          cases B with
          | none => rfl
          | some q =>
            obtain ⟨_, p', _, _, r4⟩ := hrel
            rw [hw] at r4
            simp only [mrg]
            rw [if_pos (by omega)]
        rw [e]
        exact ih _ _ _ (by omega) ⟨by omega, p, rfl, rfl, by rw [hw]; exact g2⟩
      · rw [if_neg (fun h => hc h.2)]
        have e : mrg w B (some (critW n (delaysN l n m) (restN l n m) (n.leaves.toNat + n.placed.length) p [(p : Int)])) = B := by
          cases B with
          | none => simp only [RelT] at hrel; omega
          | some q =>
            obtain ⟨_, p', _, _, r4⟩ := hrel
            rw [hw] at r4
            simp only [mrg]
            rw [if_neg (by omega)]
        rw [e]
        exact ih b k B (by omega) hrel

/-- **The critical path.** -/
theorem crit_best (l : List Cell) (n : Net) (m : Model) (hv : Valid l n m) (ats : List Int) (ha : (ats.length : Int) = n.leaves) (hat : ∀ v ∈ ats, 0 ≤ v ∧ v ≤ 1000000) (most : Nat) (hm : (pathsN n most).length ≤ most) :
    ((critB l n m ats).2 = -1 → critLG (alongN n (delaysN l n m) ats) (pathsN n most) none = none) ∧
    ((critB l n m ats).2 ≠ -1 → critLG (alongN n (delaysN l n m) ats) (pathsN n most) none = some (critP l n m ats) ∧ alongN n (delaysN l n m) ats (critP l n m ats) = (critB l n m ats).2) := by
  have hall : pathsN n most = allT n (n.leaves.toNat + n.placed.length) n.leaves.toNat 0 := by
    have := allP_all n most (n.leaves.toNat + n.placed.length) n.leaves.toNat 0 [] hm
    simpa [pathsN] using this
  have ht := best_top l n m hv ats ha hat n.leaves.toNat 0 0 (-1) none (by omega) rfl
  rw [mrg_none, List.drop_zero, ← hall] at ht
  unfold critP
  unfold critB at *
  generalize critGo (restN l n m) 0 ats 0 (-1) = bk at *
  generalize critLG (alongN n (delaysN l n m) ats) (pathsN n most) none = Z at *
  refine ⟨fun h => ?_, fun h => ?_⟩
  · cases Z with
    | none => rfl
    | some q => have := ht.1; omega
  · cases Z with
    | none => exact absurd ht h
    | some q =>
      obtain ⟨_, p, r2, r3, r4⟩ := ht
      rw [r2, Int.toNat_natCast]
      refine ⟨by rw [r3], ?_⟩
      rw [← r3]; exact r4

end Go.Proofs.YtafomlbikcphgabGreat.V

/- No path is later than its last point. -/
namespace Go.Proofs.YtafomlbikcphgabGreat.V
open Go (IntKind BinOp UnOp)
variable {π ρ κ : Id}

theorem lat_ge (cur : List Int) : ∀ (src : List Int) (a : Int), a ≤ lat cur src a
  | [], a => Int.le_refl _
  | s :: r, a => by
    simp only [lat]
    split
    · split
      · refine Int.le_trans ?_ (lat_ge cur r _); omega
      · exact lat_ge cur r a
    · exact lat_ge cur r a
theorem lat_mem (cur : List Int) : ∀ (src : List Int) (a s : Int), s ∈ src → 2 ≤ s → cur.getD (s - 2).toNat 0 ≤ lat cur src a
  | [], a, s, h, _ => by cases h
  | t :: r, a, s, h, h2 => by
    simp only [lat]
    rcases List.mem_cons.1 h with rfl | h
    · rw [if_pos h2]
      split
      · exact lat_ge cur r _
      · refine Int.le_trans ?_ (lat_ge cur r _); omega
    · split
      · exact lat_mem cur r _ s h h2
      · exact lat_mem cur r _ s h h2

theorem arr_fix (l : List Cell) (n : Net) (m : Model) (hv : Valid l n m) (ats : List Int) (ha : (ats.length : Int) = n.leaves) (j : Nat) (c : Placed) (hc : n.placed[j]? = some c) :
    (arrN l n m ats).getD (n.leaves.toNat + j) 0 = lat ((arrN l n m ats).take (n.leaves.toNat + j)) c.sources 0 + (delaysN l n m).getD j 0 := by
  have hg := arrGo_get (delaysN l n m) n.placed 0 j c ats hc
  rw [show ats.length = n.leaves.toNat by omega, Nat.zero_add] at hg
  rw [List.getD, arrN, hg]; rfl
theorem arr_leaf (l : List Cell) (n : Net) (m : Model) (ats : List Int) (p : Nat) (hp : p < ats.length) : (arrN l n m ats).getD p 0 = ats.getD p 0 := by
  obtain ⟨t, ht⟩ := arrGo_prefix (delaysN l n m) 0 n.placed ats
  rw [arrN, ht, List.getD, List.getElem?_append_left hp]; rfl

/-- A path that is not later than its last point. -/
structure PGood (l : List Cell) (n : Net) (m : Model) (ats path : List Int) : Prop where
  ne : path ≠ []
  h0 : 0 ≤ path.headD 0 ∧ path.headD 0 < n.leaves
  cs : ∀ p ∈ path.drop 1, n.leaves ≤ p ∧ p < n.leaves + n.placed.length
  l0 : 0 ≤ path.getLastD 0 ∧ path.getLastD 0 < n.leaves + n.placed.length
  le : alongN n (delaysN l n m) ats path ≤ (arrN l n m ats).getD (path.getLastD 0).toNat 0

theorem PGood.step {l : List Cell} {n : Net} {m : Model} (hv : Valid l n m) {ats path : List Int} (ha : (ats.length : Int) = n.leaves) (h : PGood l n m ats path) (j : Nat) (c : Placed) (hc : n.placed[j]? = some c) (hb : memB c.sources (path.getLastD 0 + 2) = true) : PGood l n m ats (path ++ [n.leaves + j]) := by
  have hlv0 := hv.lv0
  have hjl : j < n.placed.length := (List.getElem?_eq_some_iff.1 hc).1
  have hne := h.ne
  have h0 := h.h0
  have hcs := h.cs
  have hl0 := h.l0
  have hle := h.le
  have e : (path ++ [n.leaves + (j : Int)]).getLastD 0 = n.leaves + j := by simp
  refine ⟨by simp, ?_, ?_, ?_, ?_⟩
  · cases path with
    | nil => exact absurd rfl hne
    | cons a r => simpa using h0
  · intro p hp
    cases path with
    | nil => exact absurd rfl hne
    | cons a r =>
      simp only [List.cons_append, List.drop_succ_cons, List.drop_zero, List.mem_append, List.mem_singleton] at hp
      rcases hp with hp | rfl
      · exact hcs p (by simpa using hp)
      · omega
  · rw [e]; omega
  · rw [e, along_snoc n _ ats path hne, show (n.leaves + (j : Int)).toNat = n.leaves.toNat + j by omega, arr_fix l n m hv ats ha j c hc]
    have hs := hv.src j c hc _ (memB_iff.1 hb)
    have hm := lat_mem ((arrN l n m ats).take (n.leaves.toNat + j)) c.sources 0 (path.getLastD 0 + 2) (memB_iff.1 hb) (by omega)
    rw [show path.getLastD 0 + 2 - 2 = path.getLastD 0 by omega, List.getD, List.getElem?_take_of_lt (by omega)] at hm
    rw [List.getD] at hle
    omega

theorem allIn_mem (g : List Int → List (List Int)) (lv : Int) (path : List Int) (last : Int) (q : List Int) : ∀ (pl : List Placed) (i : Nat), q ∈ allIn g lv path last i pl → ∃ (j : Nat) (c : Placed), pl[j]? = some c ∧ memB c.sources (last + 2) = true ∧ q ∈ g (path ++ [lv + ((i + j : Nat) : Int)])
  | [], i, h => by simp [allIn] at h
  | c :: r, i, h => by
    simp only [allIn, List.mem_append] at h
    rcases h with h | h
    · split at h
      · rename_i hb
        exact ⟨0, c, rfl, hb, h⟩
      · cases h
    · obtain ⟨j, c', h1, h2, h3⟩ := allIn_mem g lv path last q r (i + 1) h
      exact ⟨j + 1, c', by simpa using h1, h2, by rw [show i + (j + 1) = i + 1 + j by omega]; exact h3⟩

theorem allF_good {l : List Cell} {n : Net} {m : Model} (hv : Valid l n m) {ats : List Int} (ha : (ats.length : Int) = n.leaves) : ∀ (f : Nat) (path : List Int), PGood l n m ats path → path.length + f ≤ 500 → ∀ q ∈ allF n f path, PGood l n m ats q ∧ q.length ≤ 500
  | 0, path, h, hl, q, hq => by simp [allF] at hq
  | f + 1, path, h, hl, q, hq => by
    simp only [allF, List.mem_append] at hq
    rcases hq with hq | hq
    · split at hq
      · rw [List.mem_singleton] at hq
        subst hq
        exact ⟨h, by omega⟩
      · cases hq
    · obtain ⟨j, c, h1, h2, h3⟩ := allIn_mem _ _ _ _ _ _ _ hq
      rw [Nat.zero_add] at h3
      exact allF_good hv ha f _ (h.step hv ha j c h1 h2) (by simp; omega) q h3

theorem allT_good {l : List Cell} {n : Net} {m : Model} (hv : Valid l n m) {ats : List Int} (ha : (ats.length : Int) = n.leaves) : ∀ (j p : Nat), j + p = n.leaves.toNat → ∀ q ∈ allT n (n.leaves.toNat + n.placed.length) j p, PGood l n m ats q ∧ q.length ≤ 500
  | 0, p, hj, q, hq => by simp [allT] at hq
  | j + 1, p, hj, q, hq => by
    have hlv0 := hv.lv0
    have hlv1 := hv.lv1
    have hnp := hv.np
    simp only [allT, List.mem_append] at hq
    rcases hq with hq | hq
    · have hpl : p < ats.length := by omega
      refine allF_good hv ha _ _ ⟨by simp, by simp; omega, by simp, by simp; omega, ?_⟩ (by simp; omega) q hq
      have hg : ([(p : Int)] : List Int).getLastD 0 = p := rfl
      rw [hg, Int.toNat_natCast, arr_leaf l n m ats p hpl]
      simp [alongN, sumD]
    · exact allT_good hv ha j (p + 1) (by omega) q hq

theorem paths_good {l : List Cell} {n : Net} {m : Model} (hv : Valid l n m) {ats : List Int} (ha : (ats.length : Int) = n.leaves) {most : Nat} (hm : (pathsN n most).length ≤ most) : ∀ q ∈ pathsN n most, PGood l n m ats q ∧ q.length ≤ 500 := by
  have hall : pathsN n most = allT n (n.leaves.toNat + n.placed.length) n.leaves.toNat 0 := by
    have := allP_all n most (n.leaves.toNat + n.placed.length) n.leaves.toNat 0 [] hm
    simpa [pathsN] using this
  rw [hall]
  exact allT_good hv ha n.leaves.toNat 0 (by omega)
theorem PGood.pathIn {l : List Cell} {n : Net} {m : Model} {ats q : List Int} (h : PGood l n m ats q) (hl : q.length ≤ 500) : PathIn n q := ⟨h.ne, h.h0, h.cs, by omega⟩

end Go.Proofs.YtafomlbikcphgabGreat.V

/- Cells' outputs. -/
namespace Go.Proofs.YtafomlbikcphgabGreat.V
open Go (IntKind BinOp UnOp)
variable {π ρ κ : Id}

theorem pow_cast (k : Nat) : ((2 ^ k : Nat) : Int) = (2 : Int) ^ k := by simp
theorem pow_ok {k : Nat} (h : k ≤ 61) : ok64 ((2 : Int) ^ k) := by
  rw [← pow_cast]
  have h1 : 2 ^ k ≤ 2 ^ 61 := Nat.pow_le_pow_right (by omega) h
  have h2 : 0 < 2 ^ k := Nat.pow_pos (by omega)
  have h3 : (2 : Nat) ^ 61 = 2305843009213693952 := by decide
  rw [h3] at h1
  constructor <;> omega
theorem pow_pos' (k : Nat) : (0 : Int) < 2 ^ k := by rw [← pow_cast]; have := Nat.pow_pos (n := k) (show 0 < 2 by omega); omega

theorem e_Pow (n : Int) (h0 : 0 ≤ n) (h1 : n ≤ 60) : EE π n_ratchetbase_Power [.p (I n)] [] = some (.p (I (2 ^ n.toNat)), []) := by
  have hlt : ¬ n < 0 := by omega
  have hm : min n.toNat 64 = n.toNat := by omega
  have hw : IntKind.i64.wrap (2 ^ n.toNat) = 2 ^ n.toNat := w64 (pow_ok (by omega))
  simp [e_ratchetbase_Power, run_eq, c_ratchetbase_Power, hlt, IntKind.bits, hm, hw]

/-- Bits as a number, the first one is the lowest. -/
def numG : Nat → List Int → Int → Int
  | _, [], a => a
  | i, v :: r, a => numG (i + 1) r (a + v * 2 ^ i)
def bits01 (vs : List Int) : Prop := ∀ v ∈ vs, v = 0 ∨ v = 1

theorem numG_step {i : Nat} {v a : Int} (hv : v = 0 ∨ v = 1) (h0 : 0 ≤ a) (h1 : a < 2 ^ i) : 0 ≤ a + v * 2 ^ i ∧ a + v * 2 ^ i < 2 ^ (i + 1) := by
  have hp := pow_pos' i
  have hs : (2 : Int) ^ (i + 1) = 2 ^ i * 2 := by rw [Int.pow_succ]
  rw [hs]
  rcases hv with rfl | rfl <;> omega

theorem numG_in : ∀ (vs : List Int) (i : Nat) (a : Int), bits01 vs → 0 ≤ a → a < 2 ^ i → 0 ≤ numG i vs a ∧ numG i vs a < 2 ^ (i + vs.length)
  | [], i, a, _, h0, h1 => ⟨h0, h1⟩
  | v :: r, i, a, hb, h0, h1 => by
    obtain ⟨g0, g1⟩ := numG_step (hb v (List.mem_cons_self ..)) h0 h1
    have := numG_in r (i + 1) (a + v * 2 ^ i) (fun x hx => hb x (List.mem_cons_of_mem _ hx)) g0 g1
    simp only [numG, List.length_cons]
    rw [show i + (r.length + 1) = i + 1 + r.length by omega]
    exact this

theorem number_loop (vs : List Int) (hl : vs.length ≤ 40) (hb : bits01 vs) : ∀ (suf pre : List Int) (a : Int) (x : Env × Sto), vs = pre ++ suf → 0 ≤ a → a < 2 ^ pre.length →
    mask [0, 3, 4] [] x = some ([(0, .p (encInts vs)), (3, .p (I a)), (4, .p (I pre.length))], []) →
    kpO [3] [2] [] (bkO 0 (iter (round EE iter π [] [0, 3, 4] c_ratchetref04_Number_L0) x)) = some (.nm, [(3, .p (I (numG pre.length suf a)))], [])
  | [], pre, a, x, h, h0, h1, hm => by
    rw [loop_eq hm]
    have : vs = pre := by simpa using h
    simp [u_ratchetref04_Number_L0, b_ratchetref04_Number_L0, ← this, numG]
  | y :: suf, pre, a, x, h, h0, h1, hm => by
    rw [loop_eq hm]
    have hlen : pre.length < vs.length := by rw [h]; simp
    have hy := hb y (by rw [h]; simp)
    have hp := fun π => e_Pow (π := π) (pre.length : Int) (by omega) (by omega)
    rw [Int.toNat_natCast] at hp
    obtain ⟨g0, g1⟩ := numG_step hy h0 h1
    have hok := pow_ok (k := pre.length + 1) (by omega)
    have hok0 := pow_ok (k := pre.length) (by omega)
    have hpp := pow_pos' pre.length
    have hw1 : IntKind.i64.wrap (y * 2 ^ pre.length) = y * 2 ^ pre.length := w64 (by rcases hy with rfl | rfl <;> simp only [Int.zero_mul, Int.one_mul] <;> first | exact hok0 | exact ⟨by omega, by omega⟩)
    have hw2 : IntKind.i64.wrap (a + y * 2 ^ pre.length) = a + y * 2 ^ pre.length := w64 ⟨by have := hok.1; omega, by have := hok.2; omega⟩
    have hws := w_succ hlen (show vs.length ≤ top63 by simp only [top63]; omega)
    have hnext := number_loop vs hl hb suf (pre ++ [y])
    rw [show (pre ++ [y]).length = pre.length + 1 by simp] at hnext
    simp only [numG]
    generalize (2 : Int) ^ (pre.length + 1) = P2 at *
    generalize (2 : Int) ^ pre.length = P at *
    generalize hz : y * P = z at *
    simp [u_ratchetref04_Number_L0, b_ratchetref04_Number_L0, lt_mid h, get_mid _ h, hp, hz, hw1, hw2]
    exact hnext _ _ (by simp [h]) g0 g1 (by simp [hws])

theorem e_Number (vs : List Int) (hl : vs.length ≤ 40) (hb : bits01 vs) : EE π n_ratchetref04_Number [.p (encInts vs)] [] = some (.p (I (numG 0 vs 0)), []) := by
  have h := number_loop (π := π) vs hl hb vs [] 0
  simp [e_ratchetref04_Number, run_eq, c_ratchetref04_Number]
  rw [h _ rfl (by omega) (by simp) (by simp)]
  simp

/-- A cell's output. -/
def cellBit (t k : Int) : Int := t / 2 ^ k.toNat % 2
theorem cellBit_01 (t k : Int) : cellBit t k = 0 ∨ cellBit t k = 1 := by unfold cellBit; omega

theorem e_Value (c : Cell) (vs : List Int) (ht : 0 ≤ c.table ∧ c.table ≤ 255) (hl : vs.length ≤ 3) (hb : bits01 vs) : EE π n_ratchetref27_Value [.p (encCell c), .p (encInts vs)] [] = some (.p (I (cellBit c.table (numG 0 vs 0))), []) := by
  have hn := fun π => e_Number (π := π) vs (by omega) hb
  obtain ⟨g0, g1⟩ := numG_in vs 0 0 hb (by omega) (by simp)
  have g2 : numG 0 vs 0 ≤ 60 := by
    have : (2 : Int) ^ (0 + vs.length) ≤ 8 := by
      rw [← pow_cast]
      have : 2 ^ (0 + vs.length) ≤ 2 ^ 3 := Nat.pow_le_pow_right (by omega) (by omega)
      omega
    omega
  have hp := fun π => e_Pow (π := π) (numG 0 vs 0) g0 g2
  unfold cellBit
  generalize numG 0 vs 0 = k at *
  have hpp := pow_pos' k.toNat
  have hne : ¬ (2 : Int) ^ k.toNat = 0 := by omega
  have hok := pow_ok (k := k.toNat) (by omega)
  generalize (2 : Int) ^ k.toNat = P at *
  have hq0 : 0 ≤ c.table / P := Int.ediv_nonneg ht.1 (by omega)
  have hq1 : c.table / P ≤ c.table := Int.ediv_le_self _ ht.1
  have hq : c.table.tdiv P = c.table / P := Int.tdiv_eq_ediv_of_nonneg ht.1
  have hr : (c.table / P).tmod 2 = c.table / P % 2 := Int.tmod_eq_emod_of_nonneg hq0
  have hw1 : IntKind.i64.wrap (c.table / P) = c.table / P := w64 ⟨by omega, by omega⟩
  have hw2 : IntKind.i64.wrap (c.table / P % 2) = c.table / P % 2 := w64 ⟨by omega, by omega⟩
  simp [e_ratchetref27_Value, run_eq, c_ratchetref27_Value, hn, hp, hne, hq, hr, hw1, hw2, freeze]

end Go.Proofs.YtafomlbikcphgabGreat.V

/- A placed cell's output, where sources have values. -/
namespace Go.Proofs.YtafomlbikcphgabGreat.V
open Go (IntKind BinOp UnOp)
variable {π ρ κ : Id}

/-- The cells of a valid netlist: their tables. -/
def TabsOk (l : List Cell) (n : Net) : Prop := ∀ (i : Nat) p, n.placed[i]? = some p → 0 ≤ p.cell ∧ p.sources.length ≤ 3 ∧ ∃ c, l[p.cell.toNat]? = some c ∧ 0 ≤ c.table ∧ c.table ≤ 255

def tabAt (l : List Cell) (p : Placed) : Int := match l[p.cell.toNat]? with | some c => c.table | none => 0
/-- The output of a placed cell. -/
def outN (l : List Cell) (p : Placed) (g : Int → Int) : Int := cellBit (tabAt l p) (numG 0 (p.sources.map g) 0)

theorem or_bits {i : Nat} (hi : i < 3) {k v : Int} (h0 : 0 ≤ k) (h1 : k < 2 ^ i) (hv : v = 0 ∨ v = 1) : IntKind.i64.wrap ((BitVec.ofInt 64 k ||| BitVec.ofInt 64 (v * 2 ^ i)).toNat : Int) = k + v * 2 ^ i := by
  have hk : k = 0 ∨ (k = 1 ∧ 1 ≤ i) ∨ (k = 2 ∧ i = 2) ∨ (k = 3 ∧ i = 2) := by
    match i, hi, h1 with
    | 0, _, h1 => simp at h1; omega
    | 1, _, h1 => simp at h1; omega
    | 2, _, h1 => simp at h1; omega
  have hi3 : i = 0 ∨ i = 1 ∨ i = 2 := by omega
  rcases hk with rfl | ⟨rfl, h⟩ | ⟨rfl, h⟩ | ⟨rfl, h⟩ <;> rcases hi3 with rfl | rfl | rfl <;> rcases hv with rfl | rfl <;> first | omega | decide | rfl

theorem output_loop (l : List Cell) (n : Net) (p : Placed) (g : Int → Int) (k : Nat) (caps : List PV) (hg : ∀ s ∈ p.sources, g s = 0 ∨ g s = 1) (hl : p.sources.length ≤ 3)
    (hf : ∀ s ∈ p.sources, EE (28 :: π) k (.p (I s) :: caps.map fun v => AV.p v.fg) [] = some (.p (I (g s)), [])) (hk : k ≠ yieldF) :
    ∀ (suf pre : List Int) (a : Int) (x : Env × Sto), p.sources = pre ++ suf → 0 ≤ a → a < 2 ^ pre.length →
    mask [2, 3, 7, 8, 18, 19, 20] [] x = some ([(2, .p (.fn k caps)), (3, .ref (3 :: π) 0), (7, .ref (7 :: π) 0), (8, .p (I a)), (18, .p (encInts p.sources)), (19, .p (I p.sources.length)), (20, .p (I pre.length))], [(7 :: π, .box false [.p (I p.cell), .p (encInts p.sources)]), (3 :: π, .box false ([I n.leaves, encPlaceds n.placed, encInts n.outs, encLib l].map AV.p))]) →
    kpO [3, 7, 8] [6] [] (bkO 0 (iter (round EE iter π [] [2, 3, 7, 8, 18, 19, 20] c_timing_net_output_L0) x)) = some (.nm, [(3, .ref (3 :: π) 0), (7, .ref (7 :: π) 0), (8, .p (I (numG pre.length (suf.map g) a)))], [(7 :: π, .box false [.p (I p.cell), .p (encInts p.sources)]), (3 :: π, .box false ([I n.leaves, encPlaceds n.placed, encInts n.outs, encLib l].map AV.p))])
  | [], pre, a, x, h, h0, h1, hm => by
    rw [loop_eq hm]
    have : p.sources = pre := by simpa using h
    simp [u_timing_net_output_L0, b_timing_net_output_L0, ← this, numG]
  | y :: suf, pre, a, x, h, h0, h1, hm => by
    rw [loop_eq hm]
    have hlen : pre.length < p.sources.length := by rw [h]; simp
    have hym : y ∈ p.sources := by rw [h]; simp
    have hy := hg y hym
    have hfy := hf y hym
    obtain ⟨g0, g1⟩ := numG_step hy h0 h1
    have hws := w_succ hlen (show p.sources.length ≤ top63 by simp only [top63]; omega)
    have hnext := output_loop l n p g k caps hg hl hf hk suf (pre ++ [y])
    rw [show (pre ++ [y]).length = pre.length + 1 by simp] at hnext
    simp only [numG, List.map_cons]
    generalize hgy : g y = v at *
    have hi3 : pre.length < 3 := by omega
    have hor := or_bits hi3 h0 h1 hy
    have hneg : ¬ (pre.length : Int) < 0 := by omega
    have hmn : min pre.length 64 = pre.length := by omega
    have hok := pow_ok (k := pre.length + 1) (by omega)
    have hok0 := pow_ok (k := pre.length) (by omega)
    have hpp := pow_pos' pre.length
    have hw1 : IntKind.i64.wrap (v * 2 ^ pre.length) = v * 2 ^ pre.length := w64 (by rcases hy with rfl | rfl <;> simp only [Int.zero_mul, Int.one_mul] <;> first | exact hok0 | exact ⟨by omega, by omega⟩)
    generalize (2 : Int) ^ (pre.length + 1) = P2 at *
    generalize hP : (2 : Int) ^ pre.length = P at *
    generalize hz : v * P = z at *
    simp [u_timing_net_output_L0, b_timing_net_output_L0, lt_mid h, get_mid _ h, hfy, hk, hneg, ibits, IntKind.bits, hmn, hP, hz, hw1, hor]
    exact hnext _ _ (by simp [h]) g0 g1 (by simp [hws]; exact hor)

theorem and_one {x : Int} (h0 : 0 ≤ x) (h1 : x ≤ 1000000) : IntKind.i64.wrap ((BitVec.ofInt 64 x &&& BitVec.ofInt 64 1).toNat : Int) = x % 2 := by
  obtain ⟨k, rfl⟩ := Int.eq_ofNat_of_zero_le h0
  have e : (BitVec.ofInt 64 (k : Int) &&& BitVec.ofInt 64 1).toNat = k % 2 := by
    rw [BitVec.toNat_and, BitVec.toNat_ofInt, BitVec.toNat_ofInt]
    have h2 : ((k : Int) % ((2 ^ 64 : Nat) : Int)).toNat = k := by omega
    have h3 : ((1 : Int) % ((2 ^ 64 : Nat) : Int)).toNat = 1 := by decide
    rw [h2, h3, Nat.and_one_is_mod]
  rw [e, w64 ⟨by omega, by omega⟩]
  omega

theorem e_output (l : List Cell) (n : Net) (hT : TabsOk l n) (i : Nat) (p : Placed) (hp : n.placed[i]? = some p) (g : Int → Int) (k : Nat) (caps : List PV) (hg : ∀ s ∈ p.sources, g s = 0 ∨ g s = 1)
    (hf : ∀ s ∈ p.sources, EE (28 :: π) k (.p (I s) :: caps.map fun v => AV.p v.fg) [] = some (.p (I (g s)), [])) (hk : k ≠ yieldF) :
    EE π n_timing_net_output [.p (.agg [I n.leaves, encPlaceds n.placed, encInts n.outs, encLib l]), .p (I i), .p (.fn k caps)] [] = some (.p (I (outN l p g)), []) := by
  obtain ⟨hc0, hs3, c, hc, ht0, ht1⟩ := hT i p hp
  obtain ⟨hil, hpi⟩ := List.getElem?_eq_some_iff.1 hp
  obtain ⟨hcl, hci⟩ := List.getElem?_eq_some_iff.1 hc
  have hcl' : p.cell < (l.length : Int) := by omega
  have hb : bits01 (p.sources.map g) := fun v hv => by
    obtain ⟨s, hs, rfl⟩ := List.mem_map.1 hv
    exact hg s hs
  obtain ⟨g0, g1⟩ := numG_in (p.sources.map g) 0 0 hb (by omega) (by simp)
  have g2 : numG 0 (p.sources.map g) 0 ≤ 60 := by
    have : (2 : Int) ^ (0 + (p.sources.map g).length) ≤ 8 := by
      rw [← pow_cast]
      have : 2 ^ (0 + (p.sources.map g).length) ≤ 2 ^ 3 := Nat.pow_le_pow_right (by omega) (by simp; omega)
      omega
    omega
  have hl := output_loop (π := π) l n p g k caps hg hs3 hf hk p.sources [] 0
  have htab : tabAt l p = c.table := by unfold tabAt; rw [hc]
  unfold outN cellBit
  rw [htab]
  rw [show ([] : List Int).length = 0 from rfl] at hl
  generalize numG 0 (p.sources.map g) 0 = num at *
  have hneg : ¬ num < 0 := by omega
  have hmn : min num.toNat 64 = num.toNat := by omega
  have hpp := pow_pos' num.toNat
  generalize hP : (2 : Int) ^ num.toNat = P at *
  have hq0 : 0 ≤ c.table / P := Int.ediv_nonneg ht0 (by omega)
  have hq1 : c.table / P ≤ c.table := Int.ediv_le_self _ ht0
  have hfd : c.table.fdiv P = c.table / P := Int.fdiv_eq_ediv_of_nonneg _ (by omega)
  have hand := and_one hq0 (by omega)
  simp [e_timing_net_output, run_eq, c_timing_net_output, hil, hpi]
  rw [hl _ rfl (by omega) (by simp) (by simp)]
  simp [hc0, hcl, hcl', hci, hneg, ibits, IntKind.bits, hmn, hP, hfd]
  exact hand

end Go.Proofs.YtafomlbikcphgabGreat.V

/- The values of all sources; whether a path is used. -/
namespace Go.Proofs.YtafomlbikcphgabGreat.V
open Go (IntKind BinOp UnOp)
variable {π ρ κ : Id}

/-- The values of all sources. -/
def valG (l : List Cell) : List Placed → List Int → List Int
  | [], out => out
  | c :: r, out => valG l r (out ++ [outN l c (fun s => out.getD s.toNat 0)])
def valsN (l : List Cell) (n : Net) (leaves : List Int) : List Int := valG l n.placed ([0, 1] ++ leaves)

theorem outN_01 (l : List Cell) (p : Placed) (g : Int → Int) : outN l p g = 0 ∨ outN l p g = 1 := cellBit_01 _ _
theorem valG_len (l : List Cell) : ∀ (pl : List Placed) (out : List Int), (valG l pl out).length = out.length + pl.length
  | [], out => rfl
  | c :: r, out => by rw [valG, valG_len l r]; simp; omega
theorem valG_01 (l : List Cell) : ∀ (pl : List Placed) (out : List Int), bits01 out → bits01 (valG l pl out)
  | [], out, h => h
  | c :: r, out, h => valG_01 l r _ fun v hv => by
    rw [List.mem_append, List.mem_singleton] at hv
    rcases hv with hv | rfl
    · exact h v hv
    · exact outN_01 _ _ _
theorem bits_get {vs : List Int} (h : bits01 vs) (i : Nat) : vs.getD i 0 = 0 ∨ vs.getD i 0 = 1 := by
  rw [List.getD]
  cases hx : vs[i]? with
  | none => exact .inl rfl
  | some x => exact h x (List.mem_of_getElem? hx)

theorem e_values1 (out : List Int) (s : Int) (h0 : 0 ≤ s) (h1 : s < out.length) : EE π n_timing_net_values_1 [.p (I s), .p (.ptr [encInts out])] [] = some (.p (I (out.getD s.toNat 0)), []) := by
  have hlt : s.toNat < out.length := by omega
  have hg : out.getD s.toNat 0 = out[s.toNat] := by simp [List.getD, hlt]
  rw [hg]
  simp [e_timing_net_values_1, run_eq, c_timing_net_values_1, h0, h1, hlt]

abbrev cellsN (n : Net) (l : List Cell) : List PV := [I n.leaves, encPlaceds n.placed, encInts n.outs, encLib l]
abbrev boxNT (n : Net) (l : List Cell) : Blk := .box false [.p (I n.leaves), .p (encPlaceds n.placed), .p (encInts n.outs), .p (encLib l)]

theorem values_loop (l : List Cell) (n : Net) (hT : TabsOk l n) (hnp : n.placed.length ≤ 60) (hlv0 : 0 ≤ n.leaves) (hlv1 : n.leaves ≤ 40) (hsrc : ∀ (i : Nat) p, n.placed[i]? = some p → ∀ s ∈ p.sources, 0 ≤ s ∧ s ≤ 1 + n.leaves + i) :
    ∀ (suf pre : List Placed) (out : List Int) (x : Env × Sto), n.placed = pre ++ suf → (out.length : Int) = 2 + n.leaves + pre.length → bits01 out →
    mask [2, 5, 13, 14] [] x = some ([(2, .ref (2 :: π) 0), (5, .ref (5 :: π) 0), (13, .p (I n.placed.length)), (14, .p (I pre.length))], [(5 :: π, .box false [.ap (7 :: π)]), rowI (7 :: π) (some false) out, (2 :: π, boxNT n l)]) →
    kpO [5] [4] [] (bkO 0 (iter (round EE iter π [] [2, 5, 13, 14] c_timing_net_values_L0) x)) = some (.nm, [(5, .ref (5 :: π) 0)], [(5 :: π, .box false [.ap (7 :: π)]), rowI (7 :: π) (some false) (valG l suf out)])
  | [], pre, out, x, h, ho, hb, hm => by
    rw [loop_eq hm]
    have : n.placed = pre := by simpa using h
    simp [u_timing_net_values_L0, b_timing_net_values_L0, ← this, valG]
  | y :: suf, pre, out, x, h, ho, hb, hm => by
    rw [loop_eq hm]
    have hlen : pre.length < n.placed.length := by rw [h]; simp
    have hyp : n.placed[pre.length]? = some y := by rw [h]; simp
    have hys := hsrc _ _ hyp
    have hout := fun π => e_output (π := π) l n hT pre.length y hyp (fun s => out.getD s.toNat 0) n_timing_net_values_1 [.ptr [encInts out]] (fun s _ => bits_get hb _) (fun s hs => by
      have := hys s hs
      simpa using e_values1 (π := 28 :: π) out s this.1 (by omega)) (by decide)
    have hws := w_succ hlen (show n.placed.length ≤ top63 by simp only [top63]; omega)
    have hroom : out.length + 1 ≤ room := by simp only [room]; omega
    have hnext := values_loop l n hT hnp hlv0 hlv1 hsrc suf (pre ++ [y]) (out ++ [outN l y (fun s => out.getD s.toNat 0)])
    rw [show (pre ++ [y]).length = pre.length + 1 by simp] at hnext
    simp only [valG]
    have h01 := outN_01 l y (fun s => out.getD s.toNat 0)
    generalize outN l y (fun s => out.getD s.toNat 0) = v at *
    simp [u_timing_net_values_L0, b_timing_net_values_L0, hlen, hout, hroom, freeze, evRO]
    refine hnext _ (by simp [h]) (by simp; omega) (fun u hu => ?_) (by simp [hws])
    rw [List.mem_append, List.mem_singleton] at hu
    rcases hu with hu | rfl
    · exact hb u hu
    · exact h01

/-- A valid netlist. -/
structure NetV (l : List Cell) (n : Net) : Prop where
  tab : TabsOk l n
  np : n.placed.length ≤ 60
  lv0 : 0 ≤ n.leaves
  lv1 : n.leaves ≤ 40
  src : ∀ (i : Nat) p, n.placed[i]? = some p → ∀ s ∈ p.sources, 0 ≤ s ∧ s ≤ 1 + n.leaves + i

theorem e_values (l : List Cell) (n : Net) (hv : NetV l n) (leaves : List Int) (hl : (leaves.length : Int) = n.leaves) (hb : bits01 leaves) :
    EE π n_timing_net_values [.p (.agg (cellsN n l)), .p (encInts leaves)] [] = some (.ap (7 :: π), [rowI (7 :: π) (some false) (valsN l n leaves)]) := by
  have hlv1 := hv.lv1
  have hb2 : bits01 ([0, 1] ++ leaves) := fun v hv => by
    rw [List.mem_append] at hv
    rcases hv with hv | hv
    · simp at hv; exact hv
    · exact hb v hv
  have hloop := values_loop (π := π) l n hv.tab hv.np hv.lv0 hv.lv1 hv.src n.placed [] ([0, 1] ++ leaves)
  have hroom : 2 + leaves.length ≤ room := by simp only [room]; omega
  have hroom' : leaves.length + 2 ≤ room := by omega
  unfold valsN
  generalize valG l n.placed ([0, 1] ++ leaves) = R at *
  simp [e_timing_net_values, run_eq, c_timing_net_values, hroom, hroom', thaw, thaw1]
  rw [hloop _ rfl (by simp; omega) hb2 (by simp)]
  simp

theorem e_isUsed1 (vals : List Int) (b s : Int) (h0 : 0 ≤ s) (h1 : s < vals.length) (h01 : vals.getD s.toNat 0 = 0 ∨ vals.getD s.toNat 0 = 1) : EE π n_timing_net_isUsed_1 [.p (I s), .p (.ptr [I b]), .p (.ptr [encInts vals])] [] = some (.p (I (if s = b then 1 - vals.getD s.toNat 0 else vals.getD s.toNat 0)), []) := by
  have hlt : s.toNat < vals.length := by omega
  have hg : vals.getD s.toNat 0 = vals[s.toNat] := by simp [List.getD, hlt]
  rw [hg] at h01 ⊢
  generalize hv : vals[s.toNat] = v at *
  have hw : IntKind.i64.wrap (1 - v) = 1 - v := w64 ⟨by omega, by omega⟩
  by_cases hb : s = b
  · subst hb
    simp [e_timing_net_isUsed_1, run_eq, c_timing_net_isUsed_1, h0, h1, hlt, hv, hw]
  · simp [e_timing_net_isUsed_1, run_eq, c_timing_net_isUsed_1, h0, h1, hlt, hv, hb]

/-- The values of sources, one of them turned. -/
def turnV (vals : List Int) (b s : Int) : Int := if s = b then 1 - vals.getD s.toNat 0 else vals.getD s.toNat 0
/-- Whether a path's further points each follow the one before. -/
def usedG (l : List Cell) (n : Net) (vals : List Int) : Int → List Int → Bool
  | _, [] => true
  | b, p :: r => if outN l (n.placed.getD (p - n.leaves).toNat ⟨0, []⟩) (turnV vals (b + 2)) = vals.getD (p + 2).toNat 0 then false else usedG l n vals p r
def usedB (l : List Cell) (n : Net) (path vals : List Int) : Bool := usedG l n vals (path.headD 0) (path.drop 1)

theorem turnV_01 {vals : List Int} (hb : bits01 vals) (b s : Int) : turnV vals b s = 0 ∨ turnV vals b s = 1 := by
  unfold turnV
  have := bits_get hb s.toNat
  split <;> omega

theorem isUsed_loop (l : List Cell) (n : Net) (hv : NetV l n) (vals : List Int) (hvl : (vals.length : Int) = 2 + n.leaves + n.placed.length) (hb : bits01 vals) (P : List Int) (a : Int) (ps : List Int) (hP : P = a :: ps) (hps : ∀ p ∈ P, 0 ≤ p ∧ p < n.leaves + n.placed.length) (hcs : ∀ p ∈ ps, n.leaves ≤ p) (hpl : ps.length ≤ 1000) :
    ∀ (suf pre : List Int) (x : Env × Sto), ps = pre ++ suf →
    mask [1, 3, 5, 12, 13, 14] [] x = some ([(1, .p (encInts P)), (3, .ref (3 :: π) 0), (5, .ref (5 :: π) 0), (12, .p (encInts ps)), (13, .p (I ps.length)), (14, .p (I pre.length))], [(5 :: π, .box false [.p (encInts vals)]), (3 :: π, boxNT n l)]) →
    kpO [] [6] [] (bkO 0 (iter (round EE iter π [] [1, 3, 5, 12, 13, 14] c_timing_net_isUsed_L0) x)) = if usedG l n vals (P.getD pre.length 0) suf = true then some (.nm, [], []) else some (.rt, [(6, .p (.bool false))], [])
  | [], pre, x, h, hm => by
    rw [loop_eq hm]
    have : ps = pre := by simpa using h
    simp [u_timing_net_isUsed_L0, b_timing_net_isUsed_L0, ← this, usedG]
  | y :: suf, pre, x, h, hm => by
    rw [loop_eq hm]
    have hlv0 := hv.lv0
    have hlv1 := hv.lv1
    have hnp := hv.np
    have hlen : pre.length < ps.length := by rw [h]; simp
    have hym : y ∈ ps := by rw [h]; simp
    have hy := hps y (by rw [hP]; exact List.mem_cons_of_mem _ hym)
    have hyc := hcs y hym
    have hlenA : pre.length < P.length := by rw [hP]; simp; omega
    have hbq := hps P[pre.length] (List.getElem_mem hlenA)
    have hbg : P.getD pre.length 0 = P[pre.length] := by rw [List.getD, List.getElem?_eq_getElem hlenA]; rfl
    rw [hbg]
    have hyA : P.getD (pre ++ [y]).length 0 = y := by
      rw [show (pre ++ [y]).length = pre.length + 1 by simp, List.getD, hP, List.getElem?_cons_succ, h]; simp
    have hil : (y - n.leaves).toNat < n.placed.length := by omega
    have hpg : n.placed.getD (y - n.leaves).toNat ⟨0, []⟩ = n.placed[(y - n.leaves).toNat] := by simp [List.getD, hil]
    have hpq : n.placed[(y - n.leaves).toNat]? = some n.placed[(y - n.leaves).toNat] := List.getElem?_eq_getElem hil
    have hys := hv.src _ _ hpq
    have hnext := isUsed_loop l n hv vals hvl hb P a ps hP hps hcs hpl suf (pre ++ [y])
    rw [hyA, show (pre ++ [y]).length = pre.length + 1 by simp] at hnext
    rw [show usedG l n vals P[pre.length] (y :: suf) = (if outN l n.placed[(y - n.leaves).toNat] (turnV vals (P[pre.length] + 2)) = vals.getD (y + 2).toNat 0 then false else usedG l n vals y suf) by rw [usedG, hpg]]
    generalize hq : P[pre.length] = q at *
    generalize n.placed[(y - n.leaves).toNat] = c at *
    have hwq : IntKind.i64.wrap (q + 2) = q + 2 := w64 ⟨by omega, by omega⟩
    have hwy : IntKind.i64.wrap (y - n.leaves) = y - n.leaves := w64 ⟨by omega, by omega⟩
    have hwy2 : IntKind.i64.wrap (y + 2) = y + 2 := w64 ⟨by omega, by omega⟩
    have hout := fun π => e_output (π := π) l n hv.tab (y - n.leaves).toNat c hpq (turnV vals (q + 2)) n_timing_net_isUsed_1 [.ptr [I (q + 2)], .ptr [encInts vals]] (fun s _ => turnV_01 hb _ _) (fun s hs => by
      have := hys s hs
      simpa [turnV] using e_isUsed1 (π := 28 :: π) vals (q + 2) s this.1 (by omega) (bits_get hb _)) (by decide)
    rw [show (((y - n.leaves).toNat : Nat) : Int) = y - n.leaves by omega] at hout
    have hlt2 : (y + 2).toNat < vals.length := by omega
    have hlt2' : y + 2 < (vals.length : Int) := by omega
    have hge2 : 0 ≤ y + 2 := by omega
    have hvg : vals.getD (y + 2).toNat 0 = vals[(y + 2).toNat] := by simp [List.getD, hlt2]
    rw [hvg]
    have hws := w_succ hlen (show ps.length ≤ top63 by simp only [top63]; omega)
    generalize outN l c (turnV vals (q + 2)) = o at *
    generalize hvy : vals[(y + 2).toNat] = vy at *
    by_cases ho : o = vy
    · rw [if_pos ho]
      simp [u_timing_net_isUsed_L0, b_timing_net_isUsed_L0, lt_mid h, get_mid _ h, hlenA, hq, hwq, hwy, hwy2, hout, hlt2, hlt2', hge2, hvy, ho, freeze, evRO]
    · rw [if_neg ho]
      generalize usedG l n vals y suf = ub at *
      simp [u_timing_net_isUsed_L0, b_timing_net_isUsed_L0, lt_mid h, get_mid _ h, hlenA, hq, hwq, hwy, hwy2, hout, hlt2, hlt2', hge2, hvy, ho, freeze, evRO]
      exact hnext _ (by simp [h]) (by simp [hws])

theorem e_isUsedT (l : List Cell) (n : Net) (hv : NetV l n) (vals : List Int) (hvl : (vals.length : Int) = 2 + n.leaves + n.placed.length) (hb : bits01 vals) (path : List Int) (hp : PathIn n path) :
    EE π n_timing_net_isUsed [.p (.agg (cellsN n l)), .p (encInts path), .p (encInts vals)] [] = some (.p (.bool (usedB l n path vals)), []) := by
  have hne := hp.ne
  have hh0 := hp.h0
  have hcs := hp.cs
  have hlen := hp.len
  cases path with
  | nil => exact absurd rfl hne
  | cons a r =>
    simp only [List.headD_cons] at hh0
    simp only [List.drop_succ_cons, List.drop_zero] at hcs
    simp only [List.length_cons] at hlen
    have hlv0 := hv.lv0
    have hl := isUsed_loop (π := π) l n hv vals hvl hb (a :: r) a r rfl (fun p hp => by
      rcases List.mem_cons.1 hp with rfl | hp
      · omega
      · have := hcs p hp; omega) (fun p hp => (hcs p hp).1) (by omega) r []
    rw [show ([] : List Int).length = 0 from rfl] at hl
    have hu : usedB l n (a :: r) vals = usedG l n vals a r := rfl
    rw [hu]
    rw [show ((a :: r).getD 0 0) = a from rfl] at hl
    generalize usedG l n vals a r = u at *
    have hr0 : (0 : Int) ≤ (r.length : Int) + 1 := by omega
    have htk : List.take r.length (List.map I r) = List.map I r := List.take_of_length_le (by simp)
    simp [e_timing_net_isUsed, run_eq, c_timing_net_isUsed, hr0, htk]
    rw [hl _ rfl (by simp)]
    cases u <;> simp

end Go.Proofs.YtafomlbikcphgabGreat.V

/- Where a path is used first. -/
namespace Go.Proofs.YtafomlbikcphgabGreat.V
open Go (IntKind BinOp UnOp)
variable {π ρ κ : Id}

/-- A bit of a number, the first one is the highest. -/
def bitK (lv k j : Nat) : Int := ((k / 2 ^ (lv - 1 - j) % 2 : Nat) : Int)
def bitsK (lv k : Nat) : List Int := (List.range lv).map (bitK lv k)
def rowK (lv k i : Nat) : List Int := (List.range lv).map fun j => if j < i then bitK lv k j else 0
theorem rowK_full (lv k : Nat) : rowK lv k lv = bitsK lv k := by
  unfold rowK bitsK
  refine List.map_congr_left fun j hj => ?_
  rw [List.mem_range] at hj
  rw [if_pos hj]
theorem rowK_zero (lv k : Nat) : rowK lv k 0 = List.replicate lv 0 := by
  unfold rowK
  rw [List.eq_replicate_iff]
  refine ⟨by simp, fun v hv => ?_⟩
  obtain ⟨j, _, rfl⟩ := List.mem_map.1 hv
  rw [if_neg (by omega)]
theorem rowK_len (lv k i : Nat) : (rowK lv k i).length = lv := by simp [rowK]
theorem rowK_set (lv k i : Nat) : (rowK lv k i).set i (bitK lv k i) = rowK lv k (i + 1) := by
  refine List.ext_getElem (by simp [rowK]) fun j h1 h2 => ?_
  rw [List.getElem_set]
  simp only [rowK, List.getElem_map, List.getElem_range]
  by_cases hij : i = j
  · rw [if_pos hij, if_pos (by omega), hij]
  · rw [if_neg hij]
    by_cases hj : j < i
    · rw [if_pos hj, if_pos (by omega)]
    · rw [if_neg hj, if_neg (by omega)]
theorem bitsK_len (lv k : Nat) : (bitsK lv k).length = lv := by simp [bitsK]
theorem bitsK_01 (lv k : Nat) : bits01 (bitsK lv k) := fun v hv => by
  obtain ⟨j, _, rfl⟩ := List.mem_map.1 hv
  unfold bitK
  omega

theorem fill_loop (l : List Cell) (n : Net) (lv k : Nat) (hlv : n.leaves = lv) (hlv1 : lv ≤ 40) (hk : k ≤ 1000000) (path : List Int) :
    ∀ (j i : Nat) (x : Env × Sto), i + j = lv →
    mask [1, 2, 5, 6, 11, 12, 20, 21] [] x = some ([(1, .p (encInts path)), (2, .ref (2 :: π) 0), (5, .p (I k)), (6, .ap (18 :: π)), (11, .p (I (2 ^ lv))), (12, .p (I k)), (20, .p (I lv)), (21, .p (I i))], [rowI (18 :: π) (some false) (rowK lv k i), (2 :: π, boxNT n l)]) →
    kpO [1, 2, 6, 11, 12] [4] [] (bkO 2 (iter (round EE iter π [] [1, 2, 5, 6, 11, 12, 20, 21] c_timing_net_used_L1) x)) = some (.nm, [(1, .p (encInts path)), (2, .ref (2 :: π) 0), (6, .ap (18 :: π)), (11, .p (I (2 ^ lv))), (12, .p (I k))], [rowI (18 :: π) (some false) (bitsK lv k), (2 :: π, boxNT n l)])
  | 0, i, x, h, hm => by
    rw [loop_eq hm]
    have : i = lv := by omega
    subst this
    rw [rowK_full]
    simp [u_timing_net_used_L1, b_timing_net_used_L1]
  | j + 1, i, x, h, hm => by
    rw [loop_eq hm]
    have hil : i < lv := by omega
    have hws := w_succ hil (show lv ≤ top63 by simp only [top63]; omega)
    have hw1 : IntKind.i64.wrap ((lv : Int) - 1) = (lv : Int) - 1 := w64 ⟨by omega, by omega⟩
    have hw2 : IntKind.i64.wrap ((lv : Int) - 1 - i) = ((lv - 1 - i : Nat) : Int) := by rw [show (lv : Int) - 1 - i = ((lv - 1 - i : Nat) : Int) by omega]; exact w64 ⟨by omega, by omega⟩
    have hmn : min (lv - 1 - i) 64 = lv - 1 - i := by omega
    have hneg : ¬ ((lv - 1 - i : Nat) : Int) < 0 := by omega
    have hb : (k : Int).fdiv (2 ^ (lv - 1 - i)) = ((k / 2 ^ (lv - 1 - i) : Nat) : Int) := by
      rw [Int.fdiv_eq_ediv_of_nonneg _ (Int.le_of_lt (pow_pos' _)), ← pow_cast]; rfl
    have hbk : ((k / 2 ^ (lv - 1 - i) : Nat) : Int) % 2 = bitK lv k i := by
      unfold bitK
      generalize k / 2 ^ (lv - 1 - i) = a
      omega
    have hdl : (((k / 2 ^ (lv - 1 - i) : Nat) : Int)) ≤ 1000000 ∧ 0 ≤ (((k / 2 ^ (lv - 1 - i) : Nat) : Int)) := by
      have := Nat.div_le_self k (2 ^ (lv - 1 - i))
      generalize k / 2 ^ (lv - 1 - i) = a at *
      omega
    have hand := and_one hdl.2 hdl.1
    rw [hbk] at hand
    have hset := rowK_set lv k i
    have hrl : i < (rowK lv k i).length := by rw [rowK_len]; exact hil
    have hrl' : (i : Int) < (rowK lv k i).length := by omega
    have hnext := fill_loop l n lv k hlv hlv1 hk path j (i + 1)
    generalize hq : ((k / 2 ^ (lv - 1 - i) : Nat) : Int) = q at *
    generalize hP : (2 : Int) ^ (lv - 1 - i) = P at *
    generalize (2 : Int) ^ lv = P0 at *
    rw [← hset] at hnext
    generalize rowK lv k i = R at *
    generalize bitK lv k i = b at *
    simp [u_timing_net_used_L1, b_timing_net_used_L1, hil, hlv, hw1, hw2, hmn, hneg, ibits, IntKind.bits, hP, hb, hrl, hrl', PV.setc]
    exact hnext _ (by omega) (by simp [hws]; exact congrArg (fun z => (ints R).set i (I z)) hand)

/-- The first values of the leaf bits at which a path is used. -/
def firstU (l : List Cell) (n : Net) (path : List Int) (lv : Nat) : Nat → Nat → Option (List Int)
  | 0, _ => none
  | j + 1, k => if usedB l n path (valsN l n (bitsK lv k)) = true then some (bitsK lv k) else firstU l n path lv j (k + 1)

theorem used_loop (l : List Cell) (n : Net) (hv : NetV l n) (lv : Nat) (hlv : n.leaves = lv) (hlv1 : lv ≤ 10) (path : List Int) (hp : PathIn n path) :
    ∀ (j k : Nat) (x : Env × Sto), k + j = 2 ^ lv →
    mask [1, 2, 11, 12] [] x = some ([(1, .p (encInts path)), (2, .ref (2 :: π) 0), (11, .p (I (2 ^ lv))), (12, .p (I k))], [(2 :: π, boxNT n l)]) →
    kpO [] [4] [] (bkO 0 (iter (round EE iter π [] [1, 2, 11, 12] c_timing_net_used_L0) x)) = match firstU l n path lv j k with
      | none => some (.nm, [], [])
      | some b => some (.rt, [(4, .p (encL b))], [])
  | 0, k, x, h, hm => by
    rw [loop_eq hm]
    have : (k : Int) = 2 ^ lv := by rw [← pow_cast]; omega
    simp [u_timing_net_used_L0, b_timing_net_used_L0, this, firstU]
  | j + 1, k, x, h, hm => by
    rw [loop_eq hm]
    have hp10 : 2 ^ lv ≤ 2 ^ 10 := Nat.pow_le_pow_right (by omega) hlv1
    have hp10' : (2 : Nat) ^ 10 = 1024 := by decide
    have hkl : k < 2 ^ lv := by omega
    have hkl' : (k : Int) < 2 ^ lv := by rw [← pow_cast]; omega
    have hfill := fill_loop (π := π) l n lv k hlv (by omega) (by omega) path lv 0
    rw [rowK_zero] at hfill
    have hnp := hv.np
    have hlv0 := hv.lv0
    have hbl := bitsK_len lv k
    have hvals := fun π => e_values (π := π) l n hv (bitsK lv k) (by omega) (bitsK_01 lv k)
    have hvl : (valsN l n (bitsK lv k)).length = 2 + lv + n.placed.length := by unfold valsN; rw [valG_len]; simp; omega
    have hv01 : bits01 (valsN l n (bitsK lv k)) := valG_01 _ _ _ (fun v hv => by
      rw [List.mem_append] at hv
      rcases hv with hv | hv
      · simpa using hv
      · exact bitsK_01 lv k v hv)
    have hus := fun π => e_isUsedT (π := π) l n hv (valsN l n (bitsK lv k)) (by omega) hv01 path hp
    have hws := w_succ hkl (show 2 ^ lv ≤ top63 by simp only [top63]; omega)
    have hlr : lv ≤ room := by simp only [room]; omega
    have hnext := used_loop l n hv lv hlv hlv1 path hp j (k + 1)
    simp only [firstU]
    generalize hPP : (2 : Int) ^ lv = P0 at *
    generalize usedB l n path (valsN l n (bitsK lv k)) = u at *
    generalize valsN l n (bitsK lv k) = V at *
    generalize firstU l n path lv j (k + 1) = F at *
    generalize bitsK lv k = B at *
    simp [u_timing_net_used_L0, b_timing_net_used_L0, hkl', hlv, hlr]
    rw [hfill _ (by omega) (by simp)]
    cases u with
    | true => simp [hvals, hus, freeze, evRO]
    | false =>
      simp [hvals, hus, freeze, evRO]
      exact hnext _ (by omega) (by simp [hws])

def usedAtN (l : List Cell) (n : Net) (path : List Int) : Option (List Int) := firstU l n path n.leaves.toNat (2 ^ n.leaves.toNat) 0
abbrev encU : Option (List Int) → PV
  | none => .sl 1 (some true) []
  | some b => encL b

theorem e_used (l : List Cell) (n : Net) (hv : NetV l n) (h10 : n.leaves ≤ 10) (path : List Int) (hp : PathIn n path) :
    EE π n_timing_net_used [.p (.agg (cellsN n l)), .p (encInts path)] [] = some (.p (encU (usedAtN l n path)), []) := by
  have hlv0 := hv.lv0
  have hl := used_loop (π := π) l n hv n.leaves.toNat (by omega) (by omega) path hp (2 ^ n.leaves.toNat) 0
  unfold usedAtN
  have hneg : ¬ n.leaves < 0 := by omega
  have hmn : min n.leaves.toNat 64 = n.leaves.toNat := by omega
  have hw : IntKind.i64.wrap (2 ^ n.leaves.toNat) = 2 ^ n.leaves.toNat := w64 (pow_ok (by omega))
  generalize firstU l n path n.leaves.toNat (2 ^ n.leaves.toNat) 0 = F at *
  simp [e_timing_net_used, run_eq, c_timing_net_used, hneg, IntKind.bits, hmn]
  rw [hl _ (by omega) (by simp [hw])]
  cases F <;> simp

/-- A valid netlist, without a model. -/
theorem netV_of {l : List Cell} {n : Net} (h : netE28 l n = 0) : NetV l n ∧ Valid l n ⟨0, 0, 0, 0, 0⟩ := by
  obtain ⟨h1, h2, h3, h4, h5, h6⟩ := valid_net h
  refine ⟨⟨fun i p hp => ?_, h2, h1.1, h1.2, h4⟩, ⟨h1.1, h1.2, h2, h3, h4, h5, h6, by simp, by simp⟩⟩
  obtain ⟨a1, c, a2, a3, a4, a5⟩ := h5 p (List.mem_of_getElem? hp)
  have hlib : (libE l).2 = 0 := by
    unfold netE28 at h
    rw [firstE_cons, firstE_cons] at h
    have hb := h.1
    unfold bothE at hb
    split at hb
    · rename_i hl; exact hl
    · exact hb
  have hcell := lib_cells hlib _ _ a2
  simp only [cellOk, Bool.and_eq_true, within_iff] at hcell
  have ht := hcell.1.1.2
  refine ⟨a1, a5, c, a2, ht.1, ?_⟩
  have : topTable c.pins ≤ 255 := by unfold topTable; (repeat' split) <;> omega
  omega

/-- The error of where a path is used. -/
def errU (l : List Cell) (n : Net) (path : List Int) : Int := firstE [netE28 l n, if netE28 l n = 0 then pathE n path else 0, unlE (decide (n.leaves ≤ 10)) 8]

theorem e_UsedAt_err (l : List Cell) (n : Net) (h : netOk l n) (path : List Int) (hpl : path.length ≤ 1000) (he : errU l n path ≠ 0) :
    EE π n_timing_UsedAt [.p (encLib l), .p (encNet n), .p (encInts path)] [] = some (.p (.tup [.sl 1 (some true) [], I (errU l n path)]), []) := by
  have ho := fun π => e_open (π := π) l n h
  unfold errU at *
  by_cases hn : netE28 l n = 0
  · obtain ⟨hv, hva⟩ := netV_of hn
    rw [if_pos hn] at he ⊢
    have hpe := fun π => e_pathErrT (π := π) l n _ hva path hpl
    rw [hn] at he ho ⊢
    generalize pathE n path = c at *
    by_cases hc : c = 0
    · subst hc
      have h10 : ¬ n.leaves ≤ 10 := fun h => he (by simp [firstE, unlE, h])
      have e : firstE [0, 0, unlE (decide (n.leaves ≤ 10)) 8] = 8 := by simp [firstE, unlE, h10]
      rw [e]
      simp [e_timing_UsedAt, run_eq, c_timing_UsedAt, ho, hpe, h10, e_unlessT, e_first2T, unlE, firstE, freeze, evRO]
    · have e : firstE [0, c, unlE (decide (n.leaves ≤ 10)) 8] = c := by simp [firstE, hc]
      rw [e]
      by_cases h10 : n.leaves ≤ 10
      · simp [e_timing_UsedAt, run_eq, c_timing_UsedAt, ho, hpe, h10, e_unlessT, e_first2T, unlE, firstE, hc, freeze, evRO]
      · simp [e_timing_UsedAt, run_eq, c_timing_UsedAt, ho, hpe, h10, e_unlessT, e_first2T, unlE, firstE, hc, freeze, evRO]
  · rw [if_neg hn] at he ⊢
    generalize netE28 l n = c at *
    have e : firstE [c, 0, unlE (decide (n.leaves ≤ 10)) 8] = c := by simp [firstE, hn]
    rw [e]
    by_cases h10 : n.leaves ≤ 10
    · simp [e_timing_UsedAt, run_eq, c_timing_UsedAt, ho, hn, h10, e_unlessT, e_first2T, unlE, firstE, freeze, evRO]
    · simp [e_timing_UsedAt, run_eq, c_timing_UsedAt, ho, hn, h10, e_unlessT, e_first2T, unlE, firstE, freeze, evRO]

theorem e_UsedAt_ok (l : List Cell) (n : Net) (h : netOk l n) (path : List Int) (hpl : path.length ≤ 1000) (he : errU l n path = 0) :
    EE π n_timing_UsedAt [.p (encLib l), .p (encNet n), .p (encInts path)] [] = some (.p (.tup [encU (usedAtN l n path), I (if usedAtN l n path = none then 12 else 0)]), []) := by
  have ho := fun π => e_open (π := π) l n h
  unfold errU at he
  rw [firstE_cons, firstE_cons, firstE_cons, unlE_z (by decide)] at he
  obtain ⟨hn, hpz, h10, _⟩ := he
  rw [if_pos hn] at hpz
  have h10 : n.leaves ≤ 10 := by simpa using h10
  obtain ⟨hv, hva⟩ := netV_of hn
  have hpe := fun π => e_pathErrT (π := π) l n _ hva path hpl
  have hus := fun π => e_used (π := π) l n hv h10 path (pathIn_of hpl hpz)
  rw [hn] at ho
  rw [hpz] at hpe
  generalize usedAtN l n path = F at *
  cases F with
  | none => simp [e_timing_UsedAt, run_eq, c_timing_UsedAt, ho, hpe, hus, h10, e_unlessT, e_first2T, unlE, firstE, freeze, evRO]
  | some b => simp [e_timing_UsedAt, run_eq, c_timing_UsedAt, ho, hpe, hus, h10, e_unlessT, e_first2T, unlE, firstE, freeze, evRO]

end Go.Proofs.YtafomlbikcphgabGreat.V

/- The reference's values of sources, and its used paths. -/
namespace Go.Proofs.YtafomlbikcphgabGreat.V
open Go (IntKind BinOp UnOp)
variable {π ρ κ : Id}

theorem flagE_snoc {α : Type} (l : List α) (x : α) : flagE (l ++ [x]) = some false := by cases l <;> rfl

theorem src_loop1 (l : List Cell) (n : Net) (out : List Int) (hol : out.length ≤ 1000) (i : Nat) (p : Placed) (hp : n.placed[i]? = some p) (hs3 : p.sources.length ≤ 3) (hsb : ∀ s ∈ p.sources, 0 ≤ s ∧ s < out.length) :
    ∀ (suf pre : List Int) (x : Env × Sto), p.sources = pre ++ suf →
    mask [0, 4, 7, 8, 9, 10] [] x = some ([(0, .p (encLib l)), (4, .ref (4 :: π) 0), (7, .ap (11 :: π)), (8, .p (I i)), (9, .ap (1009 :: π)), (10, .p (I pre.length))], [rowI (1009 :: π) (flagE pre) (pre.map fun s => out.getD s.toNat 0), rowI (11 :: π) (some false) out, (4 :: π, boxN n)]) →
    kpO [0, 4, 7, 8, 9] [6] [] (bkO 2 (iter (round EE iter π [] [0, 4, 7, 8, 9, 10] c_ratchetref27_Sources_L1) x)) = some (.nm, [(0, .p (encLib l)), (4, .ref (4 :: π) 0), (7, .ap (11 :: π)), (8, .p (I i)), (9, .ap (1009 :: π))], [rowI (1009 :: π) (flagE p.sources) (p.sources.map fun s => out.getD s.toNat 0), rowI (11 :: π) (some false) out, (4 :: π, boxN n)])
  | [], pre, x, h, hm => by
    rw [loop_eq hm]
    have : p.sources = pre := by simpa using h
    obtain ⟨hil, hpi⟩ := List.getElem?_eq_some_iff.1 hp
    simp [u_ratchetref27_Sources_L1, b_ratchetref27_Sources_L1, hil, hpi, ← this]
  | y :: suf, pre, x, h, hm => by
    rw [loop_eq hm]
    obtain ⟨hil, hpi⟩ := List.getElem?_eq_some_iff.1 hp
    have hlen : pre.length < p.sources.length := by rw [h]; simp
    have hyg : p.sources[pre.length]? = some y := by rw [h]; simp
    have hyg2 : p.sources[pre.length] = y := by simpa [List.getElem?_eq_getElem hlen] using hyg
    obtain ⟨hy0, hy1⟩ := hsb y (by rw [h]; simp)
    have hlt : y.toNat < out.length := by omega
    have hg : out.getD y.toNat 0 = out[y.toNat] := by simp [List.getD, hlt]
    have hws := w_succ hlen (show p.sources.length ≤ top63 by simp only [top63]; omega)
    have hroom : (pre.map fun s => out.getD s.toNat 0).length + 1 ≤ room := by rw [List.length_map]; simp only [room]; omega
    have hnext := src_loop1 l n out hol i p hp hs3 hsb suf (pre ++ [y])
    rw [show (pre ++ [y]).length = pre.length + 1 by simp, flagE_snoc, show ((pre ++ [y]).map fun s => out.getD s.toNat 0) = (pre.map fun s => out.getD s.toNat 0) ++ [out[y.toNat]] by rw [List.map_append, ← hg]; rfl] at hnext
    generalize (pre.map fun s => out.getD s.toNat 0) = R at *
    generalize (p.sources.map fun s => out.getD s.toNat 0) = RR at *
    simp [u_ratchetref27_Sources_L1, b_ratchetref27_Sources_L1, hil, hpi, hlen, hyg2, hy0, hy1, hlt, hroom]
    exact hnext _ (by simp [h]) (by simp [hws])

theorem src_loop0 (l : List Cell) (n : Net) (hv : NetV l n) :
    ∀ (suf pre : List Placed) (out : List Int) (x : Env × Sto), n.placed = pre ++ suf → (out.length : Int) = 2 + n.leaves + pre.length → bits01 out →
    mask [0, 4, 7, 8] [] x = some ([(0, .p (encLib l)), (4, .ref (4 :: π) 0), (7, .ap (11 :: π)), (8, .p (I pre.length))], [rowI (11 :: π) (some false) out, (4 :: π, boxN n)]) →
    kpO [7] [6] [] (bkO 0 (iter (round EE iter π [] [0, 4, 7, 8] c_ratchetref27_Sources_L0) x)) = some (.nm, [(7, .ap (11 :: π))], [rowI (11 :: π) (some false) (valG l suf out)])
  | [], pre, out, x, h, ho, hb, hm => by
    rw [loop_eq hm]
    have : n.placed = pre := by simpa using h
    simp [u_ratchetref27_Sources_L0, b_ratchetref27_Sources_L0, ← this, valG]
  | y :: suf, pre, out, x, h, ho, hb, hm => by
    rw [loop_eq hm]
    have hnp := hv.np
    have hlv0 := hv.lv0
    have hlv1 := hv.lv1
    have hlen : pre.length < n.placed.length := by rw [h]; simp
    have hyp : n.placed[pre.length]? = some y := by rw [h]; simp
    have hyp2 : n.placed[pre.length] = y := by simpa [List.getElem?_eq_getElem hlen] using hyp
    have hys := hv.src _ _ hyp
    obtain ⟨hc0, hs3, c, hc, ht0, ht1⟩ := hv.tab _ _ hyp
    obtain ⟨hcl, hci⟩ := List.getElem?_eq_some_iff.1 hc
    have hcl' : y.cell < (l.length : Int) := by omega
    have hl1 := src_loop1 (π := π) l n out (by omega) pre.length y hyp hs3 (fun s hs => by have := hys s hs; omega) y.sources []
    have hval := fun π => e_Value (π := π) c (y.sources.map fun s => out.getD s.toNat 0) ⟨ht0, ht1⟩ (by simpa using hs3) (fun v hv => by
      obtain ⟨s, _, rfl⟩ := List.mem_map.1 hv
      exact bits_get hb _)
    have hov : outN l y (fun s => out.getD s.toNat 0) = cellBit c.table (numG 0 (y.sources.map fun s => out.getD s.toNat 0) 0) := by unfold outN tabAt; rw [hc]
    have hws := w_succ hlen (show n.placed.length ≤ top63 by simp only [top63]; omega)
    have hroom : out.length + 1 ≤ room := by simp only [room]; omega
    have hnext := src_loop0 l n hv suf (pre ++ [y]) (out ++ [outN l y (fun s => out.getD s.toNat 0)])
    rw [show (pre ++ [y]).length = pre.length + 1 by simp] at hnext
    have h01 := outN_01 l y (fun s => out.getD s.toNat 0)
    simp only [valG]
    rw [hov] at hnext h01 ⊢
    generalize (y.sources.map fun s => out.getD s.toNat 0) = R at *
    generalize cellBit c.table (numG 0 R 0) = v at *
    generalize valG l suf (out ++ [v]) = V at *
    simp [u_ratchetref27_Sources_L0, b_ratchetref27_Sources_L0, hlen, thaw, thaw1]
    rw [hl1 _ rfl (by simp)]
    simp [hlen, hyp2, hc0, hcl, hcl', hci, hval, hroom, freeze, evRO]
    refine hnext _ (by simp [h]) (by simp; omega) (fun u hu => ?_) (by simp [hws])
    rw [List.mem_append, List.mem_singleton] at hu
    rcases hu with hu | rfl
    · exact hb u hu
    · exact h01

theorem e_Sources (l : List Cell) (n : Net) (hv : NetV l n) (leaves : List Int) (hl : (leaves.length : Int) = n.leaves) (hb : bits01 leaves) :
    EE π n_ratchetref27_Sources [.p (encLib l), .p (encNet n), .p (encInts leaves)] [] = some (.ap (11 :: π), [rowI (11 :: π) (some false) (valsN l n leaves)]) := by
  have hlv1 := hv.lv1
  have hb2 : bits01 ([0, 1] ++ leaves) := fun v hv => by
    rw [List.mem_append] at hv
    rcases hv with hv | hv
    · simp at hv; exact hv
    · exact hb v hv
  have hloop := src_loop0 (π := π) l n hv n.placed [] ([0, 1] ++ leaves)
  have hroom : 2 + leaves.length ≤ room := by simp only [room]; omega
  have hroom' : leaves.length + 2 ≤ room := by omega
  unfold valsN
  generalize valG l n.placed ([0, 1] ++ leaves) = R at *
  simp [e_ratchetref27_Sources, run_eq, c_ratchetref27_Sources, hroom, hroom', thaw, thaw1]
  rw [hloop _ rfl (by simp; omega) hb2 (by simp)]
  simp

end Go.Proofs.YtafomlbikcphgabGreat.V

/- The reference's used paths. -/
namespace Go.Proofs.YtafomlbikcphgabGreat.V
open Go (IntKind BinOp UnOp)
variable {π ρ κ : Id}

theorem outN_congr (l : List Cell) (p : Placed) (g g' : Int → Int) (h : ∀ s ∈ p.sources, g s = g' s) : outN l p g = outN l p g' := by
  unfold outN
  rw [List.map_congr_left h]
theorem valG_prefix (l : List Cell) : ∀ (pl : List Placed) (out : List Int), ∃ t, valG l pl out = out ++ t
  | [], out => ⟨[], by simp [valG]⟩
  | c :: r, out => by
    obtain ⟨t, ht⟩ := valG_prefix l r (out ++ [outN l c (fun s => out.getD s.toNat 0)])
    exact ⟨[outN l c (fun s => out.getD s.toNat 0)] ++ t, by rw [valG, ht, List.append_assoc]⟩
theorem valG_get (l : List Cell) : ∀ (pl : List Placed) (out : List Int) (k : Nat) (c : Placed), pl[k]? = some c → (∀ s ∈ c.sources, 0 ≤ s ∧ s < out.length + k) → (valG l pl out)[out.length + k]? = some (outN l c (fun s => (valG l pl out).getD s.toNat 0))
  | [], out, k, c, h, _ => by simp at h
  | q :: r, out, 0, c, h, hs => by
    simp at h
    subst h
    obtain ⟨t, ht⟩ := valG_prefix l r (out ++ [outN l q (fun s => out.getD s.toNat 0)])
    rw [valG, ht]
    have e1 : (out ++ [outN l q (fun s => out.getD s.toNat 0)] ++ t)[out.length + 0]? = some (outN l q (fun s => out.getD s.toNat 0)) := by simp
    rw [e1]
    congr 1
    refine outN_congr l q _ _ fun s hs' => ?_
    have := hs s hs'
    rw [List.getD, List.getD, List.append_assoc, List.getElem?_append_left (by omega)]
  | q :: r, out, k + 1, c, h, hs => by
    have hl : (out ++ [outN l q (fun s => out.getD s.toNat 0)]).length = out.length + 1 := by simp
    have := valG_get l r (out ++ [outN l q (fun s => out.getD s.toNat 0)]) k c (by simpa using h) (fun s hs' => by have := hs s hs'; rw [hl]; omega)
    rw [valG]
    rw [hl, show out.length + 1 + k = out.length + (k + 1) by omega] at this
    exact this

/-- The value of a cell's source is its output. -/
theorem vals_fix (l : List Cell) (n : Net) (hv : NetV l n) (leaves : List Int) (hl : (leaves.length : Int) = n.leaves) (k : Nat) (c : Placed) (hc : n.placed[k]? = some c) (p : Int) (hp : p = n.leaves + k) :
    (valsN l n leaves).getD (p + 2).toNat 0 = outN l c (fun s => (valsN l n leaves).getD s.toNat 0) := by
  have hlv0 := hv.lv0
  have hs := hv.src k c hc
  have h := valG_get l n.placed ([0, 1] ++ leaves) k c hc (fun s hs' => by have := hs s hs'; simp; omega)
  have e : ([0, 1] ++ leaves).length + k = (p + 2).toNat := by simp; omega
  have h' : (valsN l n leaves)[(p + 2).toNat]? = some (outN l c (fun s => (valsN l n leaves).getD s.toNat 0)) := by rw [← e]; exact h
  rw [List.getD_eq_getElem?_getD, h']; rfl

abbrev usedK (l : List Cell) (π : Id) (P : List Int) (i : Int) : Env := [(0, .p (encLib l)), (2, .p (encInts P)), (5, .ref (5 :: π) 0), (9, .ap (11 :: 19 :: π)), (10, .p (I i)), (11, .ref (11 :: π) 0)]

theorem isu_loop1 (l : List Cell) (n : Net) (vals : List Int) (hvl : vals.length ≤ 1000) (hvb : bits01 vals) (P : List Int) (hPl : P.length ≤ 1000) (i : Nat) (hi : i < P.length) (b : Int) (hb : P[i] = b) (hbb : -1000 ≤ b ∧ b ≤ 1000) (p : Placed) (hs3 : p.sources.length ≤ 3) (hsb : ∀ s ∈ p.sources, 0 ≤ s ∧ s < vals.length) :
    ∀ (suf pre : List Int) (x : Env × Sto), p.sources = pre ++ suf →
    mask [0, 2, 5, 9, 10, 11, 12, 13, 14] [] x = some (usedK l π P (i + 1) ++ [(12, .ap (1012 :: π)), (13, .ap (1013 :: π)), (14, .p (I pre.length))], [rowI (1013 :: π) (flagE pre) (pre.map (turnV vals (b + 2))), rowI (1012 :: π) (flagE pre) (pre.map fun s => vals.getD s.toNat 0), (11 :: π, boxP p), rowI (11 :: 19 :: π) (some false) vals, (5 :: π, boxN n)]) →
    kpO [0, 2, 5, 9, 10, 11, 12, 13] [8] [] (bkO 2 (iter (round EE iter π [] [0, 2, 5, 9, 10, 11, 12, 13, 14] c_ratchetref28_IsUsed_L1) x)) = some (.nm, usedK l π P (i + 1) ++ [(12, .ap (1012 :: π)), (13, .ap (1013 :: π))], [rowI (1013 :: π) (flagE p.sources) (p.sources.map (turnV vals (b + 2))), rowI (1012 :: π) (flagE p.sources) (p.sources.map fun s => vals.getD s.toNat 0), (11 :: π, boxP p), rowI (11 :: 19 :: π) (some false) vals, (5 :: π, boxN n)])
  | [], pre, x, h, hm => by
    rw [loop_eq hm]
    have : p.sources = pre := by simpa using h
    simp [u_ratchetref28_IsUsed_L1, b_ratchetref28_IsUsed_L1, ← this]
  | y :: suf, pre, x, h, hm => by
    rw [loop_eq hm]
    have hlen : pre.length < p.sources.length := by rw [h]; simp
    have hyg : p.sources[pre.length]? = some y := by rw [h]; simp
    have hyg2 : p.sources[pre.length] = y := by simpa [List.getElem?_eq_getElem hlen] using hyg
    obtain ⟨hy0, hy1⟩ := hsb y (by rw [h]; simp)
    have hlt : y.toNat < vals.length := by omega
    have hg : vals.getD y.toNat 0 = vals[y.toNat] := by simp [List.getD, hlt]
    have h01 := bits_get hvb y.toNat
    have hwi : IntKind.i64.wrap (i : Int) = i := w64 ⟨by omega, by omega⟩
    have hwb : IntKind.i64.wrap (b + 2) = b + 2 := w64 ⟨by omega, by omega⟩
    have hw1 : IntKind.i64.wrap (1 - vals[y.toNat]) = 1 - vals[y.toNat] := by rw [← hg]; exact w64 ⟨by omega, by omega⟩
    have hws := w_succ hlen (show p.sources.length ≤ top63 by simp only [top63]; omega)
    have hroom1 : (pre.map (turnV vals (b + 2))).length + 1 ≤ room := by rw [List.length_map]; simp only [room]; omega
    have hroom2 : (pre.map fun s => vals.getD s.toNat 0).length + 1 ≤ room := by rw [List.length_map]; simp only [room]; omega
    have ht : turnV vals (b + 2) y = if y = b + 2 then 1 - vals[y.toNat] else vals[y.toNat] := by unfold turnV; rw [hg]
    have hnext := isu_loop1 l n vals hvl hvb P hPl i hi b hb hbb p hs3 hsb suf (pre ++ [y])
    rw [show (pre ++ [y]).length = pre.length + 1 by simp, flagE_snoc, show ((pre ++ [y]).map fun s => vals.getD s.toNat 0) = (pre.map fun s => vals.getD s.toNat 0) ++ [vals[y.toNat]] by rw [List.map_append, ← hg]; rfl, show ((pre ++ [y]).map (turnV vals (b + 2))) = (pre.map (turnV vals (b + 2))) ++ [turnV vals (b + 2) y] by rw [List.map_append]; rfl, ht] at hnext
    generalize (pre.map (turnV vals (b + 2))) = R1 at *
    generalize (pre.map fun s => vals.getD s.toNat 0) = R2 at *
    generalize (p.sources.map (turnV vals (b + 2))) = RR1 at *
    generalize (p.sources.map fun s => vals.getD s.toNat 0) = RR2 at *
    generalize hv : vals[y.toNat] = v at *
    by_cases hyb : y = b + 2
    · rw [if_pos hyb] at hnext
      have hyb' : (y = b + 2) = True := eq_true hyb
      simp [u_ratchetref28_IsUsed_L1, b_ratchetref28_IsUsed_L1, hlen, hyg2, hy0, hy1, hlt, hv, hwi, hi, hb, hwb, hyb', hw1, hroom1, hroom2]
      exact hnext _ (by simp [h]) (by simp [hws])
    · rw [if_neg hyb] at hnext
      simp [u_ratchetref28_IsUsed_L1, b_ratchetref28_IsUsed_L1, hlen, hyg2, hy0, hy1, hlt, hv, hwi, hi, hb, hwb, hyb, hroom1, hroom2]
      exact hnext _ (by simp [h]) (by simp [hws])

theorem isu_loop0 (l : List Cell) (n : Net) (hv : NetV l n) (vals : List Int) (hvl : (vals.length : Int) = 2 + n.leaves + n.placed.length) (hvb : bits01 vals)
    (hfix : ∀ (k : Nat) c (p : Int), n.placed[k]? = some c → p = n.leaves + k → vals.getD (p + 2).toNat 0 = outN l c (fun s => vals.getD s.toNat 0))
    (P : List Int) (a : Int) (ps : List Int) (hP : P = a :: ps) (hps : ∀ p ∈ P, 0 ≤ p ∧ p < n.leaves + n.placed.length) (hcs : ∀ p ∈ ps, n.leaves ≤ p) (hpl : P.length ≤ 1000) :
    ∀ (suf pre : List Int) (x : Env × Sto), ps = pre ++ suf →
    mask [0, 2, 5, 9, 10] [] x = some ([(0, .p (encLib l)), (2, .p (encInts P)), (5, .ref (5 :: π) 0), (9, .ap (11 :: 19 :: π)), (10, .p (I (pre.length + 1)))], [rowI (11 :: 19 :: π) (some false) vals, (5 :: π, boxN n)]) →
    kpO [] [8] [] (bkO 0 (iter (round EE iter π [] [0, 2, 5, 9, 10] c_ratchetref28_IsUsed_L0) x)) = if usedG l n vals (P.getD pre.length 0) suf = true then some (.nm, [], []) else some (.rt, [(8, .p (.bool false))], [])
  | [], pre, x, h, hm => by
    rw [loop_eq hm]
    have : ps = pre := by simpa using h
    have hl : P.length = pre.length + 1 := by rw [hP, ← this]; rfl
    simp [u_ratchetref28_IsUsed_L0, b_ratchetref28_IsUsed_L0, hl, usedG]
  | y :: suf, pre, x, h, hm => by
    rw [loop_eq hm]
    have hlv0 := hv.lv0
    have hlv1 := hv.lv1
    have hnp := hv.np
    have hlP : P.length = ps.length + 1 := by rw [hP]; rfl
    have hlen : pre.length < ps.length := by rw [h]; simp
    have hym : y ∈ ps := by rw [h]; simp
    have hy := hps y (by rw [hP]; exact List.mem_cons_of_mem _ hym)
    have hyc := hcs y hym
    have hlenA : pre.length < P.length := by omega
    have hlenB : pre.length + 1 < P.length := by omega
    have hbq := hps P[pre.length] (List.getElem_mem hlenA)
    have hbg : P.getD pre.length 0 = P[pre.length] := by rw [List.getD, List.getElem?_eq_getElem hlenA]; rfl
    rw [hbg]
    have hyA : P.getD (pre ++ [y]).length 0 = y := by
      rw [show (pre ++ [y]).length = pre.length + 1 by simp, List.getD, hP, List.getElem?_cons_succ, h]; simp
    have hyB : P[pre.length + 1] = y := by
      have : P[pre.length + 1]? = some y := by rw [hP, List.getElem?_cons_succ, h]; simp
      rw [List.getElem?_eq_getElem hlenB] at this
      exact Option.some.inj this
    have hil : (y - n.leaves).toNat < n.placed.length := by omega
    have hil' : y - n.leaves < (n.placed.length : Int) := by omega
    have hig : 0 ≤ y - n.leaves := by omega
    have hpg : n.placed.getD (y - n.leaves).toNat ⟨0, []⟩ = n.placed[(y - n.leaves).toNat] := by simp [List.getD, hil]
    have hpq : n.placed[(y - n.leaves).toNat]? = some n.placed[(y - n.leaves).toNat] := List.getElem?_eq_getElem hil
    have hfy := hfix _ _ y hpq (by omega)
    have hys := hv.src _ _ hpq
    obtain ⟨hc0, hs3, c, hc, ht0, ht1⟩ := hv.tab _ _ hpq
    obtain ⟨hcl, hci⟩ := List.getElem?_eq_some_iff.1 hc
    have hnext := isu_loop0 l n hv vals hvl hvb hfix P a ps hP hps hcs hpl suf (pre ++ [y])
    rw [hyA, show (pre ++ [y]).length = pre.length + 1 by simp] at hnext
    rw [show usedG l n vals P[pre.length] (y :: suf) = (if outN l n.placed[(y - n.leaves).toNat] (turnV vals (P[pre.length] + 2)) = vals.getD (y + 2).toNat 0 then false else usedG l n vals y suf) by rw [usedG, hpg], hfy]
    have hin := isu_loop1 (π := π) l n vals (by omega) hvb P hpl pre.length hlenA P[pre.length] rfl (by omega) n.placed[(y - n.leaves).toNat] hs3 (fun s hs => by have := hys s hs; omega) n.placed[(y - n.leaves).toNat].sources []
    have hv1 := fun π => e_Value (π := π) c (n.placed[(y - n.leaves).toNat].sources.map fun s => vals.getD s.toNat 0) ⟨ht0, ht1⟩ (by simpa using hs3) (fun v hv => by
      obtain ⟨s, _, rfl⟩ := List.mem_map.1 hv
      exact bits_get hvb _)
    have hv2 := fun π => e_Value (π := π) c (n.placed[(y - n.leaves).toNat].sources.map (turnV vals (P[pre.length] + 2))) ⟨ht0, ht1⟩ (by simpa using hs3) (fun v hv => by
      obtain ⟨s, _, rfl⟩ := List.mem_map.1 hv
      exact turnV_01 hvb _ _)
    have ho1 : outN l n.placed[(y - n.leaves).toNat] (fun s => vals.getD s.toNat 0) = cellBit c.table (numG 0 (n.placed[(y - n.leaves).toNat].sources.map fun s => vals.getD s.toNat 0) 0) := by unfold outN tabAt; rw [hc]
    have ho2 : outN l n.placed[(y - n.leaves).toNat] (turnV vals (P[pre.length] + 2)) = cellBit c.table (numG 0 (n.placed[(y - n.leaves).toNat].sources.map (turnV vals (P[pre.length] + 2))) 0) := by unfold outN tabAt; rw [hc]
    rw [ho1, ho2]
    generalize n.placed[(y - n.leaves).toNat].sources.map (turnV vals (P[pre.length] + 2)) = R1 at *
    generalize (n.placed[(y - n.leaves).toNat].sources.map fun s => vals.getD s.toNat 0) = R2 at *
    generalize cellBit c.table (numG 0 R1 0) = o1 at *
    generalize cellBit c.table (numG 0 R2 0) = o2 at *
    generalize usedG l n vals y suf = ub at *
    generalize hpp : n.placed[(y - n.leaves).toNat] = p at *
    have hcl' : p.cell < (l.length : Int) := by omega
    have hwy : IntKind.i64.wrap (y - n.leaves) = y - n.leaves := w64 ⟨by omega, by omega⟩
    have hlenB' : (pre.length : Int) + 1 < P.length := by omega
    have hti : ((pre.length : Int) + 1).toNat = pre.length + 1 := by omega
    have hge1 : (0 : Int) ≤ (pre.length : Int) + 1 := by omega
    have hws1 : IntKind.i64.wrap ((pre.length : Int) + 1 + 1) = (pre.length : Int) + 1 + 1 := w64 ⟨by omega, by omega⟩
    simp [u_ratchetref28_IsUsed_L0, b_ratchetref28_IsUsed_L0, hlenB', hti, hge1, hlenB, hyB, hwy, hyc, hig, hil, hil', hpp, thaw, thaw1, freeze, evRO]
    rw [hin _ rfl (by simp)]
    by_cases ho : o1 = o2
    · simp [hc0, hcl, hcl', hci, hv1, hv2, ho, freeze, evRO]
    · have ho' : ¬ o2 = o1 := fun h => ho h.symm
      simp [hc0, hcl, hcl', hci, hv1, hv2, ho, ho', freeze, evRO]
      exact hnext _ (by simp [h]) (by simp [hws1])

theorem e_IsUsed (l : List Cell) (n : Net) (hv : NetV l n) (leaves : List Int) (hl : (leaves.length : Int) = n.leaves) (hb : bits01 leaves) (path : List Int) (hp : PathIn n path) :
    EE π n_ratchetref28_IsUsed [.p (encLib l), .p (encNet n), .p (encInts path), .p (encInts leaves)] [] = some (.p (.bool (usedB l n path (valsN l n leaves))), []) := by
  have hne := hp.ne
  have hh0 := hp.h0
  have hcs := hp.cs
  have hlen := hp.len
  have hlv0 := hv.lv0
  have hs := fun π => e_Sources (π := π) l n hv leaves hl hb
  have hvl : ((valsN l n leaves).length : Int) = 2 + n.leaves + n.placed.length := by unfold valsN; rw [valG_len]; simp; omega
  have hv01 : bits01 (valsN l n leaves) := valG_01 _ _ _ (fun v hv => by
    rw [List.mem_append] at hv
    rcases hv with hv | hv
    · simpa using hv
    · exact hb v hv)
  have hfix := fun k c p hc hp => vals_fix l n hv leaves hl k c hc p hp
  cases path with
  | nil => exact absurd rfl hne
  | cons a r =>
    simp only [List.headD_cons] at hh0
    simp only [List.drop_succ_cons, List.drop_zero] at hcs
    have hl := isu_loop0 (π := π) l n hv (valsN l n leaves) hvl hv01 hfix (a :: r) a r rfl (fun p hp => by
      rcases List.mem_cons.1 hp with rfl | hp
      · omega
      · have := hcs p hp; omega) (fun p hp => (hcs p hp).1) hlen r []
    rw [show ([] : List Int).length = 0 from rfl] at hl
    have hu : usedB l n (a :: r) (valsN l n leaves) = usedG l n (valsN l n leaves) a r := rfl
    rw [hu]
    rw [show ((a :: r).getD 0 0) = a from rfl] at hl
    generalize usedG l n (valsN l n leaves) a r = u at *
    generalize valsN l n leaves = V at *
    simp [e_ratchetref28_IsUsed, run_eq, c_ratchetref28_IsUsed, hs]
    rw [hl _ rfl (by simp)]
    cases u <;> simp

end Go.Proofs.YtafomlbikcphgabGreat.V
