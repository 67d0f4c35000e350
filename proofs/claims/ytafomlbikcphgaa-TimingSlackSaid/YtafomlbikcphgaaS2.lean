/- Arrivals, by timing. Repeated times. Required times, by timing. Required times: a round over the cells. Required times, of all cells. The exported function of arrivals. The exported functions: arrivals, required times, slacks. Slacks, by timing. Loads and delays, by the reference. Delays and arrival -/
import Derived.Test.YtafomlbikcphgaaS1
import Derived.Test.YtafomlbikcphgaaK4

set_option linter.unusedSimpArgs false
set_option linter.unusedVariables false

/- Arrivals, by timing. -/
namespace Go.Proofs.Ytafomlbikcphgaa.V
open Go (IntKind BinOp UnOp)
variable {π ρ : Id}

/-- The latest arrival of some sources. -/
def lat (cur : List Int) : List Int → Int → Int
  | [], a => a
  | s :: r, a => lat cur r (if 2 ≤ s then (if a < cur.getD (s - 2).toNat 0 then cur.getD (s - 2).toNat 0 else a) else a)

theorem great_loop (src cur : List Int) (hsrc : src.length ≤ top63) (hin : ∀ s ∈ src, 0 ≤ s ∧ s < cur.length + 2) (hcl : cur.length ≤ 1000000) : ∀ (suf pre : List Int) (a : Int) (x : Env × Sto), src = pre ++ suf →
    mask [1, 5, 9, 10, 11] [] x = some ([(1, .p (encInts cur)), (5, .p (I a)), (9, .p (encInts src)), (10, .p (I src.length)), (11, .p (I pre.length))], []) →
    kpO [5] [4] [] (bkO 0 (iter (round EE iter π [] [1, 5, 9, 10, 11] c_timing_greatest_L0) x)) = some (.nm, [(5, .p (I (lat cur suf a)))], [])
  | [], pre, a, x, h, hm => by
    rw [loop_eq hm]
    have : src = pre := by simpa using h
    rw [← this]
    simp [u_timing_greatest_L0, b_timing_greatest_L0, lat]
  | y :: suf, pre, a, x, h, hm => by
    rw [loop_eq hm]
    have hy := hin y (by rw [h]; simp)
    have hlen : pre.length < src.length := by rw [h]; simp
    have hw : IntKind.i64.wrap (y - 2) = y - 2 := w64 ⟨by omega, by omega⟩
    by_cases h2 : 2 ≤ y
    · have hlt : (y - 2).toNat < cur.length := by omega
      have hlt' : y - 2 < (cur.length : Int) := by omega
      have hg : cur.getD (y - 2).toNat 0 = cur[(y - 2).toNat] := by simp [List.getD, hlt]
      simp only [lat, h2, if_true, hg]
      by_cases hmx : a < cur[(y - 2).toNat]
      · simp [u_timing_greatest_L0, b_timing_greatest_L0, lt_mid h, get_mid _ h, e_pointOf, hw, h2, hlt, hlt', hmx]
        exact great_loop src cur hsrc hin hcl suf (pre ++ [y]) _ _ (by simp [h]) (by simp [w_succ hlen hsrc])
      · simp [u_timing_greatest_L0, b_timing_greatest_L0, lt_mid h, get_mid _ h, e_pointOf, hw, h2, hlt, hlt', hmx]
        exact great_loop src cur hsrc hin hcl suf (pre ++ [y]) _ _ (by simp [h]) (by simp [w_succ hlen hsrc])
    · simp only [lat, h2, if_false]
      simp [u_timing_greatest_L0, b_timing_greatest_L0, lt_mid h, get_mid _ h, e_pointOf, hw, h2]
      exact great_loop src cur hsrc hin hcl suf (pre ++ [y]) _ _ (by simp [h]) (by simp [w_succ hlen hsrc])

theorem e_greatest (src cur : List Int) (hsrc : src.length ≤ top63) (hin : ∀ s ∈ src, 0 ≤ s ∧ s < cur.length + 2) (hcl : cur.length ≤ 1000000) :
    EE π n_timing_greatest [.p (encInts src), .p (encInts cur)] [] = some (.p (I (lat cur src 0)), []) := by
  simp [e_timing_greatest, run_eq, c_timing_greatest]
  rw [great_loop src cur hsrc hin hcl src [] 0 _ rfl (by simp)]
  simp

/-- Arrivals, cell by cell. -/
def arrGo (D : List Int) : Nat → List Placed → List Int → List Int
  | _, [], cur => cur
  | i, p :: r, cur => arrGo D (i + 1) r (cur ++ [lat cur p.sources 0 + D.getD i 0])

theorem lat_in (cur : List Int) (B : Int) (hB : 0 ≤ B) (h : ∀ x ∈ cur, 0 ≤ x ∧ x ≤ B) : ∀ (src : List Int) (a : Int), 0 ≤ a → a ≤ B → 0 ≤ lat cur src a ∧ lat cur src a ≤ B
  | [], a, h0, h1 => ⟨h0, h1⟩
  | s :: r, a, h0, h1 => by
    have hg : 0 ≤ cur.getD (s - 2).toNat 0 ∧ cur.getD (s - 2).toNat 0 ≤ B := by
      rw [List.getD]
      cases hx : cur[(s - 2).toNat]? with
      | none => exact ⟨by simp, by simpa using hB⟩
      | some v => exact h v (List.mem_of_getElem? hx)
    simp only [lat]
    split
    · split
      · exact lat_in cur B hB h r _ hg.1 hg.2
      · exact lat_in cur B hB h r _ h0 h1
    · exact lat_in cur B hB h r _ h0 h1

theorem arr_loop (l : List Cell) (n : Net) (m : Model) (hv : Valid l n m) : ∀ (suf pre : List Placed) (cur : List Int) (nl : Option Bool) (i : Id) (x : Env × Sto), n.placed = pre ++ suf → (cur.length : Int) = n.leaves + pre.length → (∀ v ∈ cur, 0 ≤ v ∧ v ≤ 1000000 + 25400 * (pre.length : Int)) →
    mask [2, 5, 13, 14, 15] [] x = some ([(2, .ref (2 :: π) 0), (5, .ap (0 :: 9 :: π)), (13, .p (encPlaceds n.placed)), (14, .p (I n.placed.length)), (15, .p (I pre.length))],
      [rowI (0 :: 9 :: π) nl cur, (2 :: π, .box false [.p (I n.leaves), .p (encPlaceds n.placed), .p (encInts n.outs), .p (encLib l), .p (I m.perLoad), .p (I m.setup), .p (I m.hold), .p (I m.fast), .p (I m.slow), .p (encInts (delaysN l n m))])]) →
    kpO [5] [4] [] (bkO 0 (iter (round EE iter π [] [2, 5, 13, 14, 15] c_timing_timed_arrivals_L0) x)) = some (.nm, [(5, .ap (0 :: 9 :: π))], [rowI (0 :: 9 :: π) (bif suf.isEmpty then nl else some false) (arrGo (delaysN l n m) pre.length suf cur)])
  | [], pre, cur, nl, i, x, h, hc, hb, hm => by
    rw [loop_eq hm]
    have : n.placed = pre := by simpa using h
    generalize delaysN l n m = D
    simp [u_timing_timed_arrivals_L0, b_timing_timed_arrivals_L0, arrGo, this]
  | y :: suf, pre, cur, nl, i, x, h, hc, hb, hm => by
    rw [loop_eq hm]
    have hmem : y ∈ n.placed := by rw [h]; simp
    have hlen : pre.length < n.placed.length := by rw [h]; simp
    have hlv := hv.lv0
    have hlv1 := hv.lv1
    have hnp := hv.np
    have hsr := hv.src pre.length y (by rw [h]; simp)
    obtain ⟨_, _, _, _, _, hs3⟩ := hv.cell y hmem
    have hgr := fun π => e_greatest (π := π) y.sources cur (by simp only [top63]; omega) (fun s hs => by have := hsr s hs; omega) (by omega)
    have hDl : (delaysN l n m).length = n.placed.length := by simp [delaysN]
    have hDg : (delaysN l n m).getD pre.length 0 = delayN l n m pre.length y := by simp [delaysN, List.getD, h]
    have hDi : (delaysN l n m)[pre.length]? = some (delayN l n m pre.length y) := by simp [delaysN, h]
    have hdi := (hv.delay_in (i := pre.length) hmem).2.2
    have hla := lat_in cur _ (by omega) hb y.sources 0 (by omega) (by omega)
    have hw := w64 (n := lat cur y.sources 0 + delayN l n m pre.length y) ⟨by omega, by omega⟩
    have hroom : cur.length + 1 ≤ room := by simp only [room]; omega
    have hnext := arr_loop l n m hv suf (pre ++ [y]) (cur ++ [lat cur y.sources 0 + delayN l n m pre.length y]) (some false) i
    rw [show (pre ++ [y]).length = pre.length + 1 by simp] at hnext
    simp only [arrGo]
    rw [hDg]
    generalize delaysN l n m = D at hDi hDl hnext
    have hlt : pre.length < D.length := by omega
    have hD2 : D[pre.length] = delayN l n m pre.length y := by simpa [List.getElem?_eq_getElem hlt] using hDi
    simp [u_timing_timed_arrivals_L0, b_timing_timed_arrivals_L0, lt_mid h, get_mid _ h, hgr, hlt, hD2, hw, hroom]
    refine (hnext _ (by simp [h]) (by simp; omega) ?_ (by simp [w_succ hlen (show n.placed.length ≤ top63 by simp only [top63]; omega)])).trans (by simp)
    intro v hv
    rw [List.mem_append] at hv
    rcases hv with hv | hv
    · have := hb v hv; omega
    · simp at hv; omega

theorem e_arrivals (l : List Cell) (n : Net) (m : Model) (hv : Valid l n m) (ats : List Int) (ha : (ats.length : Int) = n.leaves) (hb : ∀ v ∈ ats, 0 ≤ v ∧ v ≤ 1000000) :
    EE π n_timing_timed_arrivals [.p (.agg [I n.leaves, encPlaceds n.placed, encInts n.outs, encLib l, I m.perLoad, I m.setup, I m.hold, I m.fast, I m.slow, encInts (delaysN l n m)]), .p (encInts ats)] [] =
      some (.ap (0 :: 9 :: π), [rowI (0 :: 9 :: π) (bif n.placed.isEmpty then flE (ints ats) else some false) (arrGo (delaysN l n m) 0 n.placed ats)]) := by
  have h3 := arr_loop (π := π) l n m hv n.placed [] ats (flE (ints ats)) []
  have hlv1 := hv.lv1
  have hroom : ats.length ≤ room := by simp only [room]; omega
  generalize delaysN l n m = D at *
  simp [e_timing_timed_arrivals, run_eq, c_timing_timed_arrivals, o_slices_Clone_int_int, cloneO, hroom, thaw, thaw1]
  rw [h3 _ rfl (by simpa using ha) (by simpa using hb) (by simp)]
  simp

end Go.Proofs.Ytafomlbikcphgaa.V

/- Repeated times. -/
namespace Go.Proofs.Ytafomlbikcphgaa.V
open Go (IntKind BinOp UnOp)
variable {π ρ : Id}

theorem wu64 {n : Int} (h : 0 ≤ n ∧ n ≤ 1000000000) : IntKind.u64.wrap n = n := Go.IntWalk.u64_in n ⟨by omega, by omega⟩
theorem mask32 (k : Nat) (hk : k ≤ 1000000) : ibits .and .u64 (k : Int) 4294967295 = some (k : Int) := by
  have e : ((BitVec.ofInt 64 (k : Int)) &&& BitVec.ofInt 64 4294967295).toNat = k := by
    rw [BitVec.toNat_and]
    have h1 : (BitVec.ofInt 64 (k : Int)).toNat = k := by simp [BitVec.toNat_ofInt]; omega
    have h2 : (BitVec.ofInt 64 4294967295).toNat = 2 ^ 32 - 1 := by decide
    rw [h1, h2, Nat.and_two_pow_sub_one_eq_mod]; omega
  show some (IntKind.u64.wrap (((BitVec.ofInt 64 (k : Int)) &&& BitVec.ofInt 64 4294967295).toNat : Int)) = _
  rw [e, wu64 ⟨by omega, by omega⟩]
theorem mask1 : ibits .and .u64 1 4294967295 = some 1 := by decide
theorem mask0 : ibits .and .u64 0 4294967295 = some 0 := by decide
theorem shr32 (k : Nat) (hk : k ≤ 1000000) : (k : Int).fdiv 4294967296 = 0 := by
  rw [Int.fdiv_eq_ediv_of_nonneg _ (by omega)]; omega

theorem e_Mul64 (k : Nat) (hk : k ≤ 1000000) : EE π n_bits_Mul64 [.p (.int .u64 1), .p (.int .u64 k)] [] = some (.p (.tup [.int .u64 0, .int .u64 k]), []) := by
  have hw := wu64 (n := (k : Int)) ⟨by omega, by omega⟩
  have h1 : (1 : Int).fdiv 4294967296 = 0 := by decide
  have h0 : (0 : Int).fdiv 4294967296 = 0 := by decide
  have hw0 := wu64 (n := 0) ⟨by omega, by omega⟩
  simp [e_bits_Mul64, run_eq, c_bits_Mul64, mask32 k hk, mask1, mask0, shr32 k hk, hw, h1, h0, hw0, IntKind.bits]
  done

theorem e_Mul (k : Nat) (hk : k ≤ 1000000) : EE π n_bits_Mul [.p (.int .u64 1), .p (.int .u64 k)] [] = some (.p (.tup [.int .u64 0, .int .u64 k]), []) := by
  simp [e_bits_Mul, run_eq, c_bits_Mul, e_Mul64 _ hk]

/-- The first ones are written. -/
def repL (v : Int) (k j : Nat) : List Int := List.replicate j v ++ List.replicate (k - j) 0
theorem repL_len {v : Int} {k j : Nat} (h : j ≤ k) : (repL v k j).length = k := by simp [repL]; omega
theorem repL_set {v : Int} {k j : Nat} (h : j ≤ k) : List.take j (ints (repL v k j)) ++ (List.take (k - j) (List.take j (ints (repL v k j))) ++ List.drop (j + min (k - j) j) (ints (repL v k j))) = ints (repL v k (j + min (k - j) j)) := by
  have e1 : (ints (repL v k j)).take j = ints (List.replicate j v) := by simp [repL]
  have e2 : (ints (repL v k j)).drop (j + min (k - j) j) = ints (List.replicate (k - (j + min (k - j) j)) 0) := by
    simp [repL, List.drop_append]; omega
  rw [e1, e2]
  simp [repL, ints, ← List.replicate_append_replicate]

theorem rep_loop (v : Int) (k : Nat) (hk : k ≤ 1000000) : ∀ (fuel j : Nat) (x : Env × Sto), k - j ≤ fuel → j ≤ k → (1 ≤ j ∨ k = 0) →
    mask [7, 8] [] x = some ([(7, .ap (30 :: π)), (8, .p (I j))], [rowI (30 :: π) (some false) (repL v k j)]) →
    kpO [7] [4] [] (bkO 0 (iter (round EE iter π [] [7, 8] c_slices_Repeat_int_int_L0) x)) = some (.nm, [(7, .ap (30 :: π))], [rowI (30 :: π) (some false) (List.replicate k v)]) := by
  intro fuel
  induction fuel with
  | zero =>
    intro j x hf hj h1 hm
    rw [loop_eq hm]
    have : j = k := by omega
    subst this
    have hl : (repL v j j).length = j := repL_len (Nat.le_refl _)
    have he : repL v j j = List.replicate j v := by simp [repL]
    generalize hR : repL v j j = R at *
    simp [u_slices_Repeat_int_int_L0, b_slices_Repeat_int_int_L0, hl, he]
  | succ f ih =>
    intro j x hf hj h1 hm
    rw [loop_eq hm]
    have hl : (repL v k j).length = k := repL_len hj
    by_cases hjk : j = k
    · subst hjk
      have he : repL v j j = List.replicate j v := by simp [repL]
      generalize hR : repL v j j = R at *
      simp [u_slices_Repeat_int_int_L0, b_slices_Repeat_int_int_L0, hl, he]
    · have hlt : (j : Int) < k := by omega
      have hset := repL_set (v := v) hj
      have hnext := ih (j + min (k - j) j)
      have hj0 : ¬ j = 0 := by omega
      have hkj : ¬ k ≤ j := by omega
      have hw : IntKind.i64.wrap ((j : Int) + ((min (k - j) j : Nat) : Int)) = (j : Int) + ((min (k - j) j : Nat) : Int) := w64 ⟨by omega, by omega⟩
      generalize hR : repL v k j = R at *
      generalize repL v k (j + min (k - j) j) = R' at *
      simp [u_slices_Repeat_int_int_L0, b_slices_Repeat_int_int_L0, hl, hlt, hj, hj0, hkj]
      exact hnext _ (by omega) (by omega) (by omega) (by simp [hset, hw])

theorem e_Repeat (v : Int) (k : Nat) (hk : k ≤ 1000000) : EE π n_slices_Repeat_int_int [.p (encInts [v]), .p (I k)] [] = some (.ap (30 :: π), [rowI (30 :: π) (some false) (List.replicate k v)]) := by
  have hw := wu64 (n := (k : Int)) ⟨by omega, by omega⟩
  have hw1 := wu64 (n := 1) ⟨by omega, by omega⟩
  have hw2 : IntKind.i64.wrap (k : Int) = k := w64 ⟨by omega, by omega⟩
  have hk0 : ¬ (k : Int) < 0 := by omega
  have hk9 : ¬ 9223372036854775807 < (k : Int) := by omega
  have hroom : k ≤ room := by simp only [room]; omega
  simp [e_slices_Repeat_int_int, run_eq, c_slices_Repeat_int_int, e_Mul _ hk, hw, hw1, hw2, hk0, hk9, hroom]
  by_cases h0 : k = 0
  · subst h0
    simp
    rw [rep_loop v 0 (by omega) 0 0 _ (by omega) (by omega) (by omega) (by simp [repL])]
    simp
  · have hm : min k 1 = 1 := by omega
    have ht : List.take k [I v] = [I v] := by rw [List.take_of_length_le]; simp; omega
    have hr : repL v k 1 = v :: List.replicate (k - 1) 0 := by simp [repL]
    simp [h0, hm, ht]
    rw [rep_loop v k hk k 1 _ (by omega) (by omega) (by omega) (by simp [hr])]
    simp

end Go.Proofs.Ytafomlbikcphgaa.V

/- Required times, by timing. -/
namespace Go.Proofs.Ytafomlbikcphgaa.V
open Go (IntKind BinOp UnOp)
variable {π ρ : Id}

abbrev never : Int := -1000000000
/-- A source is required at a time. -/
def reqStep (R : List Int) (s v : Int) : List Int := if 2 ≤ s then (if R.getD (s - 2).toNat 0 = never ∨ v < R.getD (s - 2).toNat 0 then R.set (s - 2).toNat v else R) else R
theorem reqStep_len (R : List Int) (s v : Int) : (reqStep R s v).length = R.length := by
  unfold reqStep; split
  · split <;> simp
  · rfl

theorem e_required1 (R : List Int) (s v : Int) (hs : 0 ≤ s ∧ s < R.length + 2) (hR : R.length ≤ 1000000) (nl : Option Bool) :
    EE π n_timing_timed_required_1 [.p (I s), .p (I v), .ref (5 :: ρ) 0] [(5 :: ρ, .box false [.ap (30 :: 18 :: ρ)]), rowI (30 :: 18 :: ρ) nl R] = some (.p (.tup []), [(5 :: ρ, .box false [.ap (30 :: 18 :: ρ)]), rowI (30 :: 18 :: ρ) nl (reqStep R s v)]) := by
  have hw : IntKind.i64.wrap (s - 2) = s - 2 := w64 ⟨by omega, by omega⟩
  unfold reqStep
  by_cases h : 2 ≤ s
  · have hge : 0 ≤ s - 2 := by omega
    have hlt : (s - 2).toNat < R.length := by omega
    have hlt' : s - 2 < (R.length : Int) := by omega
    have hg : R.getD (s - 2).toNat 0 = R[(s - 2).toNat] := by simp [List.getD, hlt]
    simp only [h, if_true, hg]
    by_cases hnv : R[(s - 2).toNat] = never
    · simp [e_timing_timed_required_1, run_eq, c_timing_timed_required_1, e_pointOf, hw, h, hlt, hlt', hnv, PV.setc]
      done
    · by_cases hv : v < R[(s - 2).toNat]
      · simp [e_timing_timed_required_1, run_eq, c_timing_timed_required_1, e_pointOf, hw, h, hlt, hlt', hnv, hv, PV.setc]
        done
      · simp [e_timing_timed_required_1, run_eq, c_timing_timed_required_1, e_pointOf, hw, h, hlt, hlt', hnv, hv, PV.setc]
        done
  · simp [e_timing_timed_required_1, run_eq, c_timing_timed_required_1, e_pointOf, hw, h]

abbrev cellsT (l : List Cell) (n : Net) (m : Model) (D : List Int) : List AV := [.p (I n.leaves), .p (encPlaceds n.placed), .p (encInts n.outs), .p (encLib l), .p (I m.perLoad), .p (I m.setup), .p (I m.hold), .p (I m.fast), .p (I m.slow), .p (encInts D)]
abbrev stR (π : Id) (l : List Cell) (n : Net) (m : Model) (D : List Int) (R : List Int) : Sto :=
  [(6 :: π, .box false [.fn n_timing_timed_required_1 [.ref (5 :: π) 0]]), (5 :: π, .box false [.ap (30 :: 18 :: π)]), rowI (30 :: 18 :: π) (some false) R, (2 :: π, .box false (cellsT l n m D))]

/-- Outputs are required, each at its time. -/
def reqOuts : List Int → List Int → List Int → List Int
  | R, s :: r, v :: w => reqOuts (reqStep R s v) r w
  | R, _, _ => R
theorem reqOuts_len : ∀ (R o d : List Int), (reqOuts R o d).length = R.length
  | R, s :: r, v :: w => by rw [reqOuts, reqOuts_len, reqStep_len]
  | R, [], _ => by simp [reqOuts]
  | R, _ :: _, [] => by simp [reqOuts]

theorem outs_loopT (l : List Cell) (n : Net) (m : Model) (D due : List Int) (hdl : due.length = n.outs.length) (ho : n.outs.length ≤ top63) : ∀ (suf dsuf pre dpre : List Int) (R : List Int) (x : Env × Sto), n.outs = pre ++ suf → due = dpre ++ dsuf → dpre.length = pre.length → R.length ≤ 1000000 → (∀ s ∈ n.outs, 0 ≤ s ∧ s < R.length + 2) →
    mask [1, 2, 4, 5, 6, 23, 24, 25] [] x = some ([(1, .p (encInts due)), (2, .ref (2 :: π) 0), (4, .p (.sl 1 (some true) [])), (5, .ref (5 :: π) 0), (6, .ref (6 :: π) 0), (23, .p (encInts n.outs)), (24, .p (I n.outs.length)), (25, .p (I pre.length))], stR π l n m D R) →
    kpO [2, 4, 5, 6] [4] [] (bkO 0 (iter (round EE iter π [] [1, 2, 4, 5, 6, 23, 24, 25] c_timing_timed_required_L0) x)) = some (.nm, [(2, .ref (2 :: π) 0), (4, .p (.sl 1 (some true) [])), (5, .ref (5 :: π) 0), (6, .ref (6 :: π) 0)], stR π l n m D (reqOuts R suf dsuf))
  | [], ds, pre, dp, R, x, h, hd, hdp, hR, hin, hm => by
    rw [loop_eq hm]
    have : n.outs = pre := by simpa using h
    have e : reqOuts R [] ds = R := by simp [reqOuts]
    rw [e]
    simp [u_timing_timed_required_L0, b_timing_timed_required_L0, this]
  | y :: suf, [], pre, dp, R, x, h, hd, hdp, hR, hin, hm => by
    rw [h, hd] at hdl; simp at hdl; omega
  | y :: suf, v :: ds, pre, dp, R, x, h, hd, hdp, hR, hin, hm => by
    rw [loop_eq hm]
    have hlen : pre.length < n.outs.length := by rw [h]; simp
    have hg : due[pre.length]? = some v := by rw [hd, ← hdp]; simp
    have hdlt : pre.length < due.length := by omega
    have hgv : due[pre.length] = v := by simpa [List.getElem?_eq_getElem hdlt] using hg
    have hc := e_required1 (π := 36 :: π) (ρ := π) R y v (hin y (by rw [h]; simp)) hR (some false)
    have hl := reqStep_len R y v
    have hnext := outs_loopT l n m D due hdl ho suf ds (pre ++ [y]) (dp ++ [v]) (reqStep R y v)
    rw [show (pre ++ [y]).length = pre.length + 1 by simp, hl] at hnext
    rw [reqOuts]
    generalize reqStep R y v = R' at *
    simp [u_timing_timed_required_L0, b_timing_timed_required_L0, lt_mid h, get_mid _ h, hc, hdlt, hgv]
    exact hnext _ (by simp [h]) (by simp [hd]) (by simp [hdp]) (by omega) hin (by simp [w_succ hlen ho])

end Go.Proofs.Ytafomlbikcphgaa.V

/- Required times: a round over the cells. -/
namespace Go.Proofs.Ytafomlbikcphgaa.V
open Go (IntKind BinOp UnOp)
variable {π ρ κ : Id}

abbrev frR (π : Id) (st : FSt) : Id × Blk := (2000000 :: π, .frm π 73 [(2, .ref (2 :: π) 0), (5, .ref (5 :: π) 0), (6, .ref (6 :: π) 0)] [43, 44] c_timing_timed_required_R0A c_timing_timed_required_R0B st)
abbrev k0R (π : Id) : List Id := [2000000 :: π, 6 :: π, 5 :: π, 30 :: 18 :: π, 2 :: π]

/-- Sources are required at a time. -/
def reqSrcs (v : Int) : List Int → List Int → List Int
  | [], R => R
  | s :: r, R => reqSrcs v r (reqStep R s v)
theorem reqSrcs_len (v : Int) : ∀ (o R : List Int), (reqSrcs v o R).length = R.length
  | s :: r, R => by rw [reqSrcs, reqSrcs_len, reqStep_len]
  | [], R => rfl

theorem req_loop1 (l : List Cell) (n : Net) (m : Model) (D : List Int) (i : Nat) (d own : Int) (hD : D[i]? = some d) (hok : ok64 (own - d)) (src : List Int) (hsrc : src.length ≤ top63) : ∀ (suf pre R : List Int) (x : Env × Sto), src = pre ++ suf → R.length ≤ 1000000 → (∀ s ∈ src, 0 ≤ s ∧ s < R.length + 2) →
    mask [2, 6, 9, 11, 55, 56, 57] (k0R π) x = some ([(2, .ref (2 :: π) 0), (6, .ref (6 :: π) 0), (9, .p (I i)), (11, .p (I own)), (55, .p (encInts src)), (56, .p (I src.length)), (57, .p (I pre.length))], frR π .busy :: stR π l n m D R) →
    kpO [] [] (k0R π) (bkO 4 (iter (round EE iter π (k0R π) [2, 6, 9, 11, 55, 56, 57] c_timing_timed_required_L1) x)) = some (.nm, [], frR π .busy :: stR π l n m D (reqSrcs (own - d) suf R))
  | [], pre, R, x, h, hR, hin, hm => by
    rw [loop_eq hm]
    have : src = pre := by simpa using h
    simp [u_timing_timed_required_L1, b_timing_timed_required_L1, this, reqSrcs]
  | y :: suf, pre, R, x, h, hR, hin, hm => by
    rw [loop_eq hm]
    have hlen : pre.length < src.length := by rw [h]; simp
    have hc := e_required1 (π := 70 :: π) (ρ := π) R y (own - d) (hin y (by rw [h]; simp)) hR (some false)
    have hl := reqStep_len R y (own - d)
    have hw := w64 hok
    have hi : i < D.length := by rw [List.getElem?_eq_some_iff] at hD; exact hD.1
    have hDd : D[i] = d := by simpa [List.getElem?_eq_getElem hi] using hD
    have hnext := req_loop1 l n m D i d own hD hok src hsrc suf (pre ++ [y]) (reqStep R y (own - d))
    rw [show (pre ++ [y]).length = pre.length + 1 by simp, hl] at hnext
    rw [reqSrcs]
    generalize reqStep R y (own - d) = R' at *
    simp [u_timing_timed_required_L1, b_timing_timed_required_L1, lt_mid h, get_mid _ h, hc, hi, hDd, hw]
    exact hnext _ (by simp [h]) (by omega) hin (by simp [w_succ hlen hsrc])

/-- A cell's sources are required when it has a required time. -/
def reqCell (lv : Nat) (D : List Int) (i : Nat) (p : Placed) (R : List Int) : List Int :=
  if R.getD (lv + i) 0 = never then R else reqSrcs (R.getD (lv + i) 0 - D.getD i 0) p.sources R
theorem reqCell_len (lv : Nat) (D : List Int) (i : Nat) (p : Placed) (R : List Int) : (reqCell lv D i p R).length = R.length := by
  unfold reqCell; split
  · rfl
  · exact reqSrcs_len _ _ _

theorem e_yld {args : List AV} {s : Sto} : EE κ yieldF args s = runY EE iter args s := E_yld

theorem e_round (l : List Cell) (n : Net) (m : Model) (D : List Int) (hlv0 : 0 ≤ n.leaves) (hlv1 : n.leaves ≤ 40) (i : Nat) (p : Placed) (d : Int) (hD : D[i]? = some d) (R : List Int) (hiR : n.leaves.toNat + i < R.length) (hR : R.length ≤ 1000000)
    (hok : ok64 (R.getD (n.leaves.toNat + i) 0 - d)) (hp3 : p.sources.length ≤ 3) (hin : ∀ s ∈ p.sources, 0 ≤ s ∧ s < R.length + 2) :
    EE κ yieldF [.p (I i), .p (encPlaced p), .yld (2000000 :: π)] (frR π .ready :: stR π l n m D R) = some (.p (.bool true), frR π .ready :: stR π l n m D (reqCell n.leaves.toNat D i p R)) := by
  have hw1 : IntKind.i64.wrap (n.leaves + i) = n.leaves + i := w64 ⟨by omega, by omega⟩
  have hcell := fun π => e_cell (π := π) n l i
  rw [hw1] at hcell
  have hnn : 0 ≤ n.leaves + (i : Int) := by omega
  have hlt : n.leaves + (i : Int) < (R.length : Int) := by omega
  have htn : (n.leaves + (i : Int)).toNat = n.leaves.toNat + i := by omega
  have hg : R.getD (n.leaves.toNat + i) 0 = R[n.leaves.toNat + i] := by simp [List.getD, hiR]
  have hl := req_loop1 (π := π) l n m D i d (R.getD (n.leaves.toNat + i) 0) hD hok p.sources (by simp only [top63]; omega) p.sources [] R
  have hDd : D.getD i 0 = d := by simp [List.getD, hD]
  rw [e_yld]
  unfold reqCell
  rw [hDd]
  rw [hg] at hl ⊢
  by_cases hnv : R[n.leaves.toNat + i] = never
  · rw [if_pos hnv]
    simp [runY, u_timing_timed_required_R0A, b_timing_timed_required_R0A, u_timing_timed_required_R0B, b_timing_timed_required_R0B, hcell, hnn, hlt, htn, hiR, hnv]
    done
  · rw [if_neg hnv]
    simp [runY, u_timing_timed_required_R0A, b_timing_timed_required_R0A, u_timing_timed_required_R0B, b_timing_timed_required_R0B, hcell, hnn, hlt, htn, hiR, hnv]
    rw [hl _ rfl hR hin (by simp)]
    simp

end Go.Proofs.Ytafomlbikcphgaa.V

/- Required times, of all cells. -/
namespace Go.Proofs.Ytafomlbikcphgaa.V
open Go (IntKind BinOp UnOp)
variable {π ρ κ : Id}

/-- Each is never, or within bounds. -/
def RB (R : List Int) (B : Int) : Prop := ∀ v ∈ R, v = never ∨ (-B ≤ v ∧ v ≤ 1000000)
theorem RB.mono {R : List Int} {B C : Int} (h : RB R B) (hc : B ≤ C) : RB R C := fun v hv => (h v hv).imp id fun h => by omega
theorem RB.step {R : List Int} {B s v : Int} (h : RB R B) (hv : -B ≤ v ∧ v ≤ 1000000) : RB (reqStep R s v) B := by
  unfold reqStep
  split
  · split
    · intro x hx
      rcases List.mem_or_eq_of_mem_set hx with hx | hx
      · exact h x hx
      · exact .inr (by rw [hx]; exact hv)
    · exact h
  · exact h
theorem RB.srcs {B v : Int} (hv : -B ≤ v ∧ v ≤ 1000000) : ∀ (o R : List Int), RB R B → RB (reqSrcs v o R) B
  | [], _, h => h
  | s :: r, R, h => RB.srcs hv r _ (h.step hv)
theorem RB.outs {B : Int} : ∀ (R o d : List Int), RB R B → (∀ v ∈ d, -B ≤ v ∧ v ≤ 1000000) → RB (reqOuts R o d) B
  | R, s :: r, v :: w, h, hd => RB.outs (reqStep R s v) r w (h.step (hd v (by simp))) fun x hx => hd x (by simp [hx])
  | R, [], _, h, _ => by simpa [reqOuts] using h
  | R, _ :: _, [], h, _ => by simpa [reqOuts] using h
theorem RB.get {R : List Int} {B : Int} (h : RB R B) {i : Nat} (hi : i < R.length) : R.getD i 0 = never ∨ (-B ≤ R.getD i 0 ∧ R.getD i 0 ≤ 1000000) := by
  have : R.getD i 0 = R[i] := by simp [List.getD, hi]
  rw [this]; exact h _ (List.getElem_mem hi)
theorem RB.cell {R : List Int} {B : Int} {lv : Nat} {D : List Int} {i : Nat} {p : Placed} (h : RB R B) (hi : lv + i < R.length) (hd : 1 ≤ D.getD i 0 ∧ D.getD i 0 ≤ 25400) : RB (reqCell lv D i p R) (B + 25400) := by
  unfold reqCell
  split
  · exact h.mono (by omega)
  · rename_i hn
    rcases h.get hi with h1 | h1
    · exact absurd h1 hn
    · exact RB.srcs (by omega) _ _ (h.mono (by omega))

/-- All cells, from the last one. -/
def reqDown (lv : Nat) (D : List Int) (pl : List Placed) : Nat → List Int → List Int
  | 0, R => R
  | k + 1, R => reqDown lv D pl k (match pl[k]? with | some p => reqCell lv D k p R | none => R)

abbrev k0B (π : Id) : List Id := [2000000 :: π, 1 :: 42 :: π, 6 :: π, 5 :: π, 30 :: 18 :: π, 2 :: π]
abbrev stB (π : Id) (l : List Cell) (n : Net) (m : Model) (D R : List Int) : Sto := frR π .ready :: (1 :: 42 :: π, .box false [.p (encPlaceds n.placed)]) :: stR π l n m D R

theorem back_loop (l : List Cell) (n : Net) (m : Model) (hv : Valid l n m) : ∀ (k : Nat) (R : List Int) (x : Env × Sto), k ≤ n.placed.length → (R.length : Int) = n.leaves + n.placed.length → RB R (25400 * ((n.placed.length : Int) - k)) →
    mask [0, 1, 3] (k0B π) x = some ([(0, .yld (2000000 :: π)), (1, .ref (1 :: 42 :: π) 0), (3, .p (I ((k : Int) - 1)))], stB π l n m (delaysN l n m) R) →
    kpO [] [] (k0B π) (bkO 0 (iter (round EE iter κ (k0B π) [0, 1, 3] c_slices_Backward_api_MapPlaced_api_MapPlaced_1_L0) x)) = some (.nm, [], stB π l n m (delaysN l n m) (reqDown n.leaves.toNat (delaysN l n m) n.placed k R))
  | 0, R, x, hk, hR, hb, hm => by
    rw [loop_eq hm]
    generalize delaysN l n m = D
    simp [u_slices_Backward_api_MapPlaced_api_MapPlaced_1_L0, b_slices_Backward_api_MapPlaced_api_MapPlaced_1_L0, reqDown]
  | k + 1, R, x, hk, hR, hb, hm => by
    rw [loop_eq hm]
    have hlv := hv.lv0
    have hlv1 := hv.lv1
    have hnp := hv.np
    have hkl : k < n.placed.length := by omega
    have hpk : n.placed[k]? = some n.placed[k] := List.getElem?_eq_getElem hkl
    generalize hp : n.placed[k] = p at hpk
    have hmem : p ∈ n.placed := List.mem_of_getElem? hpk
    have hsr := hv.src k p hpk
    obtain ⟨_, _, _, _, _, hs3⟩ := hv.cell p hmem
    have hdi := (hv.delay_in (i := k) hmem).2.2
    have hDi : (delaysN l n m)[k]? = some (delayN l n m k p) := by simp [delaysN, hpk]
    have hDg : (delaysN l n m).getD k 0 = delayN l n m k p := by simp [List.getD, hDi]
    have hiR : n.leaves.toNat + k < R.length := by omega
    have hown := hb.get hiR
    have hc := fun κ => e_round (κ := κ) (π := π) l n m (delaysN l n m) hlv hlv1 k p _ hDi R hiR (by omega) (by rcases hown with h | h <;> constructor <;> (try simp only [never] at h) <;> omega) hs3 (fun s hs => by have := hsr s hs; omega)
    have hb2 := hb.cell (p := p) (D := delaysN l n m) hiR (by rw [hDg]; exact hdi)
    have hlen := reqCell_len n.leaves.toNat (delaysN l n m) k p R
    have hw : IntKind.i64.wrap ((k : Int) - 1) = (k : Int) - 1 := w64 ⟨by omega, by omega⟩
    have hnext := back_loop l n m hv k (reqCell n.leaves.toNat (delaysN l n m) k p R)
    rw [reqDown, hpk]
    simp only
    generalize reqCell n.leaves.toNat (delaysN l n m) k p R = R' at *
    generalize delaysN l n m = D at *
    have e1 : ((k + 1 : Nat) : Int) - 1 = k := by omega
    rw [e1] at *
    simp [u_slices_Backward_api_MapPlaced_api_MapPlaced_1_L0, b_slices_Backward_api_MapPlaced_api_MapPlaced_1_L0, hkl, hp, hc]
    exact hnext _ (by omega) (by omega) (hb2.mono (by omega)) (by simp [hw])

theorem evC_rf {C : Call} {L : Loop} {k0 : List Id} {e : Env} {s : Sto} (g : Opd) (nt site : Nat) (live ps : List Nat) (a b : IR) : evC C L π k0 (.rf g nt site live ps a b) e s =
    if s.has ((2000000 + site) :: π) then none else match fnOf (g.get e) with
    | some (k, caps) => if k = yieldF then none else match C ((3000000 + site) :: π) k (.yld ((2000000 + site) :: π) :: caps) (((2000000 + site) :: π, .frm π nt (e.keep live) ps a b .ready) :: s) with
      | some (_, s1) => rfO k0 ((2000000 + site) :: π) ((rowIds s).foldl Env.kill e) s1
      | none => none
    | none => none := by
  rw [evC] <;> rfl

theorem e_back (l : List Cell) (n : Net) (m : Model) (hv : Valid l n m) (R : List Int) (hR : (R.length : Int) = n.leaves + n.placed.length) (hb : RB R 0) :
    EE κ n_slices_Backward_api_MapPlaced_api_MapPlaced_1 [.yld (2000000 :: π), .ref (1 :: 42 :: π) 0] (stB π l n m (delaysN l n m) R) = some (.p (.tup []), stB π l n m (delaysN l n m) (reqDown n.leaves.toNat (delaysN l n m) n.placed n.placed.length R)) := by
  have hlp := back_loop (κ := κ) (π := π) l n m hv n.placed.length R
  have hnp := hv.np
  have hw : IntKind.i64.wrap ((n.placed.length : Int) - 1) = (n.placed.length : Int) - 1 := w64 ⟨by omega, by omega⟩
  generalize delaysN l n m = D at *
  generalize reqDown n.leaves.toNat D n.placed n.placed.length R = R' at *
  simp [e_slices_Backward_api_MapPlaced_api_MapPlaced_1, run_eq, c_slices_Backward_api_MapPlaced_api_MapPlaced_1, hw]
  rw [hlp _ (by omega) hR (by simpa using hb) (by simp)]
  simp

/-- The required times of all points. -/
def reqN (l : List Cell) (n : Net) (m : Model) (due : List Int) : List Int :=
  reqDown n.leaves.toNat (delaysN l n m) n.placed n.placed.length (reqOuts (List.replicate (n.leaves.toNat + n.placed.length) never) n.outs due)

theorem e_required (l : List Cell) (n : Net) (m : Model) (hv : Valid l n m) (due : List Int) (hdl : due.length = n.outs.length) (hdb : ∀ v ∈ due, 0 ≤ v ∧ v ≤ 1000000) :
    EE π n_timing_timed_required [.p (.agg [I n.leaves, encPlaceds n.placed, encInts n.outs, encLib l, I m.perLoad, I m.setup, I m.hold, I m.fast, I m.slow, encInts (delaysN l n m)]), .p (encInts due)] [] =
      some (.ap (30 :: 18 :: π), [rowI (30 :: 18 :: π) (some false) (reqN l n m due)]) := by
  have hlv0 := hv.lv0
  have hlv1 := hv.lv1
  have hnp := hv.np
  have hno := hv.no
  have hpts := fun π => e_points (π := π) n l
  have hnn : n.leaves + (n.placed.length : Int) = ((n.leaves.toNat + n.placed.length : Nat) : Int) := by omega
  have hwp : IntKind.i64.wrap (n.leaves + (n.placed.length : Int)) = ((n.leaves.toNat + n.placed.length : Nat) : Int) := by rw [w64 ⟨by omega, by omega⟩, hnn]
  rw [hwp] at hpts
  have hrep := fun π => e_Repeat (π := π) never (n.leaves.toNat + n.placed.length) (by omega)
  unfold reqN
  have hlen : (List.replicate (n.leaves.toNat + n.placed.length) never).length = n.leaves.toNat + n.placed.length := by simp
  have hRB : RB (List.replicate (n.leaves.toNat + n.placed.length) never) 0 := fun v hv => .inl (by rw [List.mem_replicate] at hv; exact hv.2)
  have ho := outs_loopT (π := π) l n m (delaysN l n m) due hdl (by simp only [top63]; omega) n.outs due [] [] (List.replicate (n.leaves.toNat + n.placed.length) never)
  have hRB2 := hRB.outs _ n.outs due (fun v hv => by have := hdb v hv; omega)
  have hlen2 := reqOuts_len (List.replicate (n.leaves.toNat + n.placed.length) never) n.outs due
  have hbk := fun κ => e_back (κ := κ) (π := π) l n m hv (reqOuts (List.replicate (n.leaves.toNat + n.placed.length) never) n.outs due) (by rw [hlen2, hlen, hnn]) hRB2
  rw [hlen] at ho hlen2
  generalize List.replicate (n.leaves.toNat + n.placed.length) never = R0 at *
  rw [show encInts [never] = .sl 1 none [I (-1000000000)] from rfl] at hrep
  generalize n.leaves.toNat + n.placed.length = k at *
  generalize reqOuts R0 n.outs due = R1 at *
  generalize delaysN l n m = D at *
  generalize reqDown n.leaves.toNat D n.placed n.placed.length R1 = R2 at *
  simp [e_timing_timed_required, run_eq, c_timing_timed_required, hpts, hrep]
  rw [ho _ rfl rfl rfl (by omega) (fun s hs => by have := hv.out s hs; omega) (by simp)]
  simp [e_slices_Backward_api_MapPlaced_api_MapPlaced, c_slices_Backward_api_MapPlaced_api_MapPlaced, run_eq, evC_rf, y_slices_Backward_api_MapPlaced_api_MapPlaced_1]
  rw [hbk]
  simp

end Go.Proofs.Ytafomlbikcphgaa.V

/- The exported function of arrivals. -/
namespace Go.Proofs.Ytafomlbikcphgaa.V
open Go (IntKind BinOp UnOp)
variable {π ρ κ : Id}

theorem times_ok {l : List Int} {c : Int} (h : timesE l c = 0) : (l.length : Int) = c ∧ ∀ v ∈ l, 0 ≤ v ∧ v ≤ 1000000 := by
  unfold timesE at h
  rw [firstE_cons, firstE_cons, unlE_z (by decide), unlE_z (by decide)] at h
  refine ⟨by simpa using h.1, fun v hv => within_iff.1 (List.all_eq_true.1 h.2.1 v hv)⟩

/-- The errors of arrivals. -/
def errA (l : List Cell) (n : Net) (m : Model) (ats : List Int) : Int := firstE [allE l n m, timesE ats n.leaves]
/-- The arrivals of all points. -/
def arrN (l : List Cell) (n : Net) (m : Model) (ats : List Int) : List Int := arrGo (delaysN l n m) 0 n.placed ats

theorem e_ArrivalsOf_err (l : List Cell) (n : Net) (m : Model) (h : netOk l n) (ats : List Int) (hd : ats.length ≤ top63) (he : errA l n m ats ≠ 0) :
    EE π n_timing_ArrivalsOf [.p (encLib l), .p (encNet n), .p (encModel m), .p (encInts ats)] [] = some (.p (.tup [.sl 1 (some true) [], I (errA l n m ats)]), []) := by
  unfold errA at *
  by_cases ha : allE l n m = 0
  · have ho := fun π => e_openTimes_ok (π := π) l n m h ha ats hd
    rw [ha] at he ⊢
    have ht : timesE ats n.leaves ≠ 0 := fun hz => he (by simp [firstE, hz])
    have e : firstE [0, timesE ats n.leaves] = timesE ats n.leaves := by simp [firstE, ht]
    rw [e]
    generalize delaysN l n m = D at *
    simp [e_timing_ArrivalsOf, run_eq, c_timing_ArrivalsOf, ho, ht]
  · have e : firstE [allE l n m, timesE ats n.leaves] = allE l n m := by simp [firstE, ha]
    rw [e]
    simp [e_timing_ArrivalsOf, run_eq, c_timing_ArrivalsOf, e_openTimes_err l n m h ha ats hd, ha]

theorem e_ArrivalsOf_ok (l : List Cell) (n : Net) (m : Model) (h : netOk l n) (ats : List Int) (hd : ats.length ≤ top63) (he : errA l n m ats = 0) :
    EE π n_timing_ArrivalsOf [.p (encLib l), .p (encNet n), .p (encModel m), .p (encInts ats)] [] = some (.tup [.ap (0 :: 9 :: 25 :: π), .p (I 0)], [rowI (0 :: 9 :: 25 :: π) (bif n.placed.isEmpty then flE (ints ats) else some false) (arrN l n m ats)]) := by
  unfold errA at he
  rw [firstE_cons, firstE_cons] at he
  obtain ⟨ha, ht, _⟩ := he
  have hv := valid_of ha
  obtain ⟨ht1, ht2⟩ := times_ok ht
  have ho := fun π => e_openTimes_ok (π := π) l n m h ha ats hd
  have hr := fun π => e_arrivals (π := π) l n m hv ats ht1 ht2
  unfold arrN
  rw [ht] at ho
  generalize delaysN l n m = D at *
  generalize arrGo D 0 n.placed ats = R at *
  simp [e_timing_ArrivalsOf, run_eq, c_timing_ArrivalsOf, ho, hr]

theorem Valid.D_in {l : List Cell} {n : Net} {m : Model} (h : Valid l n m) (i : Nat) (hi : i < n.placed.length) : 1 ≤ (delaysN l n m).getD i 0 ∧ (delaysN l n m).getD i 0 ≤ 25400 := by
  have e : (delaysN l n m).getD i 0 = delayN l n m i n.placed[i] := by simp [delaysN, List.getD, hi]
  rw [e]
  exact (h.delay_in (List.getElem_mem hi)).2.2
theorem Valid.D_ge {l : List Cell} {n : Net} {m : Model} (h : Valid l n m) (i : Nat) : 0 ≤ (delaysN l n m).getD i 0 ∧ (delaysN l n m).getD i 0 ≤ 25400 := by
  by_cases hi : i < n.placed.length
  · have := h.D_in i hi; omega
  · have : (delaysN l n m).getD i 0 = 0 := by simp [delaysN, List.getD, List.getElem?_eq_none (show n.placed.length ≤ i by omega)]
    omega

theorem arrGo_len (D : List Int) : ∀ (i : Nat) (suf : List Placed) (cur : List Int), (arrGo D i suf cur).length = cur.length + suf.length
  | _, [], cur => rfl
  | i, p :: r, cur => by rw [arrGo, arrGo_len]; simp; omega
theorem arrGo_in (D : List Int) (hD : ∀ i, 0 ≤ D.getD i 0 ∧ D.getD i 0 ≤ 25400) : ∀ (i : Nat) (suf : List Placed) (cur : List Int), (∀ v ∈ cur, 0 ≤ v ∧ v ≤ 1000000 + 25400 * (i : Int)) → ∀ v ∈ arrGo D i suf cur, 0 ≤ v ∧ v ≤ 1000000 + 25400 * ((i : Int) + suf.length)
  | i, [], cur, h => by intro v hv; have := h v hv; simp; omega
  | i, p :: r, cur, h => by
    have hla := lat_in cur _ (by omega) h p.sources 0 (by omega) (by omega)
    have hd := hD i
    have := arrGo_in D hD (i + 1) r (cur ++ [lat cur p.sources 0 + D.getD i 0]) (by
      intro v hv
      rw [List.mem_append] at hv
      rcases hv with hv | hv
      · have := h v hv; omega
      · rw [List.mem_singleton] at hv; omega)
    intro v hv
    have := this v hv
    simp only [List.length_cons]
    omega

theorem arrN_len {l : List Cell} {n : Net} {m : Model} {ats : List Int} : (arrN l n m ats).length = ats.length + n.placed.length := arrGo_len _ _ _ _
theorem arrN_in {l : List Cell} {n : Net} {m : Model} (hv : Valid l n m) {ats : List Int} (hd : ∀ v ∈ ats, 0 ≤ v ∧ v ≤ 1000000) : ∀ v ∈ arrN l n m ats, 0 ≤ v ∧ v ≤ 3000000 := by
  intro v hv'
  have hnp := hv.np
  have := arrGo_in _ hv.D_ge 0 n.placed ats (fun v hv => by have := hd v hv; omega) v hv'
  omega


end Go.Proofs.Ytafomlbikcphgaa.V

/- The exported functions: arrivals, required times, slacks. -/
namespace Go.Proofs.Ytafomlbikcphgaa.V
open Go (IntKind BinOp UnOp)
variable {π ρ κ : Id}

/-- The errors of required times. -/
def errR (l : List Cell) (n : Net) (m : Model) (due : List Int) : Int := firstE [allE l n m, timesE due n.outs.length]
theorem e_RequiredOf_err (l : List Cell) (n : Net) (m : Model) (h : netOk l n) (due : List Int) (hd : due.length ≤ top63) (he : errR l n m due ≠ 0) :
    EE π n_timing_RequiredOf [.p (encLib l), .p (encNet n), .p (encModel m), .p (encInts due)] [] = some (.p (.tup [.sl 1 (some true) [], I (errR l n m due)]), []) := by
  unfold errR at *
  by_cases ha : allE l n m = 0
  · rw [ha] at he ⊢
    have ho := fun π => e_openModel_ok (π := π) l n m h ha
    generalize delaysN l n m = D at *
    simp [e_timing_RequiredOf, run_eq, c_timing_RequiredOf, ho, e_timesErr due hd, e_first2T, he]
  · simp [e_timing_RequiredOf, run_eq, c_timing_RequiredOf, e_openModel_err l n m h ha, e_timesErr due hd, e_first2T, he]

theorem e_RequiredOf_ok (l : List Cell) (n : Net) (m : Model) (h : netOk l n) (due : List Int) (hd : due.length ≤ top63) (he : errR l n m due = 0) :
    EE π n_timing_RequiredOf [.p (encLib l), .p (encNet n), .p (encModel m), .p (encInts due)] [] = some (.tup [.ap (30 :: 18 :: 32 :: π), .p (I 0)], [rowI (30 :: 18 :: 32 :: π) (some false) (reqN l n m due)]) := by
  unfold errR at he
  have he2 := he
  rw [firstE_cons, firstE_cons] at he
  obtain ⟨ha, ht, _⟩ := he
  have hv := valid_of ha
  obtain ⟨ht1, ht2⟩ := times_ok ht
  rw [ha] at he2
  have ho := fun π => e_openModel_ok (π := π) l n m h ha
  have hr := fun π => e_required (π := π) l n m hv due (by omega) ht2
  generalize delaysN l n m = D at *
  generalize reqN l n m due = R at *
  simp [e_timing_RequiredOf, run_eq, c_timing_RequiredOf, ho, e_timesErr due hd, e_first2T, he2, hr]


end Go.Proofs.Ytafomlbikcphgaa.V

/- Slacks, by timing. -/
namespace Go.Proofs.Ytafomlbikcphgaa.V
open Go (IntKind BinOp UnOp)
variable {π ρ κ : Id}

/-- The slack of one point. -/
def slk (r a : Int) : Int := if r = never then r else r - a
abbrev near (v : Int) : Prop := -1000000000000 ≤ v ∧ v ≤ 1000000000000

theorem slack_loop (A : List Int) (hA : ∀ v ∈ A, near v) (hAl : A.length ≤ top63) (nr na : Option Bool) (ir ia : Id) (hir : ir = 30 :: 18 :: 38 :: π) (hia : ia = 0 :: 9 :: 41 :: π) : ∀ (sufA sufR preA done : List Int) (x : Env × Sto), A = preA ++ sufA → done.length = preA.length → sufR.length = sufA.length → (∀ v ∈ sufR, near v) →
    mask [14, 41, 42, 43] [] x = some ([(14, .ap (30 :: 18 :: 38 :: π)), (41, .ap (0 :: 9 :: 41 :: π)), (42, .p (I A.length)), (43, .p (I preA.length))], [rowI (0 :: 9 :: 41 :: π) na A, rowI (30 :: 18 :: 38 :: π) nr (done ++ sufR)]) →
    kpO [14] [10, 11] [] (bkO 0 (iter (round EE iter π [] [14, 41, 42, 43] c_timing_SlacksOf_L0) x)) = some (.nm, [(14, .ap (30 :: 18 :: 38 :: π))], [rowI (30 :: 18 :: 38 :: π) nr (done ++ List.zipWith slk sufR sufA)])
  | [], [], preA, done, x, h, hd, hl, hR, hm => by
    rw [loop_eq hm]
    have : A = preA := by simpa using h
    simp [u_timing_SlacksOf_L0, b_timing_SlacksOf_L0, this]
  | [], _ :: _, preA, done, x, h, hd, hl, hR, hm => by simp at hl
  | _ :: _, [], preA, done, x, h, hd, hl, hR, hm => by simp at hl
  | a :: sufA, r :: sufR, preA, done, x, h, hd, hl, hR, hm => by
    rw [loop_eq hm]
    have hlen : preA.length < A.length := by rw [h]; simp
    have ha := hA a (by rw [h]; simp)
    have hr := hR r (by simp)
    have hAa : A[preA.length]? = some a := by rw [h]; simp
    have hA2 : A[preA.length] = a := by simpa [List.getElem?_eq_getElem hlen] using hAa
    have hRl : preA.length < (done ++ r :: sufR).length := by simp; omega
    have hRr : (done ++ r :: sufR)[preA.length]? = some r := by rw [← hd]; simp
    have hR2 : (done ++ r :: sufR)[preA.length] = r := by simpa [List.getElem?_eq_getElem hRl] using hRr
    have hset : (done ++ r :: sufR).set preA.length (r - a) = (done ++ [r - a]) ++ sufR := by
      rw [List.set_append_right _ _ (by omega), hd, Nat.sub_self, List.set_cons_zero]; simp
    have hw : IntKind.i64.wrap (r - a) = r - a := w64 ⟨by omega, by omega⟩
    have hnext := slack_loop A hA hAl nr na ir ia hir hia sufA sufR (preA ++ [a]) (done ++ [slk r a])
    rw [show (preA ++ [a]).length = preA.length + 1 by simp] at hnext
    have hz : done ++ List.zipWith slk (r :: sufR) (a :: sufA) = (done ++ [slk r a]) ++ List.zipWith slk sufR sufA := by simp
    rw [hz]
    unfold slk at hnext ⊢
    by_cases hn : r = never
    · rw [if_pos hn] at hnext ⊢
      have e : done ++ [r] ++ sufR = done ++ r :: sufR := by simp
      rw [e] at hnext
      generalize done ++ r :: sufR = R at *
      simp [u_timing_SlacksOf_L0, b_timing_SlacksOf_L0, hlen, hA2, hRl, hR2, hn]
      refine (hnext _ (by simp [h]) (by simp [hd]) (by simpa using hl) (fun v hv => hR v (by simp [hv])) (by simp [w_succ hlen hAl])).trans ?_
      simp [hn]
    · rw [if_neg hn] at hnext ⊢
      have hset2 := ints_set (done ++ r :: sufR) preA.length (r - a)
      rw [hset] at hset2
      generalize done ++ r :: sufR = R at *
      generalize done ++ [r - a] ++ sufR = R' at *
      simp [u_timing_SlacksOf_L0, b_timing_SlacksOf_L0, hlen, hA2, hRl, hR2, hn, hw, PV.setc]
      refine (hnext _ (by simp [h]) (by simp [hd]) (by simpa using hl) (fun v hv => hR v (by simp [hv])) (by simp [w_succ hlen hAl, hset2])).trans ?_
      simp

theorem reqDown_len (lv : Nat) (D : List Int) (pl : List Placed) : ∀ (k : Nat) (R : List Int), (reqDown lv D pl k R).length = R.length
  | 0, _ => rfl
  | k + 1, R => by
    rw [reqDown, reqDown_len]
    cases pl[k]? with
    | none => rfl
    | some p => exact reqCell_len _ _ _ _ _
theorem reqDown_in (lv : Nat) (D : List Int) (pl : List Placed) (hD : ∀ i, i < pl.length → 1 ≤ D.getD i 0 ∧ D.getD i 0 ≤ 25400) : ∀ (k : Nat) (R : List Int), k ≤ pl.length → R.length = lv + pl.length → RB R (25400 * ((pl.length : Int) - k)) → RB (reqDown lv D pl k R) (25400 * (pl.length : Int))
  | 0, R, hk, hR, h => by rw [reqDown]; exact h.mono (by omega)
  | k + 1, R, hk, hR, h => by
    rw [reqDown, List.getElem?_eq_getElem (by omega)]
    simp only
    refine reqDown_in lv D pl hD k _ (by omega) (by rw [reqCell_len]; exact hR) ((h.cell (by omega) (hD k (by omega))).mono (by omega))

theorem reqN_len {l : List Cell} {n : Net} {m : Model} {due : List Int} : (reqN l n m due).length = n.leaves.toNat + n.placed.length := by
  rw [reqN, reqDown_len, reqOuts_len, List.length_replicate]
theorem reqN_in {l : List Cell} {n : Net} {m : Model} (hv : Valid l n m) {due : List Int} (hd : ∀ v ∈ due, 0 ≤ v ∧ v ≤ 1000000) : RB (reqN l n m due) (25400 * (n.placed.length : Int)) := by
  have h0 : RB (List.replicate (n.leaves.toNat + n.placed.length) never) 0 := fun v hv => .inl (by rw [List.mem_replicate] at hv; exact hv.2)
  have h1 := h0.outs _ n.outs due (fun v hv => by have := hd v hv; omega)
  exact reqDown_in _ _ _ hv.D_in _ _ (Nat.le_refl _) (by rw [reqOuts_len, List.length_replicate]) (h1.mono (by omega))
theorem reqN_near {l : List Cell} {n : Net} {m : Model} (hv : Valid l n m) {due : List Int} (hd : ∀ v ∈ due, 0 ≤ v ∧ v ≤ 1000000) : ∀ v ∈ reqN l n m due, near v := by
  intro v hv'
  have hnp := hv.np
  rcases reqN_in hv hd v hv' with h | h
  · rw [h]; decide
  · exact ⟨by omega, by omega⟩
/-- The slacks of all points. -/
def slkN (l : List Cell) (n : Net) (m : Model) (ats due : List Int) : List Int := List.zipWith slk (reqN l n m due) (arrN l n m ats)
def errS (l : List Cell) (n : Net) (m : Model) (ats due : List Int) : Int := firstE [allE l n m, timesE ats n.leaves, timesE due n.outs.length]

theorem e_SlacksOf_err (l : List Cell) (n : Net) (m : Model) (h : netOk l n) (ats due : List Int) (ha : ats.length ≤ top63) (hd : due.length ≤ top63) (he : errS l n m ats due ≠ 0) :
    EE π n_timing_SlacksOf [.p (encLib l), .p (encNet n), .p (encModel m), .p (encInts ats), .p (encInts due)] [] = some (.p (.tup [.sl 1 (some true) [], I (errS l n m ats due)]), []) := by
  unfold errS at *
  by_cases hz : allE l n m = 0
  · have ho := fun π => e_openTimes_ok (π := π) l n m h hz ats ha
    have e : firstE [allE l n m, timesE ats n.leaves, timesE due n.outs.length] = firstE [timesE ats n.leaves, timesE due n.outs.length] := by simp [firstE, hz]
    rw [e] at he ⊢
    generalize delaysN l n m = D at *
    simp [e_timing_SlacksOf, run_eq, c_timing_SlacksOf, ho, e_timesErr due hd, e_first2T, he]
  · have e : firstE [allE l n m, timesE ats n.leaves, timesE due n.outs.length] = allE l n m := by simp [firstE, hz]
    have e2 : firstE [allE l n m, timesE due n.outs.length] = allE l n m := by simp [firstE, hz]
    rw [e]
    simp [e_timing_SlacksOf, run_eq, c_timing_SlacksOf, e_openTimes_err l n m h hz ats ha, e_timesErr due hd, e_first2T, e2, hz]

theorem e_SlacksOf_ok (l : List Cell) (n : Net) (m : Model) (h : netOk l n) (ats due : List Int) (ha : ats.length ≤ top63) (hd : due.length ≤ top63) (he : errS l n m ats due = 0) :
    EE π n_timing_SlacksOf [.p (encLib l), .p (encNet n), .p (encModel m), .p (encInts ats), .p (encInts due)] [] = some (.tup [.ap (30 :: 18 :: 38 :: π), .p (I 0)], [rowI (30 :: 18 :: 38 :: π) (some false) (slkN l n m ats due)]) := by
  unfold errS at he
  rw [firstE_cons, firstE_cons, firstE_cons] at he
  obtain ⟨hz, ht, ht', _⟩ := he
  have hv := valid_of hz
  obtain ⟨ht1, ht2⟩ := times_ok ht
  obtain ⟨ht3, ht4⟩ := times_ok ht'
  have hlv0 := hv.lv0
  have hlv1 := hv.lv1
  have hnp := hv.np
  have ho := fun π => e_openTimes_ok (π := π) l n m h hz ats ha
  have hr := fun π => e_required (π := π) l n m hv due (by omega) ht4
  have har := fun π => e_arrivals (π := π) l n m hv ats ht1 ht2
  have hte := fun π => e_timesErr (π := π) due hd n.outs.length
  rw [ht] at ho
  rw [ht'] at hte
  have e2 : firstE [0, 0] = 0 := rfl
  have hAn : ∀ v ∈ arrN l n m ats, near v := fun v hx => by have := arrN_in hv ht2 v hx; exact ⟨by omega, by omega⟩
  have hRn := reqN_near hv ht4
  have hAl := arrN_len (l := l) (n := n) (m := m) (ats := ats)
  have hRl := reqN_len (l := l) (n := n) (m := m) (due := due)
  have hlp := slack_loop (π := π) (arrN l n m ats) hAn (by simp only [top63]; omega) (some false) (bif n.placed.isEmpty then flE (ints ats) else some false) _ _ rfl rfl (arrN l n m ats) (reqN l n m due) [] []
  unfold slkN
  unfold arrN at hlp hAl ⊢
  generalize delaysN l n m = D at *
  generalize arrGo D 0 n.placed ats = A at *
  generalize reqN l n m due = R at *
  simp only [List.nil_append] at hlp
  generalize List.zipWith slk R A = Z at *
  simp [e_timing_SlacksOf, run_eq, c_timing_SlacksOf, ho, hte, e_first2T, e2, hr, har]
  rw [hlp _ (by simp) (by simp) (by omega) hRn (by simp)]
  simp

end Go.Proofs.Ytafomlbikcphgaa.V

/- Loads and delays, by the reference. -/
namespace Go.Proofs.Ytafomlbikcphgaa.V
open Go (IntKind BinOp UnOp)
variable {π ρ κ : Id}

theorem tally_cons (s : Int) (r : List Int) (p : Nat) : (tally (s :: r) p : Int) = (if s = (p : Int) + 2 then 1 else 0) + (tally r p : Int) := by
  have : tally (s :: r) p = tally [s] p + tally r p := tally_append [s] r p
  rw [this, tally_one]
  split <;> simp

theorem ref_load1 (n : Net) (hlv0 : 0 ≤ n.leaves) (hlv1 : n.leaves ≤ 40) (c : Nat) (hc : c ≤ 1000) (i : Nat) (p : Placed) (hp : n.placed[i]? = some p) (hs : p.sources.length ≤ 1000) : ∀ (suf pre : List Int) (a : Int) (x : Env × Sto), p.sources = pre ++ suf → 0 ≤ a → a + suf.length ≤ 1000000 →
    mask [1, 2, 5, 6, 7] [] x = some ([(1, .p (I c)), (2, .ref (2 :: π) 0), (5, .p (I a)), (6, .p (I i)), (7, .p (I pre.length))], [(2 :: π, boxN n)]) →
    kpO [1, 2, 5, 6] [4] [] (bkO 2 (iter (round EE iter π [] [1, 2, 5, 6, 7] c_ratchetref28_load_L1) x)) = some (.nm, [(1, .p (I c)), (2, .ref (2 :: π) 0), (5, .p (I (a + tally suf (n.leaves.toNat + c)))), (6, .p (I i))], [(2 :: π, boxN n)])
  | [], pre, a, x, h, h0, h1, hm => by
    rw [loop_eq hm]
    have : p.sources = pre := by simpa using h
    have hil : i < n.placed.length := by rw [List.getElem?_eq_some_iff] at hp; exact hp.1
    have hpi : n.placed[i] = p := by simpa [List.getElem?_eq_getElem hil] using hp
    simp [u_ratchetref28_load_L1, b_ratchetref28_load_L1, hil, hpi, this, tally]
  | y :: suf, pre, a, x, h, h0, h1, hm => by
    rw [loop_eq hm]
    have hil : i < n.placed.length := by rw [List.getElem?_eq_some_iff] at hp; exact hp.1
    have hpi : n.placed[i] = p := by simpa [List.getElem?_eq_getElem hil] using hp
    have hlen : pre.length < p.sources.length := by rw [h]; simp
    have hy : p.sources[pre.length]? = some y := by rw [h]; simp
    have hy2 : p.sources[pre.length] = y := by simpa [List.getElem?_eq_getElem hlen] using hy
    have hw1 : IntKind.i64.wrap (2 + n.leaves) = 2 + n.leaves := w64 ⟨by omega, by omega⟩
    have hw2 : IntKind.i64.wrap (2 + n.leaves + c) = 2 + n.leaves + c := w64 ⟨by omega, by omega⟩
    simp only [List.length_cons] at h1
    have ht : (a + tally (y :: suf) (n.leaves.toNat + c) : Int) = (a + (if y = 2 + n.leaves + c then 1 else 0)) + tally suf (n.leaves.toNat + c) := by
      rw [tally_cons]
      have : (y = ((n.leaves.toNat + c : Nat) : Int) + 2) ↔ (y = 2 + n.leaves + c) := by omega
      simp only [this]; omega
    rw [ht]
    by_cases hyc : y = 2 + n.leaves + c
    · have hw3 : IntKind.i64.wrap (a + 1) = a + 1 := w64 ⟨by omega, by omega⟩
      have hnext := ref_load1 n hlv0 hlv1 c hc i p hp hs suf (pre ++ [y]) (a + 1)
      simp only [if_pos hyc]
      simp [u_ratchetref28_load_L1, b_ratchetref28_load_L1, hil, hpi, hlen, hy2, hw1, hw2, e_Bit, hyc, hw3]
      exact hnext _ (by simp [h]) (by omega) (by omega) (by simp [w_succ hlen (show p.sources.length ≤ top63 by simp only [top63]; omega)])
    · have hw3 : IntKind.i64.wrap a = a := w64 ⟨by omega, by omega⟩
      have hnext := ref_load1 n hlv0 hlv1 c hc i p hp hs suf (pre ++ [y]) a
      simp only [if_neg hyc, Int.add_zero]
      simp [u_ratchetref28_load_L1, b_ratchetref28_load_L1, hil, hpi, hlen, hy2, hw1, hw2, e_Bit, hyc, hw3]
      exact hnext _ (by simp [h]) (by omega) (by omega) (by simp [w_succ hlen (show p.sources.length ≤ top63 by simp only [top63]; omega)])

theorem ref_load0 (n : Net) (hlv0 : 0 ≤ n.leaves) (hlv1 : n.leaves ≤ 40) (hpl : n.placed.length ≤ 1000) (c : Nat) (hc : c ≤ 1000) (hs : ∀ p ∈ n.placed, p.sources.length ≤ 3) : ∀ (suf pre : List Placed) (a : Int) (x : Env × Sto), n.placed = pre ++ suf → 0 ≤ a → a + 3 * suf.length ≤ 100000 →
    mask [1, 2, 5, 6] [] x = some ([(1, .p (I c)), (2, .ref (2 :: π) 0), (5, .p (I a)), (6, .p (I pre.length))], [(2 :: π, boxN n)]) →
    kpO [1, 2, 5] [4] [] (bkO 0 (iter (round EE iter π [] [1, 2, 5, 6] c_ratchetref28_load_L0) x)) = some (.nm, [(1, .p (I c)), (2, .ref (2 :: π) 0), (5, .p (I (a + tally (srcsP suf) (n.leaves.toNat + c))))], [(2 :: π, boxN n)])
  | [], pre, a, x, h, h0, h1, hm => by
    rw [loop_eq hm]
    have : n.placed = pre := by simpa using h
    have e : (tally (srcsP []) (n.leaves.toNat + c) : Int) = 0 := by simp [tally, srcsP]
    rw [e]
    simp [u_ratchetref28_load_L0, b_ratchetref28_load_L0, this]
  | y :: suf, pre, a, x, h, h0, h1, hm => by
    rw [loop_eq hm]
    have hlen : pre.length < n.placed.length := by rw [h]; simp
    have hy3 := hs y (by rw [h]; simp)
    simp only [List.length_cons] at h1
    have hl := ref_load1 (π := π) n hlv0 hlv1 c hc pre.length y (by rw [h]; simp) (by omega) y.sources [] a
    have ht : (a + tally (srcsP (y :: suf)) (n.leaves.toNat + c) : Int) = (a + tally y.sources (n.leaves.toNat + c)) + tally (srcsP suf) (n.leaves.toNat + c) := by
      rw [show srcsP (y :: suf) = y.sources ++ srcsP suf by simp [srcsP], tally_append]; omega
    rw [ht]
    have htl := tally_le y.sources (n.leaves.toNat + c)
    have hnext := ref_load0 n hlv0 hlv1 hpl c hc hs suf (pre ++ [y]) (a + tally y.sources (n.leaves.toNat + c))
    rw [show (pre ++ [y]).length = pre.length + 1 by simp] at hnext
    generalize (tally (srcsP suf) (n.leaves.toNat + c) : Int) = t1 at *
    generalize htt : (tally y.sources (n.leaves.toNat + c) : Int) = t at *
    simp [u_ratchetref28_load_L0, b_ratchetref28_load_L0, hlen]
    rw [hl _ rfl h0 (by omega) (by simp)]
    simp
    exact hnext _ (by simp [h]) (by omega) (by omega) (by simp [w_succ hlen (show n.placed.length ≤ top63 by simp only [top63]; omega)])

theorem ref_load2 (n : Net) (hlv0 : 0 ≤ n.leaves) (hlv1 : n.leaves ≤ 40) (ho : n.outs.length ≤ 1000) (c : Nat) (hc : c ≤ 1000) : ∀ (suf pre : List Int) (a : Int) (x : Env × Sto), n.outs = pre ++ suf → 0 ≤ a → a + suf.length ≤ 1000000 →
    mask [1, 2, 5, 8] [] x = some ([(1, .p (I c)), (2, .ref (2 :: π) 0), (5, .p (I a)), (8, .p (I pre.length))], [(2 :: π, boxN n)]) →
    kpO [5] [4] [] (bkO 4 (iter (round EE iter π [] [1, 2, 5, 8] c_ratchetref28_load_L2) x)) = some (.nm, [(5, .p (I (a + tally suf (n.leaves.toNat + c))))], [])
  | [], pre, a, x, h, h0, h1, hm => by
    rw [loop_eq hm]
    have : n.outs = pre := by simpa using h
    simp [u_ratchetref28_load_L2, b_ratchetref28_load_L2, this, tally]
  | y :: suf, pre, a, x, h, h0, h1, hm => by
    rw [loop_eq hm]
    have hlen : pre.length < n.outs.length := by rw [h]; simp
    have hw1 : IntKind.i64.wrap (2 + n.leaves) = 2 + n.leaves := w64 ⟨by omega, by omega⟩
    have hw2 : IntKind.i64.wrap (2 + n.leaves + c) = 2 + n.leaves + c := w64 ⟨by omega, by omega⟩
    simp only [List.length_cons] at h1
    have ht : (a + tally (y :: suf) (n.leaves.toNat + c) : Int) = (a + (if y = 2 + n.leaves + c then 1 else 0)) + tally suf (n.leaves.toNat + c) := by
      rw [tally_cons]
      have : (y = ((n.leaves.toNat + c : Nat) : Int) + 2) ↔ (y = 2 + n.leaves + c) := by omega
      simp only [this]; omega
    rw [ht]
    by_cases hyc : y = 2 + n.leaves + c
    · have hw3 : IntKind.i64.wrap (a + 1) = a + 1 := w64 ⟨by omega, by omega⟩
      have hnext := ref_load2 n hlv0 hlv1 ho c hc suf (pre ++ [y]) (a + 1)
      simp only [if_pos hyc]
      simp [u_ratchetref28_load_L2, b_ratchetref28_load_L2, lt_mid h, get_mid _ h, hw1, hw2, e_Bit, hyc, hw3]
      exact hnext _ (by simp [h]) (by omega) (by omega) (by simp [w_succ hlen (show n.outs.length ≤ top63 by simp only [top63]; omega)])
    · have hw3 : IntKind.i64.wrap a = a := w64 ⟨by omega, by omega⟩
      have hnext := ref_load2 n hlv0 hlv1 ho c hc suf (pre ++ [y]) a
      simp only [if_neg hyc, Int.add_zero]
      simp [u_ratchetref28_load_L2, b_ratchetref28_load_L2, lt_mid h, get_mid _ h, hw1, hw2, e_Bit, hyc, hw3]
      exact hnext _ (by simp [h]) (by omega) (by omega) (by simp [w_succ hlen (show n.outs.length ≤ top63 by simp only [top63]; omega)])

theorem e_load (l : List Cell) (n : Net) (m : Model) (hv : Valid l n m) (c : Nat) (hc : c ≤ 1000) : EE π n_ratchetref28_load [.p (encNet n), .p (I c)] [] = some (.p (I (tally (usesN n) (n.leaves.toNat + c))), []) := by
  have hnp := hv.np
  have hno := hv.no
  have h0 := ref_load0 (π := π) n hv.lv0 hv.lv1 (by omega) c hc (fun p hp => by obtain ⟨_, _, _, _, _, h⟩ := hv.cell p hp; exact h) n.placed [] 0
  have h2 := ref_load2 (π := π) n hv.lv0 hv.lv1 (by omega) c hc n.outs [] (0 + tally (srcsP n.placed) (n.leaves.toNat + c))
  have ht : (tally (usesN n) (n.leaves.toNat + c) : Int) = 0 + tally (srcsP n.placed) (n.leaves.toNat + c) + tally n.outs (n.leaves.toNat + c) := by
    rw [usesN, tally_append]; omega
  have hsl := hv.srcs_len
  have hl1 : 0 ≤ (tally (srcsP n.placed) (n.leaves.toNat + c) : Int) ∧ (tally (srcsP n.placed) (n.leaves.toNat + c) : Int) ≤ 180 := by have := tally_le (srcsP n.placed) (n.leaves.toNat + c); omega
  rw [ht]
  generalize (tally (srcsP n.placed) (n.leaves.toNat + c) : Int) = t1 at *
  generalize (tally n.outs (n.leaves.toNat + c) : Int) = t2 at *
  simp [e_ratchetref28_load, run_eq, c_ratchetref28_load]
  rw [h0 _ rfl (by omega) (by omega) (by simp)]
  simp
  rw [h2 _ rfl (by omega) (by omega) (by simp)]
  simp

end Go.Proofs.Ytafomlbikcphgaa.V

/- Delays and arrivals, by the reference. -/
namespace Go.Proofs.Ytafomlbikcphgaa.V
open Go (IntKind BinOp UnOp)
variable {π ρ κ : Id}

abbrev boxM (m : Model) : Blk := .box false [.p (I m.perLoad), .p (I m.setup), .p (I m.hold), .p (I m.fast), .p (I m.slow)]

theorem ref_delays (l : List Cell) (n : Net) (m : Model) (hv : Valid l n m) : ∀ (suf pre : List Placed) (x : Env × Sto), n.placed = pre ++ suf →
    mask [0, 4, 5, 7, 8] [] x = some ([(0, .p (encLib l)), (4, .ref (4 :: π) 0), (5, .ref (5 :: π) 0), (7, .ap (1007 :: π)), (8, .p (I pre.length))], [rowI (1007 :: π) (flagE pre) (pre.mapIdx (delayN l n m)), (5 :: π, boxM m), (4 :: π, boxN n)]) →
    kpO [7] [6] [] (bkO 0 (iter (round EE iter π [] [0, 4, 5, 7, 8] c_ratchetref28_Delays_L0) x)) = some (.nm, [(7, .ap (1007 :: π))], [rowI (1007 :: π) (flagE n.placed) (delaysN l n m)])
  | [], pre, x, h, hm => by
    rw [loop_eq hm]
    have : n.placed = pre := by simpa using h
    unfold delaysN
    rw [this]
    generalize pre.mapIdx (delayN l n m) = D
    simp [u_ratchetref28_Delays_L0, b_ratchetref28_Delays_L0, this]
  | y :: suf, pre, x, h, hm => by
    rw [loop_eq hm]
    have hmem : y ∈ n.placed := by rw [h]; simp
    have hlen : pre.length < n.placed.length := by rw [h]; simp
    obtain ⟨hc0, c, hc, _, _, _⟩ := hv.cell y hmem
    have hdel : cellDelay l y = c.delay := by simp [cellDelay, hc]
    have hdi := hv.delay_in (i := pre.length) hmem
    rw [hdel] at hdi
    have hnp := hv.np
    have hcl : y.cell.toNat < l.length := by rw [List.getElem?_eq_some_iff] at hc; exact hc.1
    have hce : l[y.cell.toNat] = c := by simpa [List.getElem?_eq_getElem hcl] using hc
    have hyp : n.placed[pre.length]? = some y := by rw [h]; simp
    have hyp2 : n.placed[pre.length] = y := by simpa [List.getElem?_eq_getElem hlen] using hyp
    have hld := fun π => e_load (π := π) l n m hv pre.length (by omega)
    have hw2 := w64 (n := m.perLoad * (tally (usesN n) (n.leaves.toNat + pre.length) : Int)) ⟨by omega, by omega⟩
    have hw3 := w64 (n := delayN l n m pre.length y) ⟨by omega, by omega⟩
    have hdn : delayN l n m pre.length y = c.delay + m.perLoad * (tally (usesN n) (n.leaves.toNat + pre.length) : Int) := by rw [delayN, hdel]
    rw [hdn] at hw3
    have hnext := ref_delays l n m hv suf (pre ++ [y])
    rw [show (pre ++ [y]).length = pre.length + 1 by simp, delays_step, hdn] at hnext
    have hDl : (pre.mapIdx (delayN l n m)).length = pre.length := by simp
    have hroom : (pre.mapIdx (delayN l n m)).length + 1 ≤ room := by rw [hDl]; simp only [room]; omega
    generalize tally (usesN n) (n.leaves.toNat + pre.length) = tl at *
    generalize pre.mapIdx (delayN l n m) = D at hnext hroom
    simp [u_ratchetref28_Delays_L0, b_ratchetref28_Delays_L0, hlen, hyp2, hc0, hld, hw2, hw3, hcl, hce, hroom]
    exact hnext _ (by simp [h]) (by simp [w_succ hlen (show n.placed.length ≤ top63 by simp only [top63]; omega)])

theorem e_Delays (l : List Cell) (n : Net) (m : Model) (hv : Valid l n m) : EE π n_ratchetref28_Delays [.p (encLib l), .p (encNet n), .p (encModel m)] [] = some (.ap (1007 :: π), [rowI (1007 :: π) (flagE n.placed) (delaysN l n m)]) := by
  have hl := ref_delays (π := π) l n m hv n.placed []
  generalize delaysN l n m = D at *
  simp [e_ratchetref28_Delays, run_eq, c_ratchetref28_Delays, thaw, thaw1]
  rw [hl _ rfl (by simp)]
  simp

theorem ref_arr1 (n : Net) (D cur : List Int) (nl nd : Option Bool) (hcl : cur.length ≤ 1000000) (i : Nat) (p : Placed) (hp : n.placed[i]? = some p) (hs3 : p.sources.length ≤ 1000) (hin : ∀ s ∈ p.sources, 0 ≤ s ∧ s < cur.length + 2) : ∀ (suf pre : List Int) (a : Int) (x : Env × Sto), p.sources = pre ++ suf →
    mask [5, 9, 10, 11, 12, 13] [] x = some ([(5, .ref (5 :: π) 0), (9, .ap (3 :: 16 :: π)), (10, .ap (1007 :: 20 :: π)), (11, .p (I i)), (12, .p (I a)), (13, .p (I pre.length))], [rowI (1007 :: 20 :: π) nd D, rowI (3 :: 16 :: π) nl cur, (5 :: π, boxN n)]) →
    kpO [5, 9, 10, 11, 12] [8] [] (bkO 2 (iter (round EE iter π [] [5, 9, 10, 11, 12, 13] c_ratchetref28_Arrivals_L1) x)) = some (.nm, [(5, .ref (5 :: π) 0), (9, .ap (3 :: 16 :: π)), (10, .ap (1007 :: 20 :: π)), (11, .p (I i)), (12, .p (I (lat cur suf a)))], [rowI (1007 :: 20 :: π) nd D, rowI (3 :: 16 :: π) nl cur, (5 :: π, boxN n)])
  | [], pre, a, x, h, hm => by
    rw [loop_eq hm]
    have : p.sources = pre := by simpa using h
    have hil : i < n.placed.length := by rw [List.getElem?_eq_some_iff] at hp; exact hp.1
    have hpi : n.placed[i] = p := by simpa [List.getElem?_eq_getElem hil] using hp
    simp [u_ratchetref28_Arrivals_L1, b_ratchetref28_Arrivals_L1, hil, hpi, this, lat]
  | y :: suf, pre, a, x, h, hm => by
    rw [loop_eq hm]
    have hil : i < n.placed.length := by rw [List.getElem?_eq_some_iff] at hp; exact hp.1
    have hpi : n.placed[i] = p := by simpa [List.getElem?_eq_getElem hil] using hp
    have hlen : pre.length < p.sources.length := by rw [h]; simp
    have hyp : p.sources[pre.length]? = some y := by rw [h]; simp
    have hy2 : p.sources[pre.length] = y := by simpa [List.getElem?_eq_getElem hlen] using hyp
    have hy := hin y (by rw [h]; simp)
    have hw : IntKind.i64.wrap (y - 2) = y - 2 := w64 ⟨by omega, by omega⟩
    have hwl := w_succ hlen (show p.sources.length ≤ top63 by simp only [top63]; omega)
    by_cases h2 : 2 ≤ y
    · have hlt : (y - 2).toNat < cur.length := by omega
      have hlt' : y - 2 < (cur.length : Int) := by omega
      have hge : -1 < y - 2 := by omega
      have hge2 : 0 ≤ y - 2 := by omega
      have hg : cur.getD (y - 2).toNat 0 = cur[(y - 2).toNat] := by simp [List.getD, hlt]
      have hpt := fun π => e_point (π := π) y
      rw [hw, if_pos hge] at hpt
      simp only [lat, h2, if_true, hg]
      by_cases hmx : a < cur[(y - 2).toNat]
      · simp [u_ratchetref28_Arrivals_L1, b_ratchetref28_Arrivals_L1, hil, hpi, hlen, hy2, hpt, h2, hlt, hlt', hmx]
        exact ref_arr1 n D cur nl nd hcl i p hp hs3 hin suf (pre ++ [y]) _ _ (by simp [h]) (by simp [hwl])
      · simp [u_ratchetref28_Arrivals_L1, b_ratchetref28_Arrivals_L1, hil, hpi, hlen, hy2, hpt, h2, hlt, hlt', hmx]
        exact ref_arr1 n D cur nl nd hcl i p hp hs3 hin suf (pre ++ [y]) _ _ (by simp [h]) (by simp [hwl])
    · have hge : ¬ y - 2 > -1 := by omega
      have hpt := fun π => e_point (π := π) y
      rw [hw, if_neg hge] at hpt
      simp only [lat, h2, if_false]
      simp [u_ratchetref28_Arrivals_L1, b_ratchetref28_Arrivals_L1, hil, hpi, hlen, hy2, hpt]
      exact ref_arr1 n D cur nl nd hcl i p hp hs3 hin suf (pre ++ [y]) _ _ (by simp [h]) (by simp [hwl])

theorem ref_arr0 (l : List Cell) (n : Net) (m : Model) (hv : Valid l n m) (nd : Option Bool) : ∀ (suf pre : List Placed) (cur : List Int) (x : Env × Sto), n.placed = pre ++ suf → (cur.length : Int) = n.leaves + pre.length → (∀ v ∈ cur, 0 ≤ v ∧ v ≤ 1000000 + 25400 * (pre.length : Int)) →
    mask [5, 9, 10, 11] [] x = some ([(5, .ref (5 :: π) 0), (9, .ap (3 :: 16 :: π)), (10, .ap (1007 :: 20 :: π)), (11, .p (I pre.length))], [rowI (1007 :: 20 :: π) nd (delaysN l n m), rowI (3 :: 16 :: π) (some false) cur, (5 :: π, boxN n)]) →
    kpO [9] [8] [] (bkO 0 (iter (round EE iter π [] [5, 9, 10, 11] c_ratchetref28_Arrivals_L0) x)) = some (.nm, [(9, .ap (3 :: 16 :: π))], [rowI (3 :: 16 :: π) (some false) (arrGo (delaysN l n m) pre.length suf cur)])
  | [], pre, cur, x, h, hc, hb, hm => by
    rw [loop_eq hm]
    have : n.placed = pre := by simpa using h
    generalize delaysN l n m = D at *
    simp [u_ratchetref28_Arrivals_L0, b_ratchetref28_Arrivals_L0, arrGo, this]
  | y :: suf, pre, cur, x, h, hc, hb, hm => by
    rw [loop_eq hm]
    have hmem : y ∈ n.placed := by rw [h]; simp
    have hlen : pre.length < n.placed.length := by rw [h]; simp
    have hlv := hv.lv0
    have hlv1 := hv.lv1
    have hnp := hv.np
    have hsr := hv.src pre.length y (by rw [h]; simp)
    obtain ⟨_, _, _, _, _, hs3⟩ := hv.cell y hmem
    have hin : ∀ s ∈ y.sources, 0 ≤ s ∧ s < (cur.length : Int) + 2 := fun s hs => by have := hsr s hs; omega
    have hDl : (delaysN l n m).length = n.placed.length := by simp [delaysN]
    have hDg : (delaysN l n m).getD pre.length 0 = delayN l n m pre.length y := by simp [delaysN, List.getD, h]
    have hDi : (delaysN l n m)[pre.length]? = some (delayN l n m pre.length y) := by simp [delaysN, h]
    have hdi := (hv.delay_in (i := pre.length) hmem).2.2
    have hla := lat_in cur _ (by omega) hb y.sources 0 (by omega) (by omega)
    have hw := w64 (n := lat cur y.sources 0 + delayN l n m pre.length y) ⟨by omega, by omega⟩
    have hroom : cur.length + 1 ≤ room := by simp only [room]; omega
    have hnext := ref_arr0 l n m hv nd suf (pre ++ [y]) (cur ++ [lat cur y.sources 0 + delayN l n m pre.length y])
    rw [show (pre ++ [y]).length = pre.length + 1 by simp] at hnext
    simp only [arrGo]
    rw [hDg]
    have hl1 := ref_arr1 (π := π) n (delaysN l n m) cur (some false) nd (by omega) pre.length y (by rw [h]; simp) (by omega) hin y.sources [] 0
    generalize delaysN l n m = D at hDi hDl hnext hl1
    have hlt : pre.length < D.length := by omega
    have hD2 : D[pre.length] = delayN l n m pre.length y := by simpa [List.getElem?_eq_getElem hlt] using hDi
    simp [u_ratchetref28_Arrivals_L0, b_ratchetref28_Arrivals_L0, hlen]
    rw [hl1 _ rfl (by simp)]
    simp [hlt, hD2, hw, hroom]
    refine hnext _ (by simp [h]) (by simp; omega) ?_ (by simp [w_succ hlen (show n.placed.length ≤ top63 by simp only [top63]; omega)])
    intro v hv
    rw [List.mem_append] at hv
    rcases hv with hv | hv
    · have := hb v hv; omega
    · rw [List.mem_singleton] at hv; omega

theorem e_ArrivalsR (l : List Cell) (n : Net) (m : Model) (hv : Valid l n m) (ats : List Int) (ha : (ats.length : Int) = n.leaves) (hb : ∀ v ∈ ats, 0 ≤ v ∧ v ≤ 1000000) :
    EE π n_ratchetref28_Arrivals [.p (encLib l), .p (encNet n), .p (encModel m), .p (encInts ats)] [] = some (.ap (3 :: 16 :: π), [rowI (3 :: 16 :: π) (some false) (arrN l n m ats)]) := by
  have h0 := ref_arr0 (π := π) l n m hv (flagE n.placed) n.placed [] ats
  have hlv1 := hv.lv1
  have hroom : (ints ats).length ≤ room := by simp only [room, List.length_map]; omega
  have hcp := fun π => e_CopyInts (π := π) (ints ats) hroom
  have hd := fun π => e_Delays (π := π) l n m hv
  unfold arrN
  generalize delaysN l n m = D at *
  simp [e_ratchetref28_Arrivals, run_eq, c_ratchetref28_Arrivals, hcp, hd, thaw, thaw1]
  rw [h0 _ rfl (by simpa using ha) (by simpa using hb) (by simp)]
  simp

end Go.Proofs.Ytafomlbikcphgaa.V

/- The law's helpers: few, copies. -/
namespace Go.Proofs.Ytafomlbikcphgaa.V
open Go (IntKind BinOp UnOp)
variable {π ρ κ : Id}

@[simp] theorem toPV_dtup (s : Sto) (cs : List AV) : toPV s depth (.tup cs) = (cs.mapM (toPV s 11)).map .tup := rfl
@[simp] theorem toPV_stup (s : Sto) (n : Nat) (cs : List AV) : toPV s (n + 1) (.tup cs) = (cs.mapM (toPV s n)).map .tup := rfl
@[simp] theorem reach_dtup (s : Sto) (cs : List AV) : reach s depth (.tup cs) = cs.flatMap (reach s 11) := rfl
@[simp] theorem reach_stup (s : Sto) (n : Nat) (cs : List AV) : reach s (n + 1) (.tup cs) = cs.flatMap (reach s n) := rfl
@[simp] theorem reach_sagg (s : Sto) (n : Nat) (cs : List AV) : reach s (n + 1) (.agg cs) = cs.flatMap (reach s n) := rfl

abbrev circ (l : List Cell) (n : Net) (m : Model) : List PV := [encLib l, I n.leaves, encPlaceds n.placed, encInts n.outs, I m.perLoad, I m.setup, I m.hold, I m.fast, I m.slow]
abbrev boxX (l : List Cell) (n : Net) (m : Model) : Blk := .box false [.p (encLib l), .p (I n.leaves), .p (encPlaceds n.placed), .p (encInts n.outs), .p (I m.perLoad), .p (I m.setup), .p (I m.hold), .p (I m.fast), .p (I m.slow)]
/-- A circuit is small. -/
def fewB (l : List Cell) (n : Net) : Bool := decide (l.length ≤ 18) && decide (n.placed.length ≤ 62) && decide (n.outs.length ≤ 70) && n.placed.all fun p => decide (p.sources.length ≤ 5)

theorem few_loop (l : List Cell) (n : Net) (m : Model) (hp : n.placed.length ≤ 62) : ∀ (suf pre : List Placed) (x : Env × Sto), n.placed = pre ++ suf →
    mask [1, 3] [] x = some ([(1, .ref (1 :: π) 0), (3, .p (I pre.length))], [(1 :: π, boxX l n m)]) →
    kpO [] [2] [] (bkO 0 (iter (round EE iter π [] [1, 3] c_ratchetlaw28_Few_L0) x)) = (bif suf.all fun p => decide (p.sources.length ≤ 5) then some (.nm, [], []) else some (.rt, [(2, .p (.bool false))], []))
  | [], pre, x, h, hm => by
    rw [loop_eq hm]
    have : n.placed = pre := by simpa using h
    simp [u_ratchetlaw28_Few_L0, b_ratchetlaw28_Few_L0, this]
  | y :: suf, pre, x, h, hm => by
    rw [loop_eq hm]
    have hlen : pre.length < n.placed.length := by rw [h]; simp
    have hyp : n.placed[pre.length]? = some y := by rw [h]; simp
    have hy2 : n.placed[pre.length] = y := by simpa [List.getElem?_eq_getElem hlen] using hyp
    have hwl := w_succ hlen (show n.placed.length ≤ top63 by simp only [top63]; omega)
    by_cases h5 : y.sources.length ≤ 5
    · have h5' : ¬ (5 : Int) < y.sources.length := by omega
      have hnext := few_loop l n m hp suf (pre ++ [y])
      simp [u_ratchetlaw28_Few_L0, b_ratchetlaw28_Few_L0, hlen, hy2, h5, h5']
      exact hnext _ (by simp [h]) (by simp [hwl])
    · have h5' : (5 : Int) < y.sources.length := by omega
      simp [u_ratchetlaw28_Few_L0, b_ratchetlaw28_Few_L0, hlen, hy2, h5, h5']

theorem e_Few (l : List Cell) (n : Net) (m : Model) : EE π n_ratchetlaw28_Few [.p (.agg (circ l n m))] [] = some (.p (.bool (fewB l n)), []) := by
  unfold fewB
  by_cases h1 : l.length ≤ 18
  · have h1' : ¬ (18 : Int) < l.length := by omega
    by_cases h2 : n.placed.length ≤ 62
    · have h2' : ¬ (62 : Int) < n.placed.length := by omega
      by_cases h3 : n.outs.length ≤ 70
      · have h3' : ¬ (70 : Int) < n.outs.length := by omega
        simp [e_ratchetlaw28_Few, run_eq, c_ratchetlaw28_Few, h1, h1', h2, h2', h3, h3']
        rw [few_loop l n m h2 n.placed [] _ rfl (by simp)]
        cases hf : n.placed.all fun p => decide (p.sources.length ≤ 5) <;> simp
      · have h3' : (70 : Int) < n.outs.length := by omega
        simp [e_ratchetlaw28_Few, run_eq, c_ratchetlaw28_Few, h1, h1', h2, h2', h3, h3']
    · have h2' : (62 : Int) < n.placed.length := by omega
      simp [e_ratchetlaw28_Few, run_eq, c_ratchetlaw28_Few, h1, h1', h2, h2']
  · have h1' : (18 : Int) < l.length := by omega
    simp [e_ratchetlaw28_Few, run_eq, c_ratchetlaw28_Few, h1, h1']

theorem e_CopyLibrary (l : List Cell) (h : l.length ≤ room) : EE π n_ratchetref27_CopyLibrary [.p (encLib l)] [] = some (.ap (3 :: π), [(3 :: π, .row false t_api_MapCell 5 (some false) (l.map encCell))]) := by
  simp [e_ratchetref27_CopyLibrary, run_eq, c_ratchetref27_CopyLibrary, h]
  done

/-- A copied cell: its sources are surely not nil. -/
abbrev encPlacedF (p : Placed) : PV := .agg [I p.cell, .sl 1 (some false) (ints p.sources)]
@[simp] theorem fgL_placedF (l : List Placed) : PV.fg.PV.fgL (l.map encPlacedF) = l.map encPlaced := fgL_map _ _ (fun x => by simp) l
theorem copy_loop (n : Net) (hp : n.placed.length ≤ 62) (h5 : ∀ p ∈ n.placed, p.sources.length ≤ 5) (ho : n.outs.length ≤ 70) : ∀ (suf pre : List Placed) (x : Env × Sto), n.placed = pre ++ suf →
    mask [1, 2, 3, 4] [] x = some ([(1, .ref (1 :: π) 0), (2, .ref (2 :: π) 0), (3, .ref (3 :: π) 0), (4, .p (I pre.length))],
      [(200003 :: π, .row false t_api_MapPlaced 2 (flagE pre) (pre.map encPlacedF)), (3 :: π, .box false [.p (I n.leaves), .ap (200003 :: π), .ap (3 :: 9 :: π)]), (3 :: 9 :: π, .row false t_int 1 (some false) (ints n.outs)),
       (2 :: π, .box false [.p (I 0), .p (.sl 2 (some true) []), .p (.sl 1 (some true) [])]), (1 :: π, boxN n)]) →
    kpO [2, 3] [2] [] (bkO 0 (iter (round EE iter π [] [1, 2, 3, 4] c_ratchetref27_CopyNet_L0) x)) = some (.nm, [(2, .ref (2 :: π) 0), (3, .ref (3 :: π) 0)],
      [(200003 :: π, .row false t_api_MapPlaced 2 (flagE n.placed) (n.placed.map encPlacedF)), (3 :: π, .box false [.p (I n.leaves), .ap (200003 :: π), .ap (3 :: 9 :: π)]), (3 :: 9 :: π, .row false t_int 1 (some false) (ints n.outs)),
       (2 :: π, .box false [.p (I 0), .p (.sl 2 (some true) []), .p (.sl 1 (some true) [])])])
  | [], pre, x, h, hm => by
    rw [loop_eq hm]
    have : n.placed = pre := by simpa using h
    rw [this]
    simp [u_ratchetref27_CopyNet_L0, b_ratchetref27_CopyNet_L0, this]
  | y :: suf, pre, x, h, hm => by
    rw [loop_eq hm]
    have hlen : pre.length < n.placed.length := by rw [h]; simp
    have hyp : n.placed[pre.length]? = some y := by rw [h]; simp
    have hy2 : n.placed[pre.length] = y := by simpa [List.getElem?_eq_getElem hlen] using hyp
    have hy5 := h5 y (List.mem_of_getElem? hyp)
    have hwl := w_succ hlen (show n.placed.length ≤ top63 by simp only [top63]; omega)
    have hcp := fun π => e_CopyInts (π := π) (ints y.sources) (by simp only [room, List.length_map]; omega)
    have hroom : pre.length + 1 ≤ room := by simp only [room]; omega
    have hnext := copy_loop n hp h5 ho suf (pre ++ [y])
    simp [u_ratchetref27_CopyNet_L0, b_ratchetref27_CopyNet_L0, hlen, hy2, hcp, hroom, freeze]

    exact hnext _ (by simp [h]) (by simp [hwl])

theorem e_CopyNet (n : Net) (hp : n.placed.length ≤ 62) (h5 : ∀ p ∈ n.placed, p.sources.length ≤ 5) (ho : n.outs.length ≤ 70) :
    EE π n_ratchetref27_CopyNet [.p (encNet n)] [] = some (.agg [.p (I n.leaves), .ap (200003 :: π), .ap (3 :: 9 :: π)],
      [(200003 :: π, .row false t_api_MapPlaced 2 (flagE n.placed) (n.placed.map encPlacedF)), (3 :: 9 :: π, .row false t_int 1 (some false) (ints n.outs))]) := by
  have hl := copy_loop (π := π) n hp h5 ho n.placed []
  have hcp := fun π => e_CopyInts (π := π) (ints n.outs) (by simp only [room, List.length_map]; omega)
  simp [e_ratchetref27_CopyNet, run_eq, c_ratchetref27_CopyNet, hcp, thaw, thaw1]
  rw [hl _ rfl (by simp)]
  simp

theorem few_of {l : List Cell} {n : Net} (h : fewB l n = true) : l.length ≤ 18 ∧ n.placed.length ≤ 62 ∧ n.outs.length ≤ 70 ∧ ∀ p ∈ n.placed, p.sources.length ≤ 5 := by
  simp only [fewB, Bool.and_eq_true, decide_eq_true_eq, List.all_eq_true] at h
  exact ⟨h.1.1.1, h.1.1.2, h.1.2, h.2⟩

theorem id_ne2 (a b : Nat) (l : Id) : ¬ l = a :: b :: l := fun h => by have := congrArg List.length h; simp only [List.length_cons] at this; omega
theorem e_copied (l : List Cell) (n : Net) (m : Model) (h : fewB l n = true) :
    EE π n_ratchetlaw28_copied [.p (.agg (circ l n m))] [] = some (.tup [.ap (3 :: 7 :: π), .agg [.p (I n.leaves), .ap (200003 :: 10 :: π), .ap (3 :: 9 :: 10 :: π)], .p (encModel m)],
      [(200003 :: 10 :: π, .row false t_api_MapPlaced 2 (flagE n.placed) (n.placed.map encPlacedF)), (3 :: 9 :: 10 :: π, .row false t_int 1 (some false) (ints n.outs)), (3 :: 7 :: π, .row false t_api_MapCell 5 (some false) (l.map encCell))]) := by
  obtain ⟨h1, h2, h3, h5⟩ := few_of h
  have hn := fun π => e_CopyNet (π := π) n h2 h5 h3
  have hl := fun π => e_CopyLibrary (π := π) l (by simp only [room]; omega)
  simp [e_ratchetlaw28_copied, run_eq, c_ratchetlaw28_copied, hn, hl, evRO]
  simp [List.filter_cons, id_ne2]

end Go.Proofs.Ytafomlbikcphgaa.V

/- The examples of the chapter. -/
namespace Go.Proofs.Ytafomlbikcphgaa.V
open Go (IntKind BinOp UnOp)
variable {π ρ κ : Id}

/-- The examples of the chapter. -/
abbrev Awake (π : Id) : Prop := EE π n_ratchetlaw28_awake [] [] = some (.p (.bool true), [])

theorem w64z : IntKind.i64.wrap 0 = 0 := by decide


end Go.Proofs.Ytafomlbikcphgaa.V

/- Cells and their delays. -/
namespace Go.Proofs.Ytafomlbikcphgaa.V
open Go (IntKind BinOp UnOp)
variable {π ρ κ : Id}

theorem e_isCell (l : List Cell) (n : Net) (m : Model) (hv : Valid l n m) (i : Int) : EE π n_timing_net_isCell [.p (.agg [I n.leaves, encPlaceds n.placed, encInts n.outs, encLib l]), .p (I i)] [] = some (.p (.bool (within i n.leaves (n.leaves + n.placed.length - 1))), []) := by
  have hlv0 := hv.lv0
  have hlv1 := hv.lv1
  have hnp := hv.np
  have hw : IntKind.i64.wrap (n.leaves + n.placed.length) = n.leaves + n.placed.length := w64 ⟨by omega, by omega⟩
  have hw2 : IntKind.i64.wrap (n.leaves + n.placed.length - 1) = n.leaves + n.placed.length - 1 := w64 ⟨by omega, by omega⟩
  have hpts := fun π => e_points (π := π) n l
  rw [hw] at hpts
  simp [e_timing_net_isCell, run_eq, c_timing_net_isCell, hpts, hw2, e_withinT]

abbrev cellsP (l : List Cell) (n : Net) (m : Model) (D : List Int) : List PV := [I n.leaves, encPlaceds n.placed, encInts n.outs, encLib l, I m.perLoad, I m.setup, I m.hold, I m.fast, I m.slow, encInts D]

theorem e_delay (l : List Cell) (n : Net) (m : Model) (D : List Int) (i : Nat) (h0 : 0 ≤ n.leaves) (h1 : n.leaves ≤ 40) (hi : n.leaves ≤ i) (hl : (i : Int) < n.leaves + D.length) (hD : D.length ≤ 1000) :
    EE π n_timing_timed_delay [.p (.agg (cellsP l n m D)), .p (I i)] [] = some (.p (I (D.getD (i - n.leaves.toNat) 0)), []) := by
  have hw : IntKind.i64.wrap ((i : Int) - n.leaves) = (i : Int) - n.leaves := w64 ⟨by omega, by omega⟩
  have hlt : ((i : Int) - n.leaves).toNat < D.length := by omega
  have hlt' : (i : Int) - n.leaves < (D.length : Int) := by omega
  have e : i - n.leaves.toNat = ((i : Int) - n.leaves).toNat := by omega
  have hg : D.getD (i - n.leaves.toNat) 0 = D[((i : Int) - n.leaves).toNat] := by rw [e]; simp [List.getD, hlt]
  rw [hg]
  simp [e_timing_timed_delay, run_eq, c_timing_timed_delay, hw, hlt, hlt', hi]


theorem arrGo_prefix (D : List Int) : ∀ (i : Nat) (suf : List Placed) (cur : List Int), ∃ t, arrGo D i suf cur = cur ++ t
  | _, [], cur => ⟨[], by simp [arrGo]⟩
  | i, p :: r, cur => by
    obtain ⟨t, ht⟩ := arrGo_prefix D (i + 1) r (cur ++ [lat cur p.sources 0 + D.getD i 0])
    exact ⟨_ :: t, by rw [arrGo, ht, List.append_assoc]; rfl⟩
theorem arrGo_get (D : List Int) : ∀ (suf : List Placed) (i k : Nat) (p : Placed) (cur : List Int), suf[k]? = some p → (arrGo D i suf cur)[cur.length + k]? = some (lat ((arrGo D i suf cur).take (cur.length + k)) p.sources 0 + D.getD (i + k) 0)
  | [], _, _, _, _, h => by simp at h
  | q :: r, i, 0, p, cur, h => by
    simp at h
    subst h
    rw [arrGo]
    obtain ⟨t, ht⟩ := arrGo_prefix D (i + 1) r (cur ++ [lat cur q.sources 0 + D.getD i 0])
    rw [ht]
    simp
  | q :: r, i, k + 1, p, cur, h => by
    rw [arrGo]
    have := arrGo_get D r (i + 1) k p (cur ++ [lat cur q.sources 0 + D.getD i 0]) (by simpa using h)
    rw [show (cur ++ [lat cur q.sources 0 + D.getD i 0]).length + k = cur.length + (k + 1) by simp; omega, show i + 1 + k = i + (k + 1) by omega] at this
    exact this

end Go.Proofs.Ytafomlbikcphgaa.V

/- What a law's arguments are: lists, cells, netlists. -/
namespace Go.Proofs.Ytafomlbikcphgaa.V
open Go (IntKind BinOp UnOp)

theorem dec_list {α : Type} (f : α → PV) : ∀ (l : List PV), (∀ y ∈ l, ∃ a, y = f a) → ∃ k : List α, l = k.map f
  | [], _ => ⟨[], rfl⟩
  | y :: r, h => by
    obtain ⟨a, ha⟩ := h y (by simp)
    obtain ⟨k, hk⟩ := dec_list f r fun z hz => h z (by simp [hz])
    exact ⟨a :: k, by simp [ha, hk]⟩
theorem dec_listP {α : Type} (f : α → PV) (Q : α → Prop) : ∀ (l : List PV), (∀ y ∈ l, ∃ a, y = f a ∧ Q a) → ∃ k : List α, l = k.map f ∧ ∀ a ∈ k, Q a
  | [], _ => ⟨[], rfl, fun a h => by cases h⟩
  | y :: r, h => by
    obtain ⟨a, ha, hq⟩ := h y (by simp)
    obtain ⟨k, hk, hkq⟩ := dec_listP f Q r fun z hz => h z (by simp [hz])
    refine ⟨a :: k, by simp [ha, hk], fun b hb => ?_⟩
    rw [List.mem_cons] at hb
    rcases hb with rfl | hb
    · exact hq
    · exact hkq b hb

theorem cel_int {x : PV} (h : Cel (.int .i64) x) : ∃ n, x = I n := by
  simp only [Cel] at h
  obtain ⟨n, h, _⟩ := h
  exact ⟨n, h⟩
theorem cel_ints {x : PV} (h : Cel (.sl 1 false [.int .i64]) x) : ∃ k : List Int, x = encInts k ∧ k.length ≤ top63 := by
  simp only [Cel, CelL] at h
  obtain ⟨l, rfl, hl, h⟩ := h
  obtain ⟨k, rfl⟩ := dec_list I l fun y hy => by
    obtain ⟨⟨x, ys, hc, ⟨n, hx, _⟩, h0⟩, he⟩ := h y hy
    subst h0
    rw [hc] at he
    exact ⟨n, by rw [he, hx]; rfl⟩
  exact ⟨k, rfl, by simpa [Go.maxLen] using hl⟩
theorem cel_placeds {x : PV} (h : Cel (.sl 2 true [.int .i64, .sl 1 false [.int .i64]]) x) : ∃ k : List Placed, x = encPlaceds k ∧ k.length ≤ top63 ∧ ∀ p ∈ k, p.sources.length ≤ top63 := by
  rw [Cel] at h
  obtain ⟨l, rfl, hl, h⟩ := h
  obtain ⟨k, rfl, hk⟩ := dec_listP encPlaced (fun p => p.sources.length ≤ top63) l fun y hy => by
    obtain ⟨hc, he⟩ := h y hy
    simp only [CelL] at hc
    obtain ⟨a, r1, h1, ca, b, r2, h2, cb, h3⟩ := hc
    subst h3 h2
    rw [h1] at he
    obtain ⟨n, rfl⟩ := cel_int ca
    obtain ⟨k, rfl, hk⟩ := cel_ints cb
    exact ⟨⟨n, k⟩, he, hk⟩
  exact ⟨k, rfl, by simpa [Go.maxLen] using hl, hk⟩
theorem cel_lib {x : PV} (h : Cel (.sl 5 true [.str, .int .i64, .int .i64, .int .i64, .int .i64]) x) : ∃ k : List Cell, x = encLib k ∧ k.length ≤ top63 ∧ ∀ c ∈ k, c.name.size ≤ top63 := by
  rw [Cel] at h
  obtain ⟨l, rfl, hl, h⟩ := h
  obtain ⟨k, rfl, hk⟩ := dec_listP encCell (fun c => c.name.size ≤ top63) l fun y hy => by
    obtain ⟨hc, he⟩ := h y hy
    simp only [CelL] at hc
    obtain ⟨a, r1, h1, ca, b, r2, h2, cb, c, r3, h3, cc, d, r4, h4, cd, e, r5, h5, ce, h6⟩ := hc
    subst h6 h5 h4 h3 h2
    rw [h1] at he
    rw [Cel] at ca
    obtain ⟨s, rfl, hs⟩ := ca
    obtain ⟨n1, rfl⟩ := cel_int cb
    obtain ⟨n2, rfl⟩ := cel_int cc
    obtain ⟨n3, rfl⟩ := cel_int cd
    obtain ⟨n4, rfl⟩ := cel_int ce
    exact ⟨⟨s, n1, n2, n3, n4⟩, he, by simpa [Go.maxLen] using hs⟩
  exact ⟨k, rfl, by simpa [Go.maxLen] using hl, hk⟩

/-- A circuit. -/
theorem cel_circ {x : List PV} (h : CelL [.sl 5 true [.str, .int .i64, .int .i64, .int .i64, .int .i64], .int .i64, .sl 2 true [.int .i64, .sl 1 false [.int .i64]], .sl 1 false [.int .i64], .int .i64, .int .i64, .int .i64, .int .i64, .int .i64] x) :
    ∃ l n m, x = circ l n m ∧ netOk l n := by
  simp only [CelL] at h
  obtain ⟨a, r1, h1, ca, b, r2, h2, cb, c, r3, h3, cc, d, r4, h4, cd, e, r5, h5, ce, f, r6, h6, cf, g, r7, h7, cg, i, r8, h8, ci, j, r9, h9, cj, h10⟩ := h
  subst h10 h9 h8 h7 h6 h5 h4 h3 h2
  obtain ⟨l, rfl, hl, hn⟩ := cel_lib ca
  obtain ⟨lv, rfl⟩ := cel_int cb
  obtain ⟨pl, rfl, hp, hs⟩ := cel_placeds cc
  obtain ⟨o, rfl, ho⟩ := cel_ints cd
  obtain ⟨m1, rfl⟩ := cel_int ce
  obtain ⟨m2, rfl⟩ := cel_int cf
  obtain ⟨m3, rfl⟩ := cel_int cg
  obtain ⟨m4, rfl⟩ := cel_int ci
  obtain ⟨m5, rfl⟩ := cel_int cj
  exact ⟨l, ⟨lv, pl, o⟩, ⟨m1, m2, m3, m4, m5⟩, h1, hl, hn, hp, ho, hs⟩
theorem cel_int1 {x : List PV} (h : CelL [.sl 1 false [.int .i64]] x) : ∃ k : List Int, x = [encInts k] ∧ k.length ≤ top63 := by
  simp only [CelL] at h
  obtain ⟨a, r1, h1, ca, h2⟩ := h
  subst h2
  obtain ⟨k, rfl, hk⟩ := cel_ints ca
  exact ⟨k, h1, hk⟩

end Go.Proofs.Ytafomlbikcphgaa.V
