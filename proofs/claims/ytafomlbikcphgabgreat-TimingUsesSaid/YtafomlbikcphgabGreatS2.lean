/- Arrivals, by timing. The exported function of arrivals. Loads and delays, by the reference. Delays and arrivals, by the reference. The law's helpers: few, copies. The examples of the chapter. Cells and their delays. What a law's arguments are: lists, cells, netlists. -/
import Derived.Test.YtafomlbikcphgabGreatS1
import Derived.Test.YtafomlbikcphgabGreatK4

set_option linter.unusedSimpArgs false
set_option linter.unusedVariables false

/- Arrivals, by timing. -/
namespace Go.Proofs.YtafomlbikcphgabGreat.V
open Go (IntKind BinOp UnOp)
variable {π ρ : Id}

/-- The latest arrival of some sources. -/
def lat (cur : List Int) : List Int → Int → Int
  | [], a => a
  | s :: r, a => lat cur r (if 2 ≤ s then (if a < cur.getD (s - 2).toNat 0 then cur.getD (s - 2).toNat 0 else a) else a)

theorem great_loop (src cur : List Int) (hsrc : src.length ≤ top63) (hin : ∀ s ∈ src, 0 ≤ s ∧ s < cur.length + 2) (hcl : cur.length ≤ 1000000) : ∀ (suf pre : List Int) (a : Int) (x : Env × Sto), src = pre ++ suf →
    mask [1, 5, 9, 10, 11] [] x = some ([(1, .p (encInts cur)), (5, .p (I a)), (9, .p (encInts src)), (10, .p (I src.length)), (11, .p (I pre.length))], []) →
    kpO [5] [4] [] (bkO 0 (iter (round EE iter π [] [1, 5, 9, 10, 11] c_timing_greatest_L0) x)) = some (.nm, [(5, .p (I (lat cur suf a)))], [])
  | [], pre, a, x, h, hm => by
    rw [loop_eq hm]
    have : src = pre := by simpa using h
    rw [← this]
    simp [u_timing_greatest_L0, b_timing_greatest_L0, lat]
  | y :: suf, pre, a, x, h, hm => by
    rw [loop_eq hm]
    have hy := hin y (by rw [h]; simp)
    have hlen : pre.length < src.length := by rw [h]; simp
    have hw : IntKind.i64.wrap (y - 2) = y - 2 := w64 ⟨by omega, by omega⟩
    by_cases h2 : 2 ≤ y
    · have hlt : (y - 2).toNat < cur.length := by omega
      have hlt' : y - 2 < (cur.length : Int) := by omega
      have hg : cur.getD (y - 2).toNat 0 = cur[(y - 2).toNat] := by simp [List.getD, hlt]
      simp only [lat, h2, if_true, hg]
      by_cases hmx : a < cur[(y - 2).toNat]
      · simp [u_timing_greatest_L0, b_timing_greatest_L0, lt_mid h, get_mid _ h, e_pointOf, hw, h2, hlt, hlt', hmx]
        exact great_loop src cur hsrc hin hcl suf (pre ++ [y]) _ _ (by simp [h]) (by simp [w_succ hlen hsrc])
      · simp [u_timing_greatest_L0, b_timing_greatest_L0, lt_mid h, get_mid _ h, e_pointOf, hw, h2, hlt, hlt', hmx]
        exact great_loop src cur hsrc hin hcl suf (pre ++ [y]) _ _ (by simp [h]) (by simp [w_succ hlen hsrc])
    · simp only [lat, h2, if_false]
      simp [u_timing_greatest_L0, b_timing_greatest_L0, lt_mid h, get_mid _ h, e_pointOf, hw, h2]
      exact great_loop src cur hsrc hin hcl suf (pre ++ [y]) _ _ (by simp [h]) (by simp [w_succ hlen hsrc])

theorem e_greatest (src cur : List Int) (hsrc : src.length ≤ top63) (hin : ∀ s ∈ src, 0 ≤ s ∧ s < cur.length + 2) (hcl : cur.length ≤ 1000000) :
    EE π n_timing_greatest [.p (encInts src), .p (encInts cur)] [] = some (.p (I (lat cur src 0)), []) := by
  simp [e_timing_greatest, run_eq, c_timing_greatest]
  rw [great_loop src cur hsrc hin hcl src [] 0 _ rfl (by simp)]
  simp

/-- Arrivals, cell by cell. -/
def arrGo (D : List Int) : Nat → List Placed → List Int → List Int
  | _, [], cur => cur
  | i, p :: r, cur => arrGo D (i + 1) r (cur ++ [lat cur p.sources 0 + D.getD i 0])

theorem lat_in (cur : List Int) (B : Int) (hB : 0 ≤ B) (h : ∀ x ∈ cur, 0 ≤ x ∧ x ≤ B) : ∀ (src : List Int) (a : Int), 0 ≤ a → a ≤ B → 0 ≤ lat cur src a ∧ lat cur src a ≤ B
  | [], a, h0, h1 => ⟨h0, h1⟩
  | s :: r, a, h0, h1 => by
    have hg : 0 ≤ cur.getD (s - 2).toNat 0 ∧ cur.getD (s - 2).toNat 0 ≤ B := by
      rw [List.getD]
      cases hx : cur[(s - 2).toNat]? with
      | none => exact ⟨by simp, by simpa using hB⟩
      | some v => exact h v (List.mem_of_getElem? hx)
    simp only [lat]
    split
    · split
      · exact lat_in cur B hB h r _ hg.1 hg.2
      · exact lat_in cur B hB h r _ h0 h1
    · exact lat_in cur B hB h r _ h0 h1

theorem arr_loop (l : List Cell) (n : Net) (m : Model) (hv : Valid l n m) : ∀ (suf pre : List Placed) (cur : List Int) (nl : Option Bool) (i : Id) (x : Env × Sto), n.placed = pre ++ suf → (cur.length : Int) = n.leaves + pre.length → (∀ v ∈ cur, 0 ≤ v ∧ v ≤ 1000000 + 25400 * (pre.length : Int)) →
    mask [2, 5, 13, 14, 15] [] x = some ([(2, .ref (2 :: π) 0), (5, .ap (0 :: 9 :: π)), (13, .p (encPlaceds n.placed)), (14, .p (I n.placed.length)), (15, .p (I pre.length))],
      [rowI (0 :: 9 :: π) nl cur, (2 :: π, .box false [.p (I n.leaves), .p (encPlaceds n.placed), .p (encInts n.outs), .p (encLib l), .p (I m.perLoad), .p (I m.setup), .p (I m.hold), .p (I m.fast), .p (I m.slow), .p (encInts (delaysN l n m))])]) →
    kpO [5] [4] [] (bkO 0 (iter (round EE iter π [] [2, 5, 13, 14, 15] c_timing_timed_arrivals_L0) x)) = some (.nm, [(5, .ap (0 :: 9 :: π))], [rowI (0 :: 9 :: π) (bif suf.isEmpty then nl else some false) (arrGo (delaysN l n m) pre.length suf cur)])
  | [], pre, cur, nl, i, x, h, hc, hb, hm => by
    rw [loop_eq hm]
    have : n.placed = pre := by simpa using h
    generalize delaysN l n m = D
    simp [u_timing_timed_arrivals_L0, b_timing_timed_arrivals_L0, arrGo, this]
  | y :: suf, pre, cur, nl, i, x, h, hc, hb, hm => by
    rw [loop_eq hm]
    have hmem : y ∈ n.placed := by rw [h]; simp
    have hlen : pre.length < n.placed.length := by rw [h]; simp
    have hlv := hv.lv0
    have hlv1 := hv.lv1
    have hnp := hv.np
    have hsr := hv.src pre.length y (by rw [h]; simp)
    obtain ⟨_, _, _, _, _, hs3⟩ := hv.cell y hmem
    have hgr := fun π => e_greatest (π := π) y.sources cur (by simp only [top63]; omega) (fun s hs => by have := hsr s hs; omega) (by omega)
    have hDl : (delaysN l n m).length = n.placed.length := by simp [delaysN]
    have hDg : (delaysN l n m).getD pre.length 0 = delayN l n m pre.length y := by simp [delaysN, List.getD, h]
    have hDi : (delaysN l n m)[pre.length]? = some (delayN l n m pre.length y) := by simp [delaysN, h]
    have hdi := (hv.delay_in (i := pre.length) hmem).2.2
    have hla := lat_in cur _ (by omega) hb y.sources 0 (by omega) (by omega)
    have hw := w64 (n := lat cur y.sources 0 + delayN l n m pre.length y) ⟨by omega, by omega⟩
    have hroom : cur.length + 1 ≤ room := by simp only [room]; omega
    have hnext := arr_loop l n m hv suf (pre ++ [y]) (cur ++ [lat cur y.sources 0 + delayN l n m pre.length y]) (some false) i
    rw [show (pre ++ [y]).length = pre.length + 1 by simp] at hnext
    simp only [arrGo]
    rw [hDg]
    generalize delaysN l n m = D at hDi hDl hnext
    have hlt : pre.length < D.length := by omega
    have hD2 : D[pre.length] = delayN l n m pre.length y := by simpa [List.getElem?_eq_getElem hlt] using hDi
    simp [u_timing_timed_arrivals_L0, b_timing_timed_arrivals_L0, lt_mid h, get_mid _ h, hgr, hlt, hD2, hw, hroom]
    refine (hnext _ (by simp [h]) (by simp; omega) ?_ (by simp [w_succ hlen (show n.placed.length ≤ top63 by simp only [top63]; omega)])).trans (by simp)
    intro v hv
    rw [List.mem_append] at hv
    rcases hv with hv | hv
    · have := hb v hv; omega
    · simp at hv; omega

theorem e_arrivals (l : List Cell) (n : Net) (m : Model) (hv : Valid l n m) (ats : List Int) (ha : (ats.length : Int) = n.leaves) (hb : ∀ v ∈ ats, 0 ≤ v ∧ v ≤ 1000000) :
    EE π n_timing_timed_arrivals [.p (.agg [I n.leaves, encPlaceds n.placed, encInts n.outs, encLib l, I m.perLoad, I m.setup, I m.hold, I m.fast, I m.slow, encInts (delaysN l n m)]), .p (encInts ats)] [] =
      some (.ap (0 :: 9 :: π), [rowI (0 :: 9 :: π) (bif n.placed.isEmpty then flE (ints ats) else some false) (arrGo (delaysN l n m) 0 n.placed ats)]) := by
  have h3 := arr_loop (π := π) l n m hv n.placed [] ats (flE (ints ats)) []
  have hlv1 := hv.lv1
  have hroom : ats.length ≤ room := by simp only [room]; omega
  generalize delaysN l n m = D at *
  simp [e_timing_timed_arrivals, run_eq, c_timing_timed_arrivals, o_slices_Clone_int_int, cloneO, hroom, thaw, thaw1]
  rw [h3 _ rfl (by simpa using ha) (by simpa using hb) (by simp)]
  simp

end Go.Proofs.YtafomlbikcphgabGreat.V

/- The exported function of arrivals. -/
namespace Go.Proofs.YtafomlbikcphgabGreat.V
open Go (IntKind BinOp UnOp)
variable {π ρ κ : Id}

theorem times_ok {l : List Int} {c : Int} (h : timesE l c = 0) : (l.length : Int) = c ∧ ∀ v ∈ l, 0 ≤ v ∧ v ≤ 1000000 := by
  unfold timesE at h
  rw [firstE_cons, firstE_cons, unlE_z (by decide), unlE_z (by decide)] at h
  refine ⟨by simpa using h.1, fun v hv => within_iff.1 (List.all_eq_true.1 h.2.1 v hv)⟩

/-- The errors of arrivals. -/
def errA (l : List Cell) (n : Net) (m : Model) (ats : List Int) : Int := firstE [allE l n m, timesE ats n.leaves]
/-- The arrivals of all points. -/
def arrN (l : List Cell) (n : Net) (m : Model) (ats : List Int) : List Int := arrGo (delaysN l n m) 0 n.placed ats

theorem e_ArrivalsOf_err (l : List Cell) (n : Net) (m : Model) (h : netOk l n) (ats : List Int) (hd : ats.length ≤ top63) (he : errA l n m ats ≠ 0) :
    EE π n_timing_ArrivalsOf [.p (encLib l), .p (encNet n), .p (encModel m), .p (encInts ats)] [] = some (.p (.tup [.sl 1 (some true) [], I (errA l n m ats)]), []) := by
  unfold errA at *
  by_cases ha : allE l n m = 0
  · have ho := fun π => e_openTimes_ok (π := π) l n m h ha ats hd
    rw [ha] at he ⊢
    have ht : timesE ats n.leaves ≠ 0 := fun hz => he (by simp [firstE, hz])
    have e : firstE [0, timesE ats n.leaves] = timesE ats n.leaves := by simp [firstE, ht]
    rw [e]
    generalize delaysN l n m = D at *
    simp [e_timing_ArrivalsOf, run_eq, c_timing_ArrivalsOf, ho, ht]
  · have e : firstE [allE l n m, timesE ats n.leaves] = allE l n m := by simp [firstE, ha]
    rw [e]
    simp [e_timing_ArrivalsOf, run_eq, c_timing_ArrivalsOf, e_openTimes_err l n m h ha ats hd, ha]

theorem e_ArrivalsOf_ok (l : List Cell) (n : Net) (m : Model) (h : netOk l n) (ats : List Int) (hd : ats.length ≤ top63) (he : errA l n m ats = 0) :
    EE π n_timing_ArrivalsOf [.p (encLib l), .p (encNet n), .p (encModel m), .p (encInts ats)] [] = some (.tup [.ap (0 :: 9 :: 25 :: π), .p (I 0)], [rowI (0 :: 9 :: 25 :: π) (bif n.placed.isEmpty then flE (ints ats) else some false) (arrN l n m ats)]) := by
  unfold errA at he
  rw [firstE_cons, firstE_cons] at he
  obtain ⟨ha, ht, _⟩ := he
  have hv := valid_of ha
  obtain ⟨ht1, ht2⟩ := times_ok ht
  have ho := fun π => e_openTimes_ok (π := π) l n m h ha ats hd
  have hr := fun π => e_arrivals (π := π) l n m hv ats ht1 ht2
  unfold arrN
  rw [ht] at ho
  generalize delaysN l n m = D at *
  generalize arrGo D 0 n.placed ats = R at *
  simp [e_timing_ArrivalsOf, run_eq, c_timing_ArrivalsOf, ho, hr]

theorem Valid.D_in {l : List Cell} {n : Net} {m : Model} (h : Valid l n m) (i : Nat) (hi : i < n.placed.length) : 1 ≤ (delaysN l n m).getD i 0 ∧ (delaysN l n m).getD i 0 ≤ 25400 := by
  have e : (delaysN l n m).getD i 0 = delayN l n m i n.placed[i] := by simp [delaysN, List.getD, hi]
  rw [e]
  exact (h.delay_in (List.getElem_mem hi)).2.2
theorem Valid.D_ge {l : List Cell} {n : Net} {m : Model} (h : Valid l n m) (i : Nat) : 0 ≤ (delaysN l n m).getD i 0 ∧ (delaysN l n m).getD i 0 ≤ 25400 := by
  by_cases hi : i < n.placed.length
  · have := h.D_in i hi; omega
  · have : (delaysN l n m).getD i 0 = 0 := by simp [delaysN, List.getD, List.getElem?_eq_none (show n.placed.length ≤ i by omega)]
    omega

theorem arrGo_len (D : List Int) : ∀ (i : Nat) (suf : List Placed) (cur : List Int), (arrGo D i suf cur).length = cur.length + suf.length
  | _, [], cur => rfl
  | i, p :: r, cur => by rw [arrGo, arrGo_len]; simp; omega
theorem arrGo_in (D : List Int) (hD : ∀ i, 0 ≤ D.getD i 0 ∧ D.getD i 0 ≤ 25400) : ∀ (i : Nat) (suf : List Placed) (cur : List Int), (∀ v ∈ cur, 0 ≤ v ∧ v ≤ 1000000 + 25400 * (i : Int)) → ∀ v ∈ arrGo D i suf cur, 0 ≤ v ∧ v ≤ 1000000 + 25400 * ((i : Int) + suf.length)
  | i, [], cur, h => by intro v hv; have := h v hv; simp; omega
  | i, p :: r, cur, h => by
    have hla := lat_in cur _ (by omega) h p.sources 0 (by omega) (by omega)
    have hd := hD i
    have := arrGo_in D hD (i + 1) r (cur ++ [lat cur p.sources 0 + D.getD i 0]) (by
      intro v hv
      rw [List.mem_append] at hv
      rcases hv with hv | hv
      · have := h v hv; omega
      · rw [List.mem_singleton] at hv; omega)
    intro v hv
    have := this v hv
    simp only [List.length_cons]
    omega

theorem arrN_len {l : List Cell} {n : Net} {m : Model} {ats : List Int} : (arrN l n m ats).length = ats.length + n.placed.length := arrGo_len _ _ _ _
theorem arrN_in {l : List Cell} {n : Net} {m : Model} (hv : Valid l n m) {ats : List Int} (hd : ∀ v ∈ ats, 0 ≤ v ∧ v ≤ 1000000) : ∀ v ∈ arrN l n m ats, 0 ≤ v ∧ v ≤ 3000000 := by
  intro v hv'
  have hnp := hv.np
  have := arrGo_in _ hv.D_ge 0 n.placed ats (fun v hv => by have := hd v hv; omega) v hv'
  omega


end Go.Proofs.YtafomlbikcphgabGreat.V

/- Loads and delays, by the reference. -/
namespace Go.Proofs.YtafomlbikcphgabGreat.V
open Go (IntKind BinOp UnOp)
variable {π ρ κ : Id}

theorem tally_cons (s : Int) (r : List Int) (p : Nat) : (tally (s :: r) p : Int) = (if s = (p : Int) + 2 then 1 else 0) + (tally r p : Int) := by
  have : tally (s :: r) p = tally [s] p + tally r p := tally_append [s] r p
  rw [this, tally_one]
  split <;> simp

theorem ref_load1 (n : Net) (hlv0 : 0 ≤ n.leaves) (hlv1 : n.leaves ≤ 40) (c : Nat) (hc : c ≤ 1000) (i : Nat) (p : Placed) (hp : n.placed[i]? = some p) (hs : p.sources.length ≤ 1000) : ∀ (suf pre : List Int) (a : Int) (x : Env × Sto), p.sources = pre ++ suf → 0 ≤ a → a + suf.length ≤ 1000000 →
    mask [1, 2, 5, 6, 7] [] x = some ([(1, .p (I c)), (2, .ref (2 :: π) 0), (5, .p (I a)), (6, .p (I i)), (7, .p (I pre.length))], [(2 :: π, boxN n)]) →
    kpO [1, 2, 5, 6] [4] [] (bkO 2 (iter (round EE iter π [] [1, 2, 5, 6, 7] c_ratchetref28_load_L1) x)) = some (.nm, [(1, .p (I c)), (2, .ref (2 :: π) 0), (5, .p (I (a + tally suf (n.leaves.toNat + c)))), (6, .p (I i))], [(2 :: π, boxN n)])
  | [], pre, a, x, h, h0, h1, hm => by
    rw [loop_eq hm]
    have : p.sources = pre := by simpa using h
    have hil : i < n.placed.length := by rw [List.getElem?_eq_some_iff] at hp; exact hp.1
    have hpi : n.placed[i] = p := by simpa [List.getElem?_eq_getElem hil] using hp
    simp [u_ratchetref28_load_L1, b_ratchetref28_load_L1, hil, hpi, this, tally]
  | y :: suf, pre, a, x, h, h0, h1, hm => by
    rw [loop_eq hm]
    have hil : i < n.placed.length := by rw [List.getElem?_eq_some_iff] at hp; exact hp.1
    have hpi : n.placed[i] = p := by simpa [List.getElem?_eq_getElem hil] using hp
    have hlen : pre.length < p.sources.length := by rw [h]; simp
    have hy : p.sources[pre.length]? = some y := by rw [h]; simp
    have hy2 : p.sources[pre.length] = y := by simpa [List.getElem?_eq_getElem hlen] using hy
    have hw1 : IntKind.i64.wrap (2 + n.leaves) = 2 + n.leaves := w64 ⟨by omega, by omega⟩
    have hw2 : IntKind.i64.wrap (2 + n.leaves + c) = 2 + n.leaves + c := w64 ⟨by omega, by omega⟩
    simp only [List.length_cons] at h1
    have ht : (a + tally (y :: suf) (n.leaves.toNat + c) : Int) = (a + (if y = 2 + n.leaves + c then 1 else 0)) + tally suf (n.leaves.toNat + c) := by
      rw [tally_cons]
      have : (y = ((n.leaves.toNat + c : Nat) : Int) + 2) ↔ (y = 2 + n.leaves + c) := by omega
      simp only [this]; omega
    rw [ht]
    by_cases hyc : y = 2 + n.leaves + c
    · have hw3 : IntKind.i64.wrap (a + 1) = a + 1 := w64 ⟨by omega, by omega⟩
      have hnext := ref_load1 n hlv0 hlv1 c hc i p hp hs suf (pre ++ [y]) (a + 1)
      simp only [if_pos hyc]
      simp [u_ratchetref28_load_L1, b_ratchetref28_load_L1, hil, hpi, hlen, hy2, hw1, hw2, e_Bit, hyc, hw3]
      exact hnext _ (by simp [h]) (by omega) (by omega) (by simp [w_succ hlen (show p.sources.length ≤ top63 by simp only [top63]; omega)])
    · have hw3 : IntKind.i64.wrap a = a := w64 ⟨by omega, by omega⟩
      have hnext := ref_load1 n hlv0 hlv1 c hc i p hp hs suf (pre ++ [y]) a
      simp only [if_neg hyc, Int.add_zero]
      simp [u_ratchetref28_load_L1, b_ratchetref28_load_L1, hil, hpi, hlen, hy2, hw1, hw2, e_Bit, hyc, hw3]
      exact hnext _ (by simp [h]) (by omega) (by omega) (by simp [w_succ hlen (show p.sources.length ≤ top63 by simp only [top63]; omega)])

theorem ref_load0 (n : Net) (hlv0 : 0 ≤ n.leaves) (hlv1 : n.leaves ≤ 40) (hpl : n.placed.length ≤ 1000) (c : Nat) (hc : c ≤ 1000) (hs : ∀ p ∈ n.placed, p.sources.length ≤ 3) : ∀ (suf pre : List Placed) (a : Int) (x : Env × Sto), n.placed = pre ++ suf → 0 ≤ a → a + 3 * suf.length ≤ 100000 →
    mask [1, 2, 5, 6] [] x = some ([(1, .p (I c)), (2, .ref (2 :: π) 0), (5, .p (I a)), (6, .p (I pre.length))], [(2 :: π, boxN n)]) →
    kpO [1, 2, 5] [4] [] (bkO 0 (iter (round EE iter π [] [1, 2, 5, 6] c_ratchetref28_load_L0) x)) = some (.nm, [(1, .p (I c)), (2, .ref (2 :: π) 0), (5, .p (I (a + tally (srcsP suf) (n.leaves.toNat + c))))], [(2 :: π, boxN n)])
  | [], pre, a, x, h, h0, h1, hm => by
    rw [loop_eq hm]
    have : n.placed = pre := by simpa using h
    have e : (tally (srcsP []) (n.leaves.toNat + c) : Int) = 0 := by simp [tally, srcsP]
    rw [e]
    simp [u_ratchetref28_load_L0, b_ratchetref28_load_L0, this]
  | y :: suf, pre, a, x, h, h0, h1, hm => by
    rw [loop_eq hm]
    have hlen : pre.length < n.placed.length := by rw [h]; simp
    have hy3 := hs y (by rw [h]; simp)
    simp only [List.length_cons] at h1
    have hl := ref_load1 (π := π) n hlv0 hlv1 c hc pre.length y (by rw [h]; simp) (by omega) y.sources [] a
    have ht : (a + tally (srcsP (y :: suf)) (n.leaves.toNat + c) : Int) = (a + tally y.sources (n.leaves.toNat + c)) + tally (srcsP suf) (n.leaves.toNat + c) := by
      rw [show srcsP (y :: suf) = y.sources ++ srcsP suf by simp [srcsP], tally_append]; omega
    rw [ht]
    have htl := tally_le y.sources (n.leaves.toNat + c)
    have hnext := ref_load0 n hlv0 hlv1 hpl c hc hs suf (pre ++ [y]) (a + tally y.sources (n.leaves.toNat + c))
    rw [show (pre ++ [y]).length = pre.length + 1 by simp] at hnext
    generalize (tally (srcsP suf) (n.leaves.toNat + c) : Int) = t1 at *
    generalize htt : (tally y.sources (n.leaves.toNat + c) : Int) = t at *
    simp [u_ratchetref28_load_L0, b_ratchetref28_load_L0, hlen]
    rw [hl _ rfl h0 (by omega) (by simp)]
    simp
    exact hnext _ (by simp [h]) (by omega) (by omega) (by simp [w_succ hlen (show n.placed.length ≤ top63 by simp only [top63]; omega)])

theorem ref_load2 (n : Net) (hlv0 : 0 ≤ n.leaves) (hlv1 : n.leaves ≤ 40) (ho : n.outs.length ≤ 1000) (c : Nat) (hc : c ≤ 1000) : ∀ (suf pre : List Int) (a : Int) (x : Env × Sto), n.outs = pre ++ suf → 0 ≤ a → a + suf.length ≤ 1000000 →
    mask [1, 2, 5, 8] [] x = some ([(1, .p (I c)), (2, .ref (2 :: π) 0), (5, .p (I a)), (8, .p (I pre.length))], [(2 :: π, boxN n)]) →
    kpO [5] [4] [] (bkO 4 (iter (round EE iter π [] [1, 2, 5, 8] c_ratchetref28_load_L2) x)) = some (.nm, [(5, .p (I (a + tally suf (n.leaves.toNat + c))))], [])
  | [], pre, a, x, h, h0, h1, hm => by
    rw [loop_eq hm]
    have : n.outs = pre := by simpa using h
    simp [u_ratchetref28_load_L2, b_ratchetref28_load_L2, this, tally]
  | y :: suf, pre, a, x, h, h0, h1, hm => by
    rw [loop_eq hm]
    have hlen : pre.length < n.outs.length := by rw [h]; simp
    have hw1 : IntKind.i64.wrap (2 + n.leaves) = 2 + n.leaves := w64 ⟨by omega, by omega⟩
    have hw2 : IntKind.i64.wrap (2 + n.leaves + c) = 2 + n.leaves + c := w64 ⟨by omega, by omega⟩
    simp only [List.length_cons] at h1
    have ht : (a + tally (y :: suf) (n.leaves.toNat + c) : Int) = (a + (if y = 2 + n.leaves + c then 1 else 0)) + tally suf (n.leaves.toNat + c) := by
      rw [tally_cons]
      have : (y = ((n.leaves.toNat + c : Nat) : Int) + 2) ↔ (y = 2 + n.leaves + c) := by omega
      simp only [this]; omega
    rw [ht]
    by_cases hyc : y = 2 + n.leaves + c
    · have hw3 : IntKind.i64.wrap (a + 1) = a + 1 := w64 ⟨by omega, by omega⟩
      have hnext := ref_load2 n hlv0 hlv1 ho c hc suf (pre ++ [y]) (a + 1)
      simp only [if_pos hyc]
      simp [u_ratchetref28_load_L2, b_ratchetref28_load_L2, lt_mid h, get_mid _ h, hw1, hw2, e_Bit, hyc, hw3]
      exact hnext _ (by simp [h]) (by omega) (by omega) (by simp [w_succ hlen (show n.outs.length ≤ top63 by simp only [top63]; omega)])
    · have hw3 : IntKind.i64.wrap a = a := w64 ⟨by omega, by omega⟩
      have hnext := ref_load2 n hlv0 hlv1 ho c hc suf (pre ++ [y]) a
      simp only [if_neg hyc, Int.add_zero]
      simp [u_ratchetref28_load_L2, b_ratchetref28_load_L2, lt_mid h, get_mid _ h, hw1, hw2, e_Bit, hyc, hw3]
      exact hnext _ (by simp [h]) (by omega) (by omega) (by simp [w_succ hlen (show n.outs.length ≤ top63 by simp only [top63]; omega)])

theorem e_load (l : List Cell) (n : Net) (m : Model) (hv : Valid l n m) (c : Nat) (hc : c ≤ 1000) : EE π n_ratchetref28_load [.p (encNet n), .p (I c)] [] = some (.p (I (tally (usesN n) (n.leaves.toNat + c))), []) := by
  have hnp := hv.np
  have hno := hv.no
  have h0 := ref_load0 (π := π) n hv.lv0 hv.lv1 (by omega) c hc (fun p hp => by obtain ⟨_, _, _, _, _, h⟩ := hv.cell p hp; exact h) n.placed [] 0
  have h2 := ref_load2 (π := π) n hv.lv0 hv.lv1 (by omega) c hc n.outs [] (0 + tally (srcsP n.placed) (n.leaves.toNat + c))
  have ht : (tally (usesN n) (n.leaves.toNat + c) : Int) = 0 + tally (srcsP n.placed) (n.leaves.toNat + c) + tally n.outs (n.leaves.toNat + c) := by
    rw [usesN, tally_append]; omega
  have hsl := hv.srcs_len
  have hl1 : 0 ≤ (tally (srcsP n.placed) (n.leaves.toNat + c) : Int) ∧ (tally (srcsP n.placed) (n.leaves.toNat + c) : Int) ≤ 180 := by have := tally_le (srcsP n.placed) (n.leaves.toNat + c); omega
  rw [ht]
  generalize (tally (srcsP n.placed) (n.leaves.toNat + c) : Int) = t1 at *
  generalize (tally n.outs (n.leaves.toNat + c) : Int) = t2 at *
  simp [e_ratchetref28_load, run_eq, c_ratchetref28_load]
  rw [h0 _ rfl (by omega) (by omega) (by simp)]
  simp
  rw [h2 _ rfl (by omega) (by omega) (by simp)]
  simp

end Go.Proofs.YtafomlbikcphgabGreat.V

/- Delays and arrivals, by the reference. -/
namespace Go.Proofs.YtafomlbikcphgabGreat.V
open Go (IntKind BinOp UnOp)
variable {π ρ κ : Id}

abbrev boxM (m : Model) : Blk := .box false [.p (I m.perLoad), .p (I m.setup), .p (I m.hold), .p (I m.fast), .p (I m.slow)]

theorem ref_delays (l : List Cell) (n : Net) (m : Model) (hv : Valid l n m) : ∀ (suf pre : List Placed) (x : Env × Sto), n.placed = pre ++ suf →
    mask [0, 4, 5, 7, 8] [] x = some ([(0, .p (encLib l)), (4, .ref (4 :: π) 0), (5, .ref (5 :: π) 0), (7, .ap (1007 :: π)), (8, .p (I pre.length))], [rowI (1007 :: π) (flagE pre) (pre.mapIdx (delayN l n m)), (5 :: π, boxM m), (4 :: π, boxN n)]) →
    kpO [7] [6] [] (bkO 0 (iter (round EE iter π [] [0, 4, 5, 7, 8] c_ratchetref28_Delays_L0) x)) = some (.nm, [(7, .ap (1007 :: π))], [rowI (1007 :: π) (flagE n.placed) (delaysN l n m)])
  | [], pre, x, h, hm => by
    rw [loop_eq hm]
    have : n.placed = pre := by simpa using h
    unfold delaysN
    rw [this]
    generalize pre.mapIdx (delayN l n m) = D
    simp [u_ratchetref28_Delays_L0, b_ratchetref28_Delays_L0, this]
  | y :: suf, pre, x, h, hm => by
    rw [loop_eq hm]
    have hmem : y ∈ n.placed := by rw [h]; simp
    have hlen : pre.length < n.placed.length := by rw [h]; simp
    obtain ⟨hc0, c, hc, _, _, _⟩ := hv.cell y hmem
    have hdel : cellDelay l y = c.delay := by simp [cellDelay, hc]
    have hdi := hv.delay_in (i := pre.length) hmem
    rw [hdel] at hdi
    have hnp := hv.np
    have hcl : y.cell.toNat < l.length := by rw [List.getElem?_eq_some_iff] at hc; exact hc.1
    have hce : l[y.cell.toNat] = c := by simpa [List.getElem?_eq_getElem hcl] using hc
    have hyp : n.placed[pre.length]? = some y := by rw [h]; simp
    have hyp2 : n.placed[pre.length] = y := by simpa [List.getElem?_eq_getElem hlen] using hyp
    have hld := fun π => e_load (π := π) l n m hv pre.length (by omega)
    have hw2 := w64 (n := m.perLoad * (tally (usesN n) (n.leaves.toNat + pre.length) : Int)) ⟨by omega, by omega⟩
    have hw3 := w64 (n := delayN l n m pre.length y) ⟨by omega, by omega⟩
    have hdn : delayN l n m pre.length y = c.delay + m.perLoad * (tally (usesN n) (n.leaves.toNat + pre.length) : Int) := by rw [delayN, hdel]
    rw [hdn] at hw3
    have hnext := ref_delays l n m hv suf (pre ++ [y])
    rw [show (pre ++ [y]).length = pre.length + 1 by simp, delays_step, hdn] at hnext
    have hDl : (pre.mapIdx (delayN l n m)).length = pre.length := by simp
    have hroom : (pre.mapIdx (delayN l n m)).length + 1 ≤ room := by rw [hDl]; simp only [room]; omega
    generalize tally (usesN n) (n.leaves.toNat + pre.length) = tl at *
    generalize pre.mapIdx (delayN l n m) = D at hnext hroom
    simp [u_ratchetref28_Delays_L0, b_ratchetref28_Delays_L0, hlen, hyp2, hc0, hld, hw2, hw3, hcl, hce, hroom]
    exact hnext _ (by simp [h]) (by simp [w_succ hlen (show n.placed.length ≤ top63 by simp only [top63]; omega)])

theorem e_Delays (l : List Cell) (n : Net) (m : Model) (hv : Valid l n m) : EE π n_ratchetref28_Delays [.p (encLib l), .p (encNet n), .p (encModel m)] [] = some (.ap (1007 :: π), [rowI (1007 :: π) (flagE n.placed) (delaysN l n m)]) := by
  have hl := ref_delays (π := π) l n m hv n.placed []
  generalize delaysN l n m = D at *
  simp [e_ratchetref28_Delays, run_eq, c_ratchetref28_Delays, thaw, thaw1]
  rw [hl _ rfl (by simp)]
  simp

end Go.Proofs.YtafomlbikcphgabGreat.V

/- The law's helpers: few, copies. -/
namespace Go.Proofs.YtafomlbikcphgabGreat.V
open Go (IntKind BinOp UnOp)
variable {π ρ κ : Id}

@[simp] theorem toPV_dtup (s : Sto) (cs : List AV) : toPV s depth (.tup cs) = (cs.mapM (toPV s 11)).map .tup := rfl
@[simp] theorem toPV_stup (s : Sto) (n : Nat) (cs : List AV) : toPV s (n + 1) (.tup cs) = (cs.mapM (toPV s n)).map .tup := rfl
@[simp] theorem reach_dtup (s : Sto) (cs : List AV) : reach s depth (.tup cs) = cs.flatMap (reach s 11) := rfl
@[simp] theorem reach_stup (s : Sto) (n : Nat) (cs : List AV) : reach s (n + 1) (.tup cs) = cs.flatMap (reach s n) := rfl
@[simp] theorem reach_sagg (s : Sto) (n : Nat) (cs : List AV) : reach s (n + 1) (.agg cs) = cs.flatMap (reach s n) := rfl

abbrev circ (l : List Cell) (n : Net) (m : Model) : List PV := [encLib l, I n.leaves, encPlaceds n.placed, encInts n.outs, I m.perLoad, I m.setup, I m.hold, I m.fast, I m.slow]
abbrev boxX (l : List Cell) (n : Net) (m : Model) : Blk := .box false [.p (encLib l), .p (I n.leaves), .p (encPlaceds n.placed), .p (encInts n.outs), .p (I m.perLoad), .p (I m.setup), .p (I m.hold), .p (I m.fast), .p (I m.slow)]
/-- A circuit is small. -/
def fewB (l : List Cell) (n : Net) : Bool := decide (l.length ≤ 18) && decide (n.placed.length ≤ 62) && decide (n.outs.length ≤ 70) && n.placed.all fun p => decide (p.sources.length ≤ 5)

theorem few_loop (l : List Cell) (n : Net) (m : Model) (hp : n.placed.length ≤ 62) : ∀ (suf pre : List Placed) (x : Env × Sto), n.placed = pre ++ suf →
    mask [1, 3] [] x = some ([(1, .ref (1 :: π) 0), (3, .p (I pre.length))], [(1 :: π, boxX l n m)]) →
    kpO [] [2] [] (bkO 0 (iter (round EE iter π [] [1, 3] c_ratchetlaw28_Few_L0) x)) = (bif suf.all fun p => decide (p.sources.length ≤ 5) then some (.nm, [], []) else some (.rt, [(2, .p (.bool false))], []))
  | [], pre, x, h, hm => by
    rw [loop_eq hm]
    have : n.placed = pre := by simpa using h
    simp [u_ratchetlaw28_Few_L0, b_ratchetlaw28_Few_L0, this]
  | y :: suf, pre, x, h, hm => by
    rw [loop_eq hm]
    have hlen : pre.length < n.placed.length := by rw [h]; simp
    have hyp : n.placed[pre.length]? = some y := by rw [h]; simp
    have hy2 : n.placed[pre.length] = y := by simpa [List.getElem?_eq_getElem hlen] using hyp
    have hwl := w_succ hlen (show n.placed.length ≤ top63 by simp only [top63]; omega)
    by_cases h5 : y.sources.length ≤ 5
    · have h5' : ¬ (5 : Int) < y.sources.length := by omega
      have hnext := few_loop l n m hp suf (pre ++ [y])
      simp [u_ratchetlaw28_Few_L0, b_ratchetlaw28_Few_L0, hlen, hy2, h5, h5']
      exact hnext _ (by simp [h]) (by simp [hwl])
    · have h5' : (5 : Int) < y.sources.length := by omega
      simp [u_ratchetlaw28_Few_L0, b_ratchetlaw28_Few_L0, hlen, hy2, h5, h5']

theorem e_Few (l : List Cell) (n : Net) (m : Model) : EE π n_ratchetlaw28_Few [.p (.agg (circ l n m))] [] = some (.p (.bool (fewB l n)), []) := by
  unfold fewB
  by_cases h1 : l.length ≤ 18
  · have h1' : ¬ (18 : Int) < l.length := by omega
    by_cases h2 : n.placed.length ≤ 62
    · have h2' : ¬ (62 : Int) < n.placed.length := by omega
      by_cases h3 : n.outs.length ≤ 70
      · have h3' : ¬ (70 : Int) < n.outs.length := by omega
        simp [e_ratchetlaw28_Few, run_eq, c_ratchetlaw28_Few, h1, h1', h2, h2', h3, h3']
        rw [few_loop l n m h2 n.placed [] _ rfl (by simp)]
        cases hf : n.placed.all fun p => decide (p.sources.length ≤ 5) <;> simp
      · have h3' : (70 : Int) < n.outs.length := by omega
        simp [e_ratchetlaw28_Few, run_eq, c_ratchetlaw28_Few, h1, h1', h2, h2', h3, h3']
    · have h2' : (62 : Int) < n.placed.length := by omega
      simp [e_ratchetlaw28_Few, run_eq, c_ratchetlaw28_Few, h1, h1', h2, h2']
  · have h1' : (18 : Int) < l.length := by omega
    simp [e_ratchetlaw28_Few, run_eq, c_ratchetlaw28_Few, h1, h1']

theorem e_CopyLibrary (l : List Cell) (h : l.length ≤ room) : EE π n_ratchetref27_CopyLibrary [.p (encLib l)] [] = some (.ap (3 :: π), [(3 :: π, .row false t_api_MapCell 5 (some false) (l.map encCell))]) := by
  simp [e_ratchetref27_CopyLibrary, run_eq, c_ratchetref27_CopyLibrary, h]
  done

/-- A copied cell: its sources are surely not nil. -/
abbrev encPlacedF (p : Placed) : PV := .agg [I p.cell, .sl 1 (some false) (ints p.sources)]
@[simp] theorem fgL_placedF (l : List Placed) : PV.fg.PV.fgL (l.map encPlacedF) = l.map encPlaced := fgL_map _ _ (fun x => by simp) l
theorem copy_loop (n : Net) (hp : n.placed.length ≤ 62) (h5 : ∀ p ∈ n.placed, p.sources.length ≤ 5) (ho : n.outs.length ≤ 70) : ∀ (suf pre : List Placed) (x : Env × Sto), n.placed = pre ++ suf →
    mask [1, 2, 3, 4] [] x = some ([(1, .ref (1 :: π) 0), (2, .ref (2 :: π) 0), (3, .ref (3 :: π) 0), (4, .p (I pre.length))],
      [(200003 :: π, .row false t_api_MapPlaced 2 (flagE pre) (pre.map encPlacedF)), (3 :: π, .box false [.p (I n.leaves), .ap (200003 :: π), .ap (3 :: 9 :: π)]), (3 :: 9 :: π, .row false t_int 1 (some false) (ints n.outs)),
       (2 :: π, .box false [.p (I 0), .p (.sl 2 (some true) []), .p (.sl 1 (some true) [])]), (1 :: π, boxN n)]) →
    kpO [2, 3] [2] [] (bkO 0 (iter (round EE iter π [] [1, 2, 3, 4] c_ratchetref27_CopyNet_L0) x)) = some (.nm, [(2, .ref (2 :: π) 0), (3, .ref (3 :: π) 0)],
      [(200003 :: π, .row false t_api_MapPlaced 2 (flagE n.placed) (n.placed.map encPlacedF)), (3 :: π, .box false [.p (I n.leaves), .ap (200003 :: π), .ap (3 :: 9 :: π)]), (3 :: 9 :: π, .row false t_int 1 (some false) (ints n.outs)),
       (2 :: π, .box false [.p (I 0), .p (.sl 2 (some true) []), .p (.sl 1 (some true) [])])])
  | [], pre, x, h, hm => by
    rw [loop_eq hm]
    have : n.placed = pre := by simpa using h
    rw [this]
    simp [u_ratchetref27_CopyNet_L0, b_ratchetref27_CopyNet_L0, this]
  | y :: suf, pre, x, h, hm => by
    rw [loop_eq hm]
    have hlen : pre.length < n.placed.length := by rw [h]; simp
    have hyp : n.placed[pre.length]? = some y := by rw [h]; simp
    have hy2 : n.placed[pre.length] = y := by simpa [List.getElem?_eq_getElem hlen] using hyp
    have hy5 := h5 y (List.mem_of_getElem? hyp)
    have hwl := w_succ hlen (show n.placed.length ≤ top63 by simp only [top63]; omega)
    have hcp := fun π => e_CopyInts (π := π) (ints y.sources) (by simp only [room, List.length_map]; omega)
    have hroom : pre.length + 1 ≤ room := by simp only [room]; omega
    have hnext := copy_loop n hp h5 ho suf (pre ++ [y])
    simp [u_ratchetref27_CopyNet_L0, b_ratchetref27_CopyNet_L0, hlen, hy2, hcp, hroom, freeze]

    exact hnext _ (by simp [h]) (by simp [hwl])

theorem e_CopyNet (n : Net) (hp : n.placed.length ≤ 62) (h5 : ∀ p ∈ n.placed, p.sources.length ≤ 5) (ho : n.outs.length ≤ 70) :
    EE π n_ratchetref27_CopyNet [.p (encNet n)] [] = some (.agg [.p (I n.leaves), .ap (200003 :: π), .ap (3 :: 9 :: π)],
      [(200003 :: π, .row false t_api_MapPlaced 2 (flagE n.placed) (n.placed.map encPlacedF)), (3 :: 9 :: π, .row false t_int 1 (some false) (ints n.outs))]) := by
  have hl := copy_loop (π := π) n hp h5 ho n.placed []
  have hcp := fun π => e_CopyInts (π := π) (ints n.outs) (by simp only [room, List.length_map]; omega)
  simp [e_ratchetref27_CopyNet, run_eq, c_ratchetref27_CopyNet, hcp, thaw, thaw1]
  rw [hl _ rfl (by simp)]
  simp

theorem few_of {l : List Cell} {n : Net} (h : fewB l n = true) : l.length ≤ 18 ∧ n.placed.length ≤ 62 ∧ n.outs.length ≤ 70 ∧ ∀ p ∈ n.placed, p.sources.length ≤ 5 := by
  simp only [fewB, Bool.and_eq_true, decide_eq_true_eq, List.all_eq_true] at h
  exact ⟨h.1.1.1, h.1.1.2, h.1.2, h.2⟩

theorem id_ne2 (a b : Nat) (l : Id) : ¬ l = a :: b :: l := fun h => by have := congrArg List.length h; simp only [List.length_cons] at this; omega
theorem e_copied (l : List Cell) (n : Net) (m : Model) (h : fewB l n = true) :
    EE π n_ratchetlaw28_copied [.p (.agg (circ l n m))] [] = some (.tup [.ap (3 :: 7 :: π), .agg [.p (I n.leaves), .ap (200003 :: 10 :: π), .ap (3 :: 9 :: 10 :: π)], .p (encModel m)],
      [(200003 :: 10 :: π, .row false t_api_MapPlaced 2 (flagE n.placed) (n.placed.map encPlacedF)), (3 :: 9 :: 10 :: π, .row false t_int 1 (some false) (ints n.outs)), (3 :: 7 :: π, .row false t_api_MapCell 5 (some false) (l.map encCell))]) := by
  obtain ⟨h1, h2, h3, h5⟩ := few_of h
  have hn := fun π => e_CopyNet (π := π) n h2 h5 h3
  have hl := fun π => e_CopyLibrary (π := π) l (by simp only [room]; omega)
  simp [e_ratchetlaw28_copied, run_eq, c_ratchetlaw28_copied, hn, hl, evRO]
  simp [List.filter_cons, id_ne2]

end Go.Proofs.YtafomlbikcphgabGreat.V

/- The examples of the chapter. -/
namespace Go.Proofs.YtafomlbikcphgabGreat.V
open Go (IntKind BinOp UnOp)
variable {π ρ κ : Id}

/-- The examples of the chapter. -/
abbrev Awake (π : Id) : Prop := EE π n_ratchetlaw28_awake [] [] = some (.p (.bool true), [])

theorem w64z : IntKind.i64.wrap 0 = 0 := by decide


end Go.Proofs.YtafomlbikcphgabGreat.V

/- Cells and their delays. -/
namespace Go.Proofs.YtafomlbikcphgabGreat.V
open Go (IntKind BinOp UnOp)
variable {π ρ κ : Id}

theorem e_isCell (l : List Cell) (n : Net) (m : Model) (hv : Valid l n m) (i : Int) : EE π n_timing_net_isCell [.p (.agg [I n.leaves, encPlaceds n.placed, encInts n.outs, encLib l]), .p (I i)] [] = some (.p (.bool (within i n.leaves (n.leaves + n.placed.length - 1))), []) := by
  have hlv0 := hv.lv0
  have hlv1 := hv.lv1
  have hnp := hv.np
  have hw : IntKind.i64.wrap (n.leaves + n.placed.length) = n.leaves + n.placed.length := w64 ⟨by omega, by omega⟩
  have hw2 : IntKind.i64.wrap (n.leaves + n.placed.length - 1) = n.leaves + n.placed.length - 1 := w64 ⟨by omega, by omega⟩
  have hpts := fun π => e_points (π := π) n l
  rw [hw] at hpts
  simp [e_timing_net_isCell, run_eq, c_timing_net_isCell, hpts, hw2, e_withinT]

abbrev cellsP (l : List Cell) (n : Net) (m : Model) (D : List Int) : List PV := [I n.leaves, encPlaceds n.placed, encInts n.outs, encLib l, I m.perLoad, I m.setup, I m.hold, I m.fast, I m.slow, encInts D]

theorem e_delay (l : List Cell) (n : Net) (m : Model) (D : List Int) (i : Nat) (h0 : 0 ≤ n.leaves) (h1 : n.leaves ≤ 40) (hi : n.leaves ≤ i) (hl : (i : Int) < n.leaves + D.length) (hD : D.length ≤ 1000) :
    EE π n_timing_timed_delay [.p (.agg (cellsP l n m D)), .p (I i)] [] = some (.p (I (D.getD (i - n.leaves.toNat) 0)), []) := by
  have hw : IntKind.i64.wrap ((i : Int) - n.leaves) = (i : Int) - n.leaves := w64 ⟨by omega, by omega⟩
  have hlt : ((i : Int) - n.leaves).toNat < D.length := by omega
  have hlt' : (i : Int) - n.leaves < (D.length : Int) := by omega
  have e : i - n.leaves.toNat = ((i : Int) - n.leaves).toNat := by omega
  have hg : D.getD (i - n.leaves.toNat) 0 = D[((i : Int) - n.leaves).toNat] := by rw [e]; simp [List.getD, hlt]
  rw [hg]
  simp [e_timing_timed_delay, run_eq, c_timing_timed_delay, hw, hlt, hlt', hi]


theorem arrGo_prefix (D : List Int) : ∀ (i : Nat) (suf : List Placed) (cur : List Int), ∃ t, arrGo D i suf cur = cur ++ t
  | _, [], cur => ⟨[], by simp [arrGo]⟩
  | i, p :: r, cur => by
    obtain ⟨t, ht⟩ := arrGo_prefix D (i + 1) r (cur ++ [lat cur p.sources 0 + D.getD i 0])
    exact ⟨_ :: t, by rw [arrGo, ht, List.append_assoc]; rfl⟩
theorem arrGo_get (D : List Int) : ∀ (suf : List Placed) (i k : Nat) (p : Placed) (cur : List Int), suf[k]? = some p → (arrGo D i suf cur)[cur.length + k]? = some (lat ((arrGo D i suf cur).take (cur.length + k)) p.sources 0 + D.getD (i + k) 0)
  | [], _, _, _, _, h => by simp at h
  | q :: r, i, 0, p, cur, h => by
    simp at h
    subst h
    rw [arrGo]
    obtain ⟨t, ht⟩ := arrGo_prefix D (i + 1) r (cur ++ [lat cur q.sources 0 + D.getD i 0])
    rw [ht]
    simp
  | q :: r, i, k + 1, p, cur, h => by
    rw [arrGo]
    have := arrGo_get D r (i + 1) k p (cur ++ [lat cur q.sources 0 + D.getD i 0]) (by simpa using h)
    rw [show (cur ++ [lat cur q.sources 0 + D.getD i 0]).length + k = cur.length + (k + 1) by simp; omega, show i + 1 + k = i + (k + 1) by omega] at this
    exact this

end Go.Proofs.YtafomlbikcphgabGreat.V

/- What a law's arguments are: lists, cells, netlists. -/
namespace Go.Proofs.YtafomlbikcphgabGreat.V
open Go (IntKind BinOp UnOp)

theorem dec_list {α : Type} (f : α → PV) : ∀ (l : List PV), (∀ y ∈ l, ∃ a, y = f a) → ∃ k : List α, l = k.map f
  | [], _ => ⟨[], rfl⟩
  | y :: r, h => by
    obtain ⟨a, ha⟩ := h y (by simp)
    obtain ⟨k, hk⟩ := dec_list f r fun z hz => h z (by simp [hz])
    exact ⟨a :: k, by simp [ha, hk]⟩
theorem dec_listP {α : Type} (f : α → PV) (Q : α → Prop) : ∀ (l : List PV), (∀ y ∈ l, ∃ a, y = f a ∧ Q a) → ∃ k : List α, l = k.map f ∧ ∀ a ∈ k, Q a
  | [], _ => ⟨[], rfl, fun a h => by cases h⟩
  | y :: r, h => by
    obtain ⟨a, ha, hq⟩ := h y (by simp)
    obtain ⟨k, hk, hkq⟩ := dec_listP f Q r fun z hz => h z (by simp [hz])
    refine ⟨a :: k, by simp [ha, hk], fun b hb => ?_⟩
    rw [List.mem_cons] at hb
    rcases hb with rfl | hb
    · exact hq
    · exact hkq b hb

theorem cel_int {x : PV} (h : Cel (.int .i64) x) : ∃ n, x = I n := by
  simp only [Cel] at h
  obtain ⟨n, h, _⟩ := h
  exact ⟨n, h⟩
theorem cel_ints {x : PV} (h : Cel (.sl 1 false [.int .i64]) x) : ∃ k : List Int, x = encInts k ∧ k.length ≤ top63 := by
  simp only [Cel, CelL] at h
  obtain ⟨l, rfl, hl, h⟩ := h
  obtain ⟨k, rfl⟩ := dec_list I l fun y hy => by
    obtain ⟨⟨x, ys, hc, ⟨n, hx, _⟩, h0⟩, he⟩ := h y hy
    subst h0
    rw [hc] at he
    exact ⟨n, by rw [he, hx]; rfl⟩
  exact ⟨k, rfl, by simpa [Go.maxLen] using hl⟩
theorem cel_placeds {x : PV} (h : Cel (.sl 2 true [.int .i64, .sl 1 false [.int .i64]]) x) : ∃ k : List Placed, x = encPlaceds k ∧ k.length ≤ top63 ∧ ∀ p ∈ k, p.sources.length ≤ top63 := by
  rw [Cel] at h
  obtain ⟨l, rfl, hl, h⟩ := h
  obtain ⟨k, rfl, hk⟩ := dec_listP encPlaced (fun p => p.sources.length ≤ top63) l fun y hy => by
    obtain ⟨hc, he⟩ := h y hy
    simp only [CelL] at hc
    obtain ⟨a, r1, h1, ca, b, r2, h2, cb, h3⟩ := hc
    subst h3 h2
    rw [h1] at he
    obtain ⟨n, rfl⟩ := cel_int ca
    obtain ⟨k, rfl, hk⟩ := cel_ints cb
    exact ⟨⟨n, k⟩, he, hk⟩
  exact ⟨k, rfl, by simpa [Go.maxLen] using hl, hk⟩
theorem cel_lib {x : PV} (h : Cel (.sl 5 true [.str, .int .i64, .int .i64, .int .i64, .int .i64]) x) : ∃ k : List Cell, x = encLib k ∧ k.length ≤ top63 ∧ ∀ c ∈ k, c.name.size ≤ top63 := by
  rw [Cel] at h
  obtain ⟨l, rfl, hl, h⟩ := h
  obtain ⟨k, rfl, hk⟩ := dec_listP encCell (fun c => c.name.size ≤ top63) l fun y hy => by
    obtain ⟨hc, he⟩ := h y hy
    simp only [CelL] at hc
    obtain ⟨a, r1, h1, ca, b, r2, h2, cb, c, r3, h3, cc, d, r4, h4, cd, e, r5, h5, ce, h6⟩ := hc
    subst h6 h5 h4 h3 h2
    rw [h1] at he
    rw [Cel] at ca
    obtain ⟨s, rfl, hs⟩ := ca
    obtain ⟨n1, rfl⟩ := cel_int cb
    obtain ⟨n2, rfl⟩ := cel_int cc
    obtain ⟨n3, rfl⟩ := cel_int cd
    obtain ⟨n4, rfl⟩ := cel_int ce
    exact ⟨⟨s, n1, n2, n3, n4⟩, he, by simpa [Go.maxLen] using hs⟩
  exact ⟨k, rfl, by simpa [Go.maxLen] using hl, hk⟩

/-- A circuit. -/
theorem cel_circ {x : List PV} (h : CelL [.sl 5 true [.str, .int .i64, .int .i64, .int .i64, .int .i64], .int .i64, .sl 2 true [.int .i64, .sl 1 false [.int .i64]], .sl 1 false [.int .i64], .int .i64, .int .i64, .int .i64, .int .i64, .int .i64] x) :
    ∃ l n m, x = circ l n m ∧ netOk l n := by
  simp only [CelL] at h
  obtain ⟨a, r1, h1, ca, b, r2, h2, cb, c, r3, h3, cc, d, r4, h4, cd, e, r5, h5, ce, f, r6, h6, cf, g, r7, h7, cg, i, r8, h8, ci, j, r9, h9, cj, h10⟩ := h
  subst h10 h9 h8 h7 h6 h5 h4 h3 h2
  obtain ⟨l, rfl, hl, hn⟩ := cel_lib ca
  obtain ⟨lv, rfl⟩ := cel_int cb
  obtain ⟨pl, rfl, hp, hs⟩ := cel_placeds cc
  obtain ⟨o, rfl, ho⟩ := cel_ints cd
  obtain ⟨m1, rfl⟩ := cel_int ce
  obtain ⟨m2, rfl⟩ := cel_int cf
  obtain ⟨m3, rfl⟩ := cel_int cg
  obtain ⟨m4, rfl⟩ := cel_int ci
  obtain ⟨m5, rfl⟩ := cel_int cj
  exact ⟨l, ⟨lv, pl, o⟩, ⟨m1, m2, m3, m4, m5⟩, h1, hl, hn, hp, ho, hs⟩
theorem cel_int1 {x : List PV} (h : CelL [.sl 1 false [.int .i64]] x) : ∃ k : List Int, x = [encInts k] ∧ k.length ≤ top63 := by
  simp only [CelL] at h
  obtain ⟨a, r1, h1, ca, h2⟩ := h
  subst h2
  obtain ⟨k, rfl, hk⟩ := cel_ints ca
  exact ⟨k, h1, hk⟩

end Go.Proofs.YtafomlbikcphgabGreat.V
