/- Ranges of arrivals, by timing. Ranges of arrivals, by timing and by the reference. Ranges of arrivals, by the reference. The law TimingCorners, in the evaluator. -/
import Derived.Test.YtafomlbikcphgaaGreatS2

set_option linter.unusedSimpArgs false
set_option linter.unusedVariables false

/- Ranges of arrivals, by timing. -/
namespace Go.Proofs.YtafomlbikcphgaaGreat.V
open Go (IntKind BinOp UnOp)
variable {π ρ κ : Id}

/-- The earliest arrival of some sources. -/
def ear (cur : List Int) : List Int → Bool → Int → Int
  | [], _, a => a
  | s :: r, f, a => if 2 ≤ s then ear cur r true (if f = false ∨ cur.getD (s - 2).toNat 0 < a then cur.getD (s - 2).toNat 0 else a) else ear cur r f a

theorem least_loop (src cur : List Int) (hsrc : src.length ≤ top63) (hin : ∀ s ∈ src, 0 ≤ s ∧ s < cur.length + 2) (hcl : cur.length ≤ 1000000) : ∀ (suf pre : List Int) (f : Bool) (a : Int) (x : Env × Sto), src = pre ++ suf →
    mask [1, 5, 6, 10, 11, 12] [] x = some ([(1, .p (encInts cur)), (5, .p (.bool f)), (6, .p (I a)), (10, .p (encInts src)), (11, .p (I src.length)), (12, .p (I pre.length))], []) →
    kpO [6] [4] [] (bkO 0 (iter (round EE iter π [] [1, 5, 6, 10, 11, 12] c_timing_least_L0) x)) = some (.nm, [(6, .p (I (ear cur suf f a)))], [])
  | [], pre, f, a, x, h, hm => by
    rw [loop_eq hm]
    have : src = pre := by simpa using h
    rw [← this]
    simp [u_timing_least_L0, b_timing_least_L0, ear]
  | y :: suf, pre, f, a, x, h, hm => by
    rw [loop_eq hm]
    have hy := hin y (by rw [h]; simp)
    have hlen : pre.length < src.length := by rw [h]; simp
    have hw : IntKind.i64.wrap (y - 2) = y - 2 := w64 ⟨by omega, by omega⟩
    by_cases h2 : 2 ≤ y
    · have hlt : (y - 2).toNat < cur.length := by omega
      have hlt' : y - 2 < (cur.length : Int) := by omega
      have hg : cur.getD (y - 2).toNat 0 = cur[(y - 2).toNat] := by simp [List.getD, hlt]
      simp only [ear, h2, if_true, hg]
      cases f
      · simp [u_timing_least_L0, b_timing_least_L0, lt_mid h, get_mid _ h, e_pointOf, hw, h2, hlt, hlt']
        exact least_loop src cur hsrc hin hcl suf (pre ++ [y]) _ _ _ (by simp [h]) (by simp [w_succ hlen hsrc])
      · by_cases hmx : cur[(y - 2).toNat] < a
        · simp [u_timing_least_L0, b_timing_least_L0, lt_mid h, get_mid _ h, e_pointOf, hw, h2, hlt, hlt', hmx]
          exact least_loop src cur hsrc hin hcl suf (pre ++ [y]) _ _ _ (by simp [h]) (by simp [w_succ hlen hsrc])
        · simp [u_timing_least_L0, b_timing_least_L0, lt_mid h, get_mid _ h, e_pointOf, hw, h2, hlt, hlt', hmx]
          exact least_loop src cur hsrc hin hcl suf (pre ++ [y]) _ _ _ (by simp [h]) (by simp [w_succ hlen hsrc])
    · simp only [ear, h2, if_false]
      simp [u_timing_least_L0, b_timing_least_L0, lt_mid h, get_mid _ h, e_pointOf, hw, h2]
      exact least_loop src cur hsrc hin hcl suf (pre ++ [y]) _ _ _ (by simp [h]) (by simp [w_succ hlen hsrc])

theorem e_least (src cur : List Int) (hsrc : src.length ≤ top63) (hin : ∀ s ∈ src, 0 ≤ s ∧ s < cur.length + 2) (hcl : cur.length ≤ 1000000) :
    EE π n_timing_least [.p (encInts src), .p (encInts cur)] [] = some (.p (I (ear cur src false 0)), []) := by
  simp [e_timing_least, run_eq, c_timing_least]
  rw [least_loop src cur hsrc hin hcl src [] false 0 _ rfl (by simp)]
  simp

theorem ear_in (cur : List Int) (B : Int) (hB : 0 ≤ B) (h : ∀ x ∈ cur, 0 ≤ x ∧ x ≤ B) : ∀ (src : List Int) (f : Bool) (a : Int), 0 ≤ a → a ≤ B → 0 ≤ ear cur src f a ∧ ear cur src f a ≤ B
  | [], f, a, h0, h1 => ⟨h0, h1⟩
  | s :: r, f, a, h0, h1 => by
    have hg : 0 ≤ cur.getD (s - 2).toNat 0 ∧ cur.getD (s - 2).toNat 0 ≤ B := by
      rw [List.getD]
      cases hx : cur[(s - 2).toNat]? with
      | none => exact ⟨by simp, by simpa using hB⟩
      | some v => exact h v (List.mem_of_getElem? hx)
    simp only [ear]
    split
    · split
      · exact ear_in cur B hB h r _ _ hg.1 hg.2
      · exact ear_in cur B hB h r _ _ h0 h1
    · exact ear_in cur B hB h r _ _ h0 h1

/-- Lower and upper ends, cell by cell. -/
def loW (f d : Int) : Int := (d * f).tdiv 100
def hiW (f d : Int) : Int := (d * f + 99).tdiv 100
def endGo (m : Model) (D : List Int) : Nat → List Placed → List Int → List Int → List Int × List Int
  | _, [], lo, hi => (lo, hi)
  | i, p :: r, lo, hi => endGo m D (i + 1) r (lo ++ [ear lo p.sources false 0 + loW m.fast (D.getD i 0)]) (hi ++ [lat hi p.sources 0 + hiW m.slow (D.getD i 0)])

theorem tdiv_in {a : Int} (h : 0 ≤ a) : 0 ≤ a.tdiv 100 ∧ a.tdiv 100 ≤ a := by
  rw [Int.tdiv_eq_ediv_of_nonneg h]; omega
/-- The steps of a range, bounded. -/
theorem w_in {d f : Int} (h0 : 0 ≤ d) (h1 : d ≤ 25400) (h2 : 1 ≤ f) (h3 : f ≤ 1000) : (0 ≤ d * f ∧ d * f ≤ 25400000) ∧ (0 ≤ loW f d ∧ loW f d ≤ 254000) ∧ 0 ≤ hiW f d ∧ hiW f d ≤ 254001 := by
  have a1 : 0 ≤ d * f := Int.mul_nonneg h0 (by omega)
  have a2 : d * f ≤ 25400 * 1000 := Int.mul_le_mul h1 h3 (by omega) (by omega)
  refine ⟨⟨a1, by omega⟩, ?_, ?_⟩
  · unfold loW; rw [Int.tdiv_eq_ediv_of_nonneg a1]; omega
  · unfold hiW; rw [Int.tdiv_eq_ediv_of_nonneg (by omega)]; omega

theorem end_loop (l : List Cell) (n : Net) (m : Model) (hv : Valid l n m) (hf0 : 1 ≤ m.fast) (hf1 : m.fast ≤ 1000) (hs0 : 1 ≤ m.slow) (hs1 : m.slow ≤ 1000) : ∀ (suf pre : List Placed) (lo hi : List Int) (nl nh : Option Bool) (x : Env × Sto), n.placed = pre ++ suf → (lo.length : Int) = n.leaves + pre.length → (hi.length : Int) = n.leaves + pre.length →
    (∀ v ∈ lo, 0 ≤ v ∧ v ≤ 1000000 + 254001 * (pre.length : Int)) → (∀ v ∈ hi, 0 ≤ v ∧ v ≤ 1000000 + 254001 * (pre.length : Int)) →
    mask [2, 4, 5, 15, 16, 17] [] x = some ([(2, .ref (2 :: π) 0), (4, .ap (0 :: 9 :: π)), (5, .ap (0 :: 11 :: π)), (15, .p (encPlaceds n.placed)), (16, .p (I n.placed.length)), (17, .p (I pre.length))],
      [rowI (0 :: 11 :: π) nh hi, rowI (0 :: 9 :: π) nl lo, (2 :: π, .box false [.p (I n.leaves), .p (encPlaceds n.placed), .p (encInts n.outs), .p (encLib l), .p (I m.perLoad), .p (I m.setup), .p (I m.hold), .p (I m.fast), .p (I m.slow), .p (encInts (delaysN l n m))])]) →
    kpO [4, 5] [4, 5] [] (bkO 0 (iter (round EE iter π [] [2, 4, 5, 15, 16, 17] c_timing_timed_ends_L0) x)) = some (.nm, [(4, .ap (0 :: 9 :: π)), (5, .ap (0 :: 11 :: π))],
      [rowI (0 :: 11 :: π) (bif suf.isEmpty then nh else some false) (endGo m (delaysN l n m) pre.length suf lo hi).2, rowI (0 :: 9 :: π) (bif suf.isEmpty then nl else some false) (endGo m (delaysN l n m) pre.length suf lo hi).1])
  | [], pre, lo, hi, nl, nh, x, h, hc, hd, hb, he, hm => by
    rw [loop_eq hm]
    have : n.placed = pre := by simpa using h
    generalize delaysN l n m = D
    simp [u_timing_timed_ends_L0, b_timing_timed_ends_L0, endGo, this]
  | y :: suf, pre, lo, hi, nl, nh, x, h, hc, hd, hb, he, hm => by
    rw [loop_eq hm]
    have hmem : y ∈ n.placed := by rw [h]; simp
    have hlen : pre.length < n.placed.length := by rw [h]; simp
    have hlv := hv.lv0
    have hlv1 := hv.lv1
    have hnp := hv.np
    have hsr := hv.src pre.length y (by rw [h]; simp)
    obtain ⟨_, _, _, _, _, hs3⟩ := hv.cell y hmem
    have hgr := fun π => e_greatest (π := π) y.sources hi (by simp only [top63]; omega) (fun s hs => by have := hsr s hs; omega) (by omega)
    have hle := fun π => e_least (π := π) y.sources lo (by simp only [top63]; omega) (fun s hs => by have := hsr s hs; omega) (by omega)
    have hDl : (delaysN l n m).length = n.placed.length := by simp [delaysN]
    have hDg : (delaysN l n m).getD pre.length 0 = delayN l n m pre.length y := by simp [delaysN, List.getD, h]
    have hDi : (delaysN l n m)[pre.length]? = some (delayN l n m pre.length y) := by simp [delaysN, h]
    have hdi := (hv.delay_in (i := pre.length) hmem).2.2
    generalize hdd : delayN l n m pre.length y = d at *
    have hw1 := w_in (d := d) (f := m.fast) (by omega) (by omega) hf0 hf1
    have hw2 := w_in (d := d) (f := m.slow) (by omega) (by omega) hs0 hs1
    have hla := lat_in hi _ (by omega) he y.sources 0 (by omega) (by omega)
    have hea := ear_in lo _ (by omega) hb y.sources false 0 (by omega) (by omega)
    have v1 : IntKind.i64.wrap (d * m.fast) = d * m.fast := w64 ⟨by omega, by omega⟩
    have v2 : IntKind.i64.wrap ((d * m.fast).tdiv 100) = loW m.fast d := w64 ⟨by have := hw1.2.1; unfold loW at this; omega, by have := hw1.2.1; unfold loW at this; omega⟩
    have v3 : IntKind.i64.wrap (ear lo y.sources false 0 + loW m.fast d) = ear lo y.sources false 0 + loW m.fast d := w64 ⟨by omega, by omega⟩
    have v4 : IntKind.i64.wrap (d * m.slow) = d * m.slow := w64 ⟨by omega, by omega⟩
    have v5 : IntKind.i64.wrap (d * m.slow + 100) = d * m.slow + 100 := w64 ⟨by omega, by omega⟩
    have v6 : IntKind.i64.wrap (d * m.slow + 100 - 1) = d * m.slow + 99 := by rw [show d * m.slow + 100 - 1 = d * m.slow + 99 by omega]; exact w64 ⟨by omega, by omega⟩
    have v7 : IntKind.i64.wrap ((d * m.slow + 99).tdiv 100) = hiW m.slow d := w64 ⟨by have := hw2.2.2; unfold hiW at this; omega, by have := hw2.2.2; unfold hiW at this; omega⟩
    have v8 : IntKind.i64.wrap (lat hi y.sources 0 + hiW m.slow d) = lat hi y.sources 0 + hiW m.slow d := w64 ⟨by omega, by omega⟩
    have hroom : lo.length + 1 ≤ room := by simp only [room]; omega
    have hroom2 : hi.length + 1 ≤ room := by simp only [room]; omega
    have hnext := end_loop l n m hv hf0 hf1 hs0 hs1 suf (pre ++ [y]) (lo ++ [ear lo y.sources false 0 + loW m.fast d]) (hi ++ [lat hi y.sources 0 + hiW m.slow d]) (some false) (some false)
    rw [show (pre ++ [y]).length = pre.length + 1 by simp] at hnext
    simp only [endGo]
    rw [hDg]
    generalize delaysN l n m = D at hDi hDl hnext
    have hlt : pre.length < D.length := by omega
    have hD2 : D[pre.length] = d := by simpa [List.getElem?_eq_getElem hlt] using hDi
    generalize lat hi y.sources 0 = ua at *
    generalize ear lo y.sources false 0 = ub at *
    generalize hiW m.slow d = uc at *
    generalize loW m.fast d = ud at *
    simp [u_timing_timed_ends_L0, b_timing_timed_ends_L0, lt_mid h, get_mid _ h, hgr, hle, hlt, hD2, v1, v2, v3, v4, v5, v6, v7, v8, hroom, hroom2]
    refine (hnext _ (by simp [h]) (by simp; omega) (by simp; omega) ?_ ?_ (by simp [w_succ hlen (show n.placed.length ≤ top63 by simp only [top63]; omega)])).trans (by simp)
    · intro v hv
      rw [List.mem_append] at hv
      rcases hv with hv | hv
      · have := hb v hv; omega
      · simp at hv; omega
    · intro v hv
      rw [List.mem_append] at hv
      rcases hv with hv | hv
      · have := he v hv; omega
      · simp at hv; omega

/-- Lower and upper ends of all points. -/
def endN (l : List Cell) (n : Net) (m : Model) (ats : List Int) : List Int × List Int := endGo m (delaysN l n m) 0 n.placed ats ats

theorem e_ends (l : List Cell) (n : Net) (m : Model) (hv : Valid l n m) (hf0 : 1 ≤ m.fast) (hf1 : m.fast ≤ 1000) (hs0 : 1 ≤ m.slow) (hs1 : m.slow ≤ 1000) (ats : List Int) (ha : (ats.length : Int) = n.leaves) (hb : ∀ v ∈ ats, 0 ≤ v ∧ v ≤ 1000000) :
    EE π n_timing_timed_ends [.p (.agg [I n.leaves, encPlaceds n.placed, encInts n.outs, encLib l, I m.perLoad, I m.setup, I m.hold, I m.fast, I m.slow, encInts (delaysN l n m)]), .p (encInts ats)] [] =
      some (.tup [.ap (0 :: 9 :: π), .ap (0 :: 11 :: π)], [rowI (0 :: 11 :: π) (bif n.placed.isEmpty then flE (ints ats) else some false) (endN l n m ats).2, rowI (0 :: 9 :: π) (bif n.placed.isEmpty then flE (ints ats) else some false) (endN l n m ats).1]) := by
  have h3 := end_loop (π := π) l n m hv hf0 hf1 hs0 hs1 n.placed [] ats ats (flE (ints ats)) (flE (ints ats))
  have hlv1 := hv.lv1
  have hroom : ats.length ≤ room := by simp only [room]; omega
  unfold endN
  generalize delaysN l n m = D at *
  simp [e_timing_timed_ends, run_eq, c_timing_timed_ends, o_slices_Clone_int_int, cloneO, hroom, thaw, thaw1]
  rw [h3 _ rfl (by simpa using ha) (by simpa using ha) (by simpa using hb) (by simpa using hb) (by simp)]
  simp

end Go.Proofs.YtafomlbikcphgaaGreat.V

/- Ranges of arrivals, by timing and by the reference. -/
namespace Go.Proofs.YtafomlbikcphgaaGreat.V
open Go (IntKind BinOp UnOp)
variable {π ρ κ : Id}

abbrev encR (x : Int × Int) : PV := .agg [I x.1, I x.2]
abbrev encRs (L : List (Int × Int)) : PV := .sl 2 none (L.map encR)
abbrev rowR (i : Id) (nl : Option Bool) (L : List (Int × Int)) : Id × Blk := (i, .row false t_api_Range 2 nl (L.map encR))
@[simp] theorem fgL_rng (l : List (Int × Int)) : PV.fg.PV.fgL (l.map encR) = l.map encR := fgL_map _ _ (fun _ => rfl) l

structure ModOk (m : Model) : Prop where
  f0 : 1 ≤ m.fast
  f1 : m.fast ≤ 1000
  s0 : 1 ≤ m.slow
  s1 : m.slow ≤ 1000
  fs : m.fast ≤ m.slow
  u0 : 0 ≤ m.setup
  u1 : m.setup ≤ 1000000
theorem modOk_of {l : List Cell} {n : Net} {m : Model} (h : allE l n m = 0) : ModOk m := by
  unfold allE at h
  rw [firstE_cons, firstE_cons] at h
  obtain ⟨hn, hm, _⟩ := h
  unfold modelE at hm
  rw [firstE_cons, firstE_cons, unlE_z (by decide), unlE_z (by decide)] at hm
  have h7 := hm.1
  have h8 := hm.2.1
  simp only [modelOk, Bool.and_eq_true, within_iff] at h7
  simp only [decide_eq_true_eq] at h8
  exact ⟨h7.1.2.1, h7.1.2.2, h7.2.1, h7.2.2, h8, h7.1.1.1.2.1, h7.1.1.1.2.2⟩

/-- The ranges, one by one. -/
theorem ranges_loop (lo hi : List Int) (nl nh : Option Bool) (hlen : lo.length = hi.length) (hle : lo.length ≤ 1000) : ∀ (suf pre : List (Int × Int)) (x : Env × Sto), lo.zip hi = pre ++ suf →
    mask [12, 13, 14, 34, 35] [] x = some ([(12, .ap (0 :: 9 :: 30 :: π)), (13, .ap (0 :: 11 :: 30 :: π)), (14, .ap (1014 :: π)), (34, .p (I lo.length)), (35, .p (I pre.length))], [rowR (1014 :: π) (flagE pre) pre, rowI (0 :: 11 :: 30 :: π) nh hi, rowI (0 :: 9 :: 30 :: π) nl lo]) →
    kpO [14] [8, 9] [] (bkO 0 (iter (round EE iter π [] [12, 13, 14, 34, 35] c_timing_RangesOf_L0) x)) = some (.nm, [(14, .ap (1014 :: π))], [rowR (1014 :: π) (flagE (lo.zip hi)) (lo.zip hi)])
  | [], pre, x, h, hm => by
    rw [loop_eq hm]
    have hz : lo.zip hi = pre := by simpa using h
    have hl : pre.length = lo.length := by rw [← hz]; simp; omega
    rw [hz]
    simp [u_timing_RangesOf_L0, b_timing_RangesOf_L0, hl]
  | y :: suf, pre, x, h, hm => by
    rw [loop_eq hm]
    have hzl : (lo.zip hi).length = lo.length := by simp; omega
    have hpl : pre.length < lo.length := by rw [← hzl, h]; simp
    have hph : pre.length < hi.length := by omega
    have hy : (lo.zip hi)[pre.length]? = some y := by rw [h]; simp
    have hy2 := List.getElem?_zip_eq_some.1 hy
    have g1 : lo[pre.length] = y.1 := by have := hy2.1; rw [List.getElem?_eq_getElem hpl] at this; simpa using this
    have g2 : hi[pre.length] = y.2 := by have := hy2.2; rw [List.getElem?_eq_getElem hph] at this; simpa using this
    have hnext := ranges_loop lo hi nl nh hlen hle suf (pre ++ [y])
    rw [show (pre ++ [y]).length = pre.length + 1 by simp] at hnext
    have hroom : pre.length + 1 ≤ room := by simp only [room]; omega
    generalize lo.zip hi = Z at *
    simp [u_timing_RangesOf_L0, b_timing_RangesOf_L0, hpl, hph, g1, g2, hroom]
    exact hnext _ (by simp [h]) (by simp [w_succ hpl (show lo.length ≤ top63 by simp only [top63]; omega)])

theorem endGo_len (m : Model) (D : List Int) : ∀ (P : List Placed) (i : Nat) (lo hi : List Int), (endGo m D i P lo hi).1.length = lo.length + P.length ∧ (endGo m D i P lo hi).2.length = hi.length + P.length
  | [], i, lo, hi => by simp [endGo]
  | p :: r, i, lo, hi => by
    have := endGo_len m D r (i + 1) (lo ++ [ear lo p.sources false 0 + loW m.fast (D.getD i 0)]) (hi ++ [lat hi p.sources 0 + hiW m.slow (D.getD i 0)])
    simp only [endGo, List.length_append, List.length_cons, List.length_nil] at this ⊢
    omega
theorem endN_len (l : List Cell) (n : Net) (m : Model) (ats : List Int) : (endN l n m ats).1.length = ats.length + n.placed.length ∧ (endN l n m ats).2.length = ats.length + n.placed.length := endGo_len m _ _ _ _ _

/-- The ranges of all points. -/
def rngN (l : List Cell) (n : Net) (m : Model) (ats : List Int) : List (Int × Int) := (endN l n m ats).1.zip (endN l n m ats).2
theorem rngN_len (l : List Cell) (n : Net) (m : Model) (ats : List Int) : (rngN l n m ats).length = ats.length + n.placed.length := by
  have := endN_len l n m ats
  unfold rngN; simp; omega

theorem e_RangesOf_err (l : List Cell) (n : Net) (m : Model) (h : netOk l n) (ats : List Int) (hd : ats.length ≤ top63) (he : errA l n m ats ≠ 0) :
    EE π n_timing_RangesOf [.p (encLib l), .p (encNet n), .p (encModel m), .p (encInts ats)] [] = some (.p (.tup [.sl 2 (some true) [], I (errA l n m ats)]), []) := by
  unfold errA at *
  by_cases ha : allE l n m = 0
  · have e : firstE [allE l n m, timesE ats n.leaves] = timesE ats n.leaves := by by_cases hz : timesE ats n.leaves = 0 <;> simp [firstE, hz, ha]
    rw [e] at he ⊢
    have ho := fun π => e_openTimes_ok (π := π) l n m h ha ats hd
    generalize delaysN l n m = D at *
    simp [e_timing_RangesOf, run_eq, c_timing_RangesOf, ho, he]
  · have e : firstE [allE l n m, timesE ats n.leaves] = allE l n m := by simp [firstE, ha]
    rw [e]
    simp [e_timing_RangesOf, run_eq, c_timing_RangesOf, e_openTimes_err l n m h ha ats hd, ha]

theorem e_RangesOf_ok (l : List Cell) (n : Net) (m : Model) (h : netOk l n) (ats : List Int) (hd : ats.length ≤ top63) (he : errA l n m ats = 0) :
    EE π n_timing_RangesOf [.p (encLib l), .p (encNet n), .p (encModel m), .p (encInts ats)] [] = some (.tup [.ap (1014 :: π), .p (I 0)], [rowR (1014 :: π) (flagE (rngN l n m ats)) (rngN l n m ats)]) := by
  unfold errA at he
  rw [firstE_cons, firstE_cons] at he
  obtain ⟨ha, ht, _⟩ := he
  have hv := valid_of ha
  have hmo := modOk_of ha
  obtain ⟨ht1, ht2⟩ := times_ok ht
  have ho := fun π => e_openTimes_ok (π := π) l n m h ha ats hd
  have hr := fun π => e_ends (π := π) l n m hv hmo.f0 hmo.f1 hmo.s0 hmo.s1 ats ht1 ht2
  have hlen := endN_len l n m ats
  have hlv1 := hv.lv1
  have hnp := hv.np
  unfold rngN
  rw [ht] at ho
  generalize delaysN l n m = D at *
  generalize hlo : (endN l n m ats).1 = lo at *
  generalize hhi : (endN l n m ats).2 = hi at *
  have hl := ranges_loop (π := π) lo hi (bif n.placed.isEmpty then flE (ints ats) else some false) (bif n.placed.isEmpty then flE (ints ats) else some false) (by omega) (by omega) (lo.zip hi) []
  simp [e_timing_RangesOf, run_eq, c_timing_RangesOf, ho, hr, thaw, thaw1]
  rw [hl _ rfl (by simp)]
  simp

theorem e_Floor (a : Int) (h0 : 0 ≤ a) (h1 : a ≤ 1000000000) : EE π n_ratchetbase_Floor [.p (I (-a)), .p (I 100)] [] = some (.p (I (-((a + 99).tdiv 100))), []) := by
  have q1 : (-a).tdiv 100 = -(a / 100) := by rw [Int.neg_tdiv, Int.tdiv_eq_ediv_of_nonneg h0]
  have q2 : (-a).tmod 100 = -(a % 100) := by rw [Int.neg_tmod, Int.tmod_eq_emod_of_nonneg h0]
  have q3 : (a + 99).tdiv 100 = (a + 99) / 100 := Int.tdiv_eq_ediv_of_nonneg (by omega)
  have w1 : IntKind.i64.wrap (-(a / 100)) = -(a / 100) := w64 ⟨by omega, by omega⟩
  have w2 : IntKind.i64.wrap (-(a / 100) - 1) = -(a / 100) - 1 := w64 ⟨by omega, by omega⟩
  rw [q3]
  by_cases hz : a % 100 = 0
  · have hn : ¬ 0 < a % 100 := by omega
    have e : -(a / 100) = -((a + 99) / 100) := by omega
    rw [← e]
    simp [e_ratchetbase_Floor, run_eq, c_ratchetbase_Floor, q1, q2, w1, hn]
  · have hn : 0 < a % 100 := by omega
    have e : -(a / 100) - 1 = -((a + 99) / 100) := by omega
    rw [← e]
    simp [e_ratchetbase_Floor, run_eq, c_ratchetbase_Floor, q1, q2, w1, w2, hn]

theorem e_Ceil (a : Int) (h0 : 0 ≤ a) (h1 : a ≤ 1000000000) : EE π n_ratchetbase_Ceil [.p (I a), .p (I 100)] [] = some (.p (I ((a + 99).tdiv 100)), []) := by
  have w1 : IntKind.i64.wrap (-a) = -a := w64 ⟨by omega, by omega⟩
  have hq := tdiv_in (a := a + 99) (by omega)
  have hf := fun π => e_Floor (π := π) a h0 h1
  generalize (a + 99).tdiv 100 = q at *
  have w2 : IntKind.i64.wrap q = q := w64 ⟨by omega, by omega⟩
  simp [e_ratchetbase_Ceil, run_eq, c_ratchetbase_Ceil, w1, hf, w2]

def mod40 (a : Int) : Int := if a.tmod 40 < 0 then a.tmod 40 + 40 else a.tmod 40
theorem mod40_in (a : Int) : 0 ≤ mod40 a ∧ mod40 a < 40 := by
  unfold mod40
  rw [Int.tmod_eq_emod]
  split <;> split <;> omega
theorem e_Mod (a : Int) : EE π n_ratchetbase_Mod [.p (I a), .p (I 40)] [] = some (.p (I (mod40 a)), []) := by
  have h := mod40_in a
  unfold mod40 at *
  by_cases hz : a.tmod 40 < 0
  · rw [if_pos hz] at *
    have w : IntKind.i64.wrap (a.tmod 40 + 40) = a.tmod 40 + 40 := w64 ⟨by omega, by omega⟩
    simp [e_ratchetbase_Mod, run_eq, c_ratchetbase_Mod, hz, w]
  · rw [if_neg hz] at *
    simp [e_ratchetbase_Mod, run_eq, c_ratchetbase_Mod, hz]

theorem rngs_loop (a : List (Int × Int)) (hl : a.length ≤ top63) : ∀ (suf pre : List (Int × Int)) (x : Env × Sto), a = pre ++ suf → mask [0, 1, 5] [] x = some ([(0, .p (encRs a)), (1, .p (encRs a)), (5, .p (I pre.length))], []) →
    kpO [] [4] [] (bkO 0 (iter (round EE iter π [] [0, 1, 5] c_ratchetbase_Ranges_L0) x)) = some (.nm, [], [])
  | [], pre, x, h, hm => by
    rw [loop_eq hm]
    subst h
    simp [u_ratchetbase_Ranges_L0, b_ratchetbase_Ranges_L0]
  | y :: suf, pre, x, h, hm => by
    rw [loop_eq hm]
    simp [u_ratchetbase_Ranges_L0, b_ratchetbase_Ranges_L0, lt_mid h, get_mid _ h, eqInts]
    exact rngs_loop a hl suf (pre ++ [y]) _ (by simp [h]) (by simp [w_succ (show pre.length < a.length by have := lt_mid h; omega) hl])
theorem e_Ranges (a : List (Int × Int)) (ha : a.length ≤ top63) : EE π n_ratchetbase_Ranges [.p (encRs a), .p (encRs a)] [] = some (.p (.bool true), []) := by
  simp [e_ratchetbase_Ranges, run_eq, c_ratchetbase_Ranges]
  rw [rngs_loop a ha a [] _ rfl (by simp)]
  simp

end Go.Proofs.YtafomlbikcphgaaGreat.V

/- Ranges of arrivals, by the reference. -/
namespace Go.Proofs.YtafomlbikcphgaaGreat.V
open Go (IntKind BinOp UnOp)
variable {π ρ κ : Id}

theorem ref_cor0 (l : List Cell) (n : Net) (m : Model) (ats : List Int) (hl : ats.length ≤ 1000) : ∀ (suf pre : List Int) (x : Env × Sto), ats = pre ++ suf →
    mask [0, 3, 5, 6, 9, 10] [] x = some ([(0, .p (encLib l)), (3, .p (encInts ats)), (5, .ref (5 :: π) 0), (6, .ref (6 :: π) 0), (9, .ap (1009 :: π)), (10, .p (I pre.length))], [rowR (1009 :: π) (flagE pre) (pre.map fun a => (a, a)), (6 :: π, boxM m), (5 :: π, boxN n)]) →
    kpO [0, 5, 6, 9] [8] [] (bkO 0 (iter (round EE iter π [] [0, 3, 5, 6, 9, 10] c_ratchetref28_Corners_L0) x)) = some (.nm, [(0, .p (encLib l)), (5, .ref (5 :: π) 0), (6, .ref (6 :: π) 0), (9, .ap (1009 :: π))], [rowR (1009 :: π) (flagE ats) (ats.map fun a => (a, a)), (6 :: π, boxM m), (5 :: π, boxN n)])
  | [], pre, x, h, hm => by
    rw [loop_eq hm]
    have : ats = pre := by simpa using h
    rw [← this]
    simp [u_ratchetref28_Corners_L0, b_ratchetref28_Corners_L0]
  | y :: suf, pre, x, h, hm => by
    rw [loop_eq hm]
    have hlen : pre.length < ats.length := by rw [h]; simp
    have hnext := ref_cor0 l n m ats hl suf (pre ++ [y])
    rw [show (pre ++ [y]).length = pre.length + 1 by simp] at hnext
    have hroom : pre.length + 1 ≤ room := by simp only [room]; omega
    simp [u_ratchetref28_Corners_L0, b_ratchetref28_Corners_L0, lt_mid h, get_mid _ h, hroom]
    exact hnext _ (by simp [h]) (by simp [w_succ hlen (show ats.length ≤ top63 by simp only [top63]; omega)])

theorem ref_cor2 (n : Net) (m : Model) (D : List Int) (L : List (Int × Int)) (nl nd : Option Bool) (hcl : L.length ≤ 1000000) (i : Nat) (p : Placed) (hp : n.placed[i]? = some p) (hs3 : p.sources.length ≤ 1000) (hin : ∀ s ∈ p.sources, 0 ≤ s ∧ s < L.length + 2) :
    ∀ (suf pre : List Int) (f : Bool) (a b : Int) (x : Env × Sto), p.sources = pre ++ suf →
    mask [5, 6, 9, 11, 12, 13, 14, 15, 16] [] x = some ([(5, .ref (5 :: π) 0), (6, .ref (6 :: π) 0), (9, .ap (1009 :: π)), (11, .ap (1007 :: 39 :: π)), (12, .p (I i)), (13, .p (I a)), (14, .p (I b)), (15, .p (.bool f)), (16, .p (I pre.length))], [rowI (1007 :: 39 :: π) nd D, rowR (1009 :: π) nl L, (6 :: π, boxM m), (5 :: π, boxN n)]) →
    kpO [5, 6, 9, 11, 12, 13, 14] [8] [] (bkO 4 (iter (round EE iter π [] [5, 6, 9, 11, 12, 13, 14, 15, 16] c_ratchetref28_Corners_L2) x)) =
      some (.nm, [(5, .ref (5 :: π) 0), (6, .ref (6 :: π) 0), (9, .ap (1009 :: π)), (11, .ap (1007 :: 39 :: π)), (12, .p (I i)), (13, .p (I (ear (L.map (·.1)) suf f a))), (14, .p (I (lat (L.map (·.2)) suf b)))], [rowI (1007 :: 39 :: π) nd D, rowR (1009 :: π) nl L, (6 :: π, boxM m), (5 :: π, boxN n)])
  | [], pre, f, a, b, x, h, hm => by
    rw [loop_eq hm]
    have : p.sources = pre := by simpa using h
    have hil : i < n.placed.length := by rw [List.getElem?_eq_some_iff] at hp; exact hp.1
    have hpi : n.placed[i] = p := by simpa [List.getElem?_eq_getElem hil] using hp
    simp [u_ratchetref28_Corners_L2, b_ratchetref28_Corners_L2, hil, hpi, this, lat, ear]
  | y :: suf, pre, f, a, b, x, h, hm => by
    rw [loop_eq hm]
    have hil : i < n.placed.length := by rw [List.getElem?_eq_some_iff] at hp; exact hp.1
    have hpi : n.placed[i] = p := by simpa [List.getElem?_eq_getElem hil] using hp
    have hlen : pre.length < p.sources.length := by rw [h]; simp
    have hyp : p.sources[pre.length]? = some y := by rw [h]; simp
    have hy2 : p.sources[pre.length] = y := by simpa [List.getElem?_eq_getElem hlen] using hyp
    have hy := hin y (by rw [h]; simp)
    have hw : IntKind.i64.wrap (y - 2) = y - 2 := w64 ⟨by omega, by omega⟩
    have hwl := w_succ hlen (show p.sources.length ≤ top63 by simp only [top63]; omega)
    by_cases h2 : 2 ≤ y
    · have hlt : (y - 2).toNat < L.length := by omega
      have hlt' : y - 2 < (L.length : Int) := by omega
      have hge : -1 < y - 2 := by omega
      have hge2 : 0 ≤ y - 2 := by omega
      have hnn : ¬ y < 2 := by omega
      have hnn2 : ¬ y - 2 < 0 := by omega
      have hg1 : (L.map (·.1)).getD (y - 2).toNat 0 = L[(y - 2).toNat].1 := by simp [List.getD, hlt]
      have hg2 : (L.map (·.2)).getD (y - 2).toNat 0 = L[(y - 2).toNat].2 := by simp [List.getD, hlt]
      have hpt := fun π => e_point (π := π) y
      rw [hw, if_pos hge] at hpt
      simp only [lat, ear, h2, if_true, hg1, hg2]
      have hnext := ref_cor2 n m D L nl nd hcl i p hp hs3 hin suf (pre ++ [y])
      generalize hq : L[(y - 2).toNat] = q at *
      have hff : f = false ∨ (f = true ∧ q.1 < a) ∨ (f = true ∧ ¬ q.1 < a) := by cases f <;> simp; omega
      rcases hff with rfl | ⟨rfl, hmx⟩ | ⟨rfl, hmx⟩
      · by_cases hmy : b < q.2
        · simp [u_ratchetref28_Corners_L2, b_ratchetref28_Corners_L2, hil, hpi, hlen, hy2, hpt, h2, hnn, hnn2, hlt, hlt', hq, hmy]
          exact hnext _ _ _ _ (by simp [h]) (by simp [hwl])
        · simp [u_ratchetref28_Corners_L2, b_ratchetref28_Corners_L2, hil, hpi, hlen, hy2, hpt, h2, hnn, hnn2, hlt, hlt', hq, hmy]
          exact hnext _ _ _ _ (by simp [h]) (by simp [hwl])
      · by_cases hmy : b < q.2
        · simp [u_ratchetref28_Corners_L2, b_ratchetref28_Corners_L2, hil, hpi, hlen, hy2, hpt, h2, hnn, hnn2, hlt, hlt', hq, hmx, hmy]
          exact hnext _ _ _ _ (by simp [h]) (by simp [hwl])
        · simp [u_ratchetref28_Corners_L2, b_ratchetref28_Corners_L2, hil, hpi, hlen, hy2, hpt, h2, hnn, hnn2, hlt, hlt', hq, hmx, hmy]
          exact hnext _ _ _ _ (by simp [h]) (by simp [hwl])
      · by_cases hmy : b < q.2
        · simp [u_ratchetref28_Corners_L2, b_ratchetref28_Corners_L2, hil, hpi, hlen, hy2, hpt, h2, hnn, hnn2, hlt, hlt', hq, hmx, hmy]
          exact hnext _ _ _ _ (by simp [h]) (by simp [hwl])
        · simp [u_ratchetref28_Corners_L2, b_ratchetref28_Corners_L2, hil, hpi, hlen, hy2, hpt, h2, hnn, hnn2, hlt, hlt', hq, hmx, hmy]
          exact hnext _ _ _ _ (by simp [h]) (by simp [hwl])
    · have hge : ¬ y - 2 > -1 := by omega
      have hpt := fun π => e_point (π := π) y
      rw [hw, if_neg hge] at hpt
      simp only [lat, ear, h2, if_false]
      simp [u_ratchetref28_Corners_L2, b_ratchetref28_Corners_L2, hil, hpi, hlen, hy2, hpt]
      exact ref_cor2 n m D L nl nd hcl i p hp hs3 hin suf (pre ++ [y]) _ _ _ _ (by simp [h]) (by simp [hwl])

theorem zip_end (m : Model) (D : List Int) (i : Nat) (p : Placed) (lo hi : List Int) (h : lo.length = hi.length) (a b : Int) : (lo ++ [a]).zip (hi ++ [b]) = lo.zip hi ++ [(a, b)] := by
  rw [List.zip_append h]; rfl

theorem ref_cor1 (l : List Cell) (n : Net) (m : Model) (hv : Valid l n m) (hm : ModOk m) (nd : Option Bool) : ∀ (suf pre : List Placed) (lo hi : List Int) (nl : Option Bool) (x : Env × Sto), n.placed = pre ++ suf → (lo.length : Int) = n.leaves + pre.length → (hi.length : Int) = n.leaves + pre.length →
    (∀ v ∈ lo, 0 ≤ v ∧ v ≤ 1000000 + 254001 * (pre.length : Int)) → (∀ v ∈ hi, 0 ≤ v ∧ v ≤ 1000000 + 254001 * (pre.length : Int)) →
    mask [5, 6, 9, 11, 12] [] x = some ([(5, .ref (5 :: π) 0), (6, .ref (6 :: π) 0), (9, .ap (1009 :: π)), (11, .ap (1007 :: 39 :: π)), (12, .p (I pre.length))], [rowI (1007 :: 39 :: π) nd (delaysN l n m), rowR (1009 :: π) nl (lo.zip hi), (6 :: π, boxM m), (5 :: π, boxN n)]) →
    kpO [9] [8] [] (bkO 2 (iter (round EE iter π [] [5, 6, 9, 11, 12] c_ratchetref28_Corners_L1) x)) = some (.nm, [(9, .ap (1009 :: π))], [rowR (1009 :: π) (bif suf.isEmpty then nl else some false) ((endGo m (delaysN l n m) pre.length suf lo hi).1.zip (endGo m (delaysN l n m) pre.length suf lo hi).2)])
  | [], pre, lo, hi, nl, x, h, hc, hd, hb, he, hma => by
    rw [loop_eq hma]
    have : n.placed = pre := by simpa using h
    generalize delaysN l n m = D
    simp only [endGo]
    generalize lo.zip hi = Z at *
    simp [u_ratchetref28_Corners_L1, b_ratchetref28_Corners_L1, this]
  | y :: suf, pre, lo, hi, nl, x, h, hc, hd, hb, he, hma => by
    rw [loop_eq hma]
    have hmem : y ∈ n.placed := by rw [h]; simp
    have hlen : pre.length < n.placed.length := by rw [h]; simp
    have hlv := hv.lv0
    have hlv1 := hv.lv1
    have hnp := hv.np
    have hsr := hv.src pre.length y (by rw [h]; simp)
    obtain ⟨_, _, _, _, _, hs3⟩ := hv.cell y hmem
    have hll : lo.length = hi.length := by omega
    have hzl : (lo.zip hi).length = lo.length := by simp; omega
    have hDl : (delaysN l n m).length = n.placed.length := by simp [delaysN]
    have hDg : (delaysN l n m).getD pre.length 0 = delayN l n m pre.length y := by simp [delaysN, List.getD, h]
    have hDi : (delaysN l n m)[pre.length]? = some (delayN l n m pre.length y) := by simp [delaysN, h]
    have hdi := (hv.delay_in (i := pre.length) hmem).2.2
    generalize hdd : delayN l n m pre.length y = d at *
    have hw1 := w_in (d := d) (f := m.fast) (by omega) (by omega) hm.f0 hm.f1
    have hw2 := w_in (d := d) (f := m.slow) (by omega) (by omega) hm.s0 hm.s1
    have hla := lat_in hi _ (by omega) he y.sources 0 (by omega) (by omega)
    have hea := ear_in lo _ (by omega) hb y.sources false 0 (by omega) (by omega)
    have v1 : IntKind.i64.wrap (d * m.fast) = d * m.fast := w64 ⟨by omega, by omega⟩
    have v2 : IntKind.i64.wrap ((d * m.fast).tdiv 100) = loW m.fast d := w64 ⟨by have := hw1.2.1; unfold loW at this; omega, by have := hw1.2.1; unfold loW at this; omega⟩
    have v3 : IntKind.i64.wrap (ear lo y.sources false 0 + loW m.fast d) = ear lo y.sources false 0 + loW m.fast d := w64 ⟨by omega, by omega⟩
    have v4 : IntKind.i64.wrap (d * m.slow) = d * m.slow := w64 ⟨by omega, by omega⟩
    have v8 : IntKind.i64.wrap (lat hi y.sources 0 + hiW m.slow d) = lat hi y.sources 0 + hiW m.slow d := w64 ⟨by omega, by omega⟩
    have hcl := fun π => e_Ceil (π := π) (d * m.slow) (by omega) (by omega)
    have hce : (d * m.slow + 99).tdiv 100 = hiW m.slow d := rfl
    rw [hce] at hcl
    have hroom : lo.length + 1 ≤ room := by simp only [room]; omega
    have hm1 : (lo.zip hi).map (·.1) = lo := by rw [List.map_fst_zip]; omega
    have hm2 : (lo.zip hi).map (·.2) = hi := by rw [List.map_snd_zip]; omega
    have hl2 := ref_cor2 (π := π) n m (delaysN l n m) (lo.zip hi) nl nd (by omega) pre.length y (by rw [h]; simp) (by omega) (fun s hs => by have := hsr s hs; omega) y.sources [] false 0 0
    rw [hm1, hm2] at hl2
    have hnext := ref_cor1 l n m hv hm nd suf (pre ++ [y]) (lo ++ [ear lo y.sources false 0 + loW m.fast d]) (hi ++ [lat hi y.sources 0 + hiW m.slow d]) (some false)
    rw [show (pre ++ [y]).length = pre.length + 1 by simp, zip_end m [] 0 y lo hi hll] at hnext
    simp only [endGo]
    rw [hDg]
    generalize delaysN l n m = D at hDi hDl hnext hl2
    have hlt : pre.length < D.length := by omega
    have hD2 : D[pre.length] = d := by simpa [List.getElem?_eq_getElem hlt] using hDi
    generalize lat hi y.sources 0 = ua at *
    generalize ear lo y.sources false 0 = ub at *
    generalize hiW m.slow d = uc at *
    generalize loW m.fast d = ud at *
    generalize lo.zip hi = Z at *
    have hroomZ : Z.length + 1 ≤ room := by rw [hzl]; exact hroom
    simp [u_ratchetref28_Corners_L1, b_ratchetref28_Corners_L1, hlen]
    rw [hl2 _ rfl (by simp)]
    simp [hlt, hD2, hcl, v1, v2, v3, v4, v8, hroomZ]
    refine (hnext _ (by simp [h]) (by simp; omega) (by simp; omega) ?_ ?_ (by simp [w_succ hlen (show n.placed.length ≤ top63 by simp only [top63]; omega)])).trans (by simp)
    · intro v hv
      rw [List.mem_append] at hv
      rcases hv with hv | hv
      · have := hb v hv; omega
      · rw [List.mem_singleton] at hv; omega
    · intro v hv
      rw [List.mem_append] at hv
      rcases hv with hv | hv
      · have := he v hv; omega
      · rw [List.mem_singleton] at hv; omega

theorem zip_self (l : List Int) : l.zip l = l.map fun a => (a, a) := by
  induction l with
  | nil => rfl
  | cons a r ih => simp [ih]

theorem e_Corners (l : List Cell) (n : Net) (m : Model) (hv : Valid l n m) (hm : ModOk m) (ats : List Int) (ha : (ats.length : Int) = n.leaves) (hb : ∀ v ∈ ats, 0 ≤ v ∧ v ≤ 1000000) :
    EE π n_ratchetref28_Corners [.p (encLib l), .p (encNet n), .p (encModel m), .p (encInts ats)] [] = some (.ap (1009 :: π), [rowR (1009 :: π) (bif n.placed.isEmpty then flagE ats else some false) (rngN l n m ats)]) := by
  have hlv1 := hv.lv1
  have h0 := ref_cor0 (π := π) l n m ats (by omega) ats []
  have h1 := ref_cor1 (π := π) l n m hv hm (flagE n.placed) n.placed [] ats ats (flagE ats)
  rw [zip_self] at h1
  have hd := fun π => e_Delays (π := π) l n m hv
  unfold rngN endN
  generalize delaysN l n m = D at *
  simp [e_ratchetref28_Corners, run_eq, c_ratchetref28_Corners, thaw, thaw1]
  rw [h0 _ rfl (by simp)]
  simp [hd, thaw, thaw1]
  rw [h1 _ rfl (by simpa using ha) (by simpa using ha) (by simpa using hb) (by simpa using hb) (by simp)]
  simp

end Go.Proofs.YtafomlbikcphgaaGreat.V

/- The law TimingCorners, in the evaluator. -/
namespace Go.Proofs.YtafomlbikcphgaaGreat.V
open Go (IntKind BinOp UnOp)
variable {π ρ κ : Id}

/-- Point by point not greater. -/
def PW (a b : List Int) : Prop := a.length = b.length ∧ ∀ k : Nat, a.getD k 0 ≤ b.getD k 0
theorem PW.refl (a : List Int) : PW a a := ⟨rfl, fun _ => Int.le_refl _⟩
theorem PW.app {a b : List Int} (h : PW a b) {x y : Int} (hx : x ≤ y) : PW (a ++ [x]) (b ++ [y]) := by
  refine ⟨by simp [h.1], fun k => ?_⟩
  have hk := h.2 k
  have hl := h.1
  simp only [List.getD] at hk ⊢
  by_cases h1 : k < a.length
  · rw [List.getElem?_append_left h1, List.getElem?_append_left (by omega)]; exact hk
  · rw [List.getElem?_append_right (by omega), List.getElem?_append_right (by omega), hl]
    cases hz : k - b.length with
    | zero => simpa using hx
    | succ j => simp

theorem ear_mono {a b : List Int} (h : PW a b) : ∀ (src : List Int) (f : Bool) (x y : Int), x ≤ y → ear a src f x ≤ ear b src f y
  | [], f, x, y, hx => hx
  | s :: r, f, x, y, hx => by
    simp only [ear]
    have hk := h.2 (s - 2).toNat
    split
    · refine ear_mono h r true _ _ ?_
      cases f
      · simpa using hk
      · simp only [reduceCtorEq, false_or]
        split <;> split <;> omega
    · exact ear_mono h r f x y hx
theorem lat_mono {a b : List Int} (h : PW a b) : ∀ (src : List Int) (x y : Int), x ≤ y → lat a src x ≤ lat b src y
  | [], x, y, hx => hx
  | s :: r, x, y, hx => by
    simp only [lat]
    have hk := h.2 (s - 2).toNat
    split
    · refine lat_mono h r _ _ ?_
      split <;> split <;> omega
    · exact lat_mono h r x y hx
theorem ear_lat {a b : List Int} (h : PW a b) : ∀ (src : List Int) (f : Bool) (x y : Int), x ≤ y → ear a src f x ≤ lat b src y
  | [], f, x, y, hx => hx
  | s :: r, f, x, y, hx => by
    simp only [ear, lat]
    have hk := h.2 (s - 2).toNat
    split
    · refine ear_lat h r true _ _ ?_
      cases f
      · simp only [true_or, if_true]
        split <;> omega
      · simp only [reduceCtorEq, false_or]
        split <;> split <;> omega
    · exact ear_lat h r f x y hx

theorem loW_mono {d f g : Int} (hd : 0 ≤ d) (hf : 0 ≤ f) (h : f ≤ g) : loW f d ≤ loW g d := by
  have a1 : 0 ≤ d * f := Int.mul_nonneg hd hf
  have a2 : d * f ≤ d * g := Int.mul_le_mul_of_nonneg_left h hd
  unfold loW
  rw [Int.tdiv_eq_ediv_of_nonneg a1, Int.tdiv_eq_ediv_of_nonneg (by omega)]
  omega
theorem hiW_mono {d f g : Int} (hd : 0 ≤ d) (hf : 0 ≤ f) (h : f ≤ g) : hiW f d ≤ hiW g d := by
  have a1 : 0 ≤ d * f := Int.mul_nonneg hd hf
  have a2 : d * f ≤ d * g := Int.mul_le_mul_of_nonneg_left h hd
  unfold hiW
  rw [Int.tdiv_eq_ediv_of_nonneg (by omega), Int.tdiv_eq_ediv_of_nonneg (by omega)]
  omega
theorem loW_le {d f : Int} (hd : 0 ≤ d) (hf : 0 ≤ f) (h : f ≤ 100) : loW f d ≤ d := by
  have a1 : 0 ≤ d * f := Int.mul_nonneg hd hf
  have a2 : d * f ≤ d * 100 := Int.mul_le_mul_of_nonneg_left h hd
  unfold loW
  rw [Int.tdiv_eq_ediv_of_nonneg a1]
  omega
theorem le_hiW {d f : Int} (hd : 0 ≤ d) (h : 100 ≤ f) : d ≤ hiW f d := by
  have a2 : d * 100 ≤ d * f := Int.mul_le_mul_of_nonneg_left h hd
  unfold hiW
  rw [Int.tdiv_eq_ediv_of_nonneg (by omega)]
  omega

theorem end_wider (m w : Model) (D : List Int) (hD : ∀ k : Nat, 0 ≤ D.getD k 0) (hf : 0 ≤ w.fast) (h1 : w.fast ≤ m.fast) (hs : 0 ≤ m.slow) (h2 : m.slow ≤ w.slow) : ∀ (P : List Placed) (i : Nat) (lo hi lo' hi' : List Int), PW lo' lo → PW hi hi' →
    PW (endGo w D i P lo' hi').1 (endGo m D i P lo hi).1 ∧ PW (endGo m D i P lo hi).2 (endGo w D i P lo' hi').2
  | [], i, lo, hi, lo', hi', ha, hb => ⟨ha, hb⟩
  | p :: r, i, lo, hi, lo', hi', ha, hb => by
    simp only [endGo]
    refine end_wider m w D hD hf h1 hs h2 r (i + 1) _ _ _ _ (ha.app ?_) (hb.app ?_)
    · have := ear_mono ha p.sources false 0 0 (Int.le_refl _)
      have := loW_mono (hD i) hf h1
      omega
    · have := lat_mono hb p.sources 0 0 (Int.le_refl _)
      have := hiW_mono (hD i) hs h2
      omega

theorem end_arr (m : Model) (D : List Int) (hD : ∀ k : Nat, 0 ≤ D.getD k 0) (hf : 0 ≤ m.fast) (h1 : m.fast ≤ 100) (h2 : 100 ≤ m.slow) : ∀ (P : List Placed) (i : Nat) (lo hi a : List Int), PW lo a → PW a hi →
    PW (endGo m D i P lo hi).1 (arrGo D i P a) ∧ PW (arrGo D i P a) (endGo m D i P lo hi).2
  | [], i, lo, hi, a, ha, hb => ⟨ha, hb⟩
  | p :: r, i, lo, hi, a, ha, hb => by
    simp only [endGo, arrGo]
    refine end_arr m D hD hf h1 h2 r (i + 1) _ _ _ (ha.app ?_) (hb.app ?_)
    · have := ear_lat ha p.sources false 0 0 (Int.le_refl _)
      have := loW_le (hD i) hf h1
      omega
    · have := lat_mono hb p.sources 0 0 (Int.le_refl _)
      have := le_hiW (hD i) h2
      omega

theorem delays_nonneg {l : List Cell} {n : Net} {m : Model} (hv : Valid l n m) (k : Nat) : 0 ≤ (delaysN l n m).getD k 0 := by
  unfold delaysN
  rw [List.getD]
  cases hx : (n.placed.mapIdx (delayN l n m))[k]? with
  | none => simp
  | some v =>
    rw [List.getElem?_mapIdx] at hx
    cases hy : n.placed[k]? with
    | none => simp [hy] at hx
    | some p =>
      have := (hv.delay_in (i := k) (List.mem_of_getElem? hy)).2.2.1
      simp [hy] at hx
      subst hx
      simp; omega

/-- What the law compares, point by point. -/
def CorOk (m : Model) (Z W : List (Int × Int)) (A : List Int) : Prop := ∀ (i : Nat) (z w : Int × Int) (a : Int), Z[i]? = some z → W[i]? = some w → A[i]? = some a →
  w.1 ≤ z.1 ∧ z.2 ≤ w.2 ∧ (m.fast ≤ 100 → 100 ≤ m.slow → z.1 ≤ a ∧ a ≤ z.2)

theorem PW.at {a b : List Int} (h : PW a b) {i : Nat} {x y : Int} (hx : a[i]? = some x) (hy : b[i]? = some y) : x ≤ y := by
  have := h.2 i
  simpa [List.getD, hx, hy] using this

theorem cor_ok (l : List Cell) (n : Net) (m w : Model) (hv : Valid l n m) (hm : ModOk m) (hp : w.perLoad = m.perLoad) (hf : 1 ≤ w.fast) (h1 : w.fast ≤ m.fast) (h2 : m.slow ≤ w.slow) (ats : List Int) :
    CorOk m (rngN l n m ats) (rngN l n w ats) (arrN l n m ats) := by
  intro i z y a hz hy ha
  have hd : delaysN l n w = delaysN l n m := by
    unfold delaysN
    congr 1
    funext i p
    simp [delayN, hp]
  have hmf := hm.f0
  have hms := hm.s0
  obtain ⟨p1, p2⟩ := end_wider m w (delaysN l n m) (delays_nonneg hv) (by omega) h1 (by omega) h2 n.placed 0 ats ats ats ats (.refl _) (.refl _)
  unfold rngN at hz hy
  have z1 := List.getElem?_zip_eq_some.1 hz
  have y1 := List.getElem?_zip_eq_some.1 hy
  unfold endN at z1 y1
  rw [hd] at y1
  refine ⟨p1.at y1.1 z1.1, p2.at z1.2 y1.2, fun hf1 hs1 => ?_⟩
  obtain ⟨q1, q2⟩ := end_arr m (delaysN l n m) (delays_nonneg hv) (by omega) hf1 hs1 n.placed 0 ats ats ats (.refl _) (.refl _)
  exact ⟨q1.at z1.1 ha, q2.at ha z1.2⟩

theorem cor_loop (m : Model) (Z W : List (Int × Int)) (A : List Int) (hW : W.length = Z.length) (hA : A.length = Z.length) (hle : Z.length ≤ 1000) (hok : CorOk m Z W A) (nz nw na : Option Bool) :
    ∀ (j k : Nat) (x : Env × Sto), k + j = Z.length →
    mask [9, 10, 15, 17, 19] [] x = some ([(9, .ref [9] 0), (10, .ap [1014, 42]), (15, .ap [1014, 98]), (17, .ap [0, 9, 25, 107]), (19, .p (I k))], [rowI [0, 9, 25, 107] na A, rowR [1014, 98] nw W, rowR [1014, 42] nz Z, ([9], boxM m)]) →
    kpO [] [6] [] (bkO 0 (iter (round EE iter [] [] [9, 10, 15, 17, 19] c_ratchetlaw28_TimingCorners_L0) x)) = some (.nm, [], [])
  | 0, k, x, hk, hm => by
    rw [loop_eq hm]
    have : k = Z.length := by omega
    subst this
    simp [u_ratchetlaw28_TimingCorners_L0, b_ratchetlaw28_TimingCorners_L0]
  | j + 1, k, x, hk, hm => by
    rw [loop_eq hm]
    have hkz : k < Z.length := by omega
    have hkw : k < W.length := by omega
    have hka : k < A.length := by omega
    obtain ⟨o1, o2, o3⟩ := hok k _ _ _ (List.getElem?_eq_getElem hkz) (List.getElem?_eq_getElem hkw) (List.getElem?_eq_getElem hka)
    generalize hz : Z[k] = z at *
    generalize hw : W[k] = w at *
    generalize ha : A[k] = a at *
    have n1 : ¬ z.1 < w.1 := by omega
    have n2 : ¬ w.2 < z.2 := by omega
    have hnext := cor_loop m Z W A hW hA hle hok nz nw na j (k + 1)
    have hws := w_succ hkz (show Z.length ≤ top63 by simp only [top63]; omega)
    by_cases c1 : m.fast ≤ 100
    · by_cases c2 : 100 ≤ m.slow
      · have hwi : within a z.1 z.2 = true := within_iff.2 (o3 c1 c2)
        simp [u_ratchetlaw28_TimingCorners_L0, b_ratchetlaw28_TimingCorners_L0, hkz, hkw, hka, hz, hw, ha, n1, n2, c1, c2, e_Within, hwi]
        exact hnext _ (by omega) (by simp [hws])
      · simp [u_ratchetlaw28_TimingCorners_L0, b_ratchetlaw28_TimingCorners_L0, hkz, hkw, hka, hz, hw, ha, n1, n2, c1, c2]
        exact hnext _ (by omega) (by simp [hws])
    · simp [u_ratchetlaw28_TimingCorners_L0, b_ratchetlaw28_TimingCorners_L0, hkz, hkw, hka, hz, hw, ha, n1, n2, c1]
      exact hnext _ (by omega) (by simp [hws])

theorem wider_ok {l : List Cell} {n : Net} {m : Model} (h : allE l n m = 0) {f s : Int} (h1 : 1 ≤ f) (h2 : f ≤ m.fast) (h3 : m.slow ≤ s) (h4 : s ≤ 1000) : allE l n { m with fast := f, slow := s } = 0 := by
  unfold allE at *
  rw [firstE_cons, firstE_cons] at *
  obtain ⟨hn, hm, hz⟩ := h
  refine ⟨hn, ?_, hz⟩
  unfold modelE at *
  rw [firstE_cons, firstE_cons, unlE_z (by decide), unlE_z (by decide)] at *
  obtain ⟨h7, h8, h9⟩ := hm
  simp only [modelOk, Bool.and_eq_true, within_iff, decide_eq_true_eq] at *
  refine ⟨⟨⟨⟨h7.1.1.1, h7.1.1.2⟩, ?_⟩, ?_⟩, ?_, h9⟩ <;> omega

theorem corners_big (l : List Cell) (n : Net) (m : Model) (ats : List Int) (b : Int) (haw : Awake [20]) (hbig : ¬ (fewB l n = true ∧ ats.length ≤ 42)) :
    EE [] n_ratchetlaw28_TimingCorners [.p (.agg (circ l n m)), .p (encInts ats), .p (I b)] [] = some (.p (.bool true), []) := by
  have hf := fun π => e_Few (π := π) l n m
  by_cases h1 : fewB l n = true
  · rw [h1] at hf
    have h2' : (42 : Int) < ats.length := by
      have : ¬ ats.length ≤ 42 := fun h => hbig ⟨h1, h⟩
      omega
    simp [e_ratchetlaw28_TimingCorners, run_eq, c_ratchetlaw28_TimingCorners, haw, hf, h2']
  · have h1 : fewB l n = false := by simpa using h1
    rw [h1] at hf
    simp [e_ratchetlaw28_TimingCorners, run_eq, c_ratchetlaw28_TimingCorners, haw, hf]

theorem corners_fit (l : List Cell) (n : Net) (m : Model) (ats : List Int) (b : Int) (hok : netOk l n) (haw : Awake [20]) (hfew : fewB l n = true) (h42 : ats.length ≤ 42) :
    EE [] n_ratchetlaw28_TimingCorners [.p (.agg (circ l n m)), .p (encInts ats), .p (I b)] [] = some (.p (.bool true), []) := by
  have hf := fun π => e_Few (π := π) l n m
  rw [hfew] at hf
  have h42' : ¬ (42 : Int) < ats.length := by omega
  have hc := fun π => e_copied (π := π) l n m hfew
  have hca := fun π => e_CopyInts (π := π) (ints ats) (by simp only [room, List.length_map]; omega)
  have ea := fun π => e_AllErr (π := π) l n m hok
  have eta := fun π => e_TimesErr (π := π) ats (by simp only [top63]; omega) n.leaves
  by_cases he : allE l n m = 0
  · have hv := valid_of he
    have hmo := modOk_of he
    have hnp := hv.np
    have hlv0 := hv.lv0
    have hlv1 := hv.lv1
    rw [he] at ea
    by_cases ht : timesE ats n.leaves = 0
    · have hA : errA l n m ats = 0 := by simp [errA, firstE, he, ht]
      obtain ⟨ha1, ha2⟩ := times_ok ht
      have hmd := mod40_in b
      have hmod := fun π => e_Mod (π := π) b
      have hf0 := hmo.f0
      have hf1 := hmo.f1
      have hs0 := hmo.s0
      have hs1 := hmo.s1
      have hm1 : 1 ≤ (if 1 < m.fast - mod40 b then m.fast - mod40 b else 1) ∧ (if 1 < m.fast - mod40 b then m.fast - mod40 b else 1) ≤ m.fast := by split <;> omega
      have hm2 : m.slow ≤ (if m.slow + mod40 b < 1000 then m.slow + mod40 b else 1000) ∧ (if m.slow + mod40 b < 1000 then m.slow + mod40 b else 1000) ≤ 1000 := by split <;> omega
      have wv1 : IntKind.i64.wrap (m.fast - mod40 b) = m.fast - mod40 b := w64 ⟨by omega, by omega⟩
      have wv2 : IntKind.i64.wrap (m.slow + mod40 b) = m.slow + mod40 b := w64 ⟨by omega, by omega⟩
      generalize mod40 b = st at *
      generalize hfw : (if 1 < m.fast - st then m.fast - st else 1) = fw at *
      generalize hsw : (if m.slow + st < 1000 then m.slow + st else 1000) = sw at *
      have hew : allE l n { m with fast := fw, slow := sw } = 0 := wider_ok he hm1.1 hm1.2 hm2.1 hm2.2
      have hAw : errA l n { m with fast := fw, slow := sw } ats = 0 := by unfold errA; rw [hew]; simp [firstE, ht]
      have er := fun π => e_RangesOf_ok (π := π) l n m hok ats (by simp only [top63]; omega) hA
      have ew := fun π => e_RangesOf_ok (π := π) l n { m with fast := fw, slow := sw } hok ats (by simp only [top63]; omega) hAw
      have eA := fun π => e_ArrivalsOf_ok (π := π) l n m hok ats (by simp only [top63]; omega) hA
      have ec := fun π => e_Corners (π := π) l n m hv hmo ats ha1 ha2
      have hcok := cor_ok l n m { m with fast := fw, slow := sw } hv hmo rfl hm1.1 hm1.2 hm2.1 ats
      have l1 := rngN_len l n m ats
      have l2 := rngN_len l n { m with fast := fw, slow := sw } ats
      have l3 := arrN_len (l := l) (n := n) (m := m) (ats := ats)
      have ei := fun π => e_Ranges (π := π) (rngN l n m ats) (by simp only [top63]; omega)
      have hln : ∀ A : List Int, A.length = ats.length + n.placed.length → A.length = (rngN l n m ats).length := fun A h => by omega
      have hlW : (rngN l n { m with fast := fw, slow := sw } ats).length = (rngN l n m ats).length := by omega
      have hlA : (arrN l n m ats).length = (rngN l n m ats).length := by omega
      have hloop := cor_loop m (rngN l n m ats) (rngN l n { m with fast := fw, slow := sw } ats) (arrN l n m ats) hlW hlA (by omega) hcok
      rw [ht] at eta
      generalize rngN l n { m with fast := fw, slow := sw } ats = W at *
      generalize rngN l n m ats = Z at *
      generalize arrN l n m ats = A at *
      simp [e_ratchetlaw28_TimingCorners, run_eq, c_ratchetlaw28_TimingCorners, haw, hf, h42', hc, hca, ea, eta, er, ew, eA, ec, ei, hmod, wv1, wv2, hfw, hsw, hlW, hlA, freeze, evRO, w64z]
      rw [hloop (flagE Z) (flagE W) (bif n.placed.isEmpty then flE (ints ats) else some false) Z.length 0 _ (by omega) (by simp)]
      simp
    · have hA : errA l n m ats = timesE ats n.leaves := by unfold errA; rw [he]; simp [firstE, ht]
      have er := fun π => e_RangesOf_err (π := π) l n m hok ats (by simp only [top63]; omega) (by rw [hA]; exact ht)
      rw [hA] at er
      simp [e_ratchetlaw28_TimingCorners, run_eq, c_ratchetlaw28_TimingCorners, haw, hf, h42', hc, hca, ea, eta, er, ht, freeze, evRO, w64z]
  · have hA : errA l n m ats = allE l n m := by simp [errA, firstE, he]
    have er := fun π => e_RangesOf_err (π := π) l n m hok ats (by simp only [top63]; omega) (by rw [hA]; exact he)
    rw [hA] at er
    generalize allE l n m = c at *
    simp [e_ratchetlaw28_TimingCorners, run_eq, c_ratchetlaw28_TimingCorners, haw, hf, h42', hc, hca, ea, er, he, freeze, evRO, w64z]

theorem cel_one {x : List PV} (h : CelL [.int .i64] x) : ∃ k : Int, x = [I k] := by
  simp only [CelL] at h
  obtain ⟨a, r1, h1, ca, h2⟩ := h
  subst h2
  obtain ⟨k, rfl⟩ := cel_int ca
  exact ⟨k, h1⟩

end Go.Proofs.YtafomlbikcphgaaGreat.V
