/- Arrivals that are accepted. Accepted arrivals, by timing and by the reference. The law TimingArrives, in the evaluator. -/
import Derived.Test.YtafomlbikcphgaaS2

set_option linter.unusedSimpArgs false
set_option linter.unusedVariables false

/- Arrivals that are accepted. -/
namespace Go.Proofs.Ytafomlbikcphgaa.V
open Go (IntKind BinOp UnOp)
variable {π ρ κ : Id}

theorem e_isCell (l : List Cell) (n : Net) (m : Model) (hv : Valid l n m) (i : Int) : EE π n_timing_net_isCell [.p (.agg [I n.leaves, encPlaceds n.placed, encInts n.outs, encLib l]), .p (I i)] [] = some (.p (.bool (within i n.leaves (n.leaves + n.placed.length - 1))), []) := by
  have hlv0 := hv.lv0
  have hlv1 := hv.lv1
  have hnp := hv.np
  have hw : IntKind.i64.wrap (n.leaves + n.placed.length) = n.leaves + n.placed.length := w64 ⟨by omega, by omega⟩
  have hw2 : IntKind.i64.wrap (n.leaves + n.placed.length - 1) = n.leaves + n.placed.length - 1 := w64 ⟨by omega, by omega⟩
  have hpts := fun π => e_points (π := π) n l
  rw [hw] at hpts
  simp [e_timing_net_isCell, run_eq, c_timing_net_isCell, hpts, hw2, e_withinT]

abbrev cellsP (l : List Cell) (n : Net) (m : Model) (D : List Int) : List PV := [I n.leaves, encPlaceds n.placed, encInts n.outs, encLib l, I m.perLoad, I m.setup, I m.hold, I m.fast, I m.slow, encInts D]

theorem e_delay (l : List Cell) (n : Net) (m : Model) (D : List Int) (i : Nat) (h0 : 0 ≤ n.leaves) (h1 : n.leaves ≤ 40) (hi : n.leaves ≤ i) (hl : (i : Int) < n.leaves + D.length) (hD : D.length ≤ 1000) :
    EE π n_timing_timed_delay [.p (.agg (cellsP l n m D)), .p (I i)] [] = some (.p (I (D.getD (i - n.leaves.toNat) 0)), []) := by
  have hw : IntKind.i64.wrap ((i : Int) - n.leaves) = (i : Int) - n.leaves := w64 ⟨by omega, by omega⟩
  have hlt : ((i : Int) - n.leaves).toNat < D.length := by omega
  have hlt' : (i : Int) - n.leaves < (D.length : Int) := by omega
  have e : i - n.leaves.toNat = ((i : Int) - n.leaves).toNat := by omega
  have hg : D.getD (i - n.leaves.toNat) 0 = D[((i : Int) - n.leaves).toNat] := by rw [e]; simp [List.getD, hlt]
  rw [hg]
  simp [e_timing_timed_delay, run_eq, c_timing_timed_delay, hw, hlt, hlt', hi]

/-- Whether a point's arrival agrees with the arrivals before it. -/
def arrErr (l : List Cell) (n : Net) (m : Model) (ats arr : List Int) (i : Nat) (x : Int) : Int :=
  unlE (if n.leaves ≤ i then decide (x = IntKind.i64.wrap (lat arr (n.placed.getD (i - n.leaves.toNat) ⟨0, []⟩).sources 0 + (delaysN l n m).getD (i - n.leaves.toNat) 0)) else decide (x = ats.getD i 0)) 19

theorem e_CheckArr1 (l : List Cell) (n : Net) (m : Model) (hv : Valid l n m) (ats arr : List Int) (ha : (ats.length : Int) = n.leaves) (hr : (arr.length : Int) = n.leaves + n.placed.length) (i : Nat) (x : Int) (hx : arr[i]? = some x) :
    EE π n_timing_CheckArrivals_1 [.p (I i), .p (I x), .p (.ptr (cellsP l n m (delaysN l n m))), .p (.ptr [encInts ats]), .p (.ptr [encInts arr])] [] = some (.p (I (arrErr l n m ats arr i x)), []) := by
  have hlv0 := hv.lv0
  have hlv1 := hv.lv1
  have hnp := hv.np
  have hil : i < arr.length := by rw [List.getElem?_eq_some_iff] at hx; exact hx.1
  have hcell := fun π => e_isCell (π := π) l n m hv i
  have hDl : (delaysN l n m).length = n.placed.length := by simp [delaysN]
  unfold arrErr
  by_cases hc : n.leaves ≤ i
  · have hwi : within (i : Int) n.leaves (n.leaves + n.placed.length - 1) = true := within_iff.2 ⟨hc, by omega⟩
    rw [hwi] at hcell
    rw [if_pos hc]
    have hlt : ((i : Int) - n.leaves).toNat < n.placed.length := by omega
    have hlt' : (i : Int) - n.leaves < (n.placed.length : Int) := by omega
    have e : i - n.leaves.toNat = ((i : Int) - n.leaves).toNat := by omega
    have hd := fun π => e_delay (π := π) l n m (delaysN l n m) i hlv0 hlv1 hc (by omega) (by omega)
    have hgp : n.placed.getD (i - n.leaves.toNat) ⟨0, []⟩ = n.placed[((i : Int) - n.leaves).toNat] := by rw [e]; simp [List.getD, hlt]
    rw [hgp]
    have hmem : n.placed[((i : Int) - n.leaves).toNat] ∈ n.placed := List.getElem_mem hlt
    have hsr := hv.src ((i : Int) - n.leaves).toNat _ (List.getElem?_eq_getElem hlt)
    obtain ⟨_, _, _, _, _, hs3⟩ := hv.cell _ hmem
    have hw : IntKind.i64.wrap ((i : Int) - n.leaves) = (i : Int) - n.leaves := w64 ⟨by omega, by omega⟩
    have hgr := fun π => e_greatest (π := π) n.placed[((i : Int) - n.leaves).toNat].sources arr (by simp only [top63]; omega) (fun s hs => by have := hsr s hs; omega) (by omega)
    generalize lat arr n.placed[((i : Int) - n.leaves).toNat].sources 0 = L at *
    generalize (delaysN l n m).getD (i - n.leaves.toNat) 0 = d at *
    generalize delaysN l n m = D at *
    simp [e_timing_CheckArrivals_1, run_eq, c_timing_CheckArrivals_1, hcell, hw, hc, hlt, hlt', hgr, hd, e_unlessT]
  · have hwi : within (i : Int) n.leaves (n.leaves + n.placed.length - 1) = false := by
      have : ¬ within (i : Int) n.leaves (n.leaves + n.placed.length - 1) = true := fun h => hc (within_iff.1 h).1
      simpa using this
    rw [hwi] at hcell
    rw [if_neg hc]
    have hat : i < ats.length := by omega
    have hg : ats.getD i 0 = ats[i] := by simp [List.getD, hat]
    rw [hg]
    generalize delaysN l n m = D at *
    simp [e_timing_CheckArrivals_1, run_eq, c_timing_CheckArrivals_1, hcell, hat, e_unlessT]

/-! Plain: the first arrival that does not agree. -/
theorem eachE_agree {α : Type} (f g : Nat → α → Int) (l : List α) (h : ∀ (i : Nat) x, l[i]? = some x → (∀ (j : Nat) y, j < i → l[j]? = some y → g j y = 0) → f i x = g i x) : ∀ (suf pre : List α), l = pre ++ suf → (∀ (j : Nat) y, pre[j]? = some y → g j y = 0) → eachE f pre.length suf = eachE g pre.length suf
  | [], _, _, _ => rfl
  | x :: r, pre, hl, hp => by
    have hx : l[pre.length]? = some x := by rw [hl]; simp
    have e := h pre.length x hx fun j y hj hy => hp j y (by rw [hl, List.getElem?_append_left hj] at hy; exact hy)
    simp only [eachE, e]
    split
    · rename_i hz
      have := eachE_agree f g l h r (pre ++ [x]) (by simp [hl]) fun j y hy => by
        rcases Nat.lt_or_ge j pre.length with hlt | hge
        · rw [List.getElem?_append_left hlt] at hy; exact hp j y hy
        · rw [List.getElem?_append_right hge] at hy
          have : j = pre.length := by
            rcases Nat.eq_zero_or_pos (j - pre.length) with h0 | h0
            · omega
            · rw [List.getElem?_eq_none (by simp; omega)] at hy; cases hy
          subst this
          simp at hy
          subst hy
          exact hz
      simpa using this
    · rfl

theorem arrGo_prefix (D : List Int) : ∀ (i : Nat) (suf : List Placed) (cur : List Int), ∃ t, arrGo D i suf cur = cur ++ t
  | _, [], cur => ⟨[], by simp [arrGo]⟩
  | i, p :: r, cur => by
    obtain ⟨t, ht⟩ := arrGo_prefix D (i + 1) r (cur ++ [lat cur p.sources 0 + D.getD i 0])
    exact ⟨_ :: t, by rw [arrGo, ht, List.append_assoc]; rfl⟩
theorem arrGo_get (D : List Int) : ∀ (suf : List Placed) (i k : Nat) (p : Placed) (cur : List Int), suf[k]? = some p → (arrGo D i suf cur)[cur.length + k]? = some (lat ((arrGo D i suf cur).take (cur.length + k)) p.sources 0 + D.getD (i + k) 0)
  | [], _, _, _, _, h => by simp at h
  | q :: r, i, 0, p, cur, h => by
    simp at h
    subst h
    rw [arrGo]
    obtain ⟨t, ht⟩ := arrGo_prefix D (i + 1) r (cur ++ [lat cur q.sources 0 + D.getD i 0])
    rw [ht]
    simp
  | q :: r, i, k + 1, p, cur, h => by
    rw [arrGo]
    have := arrGo_get D r (i + 1) k p (cur ++ [lat cur q.sources 0 + D.getD i 0]) (by simpa using h)
    rw [show (cur ++ [lat cur q.sources 0 + D.getD i 0]).length + k = cur.length + (k + 1) by simp; omega, show i + 1 + k = i + (k + 1) by omega] at this
    exact this
theorem lat_congr (a b : List Int) : ∀ (src : List Int) (x : Int), (∀ s ∈ src, 2 ≤ s → a.getD (s - 2).toNat 0 = b.getD (s - 2).toNat 0) → lat a src x = lat b src x
  | [], _, _ => rfl
  | s :: r, x, h => by
    simp only [lat]
    by_cases h2 : 2 ≤ s
    · rw [if_pos h2, if_pos h2, h s (by simp) h2]
      exact lat_congr a b r _ fun t ht => h t (by simp [ht])
    · rw [if_neg h2, if_neg h2]
      exact lat_congr a b r _ fun t ht => h t (by simp [ht])

/-- What the reference says of given arrivals. -/
def arrChk (want arr : List Int) : Int × Int := if arr.length = want.length then eachE (fun i x => unlE (decide (x = want.getD i 0)) 19) 0 arr else (0, 10)

theorem arr_agree (l : List Cell) (n : Net) (m : Model) (hv : Valid l n m) (ats arr : List Int) (ha : (ats.length : Int) = n.leaves) (hb : ∀ v ∈ ats, 0 ≤ v ∧ v ≤ 1000000) (hr : (arr.length : Int) = n.leaves + n.placed.length) :
    eachE (arrErr l n m ats arr) 0 arr = eachE (fun i x => unlE (decide (x = (arrN l n m ats).getD i 0)) 19) 0 arr := by
  have hlv0 := hv.lv0
  have hlv1 := hv.lv1
  have hnp := hv.np
  have key := eachE_agree (arrErr l n m ats arr) (fun i x => unlE (decide (x = (arrN l n m ats).getD i 0)) 19) arr ?_ arr [] rfl (fun j y h => by simp at h)
  · exact key
  · intro i x hx hpre
    have hil : i < arr.length := by rw [List.getElem?_eq_some_iff] at hx; exact hx.1
    have hpre2 : ∀ (j : Nat), j < i → arr.getD j 0 = (arrN l n m ats).getD j 0 := by
      intro j hj
      have hjl : j < arr.length := by omega
      have := hpre j arr[j] hj (List.getElem?_eq_getElem hjl)
      rw [unlE_z (by decide)] at this
      have h2 : arr.getD j 0 = arr[j] := by simp [List.getD, hjl]
      rw [h2]; simpa using this
    unfold arrErr
    by_cases hc : n.leaves ≤ i
    · rw [if_pos hc]
      have hlt : i - n.leaves.toNat < n.placed.length := by omega
      have hgp : n.placed.getD (i - n.leaves.toNat) ⟨0, []⟩ = n.placed[i - n.leaves.toNat] := by simp [List.getD, hlt]
      have hsr := hv.src (i - n.leaves.toNat) _ (List.getElem?_eq_getElem hlt)
      have hg := arrGo_get (delaysN l n m) n.placed 0 (i - n.leaves.toNat) _ ats (List.getElem?_eq_getElem hlt)
      have hi : ats.length + (i - n.leaves.toNat) = i := by omega
      rw [hi, Nat.zero_add] at hg
      have hw : (arrN l n m ats).getD i 0 = lat ((arrN l n m ats).take i) n.placed[i - n.leaves.toNat].sources 0 + (delaysN l n m).getD (i - n.leaves.toNat) 0 := by
        rw [List.getD, arrN, hg]; rfl
      have hAl := arrN_len (l := l) (n := n) (m := m) (ats := ats)
      have hlat : lat arr n.placed[i - n.leaves.toNat].sources 0 = lat ((arrN l n m ats).take i) n.placed[i - n.leaves.toNat].sources 0 := by
        refine lat_congr _ _ _ _ fun s hs h2 => ?_
        have := hsr s hs
        have hsi : (s - 2).toNat < i := by omega
        rw [hpre2 _ hsi, List.getD, List.getD, List.getElem?_take_of_lt hsi]
      have hin := arrN_in hv hb
      have hin2 := lat_in ((arrN l n m ats).take i) 3000000 (by omega) (fun v hv => hin v (List.mem_of_mem_take hv)) n.placed[i - n.leaves.toNat].sources 0 (by omega) (by omega)
      have hd := hv.D_ge (i - n.leaves.toNat)
      rw [hgp, hlat, w64 ⟨by omega, by omega⟩, ← hw]
    · rw [if_neg hc]
      have hat : i < ats.length := by omega
      obtain ⟨t, ht⟩ := arrGo_prefix (delaysN l n m) 0 n.placed ats
      have : (arrN l n m ats).getD i 0 = ats.getD i 0 := by
        rw [arrN, ht, List.getD, List.getD, List.getElem?_append_left hat]
      rw [this]

end Go.Proofs.Ytafomlbikcphgaa.V

/- Accepted arrivals, by timing and by the reference. -/
namespace Go.Proofs.Ytafomlbikcphgaa.V
open Go (IntKind BinOp UnOp)
variable {π ρ κ : Id}

theorem e_CheckArrivals_err (l : List Cell) (n : Net) (m : Model) (h : netOk l n) (ats arr : List Int) (hd : ats.length ≤ top63) (he : errA l n m ats ≠ 0) :
    EE π n_timing_CheckArrivals [.p (encLib l), .p (encNet n), .p (encModel m), .p (encInts ats), .p (encInts arr)] [] = some (.p (.tup [I 0, I (errA l n m ats)]), []) := by
  unfold errA at *
  by_cases ha : allE l n m = 0
  · have ho := fun π => e_openTimes_ok (π := π) l n m h ha ats hd
    rw [ha] at he ⊢
    have ht : timesE ats n.leaves ≠ 0 := fun hz => he (by simp [firstE, hz])
    have e : firstE [0, timesE ats n.leaves] = timesE ats n.leaves := by simp [firstE, ht]
    rw [e]
    generalize delaysN l n m = D at *
    simp [e_timing_CheckArrivals, run_eq, c_timing_CheckArrivals, ho, ht]
  · have e : firstE [allE l n m, timesE ats n.leaves] = allE l n m := by simp [firstE, ha]
    rw [e]
    simp [e_timing_CheckArrivals, run_eq, c_timing_CheckArrivals, e_openTimes_err l n m h ha ats hd, ha]

theorem e_CheckArrivals_ok (l : List Cell) (n : Net) (m : Model) (h : netOk l n) (ats arr : List Int) (hd : ats.length ≤ top63) (hr : arr.length ≤ top63) (he : errA l n m ats = 0) :
    EE π n_timing_CheckArrivals [.p (encLib l), .p (encNet n), .p (encModel m), .p (encInts ats), .p (encInts arr)] [] = some (.p (.tup [I (arrChk (arrN l n m ats) arr).1, I (arrChk (arrN l n m ats) arr).2]), []) := by
  unfold errA at he
  rw [firstE_cons, firstE_cons] at he
  obtain ⟨ha, ht, _⟩ := he
  have hv := valid_of ha
  obtain ⟨ht1, ht2⟩ := times_ok ht
  have hlv0 := hv.lv0
  have hlv1 := hv.lv1
  have hnp := hv.np
  have ho := fun π => e_openTimes_ok (π := π) l n m h ha ats hd
  rw [ht] at ho
  have hw : IntKind.i64.wrap (n.leaves + n.placed.length) = n.leaves + n.placed.length := w64 ⟨by omega, by omega⟩
  have hpts := fun π => e_points (π := π) n l
  rw [hw] at hpts
  have hAl := arrN_len (l := l) (n := n) (m := m) (ats := ats)
  unfold arrChk
  by_cases hl : (arr.length : Int) = n.leaves + n.placed.length
  · rw [if_pos (by omega), ← arr_agree l n m hv ats arr ht1 ht2 hl]
    have hea := fun π => e_eachT (π := π) arr hr (f := n_timing_CheckArrivals_1) (caps := [.ptr (cellsP l n m (delaysN l n m)), .ptr [encInts ats], .ptr [encInts arr]]) (err := arrErr l n m ats arr) (fun i x hx => by
      simpa using e_CheckArr1 (π := 19 :: π) l n m hv ats arr ht1 hl i x hx)
    generalize eachE (arrErr l n m ats arr) 0 arr = Z at *
    generalize delaysN l n m = D at *
    simp [e_timing_CheckArrivals, run_eq, c_timing_CheckArrivals, ho, hpts, hl, hea]
  · rw [if_neg (by omega)]
    generalize delaysN l n m = D at *
    simp [e_timing_CheckArrivals, run_eq, c_timing_CheckArrivals, ho, hpts, hl]

theorem chk_loop (want arr : List Int) (hl : arr.length = want.length) (hw : want.length ≤ top63) : ∀ (suf pre : List Int) (x : Env × Sto), arr = pre ++ suf →
    mask [4, 12, 13] [] x = some ([(4, .p (encInts arr)), (12, .ap (3 :: 16 :: 18 :: π)), (13, .p (I pre.length))], [rowI (3 :: 16 :: 18 :: π) (some false) want]) →
    kpO [] [10, 11] [] (bkO 0 (iter (round EE iter π [] [4, 12, 13] c_ratchetref28_CheckArrivals_L0) x)) = (if (eachE (fun i x => unlE (decide (x = want.getD i 0)) 19) pre.length suf).2 = 0 then some (.nm, [], []) else some (.rt, [(10, .p (I (eachE (fun i x => unlE (decide (x = want.getD i 0)) 19) pre.length suf).1)), (11, .p (I (eachE (fun i x => unlE (decide (x = want.getD i 0)) 19) pre.length suf).2))], []))
  | [], pre, x, h, hm => by
    rw [loop_eq hm]
    have : arr = pre := by simpa using h
    subst this
    simp [u_ratchetref28_CheckArrivals_L0, b_ratchetref28_CheckArrivals_L0, hl, eachE]
  | y :: suf, pre, x, h, hm => by
    rw [loop_eq hm]
    have hlen : pre.length < want.length := by rw [← hl, h]; simp
    have hla : pre.length < arr.length := by omega
    have hy : arr[pre.length]? = some y := by rw [h]; simp
    have hy2 : arr[pre.length] = y := by simpa [List.getElem?_eq_getElem hla] using hy
    have hg : want.getD pre.length 0 = want[pre.length] := by simp [List.getD, hlen]
    have hwl := w_succ hlen hw
    by_cases hyw : y = want[pre.length]
    · have hz : unlE (decide (y = want.getD pre.length 0)) 19 = 0 := by rw [hg, unlE_z (by decide)]; simpa using hyw
      have hnext := chk_loop want arr hl hw suf (pre ++ [y])
      rw [show (pre ++ [y]).length = pre.length + 1 by simp] at hnext
      simp only [eachE, hz, if_true]
      simp [u_ratchetref28_CheckArrivals_L0, b_ratchetref28_CheckArrivals_L0, hlen, hla, hy2, hyw]
      exact hnext _ (by simp [h]) (by simp [hwl])
    · have hz : unlE (decide (y = want.getD pre.length 0)) 19 = 19 := by rw [hg]; simp [unlE, hyw]
      simp only [eachE, hz, if_neg (show ¬ (19 : Int) = 0 by decide)]
      simp [u_ratchetref28_CheckArrivals_L0, b_ratchetref28_CheckArrivals_L0, hlen, hla, hy2, hyw]

theorem e_CheckArrivalsR (l : List Cell) (n : Net) (m : Model) (hv : Valid l n m) (ats arr : List Int) (ha : (ats.length : Int) = n.leaves) (hb : ∀ v ∈ ats, 0 ≤ v ∧ v ≤ 1000000) :
    EE π n_ratchetref28_CheckArrivals [.p (encLib l), .p (encNet n), .p (encModel m), .p (encInts ats), .p (encInts arr)] [] = some (.p (.tup [I (arrChk (arrN l n m ats) arr).1, I (arrChk (arrN l n m ats) arr).2]), []) := by
  have hlv1 := hv.lv1
  have hnp := hv.np
  have har := fun π => e_ArrivalsR (π := π) l n m hv ats ha hb
  have hAl := arrN_len (l := l) (n := n) (m := m) (ats := ats)
  have hlp := fun hl => chk_loop (π := π) (arrN l n m ats) arr hl (by simp only [top63]; omega) arr []
  unfold arrChk
  generalize arrN l n m ats = W at *
  by_cases hl : arr.length = W.length
  · rw [if_pos hl]
    have hlp := hlp hl
    have hl' : (arr.length : Int) = W.length := by omega
    have h0 := eachE_0 (fun i x => unlE (decide (x = W.getD i 0)) 19) 0 arr
    generalize hZ : eachE (fun i x => unlE (decide (x = W.getD i 0)) 19) 0 arr = Z at *
    simp [e_ratchetref28_CheckArrivals, run_eq, c_ratchetref28_CheckArrivals, har, hl']
    rw [hlp _ rfl (by simp)]
    by_cases hz : Z.2 = 0
    · simp [hz, h0 hz]
    · simp [hz]
  · rw [if_neg hl]
    have hl' : ¬ (arr.length : Int) = W.length := by omega
    simp [e_ratchetref28_CheckArrivals, run_eq, c_ratchetref28_CheckArrivals, har, hl']

end Go.Proofs.Ytafomlbikcphgaa.V

/- The law TimingArrives, in the evaluator. -/
namespace Go.Proofs.Ytafomlbikcphgaa.V
open Go (IntKind BinOp UnOp)
variable {π ρ κ : Id}

theorem arrives_big (l : List Cell) (n : Net) (m : Model) (ats arr : List Int) (haw : Awake [19]) (hbig : ¬ (fewB l n = true ∧ ats.length ≤ 42 ∧ arr.length ≤ 110)) :
    EE [] n_ratchetlaw28_TimingArrives [.p (.agg (circ l n m)), .p (encInts ats), .p (encInts arr)] [] = some (.p (.bool true), []) := by
  have hf := fun π => e_Few (π := π) l n m
  by_cases h1 : fewB l n = true
  · rw [h1] at hf
    by_cases h2 : ats.length ≤ 42
    · have h2' : ¬ (42 : Int) < ats.length := by omega
      have h3' : (110 : Int) < arr.length := by
        have : ¬ arr.length ≤ 110 := fun h => hbig ⟨h1, h2, h⟩
        omega
      simp [e_ratchetlaw28_TimingArrives, run_eq, c_ratchetlaw28_TimingArrives, haw, hf, h2', h3']
    · have h2' : (42 : Int) < ats.length := by omega
      simp [e_ratchetlaw28_TimingArrives, run_eq, c_ratchetlaw28_TimingArrives, haw, hf, h2']
  · have h1 : fewB l n = false := by simpa using h1
    rw [h1] at hf
    simp [e_ratchetlaw28_TimingArrives, run_eq, c_ratchetlaw28_TimingArrives, haw, hf]

theorem arrives_fit (l : List Cell) (n : Net) (m : Model) (ats arr : List Int) (hok : netOk l n) (haw : Awake [19]) (hfew : fewB l n = true) (h42 : ats.length ≤ 42) (h110 : arr.length ≤ 110) :
    EE [] n_ratchetlaw28_TimingArrives [.p (.agg (circ l n m)), .p (encInts ats), .p (encInts arr)] [] = some (.p (.bool true), []) := by
  have hf := fun π => e_Few (π := π) l n m
  rw [hfew] at hf
  have h42' : ¬ (42 : Int) < ats.length := by omega
  have h110' : ¬ (110 : Int) < arr.length := by omega
  have hc := fun π => e_copied (π := π) l n m hfew
  have hca := fun π => e_CopyInts (π := π) (ints ats) (by simp only [room, List.length_map]; omega)
  have hcd := fun π => e_CopyInts (π := π) (ints arr) (by simp only [room, List.length_map]; omega)
  have hm1 := fun π => e_CheckModel (π := π) m
  have hm2 := fun π => e_ModelErr (π := π) m
  have ea := fun π => e_AllErr (π := π) l n m hok
  have eta := fun π => e_TimesErr (π := π) ats (by simp only [top63]; omega) n.leaves
  by_cases he : allE l n m = 0
  · have ed := fun π => e_DelaysOf_ok (π := π) l n m hok he
    have hv := valid_of he
    have hnp := hv.np
    have hlv0 := hv.lv0
    have hlv1 := hv.lv1
    have edr := fun π => e_Delays (π := π) l n m hv
    have hDl : (delaysN l n m).length = n.placed.length := by simp [delaysN]
    have ei := fun π => e_Ints (π := π) (delaysN l n m) (delaysN l n m) (by simp only [top63]; omega)
    rw [he] at ea
    by_cases ht : timesE ats n.leaves = 0
    · have hA : errA l n m ats = 0 := by simp [errA, firstE, he, ht]
      obtain ⟨ha1, ha2⟩ := times_ok ht
      have er := fun π => e_ArrivalsOf_ok (π := π) l n m hok ats (by simp only [top63]; omega) hA
      have ec := fun π => e_CheckArrivals_ok (π := π) l n m hok ats arr (by simp only [top63]; omega) (by simp only [top63]; omega) hA
      have err := fun π => e_ArrivalsR (π := π) l n m hv ats ha1 ha2
      have ecr := fun π => e_CheckArrivalsR (π := π) l n m hv ats arr ha1 ha2
      have hAl := arrN_len (l := l) (n := n) (m := m) (ats := ats)
      have ei2 := fun π => e_Ints (π := π) (arrN l n m ats) (arrN l n m ats) (by simp only [top63]; omega)
      rw [ht] at eta
      generalize arrChk (arrN l n m ats) arr = Z at *
      generalize arrN l n m ats = A at *
      generalize delaysN l n m = D at *
      simp [e_ratchetlaw28_TimingArrives, run_eq, c_ratchetlaw28_TimingArrives, haw, hf, h42', h110', hc, hca, hcd, hm1, hm2, ea, eta, ed, edr, ei, er, ec, err, ecr, ei2, freeze, evRO, w64z]
    · have hA : errA l n m ats = timesE ats n.leaves := by unfold errA; rw [he]; simp [firstE, ht]
      have er := fun π => e_ArrivalsOf_err (π := π) l n m hok ats (by simp only [top63]; omega) (by rw [hA]; exact ht)
      have ec := fun π => e_CheckArrivals_err (π := π) l n m hok ats arr (by simp only [top63]; omega) (by rw [hA]; exact ht)
      rw [hA] at er ec
      generalize delaysN l n m = D at *
      simp [e_ratchetlaw28_TimingArrives, run_eq, c_ratchetlaw28_TimingArrives, haw, hf, h42', h110', hc, hca, hcd, hm1, hm2, ea, eta, ed, edr, ei, er, ec, ht, freeze, evRO, w64z]
  · have ed := fun π => e_DelaysOf_err (π := π) l n m hok he
    have hA : errA l n m ats = allE l n m := by simp [errA, firstE, he]
    have er := fun π => e_ArrivalsOf_err (π := π) l n m hok ats (by simp only [top63]; omega) (by rw [hA]; exact he)
    have ec := fun π => e_CheckArrivals_err (π := π) l n m hok ats arr (by simp only [top63]; omega) (by rw [hA]; exact he)
    rw [hA] at er ec
    generalize allE l n m = c at *
    simp [e_ratchetlaw28_TimingArrives, run_eq, c_ratchetlaw28_TimingArrives, haw, hf, h42', h110', hc, hca, hcd, hm1, hm2, ea, ed, er, ec, he, freeze, evRO, w64z]

end Go.Proofs.Ytafomlbikcphgaa.V
