/- Registers, by timing. Which registers hold, by timing. Registers, by the reference. The law TimingRegisters, in the evaluator. -/
import Derived.Test.YtafomlbikcphgaaGreatS3

set_option linter.unusedSimpArgs false
set_option linter.unusedVariables false

/- Registers, by timing. -/
namespace Go.Proofs.YtafomlbikcphgaaGreat.V
open Go (IntKind BinOp UnOp)
variable {π ρ κ : Id}

/-- The given times with the registers at 0. -/
def fromN (r : Nat) (ats : List Int) : List Int := List.replicate r 0 ++ ats.drop r
theorem fromN_len {r : Nat} {ats : List Int} (h : r ≤ ats.length) : (fromN r ats).length = ats.length := by simp [fromN]; omega
theorem fromN_in {r : Nat} {ats : List Int} {B : Int} (hB : 0 ≤ B) (h : ∀ v ∈ ats, 0 ≤ v ∧ v ≤ B) : ∀ v ∈ fromN r ats, 0 ≤ v ∧ v ≤ B := by
  intro v hv
  rw [fromN, List.mem_append] at hv
  rcases hv with hv | hv
  · rw [List.mem_replicate] at hv; rw [hv.2]; exact ⟨by omega, hB⟩
  · exact h v (List.mem_of_mem_drop hv)
theorem fromN_0 (ats : List Int) : fromN 0 ats = ats := by simp [fromN]
theorem fromN_clr (r : Nat) (ats : List Int) : setCells (ints ats) 0 (List.replicate r (elemPV false [I 0])) = ints (fromN r ats) := by
  simp [setCells, fromN, elemPV, List.map_drop]
theorem fromN_set {k : Nat} {ats : List Int} (h : k < ats.length) : (fromN k ats).set k 0 = fromN (k + 1) ats := by
  unfold fromN
  rw [List.set_append_right _ _ (by simp), List.length_replicate, Nat.sub_self, List.drop_eq_getElem_cons h, List.set_cons_zero, List.replicate_succ', List.append_assoc]
  rfl

/-- The error of registers. -/
def regE (n : Net) (r : Int) : Int := unlE (within r 0 (min n.leaves n.outs.length)) 2
def errG (l : List Cell) (n : Net) (m : Model) (r : Int) (ats : List Int) : Int := firstE [allE l n m, regE n r, timesE ats n.leaves]

theorem min_if (a b : Int) : (if b < a then b else a) = min a b := by omega

theorem e_openReg_bad (l : List Cell) (n : Net) (m : Model) (h : netOk l n) (r : Int) (ats : List Int) (hd : ats.length ≤ top63) (he : allE l n m ≠ 0) :
    EE π n_timing_openRegisters [.p (encLib l), .p (encNet n), .p (encModel m), .p (I r), .p (encInts ats)] [] = some (.p (.tup [.agg zeroT, .sl 1 (some true) [], I (errG l n m r ats)]), []) := by
  have e : errG l n m r ats = allE l n m := by simp [errG, firstE, he]
  have e3 : firstE [allE l n m, regE n r, timesE ats n.leaves] = allE l n m := e
  rw [e]
  have hr : unlE (within r 0 (min n.leaves n.outs.length)) 2 = regE n r := rfl
  simp [e_timing_openRegisters, run_eq, c_timing_openRegisters, e_openModel_err l n m h he, e_timesErr ats hd, e_withinT, e_unlessT, e_first3T, min_if, hr, e3, he, freeze]

theorem e_openReg_err (l : List Cell) (n : Net) (m : Model) (h : netOk l n) (r : Int) (ats : List Int) (hd : ats.length ≤ top63) (ha : allE l n m = 0) (he : errG l n m r ats ≠ 0) :
    EE π n_timing_openRegisters [.p (encLib l), .p (encNet n), .p (encModel m), .p (I r), .p (encInts ats)] [] = some (.tup [.agg (aggT l n m (1000018 :: 20 :: π)), .p (.sl 1 (some true) []), .p (I (errG l n m r ats))], [rowI (1000018 :: 20 :: π) (flagE n.placed) (delaysN l n m)]) := by
  have e3 : firstE [0, regE n r, timesE ats n.leaves] = errG l n m r ats := by rw [errG, ha]
  have hr : unlE (within r 0 (min n.leaves n.outs.length)) 2 = regE n r := rfl
  have ho := fun π => e_openModel_ok (π := π) l n m h ha
  generalize delaysN l n m = D at *
  simp [e_timing_openRegisters, run_eq, c_timing_openRegisters, ho, e_timesErr ats hd, e_withinT, e_unlessT, e_first3T, min_if, hr, e3, he, freeze]

theorem reg_ok {l : List Cell} {n : Net} {m : Model} {r : Int} {ats : List Int} (h : errG l n m r ats = 0) : allE l n m = 0 ∧ (0 ≤ r ∧ r ≤ n.leaves ∧ r ≤ n.outs.length) ∧ timesE ats n.leaves = 0 := by
  unfold errG at h
  rw [firstE_cons, firstE_cons, firstE_cons] at h
  obtain ⟨h1, h2, h3, _⟩ := h
  unfold regE at h2
  rw [unlE_z (by decide), within_iff] at h2
  exact ⟨h1, ⟨h2.1, by omega, by omega⟩, h3⟩

theorem e_openReg_ok (l : List Cell) (n : Net) (m : Model) (h : netOk l n) (r : Nat) (ats : List Int) (hd : ats.length ≤ top63) (he : errG l n m r ats = 0) :
    EE π n_timing_openRegisters [.p (encLib l), .p (encNet n), .p (encModel m), .p (I r), .p (encInts ats)] [] = some (.tup [.agg (aggT l n m (1000018 :: 20 :: π)), .ap (0 :: 44 :: π), .p (I 0)], [rowI (0 :: 44 :: π) (flE (ints ats)) (fromN r ats), rowI (1000018 :: 20 :: π) (flagE n.placed) (delaysN l n m)]) := by
  obtain ⟨ha, hr3, ht⟩ := reg_ok he
  have hv := valid_of ha
  have hlv1 := hv.lv1
  obtain ⟨ht1, _⟩ := times_ok ht
  have e3 : firstE [0, regE n r, timesE ats n.leaves] = 0 := by have := he; unfold errG at this; rw [ha] at this; exact this
  have hr : unlE (within r 0 (min n.leaves n.outs.length)) 2 = regE n r := rfl
  have ho := fun π => e_openModel_ok (π := π) l n m h ha
  have hroom : ats.length ≤ room := by simp only [room]; omega
  have hrl : r ≤ ats.length := by omega
  generalize delaysN l n m = D at *
  by_cases hz : r = 0
  · subst hz
    rw [fromN_0]
    simp at hr e3
    simp [e_timing_openRegisters, run_eq, c_timing_openRegisters, ho, e_timesErr ats hd, e_withinT, e_unlessT, e_first3T, min_if, hr, e3, freeze, o_slices_Clone_int_int, cloneO, hroom]
  · simp [e_timing_openRegisters, run_eq, c_timing_openRegisters, ho, e_timesErr ats hd, e_withinT, e_unlessT, e_first3T, min_if, hr, e3, freeze, o_slices_Clone_int_int, cloneO, hroom, hrl, hz, setCells, elemPV]
    simp [fromN, List.map_drop]

/-- The minimum period. -/
def perN (l : List Cell) (n : Net) (m : Model) (r : Nat) (ats : List Int) : Int := lat (arrN l n m (fromN r ats)) (n.outs.take r) 0 + m.setup
def errP (l : List Cell) (n : Net) (m : Model) (r : Int) (ats : List Int) : Int := firstE [errG l n m r ats, unlE (decide (r ≠ 0)) 12]

theorem e_PeriodOf_err (l : List Cell) (n : Net) (m : Model) (h : netOk l n) (r : Int) (ats : List Int) (hd : ats.length ≤ top63) (he : errP l n m r ats ≠ 0) :
    EE π n_timing_PeriodOf [.p (encLib l), .p (encNet n), .p (encModel m), .p (I r), .p (encInts ats)] [] = some (.p (.tup [I 0, I (errP l n m r ats)]), []) := by
  unfold errP at *
  by_cases ha : allE l n m = 0
  · by_cases hg : errG l n m r ats = 0
    · obtain ⟨_, hr3, _⟩ := reg_ok hg
      obtain ⟨k, rfl⟩ := Int.eq_ofNat_of_zero_le hr3.1
      have ho := fun π => e_openReg_ok (π := π) l n m h k ats hd hg
      rw [hg] at he ⊢
      have hk : k = 0 := by
        by_cases hk : k = 0
        · exact hk
        · exact absurd (by simp [firstE, unlE, hk]) he
      subst hk
      have c0 : ((0 : Nat) : Int) = 0 := rfl
      simp only [c0] at ho ⊢
      generalize delaysN l n m = D at *
      simp [e_timing_PeriodOf, run_eq, c_timing_PeriodOf, ho, e_unlessT, e_first2T, firstE, unlE, freeze]
    · have ho := fun π => e_openReg_err (π := π) l n m h r ats hd ha hg
      generalize delaysN l n m = D at *
      have e : firstE [errG l n m r ats, unlE (decide (r ≠ 0)) 12] = errG l n m r ats := by simp [firstE, hg]
      rw [e]
      have e2 : firstE [errG l n m r ats, unlE (!decide (r = 0)) 12] = errG l n m r ats := by simp [firstE, hg]
      simp [e_timing_PeriodOf, run_eq, c_timing_PeriodOf, ho, e_unlessT, e_first2T, e2, hg, freeze]
  · have hg : errG l n m r ats ≠ 0 := by simp [errG, firstE, ha]
    have e : firstE [errG l n m r ats, unlE (decide (r ≠ 0)) 12] = errG l n m r ats := by simp [firstE, hg]
    rw [e]
    have e2 : firstE [errG l n m r ats, unlE (!decide (r = 0)) 12] = errG l n m r ats := by simp [firstE, hg]
    have ho := fun π => e_openReg_bad (π := π) l n m h r ats hd ha
    simp [e_timing_PeriodOf, run_eq, c_timing_PeriodOf, ho, e_unlessT, e_first2T, e2, hg, freeze]

theorem lat_take (A : List Int) (src : List Int) (r : Nat) : (ints src).take r = ints (src.take r) := by simp [List.map_take]

theorem e_PeriodOf_ok (l : List Cell) (n : Net) (m : Model) (h : netOk l n) (r : Nat) (ats : List Int) (hd : ats.length ≤ top63) (he : errG l n m r ats = 0) (hz : r ≠ 0) :
    EE π n_timing_PeriodOf [.p (encLib l), .p (encNet n), .p (encModel m), .p (I r), .p (encInts ats)] [] = some (.p (.tup [I (perN l n m r ats), I 0]), []) := by
  have ho := fun π => e_openReg_ok (π := π) l n m h r ats hd he
  obtain ⟨ha, hr3, ht⟩ := reg_ok he
  have hv := valid_of ha
  have hmo := modOk_of ha
  have hlv1 := hv.lv1
  have hno := hv.no
  have hnp := hv.np
  obtain ⟨ht1, ht2⟩ := times_ok ht
  have hrl : r ≤ ats.length := by omega
  have hfl := fromN_len hrl
  have hfi := fromN_in (r := r) (by decide) ht2
  have hr := fun π => e_arrivals (π := π) l n m hv (fromN r ats) (by rw [hfl]; exact ht1) hfi
  have hAl := arrN_len (l := l) (n := n) (m := m) (ats := fromN r ats)
  have hAi := arrN_in hv hfi
  have htl : ∀ s ∈ n.outs.take r, s ∈ n.outs := fun s hs => List.mem_of_mem_take hs
  have hgr := fun π => e_greatest (π := π) (n.outs.take r) (arrN l n m (fromN r ats)) (by simp only [top63, List.length_take]; omega) (fun s hs => by have := hv.out s (htl s hs); omega) (by omega)
  have hla := lat_in (arrN l n m (fromN r ats)) 3000000 (by decide) hAi (n.outs.take r) 0 (by decide) (by decide)
  have hu0 := hmo.u0
  have hu1 := hmo.u1
  have hw : IntKind.i64.wrap (lat (arrN l n m (fromN r ats)) (n.outs.take r) 0 + m.setup) = lat (arrN l n m (fromN r ats)) (n.outs.take r) 0 + m.setup := w64 ⟨by omega, by omega⟩
  have hrn : r ≤ n.outs.length := by omega
  unfold perN
  unfold arrN at *
  generalize delaysN l n m = D at *
  generalize arrGo D 0 n.placed (fromN r ats) = A at *
  simp only [encInts, ints, List.map_take] at hgr
  generalize lat A (n.outs.take r) 0 = L at *
  simp [e_timing_PeriodOf, run_eq, c_timing_PeriodOf, ho, hr, e_unlessT, e_first2T, firstE, unlE, hz, hrn, hgr, hw, freeze]

end Go.Proofs.YtafomlbikcphgaaGreat.V

/- Which registers hold, by timing. -/
namespace Go.Proofs.YtafomlbikcphgaaGreat.V
open Go (IntKind BinOp UnOp)
variable {π ρ κ : Id}

abbrev encB (b : Bool) : PV := .bool b
abbrev rowB (i : Id) (nl : Option Bool) (L : List Bool) : Id × Blk := (i, .row false t_bool 1 nl (L.map encB))
@[simp] theorem fgL_bools (l : List Bool) : PV.fg.PV.fgL (l.map encB) = l.map encB := fgL_map _ _ (fun _ => rfl) l

/-- Whether a register whose source has this number holds. -/
def holdB (m : Model) (lo : List Int) (y : Int) : Bool := decide (m.hold ≤ ear lo [y] false 0)

theorem hold_loop (m : Model) (lo : List Int) (S : List Int) (nl fl : Option Bool) (hS : S.length ≤ 1000) (hcl : lo.length ≤ 1000) (hin : ∀ s ∈ S, 0 ≤ s ∧ s < lo.length + 2) : ∀ (suf pre : List Int) (x : Env × Sto), S = pre ++ suf →
    mask [7, 15, 17, 42, 43, 44] [] x = some ([(7, .ref (7 :: π) 0), (15, .ap (0 :: 9 :: 36 :: π)), (17, .ap (1017 :: π)), (42, .p (.sl 1 fl (ints S))), (43, .p (I S.length)), (44, .p (I pre.length))], [rowB (1017 :: π) (flagE pre) (pre.map (holdB m lo)), rowI (0 :: 9 :: 36 :: π) nl lo, (7 :: π, boxM m)]) →
    kpO [17] [10, 11] [] (bkO 0 (iter (round EE iter π [] [7, 15, 17, 42, 43, 44] c_timing_HoldsIn_L0) x)) = some (.nm, [(17, .ap (1017 :: π))], [rowB (1017 :: π) (flagE S) (S.map (holdB m lo))])
  | [], pre, x, h, hm => by
    rw [loop_eq hm]
    have : S = pre := by simpa using h
    rw [← this]
    generalize S.map (holdB m lo) = R
    simp [u_timing_HoldsIn_L0, b_timing_HoldsIn_L0]
  | y :: suf, pre, x, h, hm => by
    rw [loop_eq hm]
    have hlen : pre.length < S.length := by rw [h]; simp
    have hy := hin y (by rw [h]; simp)
    have hle : ∀ π : Id, EE π n_timing_least [.p (.sl 1 none [I y]), .p (encInts lo)] [] = some (.p (I (ear lo [y] false 0)), []) := fun π => e_least (π := π) [y] lo (by simp [top63]) (fun s hs => by rw [List.mem_singleton] at hs; rw [hs]; omega) (by omega)
    have hnext := hold_loop m lo S nl fl hS hcl hin suf (pre ++ [y])
    rw [show (pre ++ [y]).length = pre.length + 1 by simp, List.map_append, List.map_cons, List.map_nil] at hnext
    have hroom : (pre.map (holdB m lo)).length + 1 ≤ room := by rw [List.length_map]; simp only [room]; omega
    have hb : holdB m lo y = decide (m.hold ≤ ear lo [y] false 0) := rfl
    rw [hb] at hnext
    generalize pre.map (holdB m lo) = R at *
    generalize ear lo [y] false 0 = u at *
    simp [u_timing_HoldsIn_L0, b_timing_HoldsIn_L0, lt_mid h, get_mid _ h, hle, hroom]
    exact hnext _ (by simp [h]) (by simp [w_succ hlen (show S.length ≤ top63 by simp only [top63]; omega)])

/-- Which registers hold. -/
def holdN (l : List Cell) (n : Net) (m : Model) (r : Nat) (ats : List Int) : List Bool := (n.outs.take r).map (holdB m (endN l n m (fromN r ats)).1)

theorem e_HoldsIn_err (l : List Cell) (n : Net) (m : Model) (h : netOk l n) (r : Int) (ats : List Int) (hd : ats.length ≤ top63) (he : errG l n m r ats ≠ 0) :
    EE π n_timing_HoldsIn [.p (encLib l), .p (encNet n), .p (encModel m), .p (I r), .p (encInts ats)] [] = some (.p (.tup [.sl 1 (some true) [], I (errG l n m r ats)]), []) := by
  by_cases ha : allE l n m = 0
  · have ho := fun π => e_openReg_err (π := π) l n m h r ats hd ha he
    generalize delaysN l n m = D at *
    simp [e_timing_HoldsIn, run_eq, c_timing_HoldsIn, ho, he, freeze]
  · have ho := fun π => e_openReg_bad (π := π) l n m h r ats hd ha
    simp [e_timing_HoldsIn, run_eq, c_timing_HoldsIn, ho, he, freeze]

theorem e_HoldsIn_ok (l : List Cell) (n : Net) (m : Model) (h : netOk l n) (r : Nat) (ats : List Int) (hd : ats.length ≤ top63) (he : errG l n m r ats = 0) :
    EE π n_timing_HoldsIn [.p (encLib l), .p (encNet n), .p (encModel m), .p (I r), .p (encInts ats)] [] = some (.tup [.ap (1017 :: π), .p (I 0)], [rowB (1017 :: π) (flagE (n.outs.take r)) (holdN l n m r ats)]) := by
  have ho := fun π => e_openReg_ok (π := π) l n m h r ats hd he
  obtain ⟨ha, hr3, ht⟩ := reg_ok he
  have hv := valid_of ha
  have hmo := modOk_of ha
  have hlv1 := hv.lv1
  have hno := hv.no
  have hnp := hv.np
  obtain ⟨ht1, ht2⟩ := times_ok ht
  have hrl : r ≤ ats.length := by omega
  have hrn : r ≤ n.outs.length := by omega
  have hfl := fromN_len hrl
  have hfi := fromN_in (r := r) (by decide) ht2
  have hen := fun π => e_ends (π := π) l n m hv hmo.f0 hmo.f1 hmo.s0 hmo.s1 (fromN r ats) (by rw [hfl]; exact ht1) hfi
  have hel := endN_len l n m (fromN r ats)
  have hSl : (n.outs.take r).length = r := by simp; omega
  have hSi : ∀ s ∈ n.outs.take r, 0 ≤ s ∧ s < (endN l n m (fromN r ats)).1.length + 2 := fun s hs => by have := hv.out s (List.mem_of_mem_take hs); omega
  have hlo := hold_loop (π := π) m (endN l n m (fromN r ats)).1 (n.outs.take r) (bif n.placed.isEmpty then flE (ints (fromN r ats)) else some false) none (by omega) (by omega) hSi (n.outs.take r) []
  unfold holdN
  generalize delaysN l n m = D at *
  generalize (endN l n m (fromN r ats)).1 = lo at *
  generalize (endN l n m (fromN r ats)).2 = hi at *
  generalize hF : fromN r ats = F at *
  have htk : (ints n.outs).take r = ints (n.outs.take r) := by simp [List.map_take]
  generalize n.outs.take r = S at *
  simp [e_timing_HoldsIn, run_eq, c_timing_HoldsIn, ho, hen, hrn, htk, freeze, thaw, thaw1]
  rw [hlo _ rfl (by simp [hSl])]
  simp

end Go.Proofs.YtafomlbikcphgaaGreat.V

/- Registers, by the reference. -/
namespace Go.Proofs.YtafomlbikcphgaaGreat.V
open Go (IntKind BinOp UnOp)
variable {π ρ κ : Id}

theorem e_RegistersErr (n : Net) (r : Int) : EE π n_ratchetref28_RegistersErr [.p (encNet n), .p (I r)] [] = some (.p (I (regE n r)), []) := by
  unfold regE
  have e : within r 0 (min n.leaves n.outs.length) = (within r 0 n.leaves && decide (r ≤ n.outs.length)) := by
    rw [Bool.eq_iff_iff, within_iff, Bool.and_eq_true, within_iff, decide_eq_true_eq]
    omega
  rw [e]
  cases h1 : within r 0 n.leaves
  · simp [e_ratchetref28_RegistersErr, run_eq, c_ratchetref28_RegistersErr, e_Within, h1, unlE]
  · by_cases h2 : (n.outs.length : Int) < r
    · have h3 : ¬ r ≤ (n.outs.length : Int) := by omega
      simp [e_ratchetref28_RegistersErr, run_eq, c_ratchetref28_RegistersErr, e_Within, h1, h2, h3, unlE]
    · have h3 : r ≤ (n.outs.length : Int) := by omega
      simp [e_ratchetref28_RegistersErr, run_eq, c_ratchetref28_RegistersErr, e_Within, h1, h2, h3, unlE]

theorem from_loop (r : Nat) (ats : List Int) (hr : r ≤ ats.length) (hl : ats.length ≤ 1000) : ∀ (j k : Nat) (x : Env × Sto), k + j = r →
    mask [0, 5, 6] [] x = some ([(0, .p (I r)), (5, .ap (3 :: 8 :: π)), (6, .p (I k))], [rowI (3 :: 8 :: π) (some false) (fromN k ats)]) →
    kpO [5] [4] [] (bkO 0 (iter (round EE iter π [] [0, 5, 6] c_ratchetref28_From_L0) x)) = some (.nm, [(5, .ap (3 :: 8 :: π))], [rowI (3 :: 8 :: π) (some false) (fromN r ats)])
  | 0, k, x, hk, hm => by
    rw [loop_eq hm]
    have : k = r := by omega
    subst this
    generalize fromN k ats = F
    simp [u_ratchetref28_From_L0, b_ratchetref28_From_L0]
  | j + 1, k, x, hk, hm => by
    rw [loop_eq hm]
    have hlt : k < r := by omega
    have hla : k < ats.length := by omega
    have hFl : k < (fromN k ats).length := by rw [fromN_len (by omega)]; omega
    have hset := ints_set (fromN k ats) k 0
    rw [fromN_set hla] at hset
    have hnext := from_loop r ats hr hl j (k + 1)
    have hw := w_succ hlt (show r ≤ top63 by simp only [top63]; omega)
    generalize fromN k ats = F at *
    generalize fromN (k + 1) ats = F' at *
    simp [u_ratchetref28_From_L0, b_ratchetref28_From_L0, hlt, hFl, PV.setc]
    exact hnext _ (by omega) (by simp [hw, hset])

theorem e_From (r : Nat) (ats : List Int) (hr : r ≤ ats.length) (hl : ats.length ≤ 1000) : EE π n_ratchetref28_From [.p (I r), .p (encInts ats)] [] = some (.ap (3 :: 8 :: π), [rowI (3 :: 8 :: π) (some false) (fromN r ats)]) := by
  have hcp := fun π => e_CopyInts (π := π) (ints ats) (by simp only [room, List.length_map]; omega)
  have hl := from_loop (π := π) r ats hr hl r 0
  rw [fromN_0] at hl
  generalize fromN r ats = F at *
  simp [e_ratchetref28_From, run_eq, c_ratchetref28_From, hcp]
  rw [hl _ (by omega) (by simp)]
  simp

theorem period_loop (n : Net) (m : Model) (A : List Int) (na : Option Bool) (r : Nat) (hr : r ≤ n.outs.length) (hno : n.outs.length ≤ 1000) (hcl : A.length ≤ 1000) (hin : ∀ s ∈ n.outs, 0 ≤ s ∧ s < A.length + 2) : ∀ (suf pre : List Int) (a : Int) (x : Env × Sto), n.outs.take r = pre ++ suf →
    mask [3, 6, 7, 11, 12, 13] [] x = some ([(3, .p (I r)), (6, .ref (6 :: π) 0), (7, .ref (7 :: π) 0), (11, .ap (3 :: 16 :: 21 :: π)), (12, .p (I a)), (13, .p (I pre.length))], [rowI (3 :: 16 :: 21 :: π) na A, (7 :: π, boxM m), (6 :: π, boxN n)]) →
    kpO [7, 12] [10] [] (bkO 0 (iter (round EE iter π [] [3, 6, 7, 11, 12, 13] c_ratchetref28_Period_L0) x)) = some (.nm, [(7, .ref (7 :: π) 0), (12, .p (I (lat A suf a)))], [(7 :: π, boxM m)])
  | [], pre, a, x, h, hm => by
    rw [loop_eq hm]
    have hp : pre.length = r := by have := congrArg List.length h; simp at this; omega
    simp [u_ratchetref28_Period_L0, b_ratchetref28_Period_L0, lat, hp]
  | y :: suf, pre, a, x, h, hm => by
    rw [loop_eq hm]
    have hpl : pre.length < r := by have := congrArg List.length h; simp at this; omega
    have hlo : pre.length < n.outs.length := by omega
    have hyt : (n.outs.take r)[pre.length]? = some y := by rw [h]; simp
    rw [List.getElem?_take, if_pos hpl] at hyt
    have hyg : n.outs[pre.length] = y := by rw [List.getElem?_eq_getElem hlo] at hyt; simpa using hyt
    have hy := hin y (List.mem_of_getElem? hyt)
    have hw : IntKind.i64.wrap (y - 2) = y - 2 := w64 ⟨by omega, by omega⟩
    have hws := w_succ hpl (show r ≤ top63 by simp only [top63]; omega)
    have hnext := period_loop n m A na r hr hno hcl hin suf (pre ++ [y])
    rw [show (pre ++ [y]).length = pre.length + 1 by simp] at hnext
    by_cases h2 : 2 ≤ y
    · have hlt : (y - 2).toNat < A.length := by omega
      have hlt' : y - 2 < (A.length : Int) := by omega
      have hge : -1 < y - 2 := by omega
      have hg : A.getD (y - 2).toNat 0 = A[(y - 2).toNat] := by simp [List.getD, hlt]
      have hpt := fun π => e_point (π := π) y
      rw [hw, if_pos hge] at hpt
      simp only [lat, h2, if_true, hg]
      by_cases hmx : a < A[(y - 2).toNat]
      · simp [u_ratchetref28_Period_L0, b_ratchetref28_Period_L0, hpl, hlo, hyg, hpt, h2, hlt, hlt', hmx]
        exact hnext _ _ (by simp [h]) (by simp [hws])
      · simp [u_ratchetref28_Period_L0, b_ratchetref28_Period_L0, hpl, hlo, hyg, hpt, h2, hlt, hlt', hmx]
        exact hnext _ _ (by simp [h]) (by simp [hws])
    · have hge : ¬ y - 2 > -1 := by omega
      have hpt := fun π => e_point (π := π) y
      rw [hw, if_neg hge] at hpt
      simp only [lat, h2, if_false]
      simp [u_ratchetref28_Period_L0, b_ratchetref28_Period_L0, hpl, hlo, hyg, hpt]
      exact hnext _ _ (by simp [h]) (by simp [hws])

theorem e_Period (l : List Cell) (n : Net) (m : Model) (r : Nat) (ats : List Int) (he : errG l n m r ats = 0) :
    EE π n_ratchetref28_Period [.p (encLib l), .p (encNet n), .p (encModel m), .p (I r), .p (encInts ats)] [] = some (.p (I (perN l n m r ats)), []) := by
  obtain ⟨ha, hr3, ht⟩ := reg_ok he
  have hv := valid_of ha
  have hmo := modOk_of ha
  have hlv1 := hv.lv1
  have hno := hv.no
  have hnp := hv.np
  obtain ⟨ht1, ht2⟩ := times_ok ht
  have hrl : r ≤ ats.length := by omega
  have hrn : r ≤ n.outs.length := by omega
  have hfl := fromN_len hrl
  have hfi := fromN_in (r := r) (by decide) ht2
  have hAl := arrN_len (l := l) (n := n) (m := m) (ats := fromN r ats)
  have hAi := arrN_in hv hfi
  have hf := fun π => e_From (π := π) r ats hrl (by omega)
  have har := fun π => e_ArrivalsR (π := π) l n m hv (fromN r ats) (by rw [hfl]; exact ht1) hfi
  have hlp := period_loop (π := π) n m (arrN l n m (fromN r ats)) (some false) r hrn (by omega) (by omega) (fun s hs => by have := hv.out s hs; omega) (n.outs.take r) [] 0
  have hla := lat_in (arrN l n m (fromN r ats)) 3000000 (by decide) hAi (n.outs.take r) 0 (by decide) (by decide)
  have hu0 := hmo.u0
  have hu1 := hmo.u1
  have hw : IntKind.i64.wrap (lat (arrN l n m (fromN r ats)) (n.outs.take r) 0 + m.setup) = lat (arrN l n m (fromN r ats)) (n.outs.take r) 0 + m.setup := w64 ⟨by omega, by omega⟩
  unfold perN
  generalize arrN l n m (fromN r ats) = A at *
  generalize fromN r ats = F at *
  generalize lat A (n.outs.take r) 0 = L at *
  simp [e_ratchetref28_Period, run_eq, c_ratchetref28_Period, hf, har, freeze, evRO]
  rw [hlp _ rfl (by simp)]
  simp [hw]

theorem holds_loop (n : Net) (m : Model) (Z : List (Int × Int)) (nz : Option Bool) (r : Nat) (hr : r ≤ n.outs.length) (hno : n.outs.length ≤ 1000) (hcl : Z.length ≤ 1000) (hin : ∀ s ∈ n.outs, 0 ≤ s ∧ s < Z.length + 2) (S : List Int) (hS : n.outs.take r = S) (RR : List Bool) (hRR : S.map (holdB m (Z.map (·.1))) = RR) : ∀ (suf pre : List Int) (x : Env × Sto), n.outs.take r = pre ++ suf →
    mask [3, 6, 7, 11, 12, 13] [] x = some ([(3, .p (I r)), (6, .ref (6 :: π) 0), (7, .ref (7 :: π) 0), (11, .ap (1009 :: 22 :: π)), (12, .ap (1012 :: π)), (13, .p (I pre.length))], [rowB (1012 :: π) (flagE pre) (pre.map (holdB m (Z.map (·.1)))), rowR (1009 :: 22 :: π) nz Z, (7 :: π, boxM m), (6 :: π, boxN n)]) →
    kpO [12] [10] [] (bkO 0 (iter (round EE iter π [] [3, 6, 7, 11, 12, 13] c_ratchetref28_Holds_L0) x)) = some (.nm, [(12, .ap (1012 :: π))], [rowB (1012 :: π) (flagE S) RR])
  | [], pre, x, h, hm => by
    rw [loop_eq hm]
    have hp : pre.length = r := by have := congrArg List.length h; simp at this; omega
    have : S = pre := by rw [← hS]; simpa using h
    subst this
    rw [hRR]
    simp [u_ratchetref28_Holds_L0, b_ratchetref28_Holds_L0, hp]
  | y :: suf, pre, x, h, hm => by
    rw [loop_eq hm]
    have hpl : pre.length < r := by have := congrArg List.length h; simp at this; omega
    have hlo : pre.length < n.outs.length := by omega
    have hyt : (n.outs.take r)[pre.length]? = some y := by rw [h]; simp
    rw [List.getElem?_take, if_pos hpl] at hyt
    have hyg : n.outs[pre.length] = y := by rw [List.getElem?_eq_getElem hlo] at hyt; simpa using hyt
    have hy := hin y (List.mem_of_getElem? hyt)
    have hw : IntKind.i64.wrap (y - 2) = y - 2 := w64 ⟨by omega, by omega⟩
    have hws := w_succ hpl (show r ≤ top63 by simp only [top63]; omega)
    have hnext := holds_loop n m Z nz r hr hno hcl hin S hS RR hRR suf (pre ++ [y])
    rw [show (pre ++ [y]).length = pre.length + 1 by simp, List.map_append, List.map_cons, List.map_nil] at hnext
    have hroom : (pre.map (holdB m (Z.map (·.1)))).length + 1 ≤ room := by rw [List.length_map]; simp only [room]; omega
    have hb : holdB m (Z.map (·.1)) y = decide (m.hold ≤ if 2 ≤ y then (Z.map (·.1)).getD (y - 2).toNat 0 else 0) := by
      unfold holdB
      by_cases h2 : 2 ≤ y <;> simp [ear, h2]
    rw [hb] at hnext
    generalize pre.map (holdB m (Z.map (·.1))) = R at *
    by_cases h2 : 2 ≤ y
    · have hlt : (y - 2).toNat < Z.length := by omega
      have hlt' : y - 2 < (Z.length : Int) := by omega
      have hge : -1 < y - 2 := by omega
      have hg : (Z.map (·.1)).getD (y - 2).toNat 0 = Z[(y - 2).toNat].1 := by simp [List.getD, hlt]
      have hpt := fun π => e_point (π := π) y
      rw [hw, if_pos hge] at hpt
      rw [if_pos h2, hg] at hnext
      generalize hq : Z[(y - 2).toNat] = q at *
      simp [u_ratchetref28_Holds_L0, b_ratchetref28_Holds_L0, hpl, hlo, hyg, hpt, h2, hlt, hlt', hq, hroom]
      exact hnext _ (by simp [h]) (by simp [hws])
    · have hge : ¬ y - 2 > -1 := by omega
      have hpt := fun π => e_point (π := π) y
      rw [hw, if_neg hge] at hpt
      rw [if_neg h2] at hnext
      simp [u_ratchetref28_Holds_L0, b_ratchetref28_Holds_L0, hpl, hlo, hyg, hpt, hroom]
      exact hnext _ (by simp [h]) (by simp [hws])

theorem e_Holds (l : List Cell) (n : Net) (m : Model) (r : Nat) (ats : List Int) (he : errG l n m r ats = 0) :
    EE π n_ratchetref28_Holds [.p (encLib l), .p (encNet n), .p (encModel m), .p (I r), .p (encInts ats)] [] = some (.ap (1012 :: π), [rowB (1012 :: π) (flagE (n.outs.take r)) (holdN l n m r ats)]) := by
  obtain ⟨ha, hr3, ht⟩ := reg_ok he
  have hv := valid_of ha
  have hmo := modOk_of ha
  have hlv1 := hv.lv1
  have hno := hv.no
  have hnp := hv.np
  obtain ⟨ht1, ht2⟩ := times_ok ht
  have hrl : r ≤ ats.length := by omega
  have hrn : r ≤ n.outs.length := by omega
  have hfl := fromN_len hrl
  have hfi := fromN_in (r := r) (by decide) ht2
  have hZl := rngN_len l n m (fromN r ats)
  have hf := fun π => e_From (π := π) r ats hrl (by omega)
  have hco := fun π => e_Corners (π := π) l n m hv hmo (fromN r ats) (by rw [hfl]; exact ht1) hfi
  have hlp := holds_loop (π := π) n m (rngN l n m (fromN r ats)) (bif n.placed.isEmpty then flagE (fromN r ats) else some false) r hrn (by omega) (by omega) (fun s hs => by have := hv.out s hs; omega) (n.outs.take r) rfl _ rfl (n.outs.take r) []
  have hel := endN_len l n m (fromN r ats)
  have hz : (rngN l n m (fromN r ats)).map (·.1) = (endN l n m (fromN r ats)).1 := by unfold rngN; rw [List.map_fst_zip]; omega
  rw [hz] at hlp
  unfold holdN
  generalize (n.outs.take r).map (holdB m (endN l n m (fromN r ats)).1) = R at *
  generalize rngN l n m (fromN r ats) = Z at *
  generalize fromN r ats = F at *
  simp [e_ratchetref28_Holds, run_eq, c_ratchetref28_Holds, hf, hco, freeze, evRO, thaw, thaw1]
  rw [hlp _ rfl (by simp)]
  simp

end Go.Proofs.YtafomlbikcphgaaGreat.V

/- The law TimingRegisters, in the evaluator. -/
namespace Go.Proofs.YtafomlbikcphgaaGreat.V
open Go (IntKind BinOp UnOp)
variable {π ρ κ : Id}

theorem regs_big (l : List Cell) (n : Net) (m : Model) (r : Int) (ats : List Int) (haw : Awake [17]) (hbig : ¬ (fewB l n = true ∧ ats.length ≤ 42)) :
    EE [] n_ratchetlaw28_TimingRegisters [.p (.agg (circ l n m)), .p (I r), .p (encInts ats)] [] = some (.p (.bool true), []) := by
  have hf := fun π => e_Few (π := π) l n m
  by_cases h1 : fewB l n = true
  · rw [h1] at hf
    have h2' : (42 : Int) < ats.length := by
      have : ¬ ats.length ≤ 42 := fun h => hbig ⟨h1, h⟩
      omega
    simp [e_ratchetlaw28_TimingRegisters, run_eq, c_ratchetlaw28_TimingRegisters, haw, hf, h2']
  · have h1 : fewB l n = false := by simpa using h1
    rw [h1] at hf
    simp [e_ratchetlaw28_TimingRegisters, run_eq, c_ratchetlaw28_TimingRegisters, haw, hf]

abbrev box8 (n : Net) : Blk := .box false [.p (I n.leaves), .p (.sl 2 (flagE n.placed) (n.placed.map encPlacedF)), .p (.sl 1 (some false) (ints n.outs))]

theorem regs_loop (l : List Cell) (n : Net) (m : Model) (ats : List Int) (k : Nat) (p e : Int) (R : List Bool) (f1 f2 : Option Bool) (hR : R.length ≤ 1000) : ∀ (suf pre : List Bool) (x : Env × Sto), R = pre ++ suf →
    mask [1, 2, 7, 8, 9, 10, 11, 12, 15, 16] [] x = some ([(1, .p (I k)), (2, .p (encInts ats)), (7, .p (.sl 5 (some false) (l.map encCell))), (8, .ref [8] 0), (9, .ref [9] 0), (10, .p (I p)), (11, .p (I e)), (12, .ap [1017, 50]), (15, .ap [1012, 92]), (16, .p (I pre.length))], [rowB [1012, 92] f1 R, rowB [1017, 50] f2 R, ([9], boxM m), ([8], box8 n)]) →
    kpO [1, 2, 7, 8, 9, 10, 11] [6] [] (bkO 0 (iter (round EE iter [] [] [1, 2, 7, 8, 9, 10, 11, 12, 15, 16] c_ratchetlaw28_TimingRegisters_L0) x)) =
      some (.nm, [(1, .p (I k)), (2, .p (encInts ats)), (7, .p (.sl 5 (some false) (l.map encCell))), (8, .ref [8] 0), (9, .ref [9] 0), (10, .p (I p)), (11, .p (I e))], [([9], boxM m), ([8], box8 n)])
  | [], pre, x, h, hm => by
    rw [loop_eq hm]
    have : R = pre := by simpa using h
    rw [← this]
    simp [u_ratchetlaw28_TimingRegisters_L0, b_ratchetlaw28_TimingRegisters_L0]
  | y :: suf, pre, x, h, hm => by
    rw [loop_eq hm]
    have hlen : pre.length < R.length := by rw [h]; simp
    have hw := w_succ hlen (show R.length ≤ top63 by simp only [top63]; omega)
    have hy : R[pre.length]? = some y := by rw [h]; simp
    have hy2 : R[pre.length] = y := by simpa [List.getElem?_eq_getElem hlen] using hy
    simp [u_ratchetlaw28_TimingRegisters_L0, b_ratchetlaw28_TimingRegisters_L0, hlen, hy2]
    exact regs_loop l n m ats k p e R f1 f2 hR suf (pre ++ [y]) _ (by simp [h]) (by simp [hw])

theorem regs_fit (l : List Cell) (n : Net) (m : Model) (r : Int) (ats : List Int) (hok : netOk l n) (haw : Awake [17]) (hfew : fewB l n = true) (h42 : ats.length ≤ 42) :
    EE [] n_ratchetlaw28_TimingRegisters [.p (.agg (circ l n m)), .p (I r), .p (encInts ats)] [] = some (.p (.bool true), []) := by
  have hf := fun π => e_Few (π := π) l n m
  rw [hfew] at hf
  have h42' : ¬ (42 : Int) < ats.length := by omega
  have hc := fun π => e_copied (π := π) l n m hfew
  have hca := fun π => e_CopyInts (π := π) (ints ats) (by simp only [room, List.length_map]; omega)
  have ea := fun π => e_AllErr (π := π) l n m hok
  have er := fun π => e_RegistersErr (π := π) n r
  have eta := fun π => e_TimesErr (π := π) ats (by simp only [top63]; omega) n.leaves
  by_cases hg : errG l n m r ats = 0
  · obtain ⟨he, hr3, ht⟩ := reg_ok hg
    have hre : regE n r = 0 := by
      have := hg
      unfold errG at this
      rw [firstE_cons, firstE_cons] at this
      exact this.2.1
    obtain ⟨k, rfl⟩ := Int.eq_ofNat_of_zero_le hr3.1
    rw [he] at ea
    rw [hre] at er
    rw [ht] at eta
    have eh := fun π => e_HoldsIn_ok (π := π) l n m hok k ats (by simp only [top63]; omega) hg
    have eH := fun π => e_Holds (π := π) l n m k ats hg
    have hno := (valid_of he).no
    have hSl : (n.outs.take k).length = k := by simp; omega
    have hhl : (holdN l n m k ats).length = k := by simp [holdN]; omega
    by_cases hz : k = 0
    · have ep := fun π => e_PeriodOf_err (π := π) l n m hok k ats (by simp only [top63]; omega) (by rw [errP, hg]; simp [firstE, unlE, hz])
      have e12 : errP l n m k ats = 12 := by rw [errP, hg]; simp [firstE, unlE, hz]
      rw [e12] at ep
      have hl := regs_loop l n m ats k 0 12 (holdN l n m k ats) (flagE (n.outs.take k)) (flagE (n.outs.take k)) (by omega) (holdN l n m k ats) []
      generalize holdN l n m k ats = R at *
      generalize n.outs.take k = S at *
      simp [e_ratchetlaw28_TimingRegisters, run_eq, c_ratchetlaw28_TimingRegisters, haw, hf, h42', hc, hca, ea, er, eta, ep, eh, eH, freeze, evRO, w64z]
      rw [hl _ rfl (by simp)]
      simp [hz]
    · have ep := fun π => e_PeriodOf_ok (π := π) l n m hok k ats (by simp only [top63]; omega) hg hz
      have eP := fun π => e_Period (π := π) l n m k ats hg
      have hl := regs_loop l n m ats k (perN l n m k ats) 0 (holdN l n m k ats) (flagE (n.outs.take k)) (flagE (n.outs.take k)) (by omega) (holdN l n m k ats) []
      generalize perN l n m k ats = p at *
      generalize holdN l n m k ats = R at *
      generalize n.outs.take k = S at *
      simp [e_ratchetlaw28_TimingRegisters, run_eq, c_ratchetlaw28_TimingRegisters, haw, hf, h42', hc, hca, ea, er, eta, ep, eh, eH, freeze, evRO, w64z]
      rw [hl _ rfl (by simp)]
      simp [hz, eP, freeze]
  · have hP : errP l n m r ats = errG l n m r ats := by simp [errP, firstE, hg]
    have ep := fun π => e_PeriodOf_err (π := π) l n m hok r ats (by simp only [top63]; omega) (by rw [hP]; exact hg)
    rw [hP] at ep
    have eh := fun π => e_HoldsIn_err (π := π) l n m hok r ats (by simp only [top63]; omega) hg
    by_cases he : allE l n m = 0
    · by_cases hre : regE n r = 0
      · have hG : errG l n m r ats = timesE ats n.leaves := by unfold errG; rw [he, hre]; by_cases hz : timesE ats n.leaves = 0 <;> simp [firstE, hz]
        rw [hG] at ep eh hg
        rw [he] at ea
        rw [hre] at er
        generalize timesE ats n.leaves = c at *
        simp [e_ratchetlaw28_TimingRegisters, run_eq, c_ratchetlaw28_TimingRegisters, haw, hf, h42', hc, hca, ea, er, eta, ep, eh, hg, freeze, evRO, w64z]
      · have hG : errG l n m r ats = regE n r := by unfold errG; rw [he]; simp [firstE, hre]
        rw [hG] at ep eh
        rw [he] at ea
        generalize regE n r = c at *
        simp [e_ratchetlaw28_TimingRegisters, run_eq, c_ratchetlaw28_TimingRegisters, haw, hf, h42', hc, hca, ea, er, ep, eh, hre, freeze, evRO, w64z]
    · have hG : errG l n m r ats = allE l n m := by unfold errG; simp [firstE, he]
      rw [hG] at ep eh
      generalize allE l n m = c at *
      simp [e_ratchetlaw28_TimingRegisters, run_eq, c_ratchetlaw28_TimingRegisters, haw, hf, h42', hc, hca, ea, ep, eh, he, freeze, evRO, w64z]

end Go.Proofs.YtafomlbikcphgaaGreat.V
